-- Laid by wip/mk/mk.py out of the translation. Not trusted: Lean checks it.
import Derived.Test.YtfijcffhkobhbaaDoorPFnDiagnosedx0
import Derived.Test.YtfijcffhkobhbaaDoorPFnDiagnosedx3
import Derived.Test.YtfijcffhkobhbaaDoorPFnDiagnosedx4
import Derived.Test.YtfijcffhkobhbaaDoorPFnDiagnosedx5
namespace Go.Proofs.YtfijcffhkobhbaaDoor.PFnDiagnosed
open Go.RowKit Go.Proofs.YtfijcffhkobhbaaDoorW.PrintWords Go.Proofs.YtfijcffhkobhbaaDoorW.PrintLast Go.Proofs.YtfijcffhkobhbaaDoorW.PrintMore
attribute [local go_sem] max2_int min2_int max_two min_two max_three min_three max_four min_four   -- for this text's walks alone
set_option linter.unusedVariables false
set_option linter.unusedSimpArgs false

/-! ### impl_ExplainBlock: function 16 -/
-- GIVEN
/-- What a station leaves. -/
def impl_ExplainBlock.lf (s k o : Int) : List Int := if k = 1 then [] else if k = 2 then [s + 1, s + 1] else if k = 3 then [-(s + 1)] else if k = 4 then [o + 1] else [s + 1]
theorem impl_ExplainBlock.lf_len (s k o : Int) : (impl_ExplainBlock.lf s k o).length ≤ 2 := by
  unfold impl_ExplainBlock.lf; (repeat' split) <;> simp
theorem impl_ExplainBlock.lf_is (s k o : Int) (hs : 0 ≤ s ∧ s ≤ 12) (ho : -100 ≤ o ∧ o ≤ 100) : impl_left.f s k o = some (impl_ExplainBlock.lf s k o) := by
  have e1 : wrap64 (s + 1) = s + 1 := by unfold wrap64; omega
  have e2 : wrap64 (-(s + 1)) = -(s + 1) := by unfold wrap64; omega
  have e3 : wrap64 (o + 1) = o + 1 := by unfold wrap64; omega
  unfold impl_left.f impl_ExplainBlock.lf
  rw [e1, e2, e3]
  repeat' split
  all_goals rfl
/-- The other station of a place, for kind 4. -/
def impl_ExplainBlock.ot (bl : List Int) (p k : Int) : Int := if k = 4 then rd bl p - 1 else -1
def impl_ExplainBlock.bad (bl : List Int) (s p k : Int) : Prop := k = 4 ∧ (p = bl.length ∨ rd bl p < 1 ∨ rd bl p = s + 1)
instance (bl : List Int) (s p k : Int) : Decidable (impl_ExplainBlock.bad bl s p k) := by unfold impl_ExplainBlock.bad; infer_instance
def impl_ExplainBlock.fits (bl : List Int) (p : Int) (l : List Int) : Prop := p + l.length ≤ bl.length ∧ l = ((bl.take (p + l.length).toNat).drop p.toNat)
instance (bl : List Int) (p : Int) (l : List Int) : Decidable (impl_ExplainBlock.fits bl p l) := by unfold impl_ExplainBlock.fits; infer_instance
/-- The place behind what a station leaves, or -1. -/
def impl_ExplainBlock.nx (bl : List Int) (s p k : Int) : Int :=
  if impl_ExplainBlock.bad bl s p k then -1 else if impl_ExplainBlock.fits bl p (impl_ExplainBlock.lf s k (impl_ExplainBlock.ot bl p k)) then p + (impl_ExplainBlock.lf s k (impl_ExplainBlock.ot bl p k)).length else -1
theorem impl_ExplainBlock.nx_le (bl : List Int) (s p k : Int) (hp : 0 ≤ p) : -1 ≤ impl_ExplainBlock.nx bl s p k ∧ (0 ≤ impl_ExplainBlock.nx bl s p k → p ≤ impl_ExplainBlock.nx bl s p k) ∧ impl_ExplainBlock.nx bl s p k ≤ bl.length := by
  unfold impl_ExplainBlock.nx
  split
  · omega
  · split
    · rename_i h; unfold impl_ExplainBlock.fits at h; omega
    · omega

theorem impl_ExplainBlock.equal_l (l0 l1 : List Int) : ∀ (d k : Nat) (i : Int), l0.length = l1.length → 0 ≤ i → i ≤ l0.length → (l0.length : Int) - i = d → d < k → l0.length ≤ 9223372036854775807 →
    slices_Equal_int64_int64.l0 k l0 l1 (l0.length : Int) i = some (decide (l0.drop i.toNat = l1.drop i.toNat)) := by
  intro d
  induction d with
  | zero =>
    intro k i hl h0 h1 hd hk hm
    obtain ⟨k, rfl⟩ : ∃ m, k = m + 1 := ⟨k - 1, by omega⟩
    simp only [slices_Equal_int64_int64.l0]
    rw [if_neg (by omega), List.drop_eq_nil_of_le (by omega), List.drop_eq_nil_of_le (by omega)]
    simp
  | succ d ih =>
    intro k i hl h0 h1 hd hk hm
    obtain ⟨k, rfl⟩ : ∃ m, k = m + 1 := ⟨k - 1, by omega⟩
    obtain ⟨j, rfl⟩ : ∃ j : Nat, i = j := ⟨i.toNat, by omega⟩
    have hj : j < l0.length := by omega
    have hj1 : j < l1.length := by omega
    have e : wrap64 ((j : Int) + 1) = (j : Int) + 1 := by unfold wrap64; omega
    have r0 : rd l0 (j : Int) = l0[j] := by simp [rd, hj]
    have r1 : rd l1 (j : Int) = l1[j] := by simp [rd, hj1]
    simp only [slices_Equal_int64_int64.l0]
    rw [if_pos (by omega)]
    try rw [if_pos (show (0 : Int) ≤ (j : Int) by omega)]
    try rw [if_pos (show (j : Int) < (l0.length : Int) by omega)]
    try rw [if_pos (show (j : Int) < (l1.length : Int) by omega)]
    rw [r0, r1, e]
    have := ih k ((j : Int) + 1) hl (by omega) (by omega) (by omega) (by omega) hm
    rw [this]
    have d0 : l0.drop j = l0[j] :: l0.drop (j + 1) := (List.drop_eq_getElem_cons hj)
    have d1 : l1.drop j = l1[j] :: l1.drop (j + 1) := (List.drop_eq_getElem_cons hj1)
    have t1 : ((j : Int) + 1).toNat = j + 1 := by omega
    rw [t1, Int.toNat_natCast, d0, d1]
    by_cases he : l0[j] = l1[j]
    · rw [if_pos he]
      congr 1
      rw [decide_eq_decide, List.cons.injEq]
      exact ⟨fun h => ⟨he, h⟩, fun h => h.2⟩
    · rw [if_neg he]
      congr 1
      symm
      rw [decide_eq_false_iff_not, List.cons.injEq]
      exact fun h => he h.1
theorem impl_ExplainBlock.equal_is (l0 l1 : List Int) (hm : l0.length ≤ 9223372036854775807) : slices_Equal_int64_int64.f (l0.length + 1) l0 l1 = some (decide (l0 = l1)) := by
  unfold slices_Equal_int64_int64.f
  by_cases hl : l0.length = l1.length
  · rw [if_pos (by omega), impl_ExplainBlock.equal_l l0 l1 l0.length (l0.length + 1) 0 hl (by omega) (by omega) (by omega) (by omega) hm]
    simp
  · rw [if_neg (by omega)]
    congr 1
    symm
    simp only [decide_eq_false_iff_not]
    intro h
    exact hl (by rw [h])

set_option maxHeartbeats 4000000 in
set_option maxRecDepth 100000 in
theorem impl_ExplainBlock.next_calls (g : Nat) (A1 : Option Addr) (c1 : Nat) (l1 : List Int) (s p k : Int) (w : World) (hcell : w.cell? ⟨g, 1, none⟩ = some (.slice A1 l1.length c1)) (hr1 : Kd.C (Kd.int .i64) w A1 l1.length l1) (hc1 : l1.length ≤ c1) (hl : l1.length ≤ 24)
    (hs : 0 ≤ s ∧ s ≤ 12) (hp : 0 ≤ p ∧ p ≤ l1.length) (hk : 0 ≤ k ∧ k ≤ 4) (hb : ∀ i, -12 ≤ rd l1 i ∧ rd l1 i ≤ 12) :
    Calls Tryd.prog 33 #[.pointer (some ⟨g, 0, none⟩), .int .i64 s, .int .i64 p, .int .i64 k] w fun e w' => e = .returned (.int .i64 (impl_ExplainBlock.nx l1 s p k)) ∧ Below w.heap.size w w' := by
  have HR1 := Aside0.mk hr1
  have HC1 := Aside0.mk hc1
  have HBD := Aside0.mk hb
  obtain ⟨hs0, hs1⟩ := hs
  obtain ⟨hp0, hp1⟩ := hp
  obtain ⟨hk0, hk1⟩ := hk
  clear hr1 hc1 hb
  by_cases hbad : impl_ExplainBlock.bad l1 s p k
  · have HN : impl_ExplainBlock.nx l1 s p k = -1 := by unfold impl_ExplainBlock.nx; rw [if_pos hbad]
    rw [HN]
    clear HN
    obtain ⟨rfl, h⟩ := hbad
    by_cases h1 : p = l1.length
    · subst h1
      clear h
      go_enter Tryd.func33, Tryd.ntmps33
      go_wp2_with (go_at_call 39; refine (impl_length_int64.calls _ _ l1 l1.length _ HR1.out HC1.out rfl).mono ?_; rintro e w' ⟨rfl, ⟨nd, rfl⟩⟩)
      go_ret
      exact ⟨rfl, pw_below_drewN (Below.refl _ _) _⟩
    · have hlt : p < l1.length := by omega
      obtain ⟨ad, e101, hx⟩ := Kd.at_int HR1.out p hp0 hlt
      cases e101
      have hb1 := HBD.out p
      have c1 : (p == (l1.length : Int)) = false := by simpa using h1
      rcases h with h | h | h
      · exact absurd h h1
      · go_enter Tryd.func33, Tryd.ntmps33
        go_wp2_with (go_at_call 39; refine (impl_length_int64.calls _ _ l1 l1.length _ HR1.out HC1.out rfl).mono ?_; rintro e w' ⟨rfl, ⟨nd, rfl⟩⟩)
        go_ret
        exact ⟨rfl, pw_below_drewN (Below.refl _ _) _⟩
      · have cb : (rd l1 p == s + 1) = true := by simpa using h
        clear h
        by_cases h2 : rd l1 p < 1
        · go_enter Tryd.func33, Tryd.ntmps33
          go_wp2_with (go_at_call 39; refine (impl_length_int64.calls _ _ l1 l1.length _ HR1.out HC1.out rfl).mono ?_; rintro e w' ⟨rfl, ⟨nd, rfl⟩⟩)
          go_ret
          exact ⟨rfl, pw_below_drewN (Below.refl _ _) _⟩
        · have d2 : decide (rd l1 p < 1) = false := decide_eq_false h2
          clear h2
          go_enter Tryd.func33, Tryd.ntmps33
          go_wp2_with (go_at_call 39; refine (impl_length_int64.calls _ _ l1 l1.length _ HR1.out HC1.out rfl).mono ?_; rintro e w' ⟨rfl, ⟨nd, rfl⟩⟩)
          go_ret
          exact ⟨rfl, pw_below_drewN (Below.refl _ _) _⟩
  · have HN : Aside0 (impl_ExplainBlock.nx l1 s p k = if impl_ExplainBlock.fits l1 p (impl_ExplainBlock.lf s k (impl_ExplainBlock.ot l1 p k)) then p + (impl_ExplainBlock.lf s k (impl_ExplainBlock.ot l1 p k)).length else -1) := ⟨by unfold impl_ExplainBlock.nx; rw [if_neg hbad]⟩
    have HO : -100 ≤ impl_ExplainBlock.ot l1 p k ∧ impl_ExplainBlock.ot l1 p k ≤ 100 := by
      have := HBD.out p
      unfold impl_ExplainBlock.ot
      split <;> omega
    have HLF := Aside0.mk (impl_ExplainBlock.lf_is s k (impl_ExplainBlock.ot l1 p k) ⟨hs0, hs1⟩ HO)
    clear HO
    have hll := impl_ExplainBlock.lf_len s k (impl_ExplainBlock.ot l1 p k)
    obtain ⟨o, ho⟩ : ∃ o, impl_ExplainBlock.ot l1 p k = o := ⟨_, rfl⟩
    have HOT := Aside0.mk ho
    rw [ho] at HN HLF hll
    obtain ⟨L, hL⟩ : ∃ L, impl_ExplainBlock.lf s k o = L := ⟨_, rfl⟩
    rw [hL] at HN HLF hll
    clear hL ho
    have hL0 : (0 : Int) ≤ (L.length : Int) := by omega
    have hL2 : (L.length : Int) ≤ 2 := by omega
    obtain ⟨i0, hi0, _, hsz, _⟩ := info_parts info2
    by_cases hk4 : k = 4
    · subst hk4
      have e0 : o = rd l1 p - 1 := by rw [← HOT.out]; unfold impl_ExplainBlock.ot; rw [if_pos rfl]
      clear HOT
      subst e0
      have g1 : ¬ p = l1.length := fun h => hbad ⟨rfl, .inl h⟩
      have g2 : ¬ rd l1 p < 1 := fun h => hbad ⟨rfl, .inr (.inl h)⟩
      have g3 : ¬ rd l1 p = s + 1 := fun h => hbad ⟨rfl, .inr (.inr h)⟩
      clear hbad
      obtain ⟨ad, e101, hx⟩ := Kd.at_int HR1.out p hp0 (by omega)
      subst e101
      have hb1 := HBD.out p
      have hplt : p < (l1.length : Int) := by omega
      have k1 : (p == (l1.length : Int)) = false := by simpa using g1
      have k2 : decide (rd l1 p < 1) = false := decide_eq_false g2
      have k3 : (rd l1 p == s + 1) = false := by simpa using g3
      clear g1 g2 g3
      by_cases hgt : (l1.length : Int) < p + L.length
      · have HV : impl_ExplainBlock.nx l1 s p 4 = -1 := by
          rw [HN.out, if_neg (fun h => by have := h.1; omega)]
        rw [HV]
        clear HN HV
        go_enter Tryd.func33, Tryd.ntmps33
        go_wp2_with (first | (go_at_call 53; (with_reducible refine (impl_left.calls s 4 (rd l1 p - 1) L _ HLF.out).mono ?_); rintro e w1 ⟨v, rfl, ho, hb⟩; obtain ⟨A, c, rfl, hle, hC⟩ := Kd.R_reads ho; clear ho; have HC' := Aside0.mk hC; have HL := Aside0.mk hle; have hcell1 := pw_cell_below hb (by first | exact hcell | simpa using hcell); have HR1' := Aside0.mk (Kd.C_below (by repeat (first | exact HR1.out | refine Kd.C_drewN ?_ _)) hb); have HB := Aside0.mk (show Below w.heap.size w w1 from (pw_below_drewN (Below.refl _ _) _).trans hb); clear hC hle hb) | (go_at_call 39; (with_reducible refine (impl_length_int64.calls A c L L.length _ ?side1 HL.out rfl).mono ?_); (case side1 => repeat (first | exact HC'.out | (with_reducible refine Kd.C_drewN ?_ _) | (with_reducible refine Kd.C_drew ?_))); rintro e w' ⟨rfl, ⟨nd2, rfl⟩⟩) | (go_at_call 39; (with_reducible refine (impl_length_int64.calls (some ad) c1 l1 l1.length _ ?side2 HC1.out rfl).mono ?_); (case side2 => repeat (first | exact HR1'.out | (with_reducible refine Kd.C_drewN ?_ _) | (with_reducible refine Kd.C_drew ?_))); rintro e w' ⟨rfl, ⟨nd3, rfl⟩⟩) | (go_at_call 39; (with_reducible refine (impl_length_int64.calls (some ad) c1 l1 l1.length _ HR1.out HC1.out rfl).mono ?_); rintro e w' ⟨rfl, ⟨nd, rfl⟩⟩))
        go_ret
        exact ⟨rfl, by repeat (first | exact HB.out | apply pw_below_drewN)⟩
      · obtain ⟨A2, hcut, hA2, hC2⟩ := print_mid_of (P := Tryd.prog) (Value.int .i64) 0 24 2 .i64 .i64 Tryd.underlying24 hi0 hsz (some ad) c1 l1 p (p + L.length) hp0 (by omega) (by omega) HC1.out
        have hA2 := Aside0.mk (fun (W : World) (h : Kd.C (Kd.int .i64) W (some ad) l1.length l1) => Kd.C_of_reads (h1 := fun _ => rfl) (hA2 W (Kd.reads_of_C h)))
        have HC2 := Aside0.mk hC2
        clear hC2
        have hgt' : p + L.length ≤ (l1.length : Int) := by omega
        have HLEN : Aside0 (((l1.take (p + L.length).toNat).drop p.toNat).length = (p + L.length).toNat - p.toNat) := ⟨by rw [List.length_drop, List.length_take]; omega⟩
        have HEQ := Aside0.mk (impl_ExplainBlock.equal_is L ((l1.take (p + L.length).toNat).drop p.toNat) (by omega))
        by_cases heq : L = (l1.take (p + L.length).toNat).drop p.toNat
        · have HV : impl_ExplainBlock.nx l1 s p 4 = p + L.length := by
            rw [HN.out, if_pos ⟨hgt', heq⟩]
          rw [HV]
          clear HN HV
          rw [show decide (L = (l1.take (p + L.length).toNat).drop p.toNat) = true from decide_eq_true heq] at HEQ
          clear heq
          go_enter Tryd.func33, Tryd.ntmps33
          go_wp2_with (first | (go_at_call 53; (with_reducible refine (impl_left.calls s 4 (rd l1 p - 1) L _ HLF.out).mono ?_); rintro e w1 ⟨v, rfl, ho, hb⟩; obtain ⟨A, c, rfl, hle, hC⟩ := Kd.R_reads ho; clear ho; have HC' := Aside0.mk hC; have HL := Aside0.mk hle; have hcell1 := pw_cell_below hb (by first | exact hcell | simpa using hcell); have HR1' := Aside0.mk (Kd.C_below (by repeat (first | exact HR1.out | refine Kd.C_drewN ?_ _)) hb); have HB := Aside0.mk (show Below w.heap.size w w1 from (pw_below_drewN (Below.refl _ _) _).trans hb); clear hC hle hb) | (go_at_call 39; (with_reducible refine (impl_length_int64.calls A c L L.length _ ?side1 HL.out rfl).mono ?_); (case side1 => repeat (first | exact HC'.out | (with_reducible refine Kd.C_drewN ?_ _) | (with_reducible refine Kd.C_drew ?_))); rintro e w' ⟨rfl, ⟨nd2, rfl⟩⟩) | (go_at_call 39; (with_reducible refine (impl_length_int64.calls (some ad) c1 l1 l1.length _ ?side2 HC1.out rfl).mono ?_); (case side2 => repeat (first | exact HR1'.out | (with_reducible refine Kd.C_drewN ?_ _) | (with_reducible refine Kd.C_drew ?_))); rintro e w' ⟨rfl, ⟨nd3, rfl⟩⟩) | (go_at_call 40; (refine castCalls (by rw [HLEN.out]) (slices_Equal_int64_int64.calls (L.length + 1) A c L A2 (c1 - p.toNat) ((l1.take (p + L.length).toNat).drop p.toNat) true _ ?side3 HL.out ?side4 HC2.out HEQ.out) ?_); (case side3 => repeat (first | exact HC'.out | (with_reducible refine Kd.C_drewN ?_ _) | (with_reducible refine Kd.C_drew ?_))); (case side4 => repeat (first | exact hA2.out _ HR1'.out | (with_reducible refine Kd.C_drewN ?_ _) | (with_reducible refine Kd.C_drew ?_))); rintro e w' ⟨rfl, ⟨nd4, rfl⟩⟩) | (go_at_call 39; (with_reducible refine (impl_length_int64.calls (some ad) c1 l1 l1.length _ HR1.out HC1.out rfl).mono ?_); rintro e w' ⟨rfl, ⟨nd, rfl⟩⟩))
          go_ret
          exact ⟨rfl, by repeat (first | exact HB.out | apply pw_below_drewN)⟩
        · have HV : impl_ExplainBlock.nx l1 s p 4 = -1 := by
            rw [HN.out, if_neg (fun h => heq h.2)]
          rw [HV]
          clear HN HV
          rw [show decide (L = (l1.take (p + L.length).toNat).drop p.toNat) = false from decide_eq_false heq] at HEQ
          clear heq
          go_enter Tryd.func33, Tryd.ntmps33
          go_wp2_with (first | (go_at_call 53; (with_reducible refine (impl_left.calls s 4 (rd l1 p - 1) L _ HLF.out).mono ?_); rintro e w1 ⟨v, rfl, ho, hb⟩; obtain ⟨A, c, rfl, hle, hC⟩ := Kd.R_reads ho; clear ho; have HC' := Aside0.mk hC; have HL := Aside0.mk hle; have hcell1 := pw_cell_below hb (by first | exact hcell | simpa using hcell); have HR1' := Aside0.mk (Kd.C_below (by repeat (first | exact HR1.out | refine Kd.C_drewN ?_ _)) hb); have HB := Aside0.mk (show Below w.heap.size w w1 from (pw_below_drewN (Below.refl _ _) _).trans hb); clear hC hle hb) | (go_at_call 39; (with_reducible refine (impl_length_int64.calls A c L L.length _ ?side1 HL.out rfl).mono ?_); (case side1 => repeat (first | exact HC'.out | (with_reducible refine Kd.C_drewN ?_ _) | (with_reducible refine Kd.C_drew ?_))); rintro e w' ⟨rfl, ⟨nd2, rfl⟩⟩) | (go_at_call 39; (with_reducible refine (impl_length_int64.calls (some ad) c1 l1 l1.length _ ?side2 HC1.out rfl).mono ?_); (case side2 => repeat (first | exact HR1'.out | (with_reducible refine Kd.C_drewN ?_ _) | (with_reducible refine Kd.C_drew ?_))); rintro e w' ⟨rfl, ⟨nd3, rfl⟩⟩) | (go_at_call 40; (refine castCalls (by rw [HLEN.out]) (slices_Equal_int64_int64.calls (L.length + 1) A c L A2 (c1 - p.toNat) ((l1.take (p + L.length).toNat).drop p.toNat) false _ ?side3 HL.out ?side4 HC2.out HEQ.out) ?_); (case side3 => repeat (first | exact HC'.out | (with_reducible refine Kd.C_drewN ?_ _) | (with_reducible refine Kd.C_drew ?_))); (case side4 => repeat (first | exact hA2.out _ HR1'.out | (with_reducible refine Kd.C_drewN ?_ _) | (with_reducible refine Kd.C_drew ?_))); rintro e w' ⟨rfl, ⟨nd4, rfl⟩⟩) | (go_at_call 39; (with_reducible refine (impl_length_int64.calls (some ad) c1 l1 l1.length _ HR1.out HC1.out rfl).mono ?_); rintro e w' ⟨rfl, ⟨nd, rfl⟩⟩))
          go_ret
          exact ⟨rfl, by repeat (first | exact HB.out | apply pw_below_drewN)⟩
    · have e0 : o = -1 := by rw [← HOT.out]; unfold impl_ExplainBlock.ot; rw [if_neg hk4]
      clear HOT
      subst e0
      have k0 : (k == 4) = false := by simpa using hk4
      clear hbad
      by_cases hgt : (l1.length : Int) < p + L.length
      · have HV : impl_ExplainBlock.nx l1 s p k = -1 := by
          rw [HN.out, if_neg (fun h => by have := h.1; omega)]
        rw [HV]
        clear HN HV
        go_enter Tryd.func33, Tryd.ntmps33
        go_wp2_with (first | (go_at_call 53; (with_reducible refine (impl_left.calls s k (-1) L _ HLF.out).mono ?_); rintro e w1 ⟨v, rfl, ho, hb⟩; obtain ⟨A, c, rfl, hle, hC⟩ := Kd.R_reads ho; clear ho; have HC' := Aside0.mk hC; have HL := Aside0.mk hle; have hcell1 := pw_cell_below hb (by first | exact hcell | simpa using hcell); have HR1' := Aside0.mk (Kd.C_below (by repeat (first | exact HR1.out | refine Kd.C_drewN ?_ _)) hb); have HB := Aside0.mk (show Below w.heap.size w w1 from (Below.refl _ _).trans hb); clear hC hle hb) | (go_at_call 39; (with_reducible refine (impl_length_int64.calls A c L L.length _ ?side1 HL.out rfl).mono ?_); (case side1 => repeat (first | exact HC'.out | (with_reducible refine Kd.C_drewN ?_ _) | (with_reducible refine Kd.C_drew ?_))); rintro e w' ⟨rfl, ⟨nd2, rfl⟩⟩) | (go_at_call 39; (with_reducible refine (impl_length_int64.calls A1 c1 l1 l1.length _ ?side2 HC1.out rfl).mono ?_); (case side2 => repeat (first | exact HR1'.out | (with_reducible refine Kd.C_drewN ?_ _) | (with_reducible refine Kd.C_drew ?_))); rintro e w' ⟨rfl, ⟨nd3, rfl⟩⟩))
        go_ret
        exact ⟨rfl, by repeat (first | exact HB.out | apply pw_below_drewN)⟩
      · obtain ⟨A2, hcut, hA2, hC2⟩ := print_mid_of (P := Tryd.prog) (Value.int .i64) 0 24 2 .i64 .i64 Tryd.underlying24 hi0 hsz A1 c1 l1 p (p + L.length) hp0 (by omega) (by omega) HC1.out
        have hA2 := Aside0.mk (fun (W : World) (h : Kd.C (Kd.int .i64) W A1 l1.length l1) => Kd.C_of_reads (h1 := fun _ => rfl) (hA2 W (Kd.reads_of_C h)))
        have HC2 := Aside0.mk hC2
        clear hC2
        have hgt' : p + L.length ≤ (l1.length : Int) := by omega
        have HLEN : Aside0 (((l1.take (p + L.length).toNat).drop p.toNat).length = (p + L.length).toNat - p.toNat) := ⟨by rw [List.length_drop, List.length_take]; omega⟩
        have HEQ := Aside0.mk (impl_ExplainBlock.equal_is L ((l1.take (p + L.length).toNat).drop p.toNat) (by omega))
        by_cases heq : L = (l1.take (p + L.length).toNat).drop p.toNat
        · have HV : impl_ExplainBlock.nx l1 s p k = p + L.length := by
            rw [HN.out, if_pos ⟨hgt', heq⟩]
          rw [HV]
          clear HN HV
          rw [show decide (L = (l1.take (p + L.length).toNat).drop p.toNat) = true from decide_eq_true heq] at HEQ
          clear heq
          go_enter Tryd.func33, Tryd.ntmps33
          go_wp2_with (first | (go_at_call 53; (with_reducible refine (impl_left.calls s k (-1) L _ HLF.out).mono ?_); rintro e w1 ⟨v, rfl, ho, hb⟩; obtain ⟨A, c, rfl, hle, hC⟩ := Kd.R_reads ho; clear ho; have HC' := Aside0.mk hC; have HL := Aside0.mk hle; have hcell1 := pw_cell_below hb (by first | exact hcell | simpa using hcell); have HR1' := Aside0.mk (Kd.C_below (by repeat (first | exact HR1.out | refine Kd.C_drewN ?_ _)) hb); have HB := Aside0.mk (show Below w.heap.size w w1 from (Below.refl _ _).trans hb); clear hC hle hb) | (go_at_call 39; (with_reducible refine (impl_length_int64.calls A c L L.length _ ?side1 HL.out rfl).mono ?_); (case side1 => repeat (first | exact HC'.out | (with_reducible refine Kd.C_drewN ?_ _) | (with_reducible refine Kd.C_drew ?_))); rintro e w' ⟨rfl, ⟨nd2, rfl⟩⟩) | (go_at_call 39; (with_reducible refine (impl_length_int64.calls A1 c1 l1 l1.length _ ?side2 HC1.out rfl).mono ?_); (case side2 => repeat (first | exact HR1'.out | (with_reducible refine Kd.C_drewN ?_ _) | (with_reducible refine Kd.C_drew ?_))); rintro e w' ⟨rfl, ⟨nd3, rfl⟩⟩) | (go_at_call 40; (refine castCalls (by rw [HLEN.out]) (slices_Equal_int64_int64.calls (L.length + 1) A c L A2 (c1 - p.toNat) ((l1.take (p + L.length).toNat).drop p.toNat) true _ ?side3 HL.out ?side4 HC2.out HEQ.out) ?_); (case side3 => repeat (first | exact HC'.out | (with_reducible refine Kd.C_drewN ?_ _) | (with_reducible refine Kd.C_drew ?_))); (case side4 => repeat (first | exact hA2.out _ HR1'.out | (with_reducible refine Kd.C_drewN ?_ _) | (with_reducible refine Kd.C_drew ?_))); rintro e w' ⟨rfl, ⟨nd4, rfl⟩⟩))
          go_ret
          exact ⟨rfl, by repeat (first | exact HB.out | apply pw_below_drewN)⟩
        · have HV : impl_ExplainBlock.nx l1 s p k = -1 := by
            rw [HN.out, if_neg (fun h => heq h.2)]
          rw [HV]
          clear HN HV
          rw [show decide (L = (l1.take (p + L.length).toNat).drop p.toNat) = false from decide_eq_false heq] at HEQ
          clear heq
          go_enter Tryd.func33, Tryd.ntmps33
          go_wp2_with (first | (go_at_call 53; (with_reducible refine (impl_left.calls s k (-1) L _ HLF.out).mono ?_); rintro e w1 ⟨v, rfl, ho, hb⟩; obtain ⟨A, c, rfl, hle, hC⟩ := Kd.R_reads ho; clear ho; have HC' := Aside0.mk hC; have HL := Aside0.mk hle; have hcell1 := pw_cell_below hb (by first | exact hcell | simpa using hcell); have HR1' := Aside0.mk (Kd.C_below (by repeat (first | exact HR1.out | refine Kd.C_drewN ?_ _)) hb); have HB := Aside0.mk (show Below w.heap.size w w1 from (Below.refl _ _).trans hb); clear hC hle hb) | (go_at_call 39; (with_reducible refine (impl_length_int64.calls A c L L.length _ ?side1 HL.out rfl).mono ?_); (case side1 => repeat (first | exact HC'.out | (with_reducible refine Kd.C_drewN ?_ _) | (with_reducible refine Kd.C_drew ?_))); rintro e w' ⟨rfl, ⟨nd2, rfl⟩⟩) | (go_at_call 39; (with_reducible refine (impl_length_int64.calls A1 c1 l1 l1.length _ ?side2 HC1.out rfl).mono ?_); (case side2 => repeat (first | exact HR1'.out | (with_reducible refine Kd.C_drewN ?_ _) | (with_reducible refine Kd.C_drew ?_))); rintro e w' ⟨rfl, ⟨nd3, rfl⟩⟩) | (go_at_call 40; (refine castCalls (by rw [HLEN.out]) (slices_Equal_int64_int64.calls (L.length + 1) A c L A2 (c1 - p.toNat) ((l1.take (p + L.length).toNat).drop p.toNat) false _ ?side3 HL.out ?side4 HC2.out HEQ.out) ?_); (case side3 => repeat (first | exact HC'.out | (with_reducible refine Kd.C_drewN ?_ _) | (with_reducible refine Kd.C_drew ?_))); (case side4 => repeat (first | exact hA2.out _ HR1'.out | (with_reducible refine Kd.C_drewN ?_ _) | (with_reducible refine Kd.C_drew ?_))); rintro e w' ⟨rfl, ⟨nd4, rfl⟩⟩))
          go_ret
          exact ⟨rfl, by repeat (first | exact HB.out | apply pw_below_drewN)⟩

/-! ### the fewest faults -/
def impl_ExplainBlock.t01 (k : Int) : Int := if 0 < k then 1 else 0
def impl_ExplainBlock.stp (bl : List Int) (f : Int → Int) (s p b : Int) (k : Nat) : Int := if 0 ≤ impl_ExplainBlock.nx bl s p k then mn b (f (impl_ExplainBlock.nx bl s p k) + impl_ExplainBlock.t01 k) else b
def impl_ExplainBlock.few (bl : List Int) : Nat → Int → Int → Int
  | 0, _, p => if p = bl.length then 0 else 1000000000
  | d + 1, s, p => (List.range 5).foldl (impl_ExplainBlock.stp bl (impl_ExplainBlock.few bl d (s + 1)) s p) 1000000000
def impl_ExplainBlock.part (bl : List Int) (d : Nat) (s p : Int) (j : Nat) : Int := (List.range j).foldl (impl_ExplainBlock.stp bl (impl_ExplainBlock.few bl d (s + 1)) s p) 1000000000
theorem impl_ExplainBlock.part_succ (bl : List Int) (d : Nat) (s p : Int) (j : Nat) : impl_ExplainBlock.part bl d s p (j + 1) = impl_ExplainBlock.stp bl (impl_ExplainBlock.few bl d (s + 1)) s p (impl_ExplainBlock.part bl d s p j) j := by
  unfold impl_ExplainBlock.part
  rw [List.range_succ, List.foldl_append]
  rfl
theorem impl_ExplainBlock.fold_bd (bl : List Int) (f : Int → Int) (s p : Int) (hf : ∀ x, 0 ≤ f x) : ∀ (l : List Nat) (b : Int), 0 ≤ b → b ≤ 1000000000 → 0 ≤ l.foldl (impl_ExplainBlock.stp bl f s p) b ∧ l.foldl (impl_ExplainBlock.stp bl f s p) b ≤ 1000000000 := by
  intro l
  induction l with
  | nil => intro b h0 h1; exact ⟨h0, h1⟩
  | cons k r ih =>
    intro b h0 h1
    rw [List.foldl_cons]
    refine ih _ ?_ ?_
    all_goals
      have := hf (impl_ExplainBlock.nx bl s p k)
      unfold impl_ExplainBlock.stp impl_ExplainBlock.t01 mn
      (repeat' split) <;> omega
theorem impl_ExplainBlock.few_bd (bl : List Int) : ∀ (d : Nat) (s p : Int), 0 ≤ impl_ExplainBlock.few bl d s p ∧ impl_ExplainBlock.few bl d s p ≤ 1000000000
  | 0, s, p => by unfold impl_ExplainBlock.few; split <;> omega
  | d + 1, s, p => by
    unfold impl_ExplainBlock.few
    exact impl_ExplainBlock.fold_bd bl _ s p (fun x => (impl_ExplainBlock.few_bd bl d (s + 1) x).1) _ _ (by omega) (by omega)
theorem impl_ExplainBlock.part_bd (bl : List Int) (d : Nat) (s p : Int) (j : Nat) : 0 ≤ impl_ExplainBlock.part bl d s p j ∧ impl_ExplainBlock.part bl d s p j ≤ 1000000000 :=
  impl_ExplainBlock.fold_bd bl _ s p (fun x => (impl_ExplainBlock.few_bd bl d (s + 1) x).1) _ _ (by omega) (by omega)

/-! ### the map -/
open Go.Maps in
theorem impl_ExplainBlock.laidOut : laidOutB Tryd.prog = true := by kernel_rfl
theorem impl_ExplainBlock.wide : (match Tryd.prog.underlying 67 with | some (.array _ _) | some (.struct _) => true | _ => false) = true := by rw [Tryd.underlying67]
theorem impl_ExplainBlock.law : Go.Maps.Keyed Tryd.prog 67 := Go.Maps.Keyed.of_law (deep_law_laid impl_ExplainBlock.laidOut (m := 2) (by omega) (of_decide_eq_true (by kernel_rfl)) (by kernel_rfl) impl_ExplainBlock.wide)
theorem impl_ExplainBlock.zeroE (w : World) : (zeroValue 2).run Tryd.prog w = .ok (.int .i64 0) w := by kernel_rfl
theorem impl_ExplainBlock.cells50 : Tryd.prog.cellsOf 67 = 2 := by kernel_rfl
theorem impl_ExplainBlock.cells2 : Tryd.prog.cellsOf 2 = 1 := by kernel_rfl
theorem impl_ExplainBlock.keyT : Tryd.prog.keyType 67 = true := by kernel_rfl
theorem impl_ExplainBlock.tsz : Tryd.prog.types.size + 1 = (Tryd.prog.types.size - 1) + 1 + 1 := by
  have h : 0 < Tryd.prog.types.size := of_decide_eq_true (by kernel_rfl)
  omega
theorem impl_ExplainBlock.lits_int (m : Nat) (x : Int) (h : (Lit.int .i64 x).wf = true) : Tryd.prog.keyLits (m + 1) 2 [.int .i64 x] = some [.int .i64 x] := by
  unfold Program.keyLits
  simp only [Tryd.underlying2]
  simp [h]
theorem impl_ExplainBlock.lits_arr (m : Nat) (s p : Int) (hs : (Lit.int .i64 s).wf = true) (hp : (Lit.int .i64 p).wf = true) : Tryd.prog.keyLits (m + 1 + 1) 67 [.int .i64 s, .int .i64 p] = some [.int .i64 s, .int .i64 p] := by
  unfold Program.keyLits
  simp only [Tryd.underlying67]
  rw [if_pos (by rw [impl_ExplainBlock.cells50]; rfl), impl_ExplainBlock.cells2]
  have e : List.range 2 = [0, 1] := rfl
  rw [e]
  simp only [List.mapM_cons, List.mapM_nil]
  have e0 : (([.int .i64 s, .int .i64 p] : List Value).drop (0 * 1)).take 1 = [.int .i64 s] := rfl
  have e1 : (([.int .i64 s, .int .i64 p] : List Value).drop (1 * 1)).take 1 = [.int .i64 p] := rfl
  rw [e0, e1, impl_ExplainBlock.lits_int m s hs, impl_ExplainBlock.lits_int m p hp]
  rfl
theorem impl_ExplainBlock.key_some (s p : Int) (hs : (Lit.int .i64 s).wf = true) (hp : (Lit.int .i64 p).wf = true) : ∃ l, keyOf Tryd.prog 67 (.agg #[.int .i64 s, .int .i64 p]) = some l := by
  have h := impl_ExplainBlock.lits_arr (Tryd.prog.types.size - 1) s p hs hp
  rw [← impl_ExplainBlock.tsz] at h
  unfold keyOf
  simp only [Tryd.underlying67]
  rw [if_pos (by rw [impl_ExplainBlock.keyT]; simp only [Value.formed, Tryd.underlying67, impl_ExplainBlock.cells50]; rfl)]
  simp only [Value.cells]
  rw [h]
  exact ⟨_, rfl⟩
theorem impl_ExplainBlock.look {w : World} {B q : Nat} {D : DataW Unit} {v : Value} {kl : Lit} (h : w.ownsMap Tryd.prog 67 (plainElem Tryd.prog 2) B q D) (hk : keyOf Tryd.prog 67 v = some kl) :
    ∃ c, D.atKey kl (.lit (.int .i64 0)) = .lit (.int .i64 c) ∧ ∀ n, (Instr.lookup 50 (.map (some B)) v true).run Tryd.prog (w.drewN n) = .ok (.tuple #[.int .i64 c, .bool (Maps.has D kl)]) (w.drewN n) := by
  have hall : ∀ n, ∃ c, (Instr.lookup 50 (.map (some B)) v true).run Tryd.prog (w.drewN n) = .ok (.tuple #[.int .i64 c, .bool (Maps.has D kl)]) (w.drewN n) ∧ D.atKey kl (.lit (.int .i64 0)) = .lit (.int .i64 c) := by
    intro n
    have h' : (w.drewN n).ownsMap Tryd.prog 67 (plainElem Tryd.prog 2) B q D := h
    obtain ⟨x, ps, hrun, hv⟩ := h'.look_ok impl_ExplainBlock.law Tryd.underlying50 (impl_ExplainBlock.zeroE _) (plainElem_int (q := .i64) Tryd.underlying2 (by decide)) hk
    obtain ⟨c, rfl, hz, _⟩ := plainElem_int_inv Tryd.underlying2 hv
    exact ⟨c, hrun, congrArg Prod.fst hz⟩
  obtain ⟨c, _, hc⟩ := hall 0
  refine ⟨c, hc, fun n => ?_⟩
  obtain ⟨c', hr, hc'⟩ := hall n
  rw [hc] at hc'
  injection hc' with hc'
  injection hc' with _ hc'
  rw [hr, hc']
def impl_ExplainBlock.Good (bl : List Int) (n : Int) (D : DataW Unit) : Prop :=
  ∀ (s p : Int) (l : Lit), keyOf Tryd.prog 67 (.agg #[.int .i64 s, .int .i64 p]) = some l → Maps.has D l = true → D.atKey l (.lit (.int .i64 0)) = .lit (.int .i64 (impl_ExplainBlock.few bl (n - s).toNat s p))
theorem impl_ExplainBlock.Good.start (bl : List Int) (n : Int) : impl_ExplainBlock.Good bl n (.map []) := fun s p l _ h => by simp [Maps.has] at h
theorem impl_ExplainBlock.Good.put {bl : List Int} {n : Int} {D : DataW Unit} (h : impl_ExplainBlock.Good bl n D) (hD : Go.Maps.IsMap D) {s p : Int} {l : Lit} (hl : keyOf Tryd.prog 67 (.agg #[.int .i64 s, .int .i64 p]) = some l) :
    impl_ExplainBlock.Good bl n (D.put l (.lit (.int .i64 (impl_ExplainBlock.few bl (n - s).toNat s p)))) := by
  intro s' p' l' hl' hh
  by_cases e : l' = l
  · subst e
    have e2 := impl_ExplainBlock.law.inj hl' hl
    injection e2 with e2
    have e3 := congrArg Array.toList e2
    simp at e3
    obtain ⟨rfl, rfl⟩ := e3
    exact Go.Maps.atKey_put_same hD (impl_ExplainBlock.law.key hl) _ _
  · rw [Go.Maps.atKey_put_other e]
    exact h s' p' l' hl' (by rw [← hh]; exact (Go.Maps.has_put_other e _).symm)

/-- What is known of the explainer in world w. -/
structure impl_ExplainBlock.St (w0 w : World) (g B : Nat) (n : Int) (A1 : Option Addr) (c1 : Nat) (l1 : List Int) (q : Nat) : Prop where
  below : Below w0.heap.size w0 w
  hg : w0.heap.size ≤ g
  hB : w0.heap.size ≤ B
  ne : g ≠ B
  cells : w.heap[g]? = some (.cells #[.int .i64 n, .slice A1 l1.length c1, .map (some B)] 52 (0, 0))
  own : ∃ D : DataW Unit, w.ownsMap Tryd.prog 67 (plainElem Tryd.prog 2) B q D ∧ impl_ExplainBlock.Good l1 n D
section
variable {w0 w w' : World} {g B : Nat} {n : Int} {A1 : Option Addr} {c1 : Nat} {l1 : List Int} {q : Nat}
theorem impl_ExplainBlock.St.step (h : impl_ExplainBlock.St w0 w g B n A1 c1 l1 q) (hb : Below w.heap.size w w') : impl_ExplainBlock.St w0 w' g B n A1 c1 l1 q := by
  obtain ⟨D, hD, hG⟩ := h.own
  refine ⟨below_then h.below h.below.size hb, h.hg, h.hB, h.ne, ?_, D, hD.kept (grown_of_below hb none) (by simp), hG⟩
  rw [hb.block g (Array.getElem?_eq_some_iff.1 h.cells).1]
  exact h.cells
theorem impl_ExplainBlock.St.cell0 (h : impl_ExplainBlock.St w0 w g B n A1 c1 l1 q) : w.cell? ⟨g, 0, none⟩ = some (.int .i64 n) := by simp [World.cell?, h.cells]
theorem impl_ExplainBlock.St.cell1 (h : impl_ExplainBlock.St w0 w g B n A1 c1 l1 q) : w.cell? ⟨g, 1, none⟩ = some (.slice A1 l1.length c1) := by simp [World.cell?, h.cells]
theorem impl_ExplainBlock.St.cell2 (h : impl_ExplainBlock.St w0 w g B n A1 c1 l1 q) : w.cell? ⟨g, 2, none⟩ = some (.map (some B)) := by simp [World.cell?, h.cells]
theorem impl_ExplainBlock.St.lt (h : impl_ExplainBlock.St w0 w g B n A1 c1 l1 q) : B < w.heap.size := by
  obtain ⟨D, hD, _⟩ := h.own
  exact hD.lt
end

def impl_ExplainBlock.cnt : Nat → Nat
  | 0 => 0
  | d + 1 => 5 * impl_ExplainBlock.cnt d + 1
def impl_ExplainBlock.Post (w0 : World) (g B : Nat) (n : Int) (A1 : Option Addr) (c1 : Nat) (l1 : List Int) (r : Int) (q : Nat) (w : World) (e : Ending) (w' : World) : Prop :=
  e = .returned (.int .i64 r) ∧ w.grownBy w' (some B) ∧ ∃ q', q' ≤ q ∧ impl_ExplainBlock.St w0 w' g B n A1 c1 l1 q'
theorem impl_ExplainBlock.grow_then {w w1 w2 : World} {B : Nat} (h : w.grownBy w1 (some B)) (k : w1.grownBy w2 (some B)) : w.grownBy w2 (some B) :=
  ⟨k.os.trans h.os, k.tape.trans h.tape, k.output.trans h.output, Nat.le_trans h.size k.size, fun i hi hn => (k.block i (Nat.lt_of_lt_of_le hi h.size) hn).trans (h.block i hi hn)⟩
theorem impl_ExplainBlock.grow_below {w w1 : World} {B : Nat} (h : Below w.heap.size w w1) : w.grownBy w1 (some B) := ⟨h.os, h.tape, h.output, h.size, fun i hi _ => h.block i hi⟩
theorem impl_ExplainBlock.grow_drewN (w : World) (B k : Nat) : w.grownBy (w.drewN k) (some B) := ⟨rfl, rfl, rfl, Nat.le_refl _, fun _ _ _ => rfl⟩

set_option maxHeartbeats 4000000 in
set_option maxRecDepth 100000 in
theorem impl_ExplainBlock.few_calls (w0 : World) (g B : Nat) (n : Int) (A1 : Option Addr) (c1 : Nat) (l1 : List Int) (hr1 : Kd.C (Kd.int .i64) w0 A1 l1.length l1) (hc1 : l1.length ≤ c1) (hl : l1.length ≤ 24) (hn : n ≤ 12) (hb : ∀ i, -12 ≤ rd l1 i ∧ rd l1 i ≤ 12) :
    ∀ (d : Nat) (s p : Int) (w : World) (q : Nat), 0 ≤ s → n - s = d → 0 ≤ p → p ≤ l1.length → impl_ExplainBlock.St w0 w g B n A1 c1 l1 q → q + impl_ExplainBlock.cnt d ≤ 1000000000000 →
      Calls Tryd.prog 32 #[.pointer (some ⟨g, 0, none⟩), .int .i64 s, .int .i64 p] w (impl_ExplainBlock.Post w0 g B n A1 c1 l1 (impl_ExplainBlock.few l1 d s p) (q + impl_ExplainBlock.cnt d) w) := by
  have HR := Aside0.mk hr1
  have HC1 := Aside0.mk hc1
  have HBD := Aside0.mk hb
  clear hr1 hc1 hb
  intro d
  induction d with
  | zero =>
    intro s p w q hs0 hd hp0 hp1 hst hq
    have hsn : s = n := by omega
    subst hsn
    have HST := Aside0.mk hst
    have hc0 := hst.cell0
    have hc1 := hst.cell1
    have HR1 := Aside0.mk (Kd.C_below HR.out hst.below)
    clear hst
    by_cases h1 : p = l1.length
    · have k1 : (p == (l1.length : Int)) = true := by simpa using h1
      have HV : Aside0 (impl_ExplainBlock.few l1 0 s p = 0) := ⟨by unfold impl_ExplainBlock.few; rw [if_pos h1]⟩
      clear h1
      go_enter Tryd.func32, Tryd.ntmps32
      go_wp2_with (go_at_call 39; (with_reducible refine (impl_length_int64.calls _ _ l1 l1.length _ HR1.out HC1.out rfl).mono ?_); rintro e w' ⟨rfl, ⟨nd, rfl⟩⟩)
      go_ret
      rw [HV.out]
      exact ⟨rfl, impl_ExplainBlock.grow_drewN _ _ _, q, by omega, HST.out.step (pw_below_drewN (Below.refl _ _) _)⟩
    · have k1 : (p == (l1.length : Int)) = false := by simpa using h1
      have HV : Aside0 (impl_ExplainBlock.few l1 0 s p = 1000000000) := ⟨by unfold impl_ExplainBlock.few; rw [if_neg h1]⟩
      clear h1
      go_enter Tryd.func32, Tryd.ntmps32
      go_wp2_with (go_at_call 39; (with_reducible refine (impl_length_int64.calls _ _ l1 l1.length _ HR1.out HC1.out rfl).mono ?_); rintro e w' ⟨rfl, ⟨nd, rfl⟩⟩)
      go_ret
      rw [HV.out]
      exact ⟨rfl, impl_ExplainBlock.grow_drewN _ _ _, q, by omega, HST.out.step (pw_below_drewN (Below.refl _ _) _)⟩
  | succ d ih =>
    intro s p w q hs0 hd hp0 hp1 hst hq
    have hs12 : s < 12 := by omega
    have k0 : (s == n) = false := by simp; omega
    have HST := Aside0.mk hst
    have hc0 := hst.cell0
    have hc2 := hst.cell2
    obtain ⟨D, hD, hG⟩ := hst.own
    have HD := Aside0.mk hD
    obtain ⟨kl, hkl⟩ := impl_ExplainBlock.key_some s p (by simp [Lit.wf, IntKind.min, IntKind.max, IntKind.bits, IntKind.signed]; omega) (by simp [Lit.wf, IntKind.min, IntKind.max, IntKind.bits, IntKind.signed]; omega)
    have HKL := Aside0.mk hkl
    have HG := Aside0.mk (hG s p kl hkl)
    have hD1 := Aside0.mk (hD.alloc (.cells #[.int .i64 s, .int .i64 p] 67))
    clear hst hD hG hkl
    have IH := Aside0.mk ih
    clear ih
    obtain ⟨c, hat, hrun⟩ := impl_ExplainBlock.look hD1.out HKL.out
    have HAT := Aside0.mk hat
    clear hat
    have hq2 : ∀ m, ((w.alloc (.cells #[.int .i64 s, .int .i64 p] 67)).drewN m).cell? ⟨g, 2, none⟩ = some (.map (some B)) := fun m => pw_cell_below (pw_below_drewN ((Below.refl _ _).alloc (Nat.le_refl _) _) m) hc2
    have hq3 : ∀ m, ((w.alloc (.cells #[.int .i64 s, .int .i64 p] 67)).drewN m).cell? ⟨w.heap.size, 0, none⟩ = some (.int .i64 s) := fun m => by
      show (w.alloc _).cell? _ = _
      simp
    have hq4 : ∀ m, ((w.alloc (.cells #[.int .i64 s, .int .i64 p] 67)).drewN m).cell? ⟨w.heap.size, 1, none⟩ = some (.int .i64 p) := fun m => by
      show (w.alloc _).cell? _ = _
      simp
    cases hh : Maps.has D kl with
    | true =>
      have HV : Aside0 (c = impl_ExplainBlock.few l1 (d + 1) s p) := ⟨by
        have h1 := HG.out hh
        have h2 := HAT.out
        rw [show (n - s).toNat = d + 1 by omega] at h1
        rw [h1] at h2
        injection h2 with h2
        injection h2 with _ h2
        exact h2.symm⟩
      rw [hh] at hrun
      clear hh HG HAT hq hd
      go_enter Tryd.func32, Tryd.ntmps32
      go_wp2
      go_quiet (fail)
      go_wp2
      go_ret
      rw [HV.out]
      exact ⟨rfl, impl_ExplainBlock.grow_below (pw_below_drewN ((Below.refl _ _).alloc (Nat.le_refl _) _) _), q, by omega, HST.out.step (pw_below_drewN ((Below.refl _ _).alloc (Nat.le_refl _) _) _)⟩
    | false =>
      rw [hh] at hrun
      clear hh HG HAT
      have hsn : Aside0 (n - s = ((d + 1 : Nat) : Int)) := ⟨by omega⟩
      have hcq : Aside0 (q + impl_ExplainBlock.cnt (d + 1) ≤ 1000000000000) := ⟨hq⟩
      have hq' : Aside0 (impl_ExplainBlock.cnt (d + 1) = 5 * impl_ExplainBlock.cnt d + 1) := ⟨rfl⟩
      clear hq hd
      have hdd : 0 ≤ n - (s + 1) := by have := hsn.out; omega
      have HST1 := Aside0.mk (HST.out.step ((Below.refl _ _).alloc (Nat.le_refl _) (.cells #[.int .i64 s, .int .i64 p] 67)))
      go_enter Tryd.func32, Tryd.ntmps32
      go_wp2
      go_quiet (fail)
      go_wp2
      clear hq2 hq3 hq4 hrun
      go_loopg [10, 40] 5 (fun gg b10 k40 wr => ∃ (j q' : Nat) (x : Int), j ≤ 5 ∧ 5 - j ≤ gg ∧ k40 = .int .i64 j ∧ b10 = .int .i64 x ∧ Aside0 (x = impl_ExplainBlock.part l1 d s p j) ∧ Aside0 (q' ≤ q + j * impl_ExplainBlock.cnt d) ∧ Aside0 (World.grownBy (w.alloc (.cells #[.int .i64 s, .int .i64 p] 67)) wr (some B)) ∧ Aside0 (impl_ExplainBlock.St w0 wr g B n A1 c1 l1 q'))
      case atStart => exact ⟨0, q, 1000000000, by omega, by omega, rfl, rfl, ⟨rfl⟩, ⟨by omega⟩, ⟨⟨rfl, rfl, rfl, Nat.le_refl _, fun _ _ _ => rfl⟩⟩, ⟨HST1.out.step (pw_below_drewN (Below.refl _ _) _)⟩⟩
      case round =>
        obtain ⟨j, q', x, hj5, hgk, rfl, rfl, HX, HQ, HGR, HS⟩ := hrel
        by_cases hj : j < 5
        · have hc1 := HS.out.cell1
          have HR1 := Aside0.mk (Kd.C_below HR.out HS.out.below)
          have xb := impl_ExplainBlock.part_bd l1 d s p j
          rw [← HX.out] at xb
          obtain ⟨xb0, xb1⟩ := xb
          have NB := impl_ExplainBlock.nx_le l1 s p j hp0
          have HN := Aside0.mk (impl_ExplainBlock.next_calls g A1 c1 l1 s p j wr hc1 HR1.out HC1.out hl ⟨hs0, by omega⟩ ⟨hp0, hp1⟩ ⟨by omega, by omega⟩ HBD.out)
          have PS := Aside0.mk (impl_ExplainBlock.part_succ l1 d s p j)
          obtain ⟨E, hE⟩ : ∃ E, impl_ExplainBlock.nx l1 s p j = E := ⟨_, rfl⟩
          have FB := impl_ExplainBlock.few_bd l1 d (s + 1) E
          unfold impl_ExplainBlock.stp at PS
          rw [hE] at NB HN PS
          obtain ⟨NB0, NB1, NB2⟩ := NB
          obtain ⟨F, hF⟩ : ∃ F, impl_ExplainBlock.few l1 d (s + 1) E = F := ⟨_, rfl⟩
          have IH1 : Aside0 (0 ≤ E → ∀ w1, Below wr.heap.size wr w1 → Calls Tryd.prog 32 #[.pointer (some ⟨g, 0, none⟩), .int .i64 (s + 1), .int .i64 E] w1 (impl_ExplainBlock.Post w0 g B n A1 c1 l1 F (q' + impl_ExplainBlock.cnt d) w1)) := ⟨fun hE0 w1 hb => by
            rw [← hF]
            exact IH.out (s + 1) E w1 q' (by omega) (by have := hsn.out; omega) hE0 NB2 (HS.out.step hb) (by
              have h1 := HQ.out
              have h2 := hcq.out
              rw [hq'.out] at h2
              have : j * impl_ExplainBlock.cnt d ≤ 4 * impl_ExplainBlock.cnt d := Nat.mul_le_mul_right _ (by omega)
              omega)⟩
          rw [hF] at FB PS
          rw [← HX.out] at PS
          obtain ⟨FB0, FB1⟩ := FB
          clear hF hE hc1
          by_cases hE0 : 0 ≤ E
          · have IH2 := Aside0.mk (IH1.out hE0)
            obtain ⟨bv, hbv⟩ : ∃ bv, decide (0 < j) = bv := ⟨_, rfl⟩
            obtain ⟨tv, htv⟩ : ∃ tv : Int, tv = if bv then 1 else 0 := ⟨_, rfl⟩
            have HT : Aside0 (impl_toInt.f bv = some tv) := ⟨by rw [htv]; cases bv <;> rfl⟩
            have PS1 : Aside0 (impl_ExplainBlock.part l1 d s p (j + 1) = mn x (F + tv)) := ⟨by
              rw [PS.out, if_pos hE0]
              unfold impl_ExplainBlock.t01
              rw [htv, ← hbv]
              by_cases h0 : 0 < j
              · rw [if_pos (show 0 < (j : Int) by omega)]; simp [h0]
              · rw [if_neg (show ¬ 0 < (j : Int) by omega)]; simp [h0]⟩
            have tb0 : 0 ≤ tv := by rw [htv]; split <;> omega
            have tb1 : tv ≤ 1 := by rw [htv]; split <;> omega
            clear htv PS IH1
            by_cases hm : F + tv < x
            · have PS2 : Aside0 (impl_ExplainBlock.part l1 d s p (j + 1) = F + tv) := ⟨by rw [PS1.out]; unfold mn; omega⟩
              go_wp2_with (first | (go_at_call 33; (with_reducible refine HN.out.mono ?_); rintro e w1 ⟨rfl, hb⟩; have HB := Aside0.mk hb; clear hb) | (go_at_call 32; (with_reducible refine (IH2.out w1 HB.out).mono ?_); rintro e w2 ⟨rfl, hg2, q2, hq2, hst2⟩; have HG2 := Aside0.mk hg2; have HQ2 := Aside0.mk hq2; have HS2 := Aside0.mk hst2; clear hg2 hq2 hst2) | (go_at_call 34; (with_reducible refine (impl_toInt.calls bv tv _ HT.out).mono ?_); rintro e w' ⟨rfl, ⟨nd2, rfl⟩⟩))
              go_roundg (5 - (j + 1))
              case measure => omega
              case rel => exact ⟨j + 1, q2, F + tv, by omega, by omega, by go_num, rfl, ⟨PS2.out.symm⟩, ⟨by have h1 := HQ.out; have h2 := HQ2.out; rw [Nat.succ_mul]; omega⟩, ⟨impl_ExplainBlock.grow_then HGR.out (impl_ExplainBlock.grow_then (impl_ExplainBlock.grow_below HB.out) (impl_ExplainBlock.grow_then HG2.out (impl_ExplainBlock.grow_drewN _ _ _)))⟩, ⟨HS2.out.step (pw_below_drewN (Below.refl _ _) _)⟩⟩
            · have PS2 : Aside0 (impl_ExplainBlock.part l1 d s p (j + 1) = x) := ⟨by rw [PS1.out]; unfold mn; omega⟩
              go_wp2_with (first | (go_at_call 33; (with_reducible refine HN.out.mono ?_); rintro e w1 ⟨rfl, hb⟩; have HB := Aside0.mk hb; clear hb) | (go_at_call 32; (with_reducible refine (IH2.out w1 HB.out).mono ?_); rintro e w2 ⟨rfl, hg2, q2, hq2, hst2⟩; have HG2 := Aside0.mk hg2; have HQ2 := Aside0.mk hq2; have HS2 := Aside0.mk hst2; clear hg2 hq2 hst2) | (go_at_call 34; (with_reducible refine (impl_toInt.calls bv tv _ HT.out).mono ?_); rintro e w' ⟨rfl, ⟨nd2, rfl⟩⟩))
              go_roundg (5 - (j + 1))
              case measure => omega
              case rel => exact ⟨j + 1, q2, x, by omega, by omega, by go_num, rfl, ⟨PS2.out.symm⟩, ⟨by have h1 := HQ.out; have h2 := HQ2.out; rw [Nat.succ_mul]; omega⟩, ⟨impl_ExplainBlock.grow_then HGR.out (impl_ExplainBlock.grow_then (impl_ExplainBlock.grow_below HB.out) (impl_ExplainBlock.grow_then HG2.out (impl_ExplainBlock.grow_drewN _ _ _)))⟩, ⟨HS2.out.step (pw_below_drewN (Below.refl _ _) _)⟩⟩
          · have kE : decide (0 ≤ E) = false := decide_eq_false hE0
            have PS1 : Aside0 (impl_ExplainBlock.part l1 d s p (j + 1) = x) := ⟨by rw [PS.out, if_neg hE0]⟩
            clear PS IH1 hE0
            go_wp2_with (first | (go_at_call 33; (with_reducible refine HN.out.mono ?_); rintro e w1 ⟨rfl, hb⟩; have HB := Aside0.mk hb; clear hb))
            go_roundg (5 - (j + 1))
            case measure => omega
            case rel => exact ⟨j + 1, q', x, by omega, by omega, by go_num, rfl, ⟨PS1.out.symm⟩, ⟨by have h1 := HQ.out; rw [Nat.succ_mul]; omega⟩, ⟨impl_ExplainBlock.grow_then HGR.out (impl_ExplainBlock.grow_below HB.out)⟩, ⟨HS.out.step HB.out⟩⟩
        · obtain rfl : j = 5 := by omega
          have hc2 := HS.out.cell2
          have hlt := HST.out.lt
          have hkb : wr.heap[w.heap.size]? = some (.cells #[.int .i64 s, .int .i64 p] 67 (0, 0)) := by
            rw [HGR.out.block w.heap.size (by simp) (by simp; omega)]
            exact (MapKept.heap_alloc _ _).1
          have hk0 : wr.cell? ⟨w.heap.size, 0, none⟩ = some (.int .i64 s) := by simp [World.cell?, hkb]
          have hk1 : wr.cell? ⟨w.heap.size, 1, none⟩ = some (.int .i64 p) := by simp [World.cell?, hkb]
          clear hkb
          obtain ⟨D2, hD2, hG2⟩ := HS.out.own
          have HD2 := Aside0.mk hD2
          have HG2 := Aside0.mk (hG2.put (hD2.isMap) HKL.out)
          clear hD2 hG2
          have HF : Aside0 (x = impl_ExplainBlock.few l1 (d + 1) s p) := ⟨by rw [HX.out]; rfl⟩
          have HN1 : Aside0 ((n - s).toNat = d + 1) := ⟨by have := hsn.out; omega⟩
          have xb := impl_ExplainBlock.part_bd l1 d s p 5
          rw [← HX.out] at xb
          obtain ⟨xb0, xb1⟩ := xb
          go_wp2
          go_still_tail 6, (by kernel_rfl)
          change wpList _ _ _ _ _ wr.drew
          refine wpList_mapUpdate_own _ rfl _ _ _ 50 rfl 67 2 impl_ExplainBlock.law Tryd.underlying50 _ B q' _ rfl HD2.out.drew ?hn _ _ _ rfl rfl HKL.out _ [] (plainElem_int Tryd.underlying2 ?hw) ?_
          case hn => have h1 := HQ.out; have h2 := hcq.out; rw [hq'.out] at h2; unfold maxLen; omega
          case hw => simp [Lit.wf, IntKind.min, IntKind.max, IntKind.bits, IntKind.signed]; omega
          intro w3 hown3 hgrow3
          have HO3 := Aside0.mk hown3
          have HG3 : Aside0 (wr.grownBy w3 (some B)) := ⟨⟨hgrow3.os, hgrow3.tape, hgrow3.output, hgrow3.size, hgrow3.block⟩⟩
          clear hown3 hgrow3
          go_wp2
          go_ret
          refine ⟨by rw [HF.out]; rfl, impl_ExplainBlock.grow_then (impl_ExplainBlock.grow_below ((Below.refl _ _).alloc (Nat.le_refl _) _)) (impl_ExplainBlock.grow_then HGR.out HG3.out), q' + 1, by have h1 := HQ.out; rw [hq'.out]; omega, ?_⟩
          have hb3 : Below w0.heap.size w0 w3 := ⟨HG3.out.os.trans HS.out.below.os, HG3.out.tape.trans HS.out.below.tape, HG3.out.output.trans HS.out.below.output, Nat.le_trans HS.out.below.size HG3.out.size, fun i hi => (HG3.out.block i (Nat.lt_of_lt_of_le hi HS.out.below.size) (by have := HS.out.hB; simp; omega)).trans (HS.out.below.block i hi)⟩
          refine ⟨hb3, HS.out.hg, HS.out.hB, HS.out.ne, ?_, _, HO3.out, ?_⟩
          · rw [HG3.out.block g (Array.getElem?_eq_some_iff.1 HS.out.cells).1 (by have := HS.out.ne; simpa using this)]
            exact HS.out.cells
          · have h1 := HG2.out
            rw [HN1.out, ← HF.out] at h1
            exact h1

theorem impl_ExplainBlock.St.row {w0 w w' : World} {g B : Nat} {n : Int} {A1 : Option Addr} {c1 : Nat} {l1 : List Int} {q : Nat} {v : Value} (h : impl_ExplainBlock.St w0 w g B n A1 c1 l1 q) (hv : ∀ k, v.ownBlock = some k → k ≠ B ∧ k ≠ g) (hg : w.grownBy w' v.ownBlock) (hb : Below w0.heap.size w0 w') : impl_ExplainBlock.St w0 w' g B n A1 c1 l1 q := by
  obtain ⟨D, hD, hG⟩ := h.own
  refine ⟨hb, h.hg, h.hB, h.ne, ?_, D, hD.kept hg (fun e => (hv B e.symm).1 rfl), hG⟩
  rw [hg.block g (Array.getElem?_eq_some_iff.1 h.cells).1 (fun e => (hv g e.symm).2 rfl)]
  exact h.cells
/-! ### the explanation -/
def impl_ExplainBlock.pk (bl : List Int) (d : Nat) (s p lf : Int) : Nat → Nat → Option Nat
  | 0, _ => none
  | r + 1, j => if 0 ≤ impl_ExplainBlock.nx bl s p j ∧ impl_ExplainBlock.few bl d (s + 1) (impl_ExplainBlock.nx bl s p j) + impl_ExplainBlock.t01 j = lf then some j else impl_ExplainBlock.pk bl d s p lf r (j + 1)
def impl_ExplainBlock.bld (bl : List Int) : Nat → Int → Int → Int → List Int
  | 0, _, _, _ => []
  | d + 1, s, p, lf => match impl_ExplainBlock.pk bl d s p lf 5 0 with
    | none => impl_ExplainBlock.bld bl d (s + 1) p lf
    | some j => (j : Int) :: impl_ExplainBlock.bld bl d (s + 1) (impl_ExplainBlock.nx bl s p j) (lf - impl_ExplainBlock.t01 j)
def impl_ExplainBlock.f (k : Nat) (a0 : Int) (l1 : List Int) : Option (List Int × Int) :=
  (impl_isBlock.f k a0 l1).bind fun t => if t = true then (if 1000000000 ≤ impl_ExplainBlock.few l1 a0.toNat 0 0 then some ([], 4) else some (impl_ExplainBlock.bld l1 a0.toNat 0 0 (impl_ExplainBlock.few l1 a0.toNat 0 0), 0)) else some ([], 2)
theorem impl_ExplainBlock.mono : ∀ a0 a1 k, LeO (impl_ExplainBlock.f k a0 a1) (impl_ExplainBlock.f (k + 1) a0 a1) := by
  intro a0 a1 k
  unfold impl_ExplainBlock.f
  exact LeO.bind (impl_isBlock.mono _ _ _) (fun _ => LeO.refl _)
theorem impl_ExplainBlock.block_true {k : Nat} {a0 : Int} {l1 : List Int} (h : impl_isBlock.f k a0 l1 = some true) : 1 ≤ a0 ∧ a0 ≤ 12 ∧ l1.length ≤ 24 ∧ ∀ i, -12 ≤ rd l1 i ∧ rd l1 i ≤ 12 := by
  unfold impl_isBlock.f impl_isLine.f at h
  have hr : ∀ a b c : Int, impl_inRange.f a b c = some (decide (b ≤ a ∧ a ≤ c)) := by
    intro a b c
    unfold impl_inRange.f
    by_cases hh : b ≤ a <;> simp [hh]
  rw [hr, hr] at h
  simp only [Option.bind_some] at h
  by_cases h1 : 1 ≤ a0 ∧ a0 ≤ 12
  · have w1 : wrap64 (2 * a0) = 2 * a0 := by unfold wrap64; omega
    have w2 : wrap64 (-a0) = -a0 := by unfold wrap64; omega
    rw [w1, w2] at h
    simp only [h1, and_self, decide_true, if_true, Int.reduceLE, Option.bind_some, impl_length_int64.f, impl_allIn.f] at h
    by_cases h2 : (l1.length : Int) ≤ 2 * a0
    · rw [if_pos h2] at h
      by_cases h3 : (!(l1.any fun x => !(decide (-a0 ≤ x) && decide (x ≤ a0)))) = true
      · refine ⟨h1.1, h1.2, by omega, fun i => ?_⟩
        simp only [Bool.not_eq_true', List.any_eq_false, Bool.not_eq_true', Bool.not_eq_false', Bool.and_eq_true, decide_eq_true_eq] at h3
        unfold rd
        by_cases hi : i.toNat < l1.length
        · have hm : l1.getD i.toNat 0 ∈ l1 := by
            rw [List.getD_eq_getElem?_getD, List.getElem?_eq_getElem hi]
            exact List.getElem_mem _
          obtain ⟨z, hz⟩ : ∃ z, l1.getD i.toNat 0 = z := ⟨_, rfl⟩
          rw [hz] at hm ⊢
          have := h3 _ hm
          simp at this
          omega
        · rw [List.getD_eq_getElem?_getD, List.getElem?_eq_none (by omega)]
          simp
      · rw [if_neg h3] at h
        simp at h
    · rw [if_neg h2] at h
      simp at h
  · simp [h1] at h
theorem impl_ExplainBlock.St.start {w w1 : World} (n : Int) (A1 : Option Addr) (c1 : Nat) (l1 : List Int) (hb : Below w.heap.size w w1) :
    impl_ExplainBlock.St w ((w1.alloc (.map #[] 0)).alloc (.cells #[.int .i64 n, .slice A1 l1.length c1, .map (some w1.heap.size)] 52)) (w1.heap.size + 1) w1.heap.size n A1 c1 l1 0 := by
  have hs := hb.size
  refine ⟨(hb.alloc hs _).alloc (by simp; omega) _, by omega, hs, by omega, ?_, .map [], (World.ownsMap_made _ _ _ _).alloc _, impl_ExplainBlock.Good.start _ _⟩
  have := (MapKept.heap_alloc (w1.alloc (.map #[] 0)) (.cells #[.int .i64 n, .slice A1 l1.length c1, .map (some w1.heap.size)] 52)).1
  simpa using this

set_option maxHeartbeats 4000000 in
set_option maxRecDepth 100000 in
theorem impl_ExplainBlock.calls (k : Nat) (a0 : Int) (A1 : Option Addr) (c1 : Nat) (l1 : List Int) (r1 : List Int) (r2 : Int) (w : World) (hr1 : Kd.C (Kd.int .i64) w A1 l1.length l1) (hc1 : l1.length ≤ c1) (h : impl_ExplainBlock.f k a0 l1 = some (r1, r2)) :
    Calls Tryd.prog 16 #[.int .i64 a0, .slice A1 l1.length c1] w fun e w' => ∃ v0_ : Value, e = .returned (.tuple #[v0_, .int .i64 r2]) ∧ Kd.R (Kd.int .i64) 2 w' w.heap.size (fun _ => True) v0_ r1 ∧ Below w.heap.size w w' := by
  have HR1 := Aside0.mk hr1
  have HC1 := Aside0.mk hc1
  clear hr1 hc1
  have hmm := @run_makeMap Tryd.prog
  unfold impl_ExplainBlock.f at h
  obtain ⟨t, ht, h⟩ := Option.bind_eq_some_iff.1 h
  have HT := Aside0.mk ht
  cases t with
  | false =>
    rw [if_neg (by decide)] at h
    simp only [Option.some.injEq, Prod.mk.injEq] at h
    obtain ⟨rfl, rfl⟩ := h
    clear ht
    go_enter Tryd.func16, Tryd.ntmps16
    go_wp2_with (go_at_call 31; (with_reducible refine (impl_isBlock.calls k a0 _ _ l1 false _ HR1.out HC1.out HT.out).mono ?_); rintro e w1 ⟨rfl, hb⟩; have HB := Aside0.mk hb; clear hb)
    go_ret2
    exact ⟨_, rfl, Kd.R_nil _ _ _ _ _, HB.out⟩
  | true =>
    rw [if_pos rfl] at h
    obtain ⟨hn1, hn2, hl, hbd⟩ := impl_ExplainBlock.block_true ht
    have HBD := Aside0.mk hbd
    clear hbd ht
    obtain ⟨N, hN⟩ : ∃ N : Nat, a0 = N := ⟨a0.toNat, by omega⟩
    subst hN
    rw [Int.toNat_natCast] at h
    have FB := impl_ExplainBlock.few_bd l1 N 0 0
    have hc : impl_ExplainBlock.cnt N ≤ 10000000000 := by
      have key : ∀ m : Fin 13, impl_ExplainBlock.cnt m.val ≤ 10000000000 := by decide +kernel
      exact key ⟨N, by omega⟩
    have HCN := Aside0.mk hc
    clear hc
    have FW := Aside0.mk (fun (w1 : World) (hb : Below w.heap.size w w1) => impl_ExplainBlock.few_calls w (w1.heap.size + 1) w1.heap.size (N : Int) A1 c1 l1 HR1.out HC1.out hl hn2 HBD.out N 0 0 _ 0 (by omega) (by omega) (by omega) (by omega) (impl_ExplainBlock.St.start (N : Int) A1 c1 l1 hb) (by have := HCN.out; omega))
    obtain ⟨F, hF⟩ : ∃ F, impl_ExplainBlock.few l1 N 0 0 = F := ⟨_, rfl⟩
    rw [hF] at h FB FW
    have HF := Aside0.mk hF
    clear hF
    obtain ⟨FB0, FB1⟩ := FB
    by_cases hgt : 1000000000 ≤ F
    · rw [if_pos hgt] at h
      simp only [Option.some.injEq, Prod.mk.injEq] at h
      obtain ⟨rfl, rfl⟩ := h
      go_enter Tryd.func16, Tryd.ntmps16
      go_wp2_with (first | (go_at_call 31; (with_reducible refine (impl_isBlock.calls k (N : Int) _ _ l1 true _ HR1.out HC1.out HT.out).mono ?_); rintro e w1 ⟨rfl, hb⟩; have HB := Aside0.mk hb; clear hb) | (go_at_call 32; (with_reducible refine (FW.out w1 HB.out).mono ?_); rintro e w2 ⟨rfl, hg2, q2, hq2, hst2⟩; have HS2 := Aside0.mk hst2; clear hg2 hq2 hst2))
      go_ret2
      exact ⟨_, rfl, Kd.R_nil _ _ _ _ _, HS2.out.below⟩
    · rw [if_neg hgt] at h
      simp only [Option.some.injEq, Prod.mk.injEq] at h
      obtain ⟨hr, rfl⟩ := h
      have HR := Aside0.mk hr
      clear hr
      go_enter Tryd.func16, Tryd.ntmps16
      go_wp2_with (first | (go_at_call 31; (with_reducible refine (impl_isBlock.calls k (N : Int) _ _ l1 true _ HR1.out HC1.out HT.out).mono ?_); rintro e w1 ⟨rfl, hb⟩; have HB := Aside0.mk hb; clear hb) | (go_at_call 32; (with_reducible refine (FW.out w1 HB.out).mono ?_); rintro e w2 ⟨rfl, hg2, q2, hq2, hst2⟩; have HS2 := Aside0.mk hst2; have HQ2 := Aside0.mk hq2; clear hg2 hq2 hst2) | ((with_reducible refine gate_dst (N := 26) rfl ?_); refine Kd.R_lit (Kd.int .i64) w.heap.size 2 ?hg (N := 26) ?hd (xs := ([] : List Int)) (inner := []) (ok := fun k_ => k_ ≠ w1.heap.size ∧ k_ ≠ w1.heap.size + 1) (okp := fun _ => False) ?hr ?hp (fun _ hk => hk.elim) ?hf HS2.out.below HS2.out.below.size (by simp) ?_; (case hd => rfl); (case hg => rfl); (case hr => first | (go_simp; done) | (go_simp; rfl)); (case hp => exact (Reps.none _ _)); (case hf => have h1 := HS2.out.lt; have h2 := (Array.getElem?_eq_some_iff.1 HS2.out.cells).1; exact ⟨by omega, by omega⟩); intro v3 w3 ho hb hg_ hnew_; have HO := Aside0.mk ho; have HS3 := Aside0.mk (HS2.out.step ⟨hg_.os, hg_.tape, hg_.output, hg_.size, fun i hi => hg_.block i hi (by simp)⟩); clear ho hb hg_ hnew_))
      go_loopg [7, 8, 9, 28] N (fun gg s7 s8 s9 s28 wr => ∃ (i q : Nat) (lf p : Int) (acc : List Int), i ≤ N ∧ N - i ≤ gg ∧ s7 = .int .i64 lf ∧ s9 = .int .i64 p ∧ s28 = .int .i64 i ∧ Aside0 (-(i : Int) ≤ lf ∧ lf ≤ 1000000000) ∧ Aside0 (0 ≤ p ∧ p ≤ l1.length) ∧ Aside0 (acc.length ≤ i) ∧ Aside0 (acc ++ impl_ExplainBlock.bld l1 (N - i) i p lf = r1) ∧ Aside0 (q ≤ (5 * i + 1) * 10000000000) ∧ Aside0 (Kd.R (Kd.int .i64) 2 wr w.heap.size (fun k_ => k_ ≠ w1.heap.size ∧ k_ ≠ w1.heap.size + 1) s8 acc) ∧ Aside0 (impl_ExplainBlock.St w wr (w1.heap.size + 1) w1.heap.size (N : Int) A1 c1 l1 q))
      case atStart => exact ⟨0, q2, F, 0, [], by omega, by omega, rfl, rfl, rfl, ⟨by omega⟩, ⟨by omega⟩, ⟨by simp⟩, ⟨by have h1 := HR.out; rw [← h1]; rfl⟩, ⟨by have h1 := HQ2.out; have h2 := HCN.out; omega⟩, HO, HS3⟩
      case round =>
        obtain ⟨i, q, lf, p, acc, hiN, hgk, rfl, rfl, rfl, hlf, hp, HL, HBL, HQ, HO4, HS4⟩ := hrel
        obtain ⟨hlf0, hlf1⟩ := hlf.out
        obtain ⟨hp0, hp1⟩ := hp.out
        clear hlf hp HO HS3 HS2 HR HQ2 HF
        by_cases hi : i < N
        · obtain ⟨d, hd⟩ : ∃ d, N - i = d + 1 := ⟨N - i - 1, by omega⟩
          have HD := Aside0.mk hd
          have HBL1 := HBL.out
          rw [hd] at HBL1
          unfold impl_ExplainBlock.bld at HBL1
          have HBL2 := Aside0.mk HBL1
          clear HBL1 HBL hd
          go_wp2
          go_loopg [7, 8, 9, 31] 5 (fun gg s7 s8' s9 s31 wq => ∃ (j q' : Nat), j ≤ 5 ∧ 5 - j ≤ gg ∧ s7 = .int .i64 lf ∧ s8' = u8 ∧ s9 = .int .i64 p ∧ s31 = .int .i64 j ∧ Aside0 (impl_ExplainBlock.pk l1 d i p lf 5 0 = impl_ExplainBlock.pk l1 d i p lf (5 - j) j) ∧ Aside0 (q' ≤ (5 * i + 1 + j) * 10000000000) ∧ Aside0 (Kd.R (Kd.int .i64) 2 wq w.heap.size (fun k_ => k_ ≠ w1.heap.size ∧ k_ ≠ w1.heap.size + 1) u8 acc) ∧ Aside0 (impl_ExplainBlock.St w wq (w1.heap.size + 1) w1.heap.size (N : Int) A1 c1 l1 q'))
          case atStart => exact ⟨0, q, by omega, by omega, rfl, rfl, rfl, rfl, ⟨rfl⟩, ⟨by have h1 := HQ.out; omega⟩, HO4, HS4⟩
          case round =>
            clear HO4 HS4 HQ
            obtain ⟨j, q, hj5, hgj, rfl, rfl, rfl, rfl, HPK, HQ, HO4, HS4⟩ := hrel
            have hND := HD.out
            by_cases hj : j < 5
            · have hiN' : (i : Int) ≤ 12 := by omega
              have HN := Aside0.mk (impl_ExplainBlock.next_calls (w1.heap.size + 1) A1 c1 l1 i p j _ HS4.out.cell1 (Kd.C_below HR1.out HS4.out.below) HC1.out hl ⟨by omega, by omega⟩ ⟨hp0, hp1⟩ ⟨by omega, by omega⟩ HBD.out)
              have NB := impl_ExplainBlock.nx_le l1 i p j hp0
              have PK : Aside0 (impl_ExplainBlock.pk l1 d i p lf 5 0 = if 0 ≤ impl_ExplainBlock.nx l1 i p j ∧ impl_ExplainBlock.few l1 d ((i : Int) + 1) (impl_ExplainBlock.nx l1 i p j) + impl_ExplainBlock.t01 j = lf then some j else impl_ExplainBlock.pk l1 d i p lf (5 - (j + 1)) (j + 1)) := ⟨by
                rw [HPK.out, show 5 - j = (5 - (j + 1)) + 1 by omega]; rfl⟩
              have HEX : Aside0 (∃ E, impl_ExplainBlock.nx l1 i p j = E) := ⟨⟨_, rfl⟩⟩
              obtain ⟨E, hE⟩ := HEX.out
              clear HEX
              have FB := impl_ExplainBlock.few_bd l1 d ((i : Int) + 1) E
              rw [hE] at NB HN PK
              obtain ⟨NB0, NB1, NB2⟩ := NB
              obtain ⟨F5, hF5⟩ : ∃ F5, impl_ExplainBlock.few l1 d ((i : Int) + 1) E = F5 := ⟨_, rfl⟩
              have HEE := Aside0.mk hE
              clear hE
              by_cases hE0 : 0 ≤ E
              · have IH2 : Aside0 (∀ w4, Below _ _ w4 → Calls Tryd.prog 32 #[.pointer (some ⟨w1.heap.size + 1, 0, none⟩), .int .i64 ((i : Int) + 1), .int .i64 E] w4 (impl_ExplainBlock.Post w (w1.heap.size + 1) w1.heap.size (N : Int) A1 c1 l1 F5 (q + impl_ExplainBlock.cnt d) w4)) := ⟨fun w4 hb => by
                  rw [← hF5]
                  exact impl_ExplainBlock.few_calls w (w1.heap.size + 1) w1.heap.size (N : Int) A1 c1 l1 HR1.out HC1.out hl hn2 HBD.out d ((i : Int) + 1) E w4 q (by omega) (by omega) hE0 NB2 (HS4.out.step hb) (by
                    have h1 := HQ.out
                    have h2 : impl_ExplainBlock.cnt d ≤ 10000000000 := by
                      have key : ∀ m : Fin 13, impl_ExplainBlock.cnt m.val ≤ 10000000000 := by decide +kernel
                      exact key ⟨d, by omega⟩
                    omega)⟩
                have hcd : Aside0 (impl_ExplainBlock.cnt d ≤ 10000000000) := ⟨by
                  have key : ∀ m : Fin 13, impl_ExplainBlock.cnt m.val ≤ 10000000000 := by decide +kernel
                  exact key ⟨d, by omega⟩⟩
                rw [hF5] at FB PK
                have HF5 := Aside0.mk hF5
                clear hF5
                obtain ⟨FB5, FB6⟩ := FB
                obtain ⟨bv, hbv⟩ : ∃ bv, decide (0 < j) = bv := ⟨_, rfl⟩
                obtain ⟨tv, htv⟩ : ∃ tv : Int, tv = if bv then 1 else 0 := ⟨_, rfl⟩
                have HTI : Aside0 (impl_toInt.f bv = some tv) := ⟨by rw [htv]; cases bv <;> rfl⟩
                have HT01 : Aside0 (impl_ExplainBlock.t01 j = tv) := ⟨by
                  unfold impl_ExplainBlock.t01
                  rw [htv, ← hbv]
                  by_cases h0 : 0 < j
                  · rw [if_pos (show 0 < (j : Int) by omega)]; simp [h0]
                  · rw [if_neg (show ¬ 0 < (j : Int) by omega)]; simp [h0]⟩
                have tb0 : 0 ≤ tv := by rw [htv]; split <;> omega
                have tb1 : tv ≤ 1 := by rw [htv]; split <;> omega
                clear htv
                rw [HT01.out] at PK
                by_cases heq : F5 + tv = lf
                · have keq : (F5 + tv == lf) = true := by simpa using heq
                  have PK2 : Aside0 (impl_ExplainBlock.pk l1 d i p lf 5 0 = some j) := ⟨by rw [PK.out, if_pos ⟨hE0, heq⟩]⟩
                  have HLF : Aside0 (lf - tv = F5) := ⟨by omega⟩
                  have hlf2 : 0 ≤ lf - tv := by omega
                  have HBL3 : Aside0 ((acc ++ [(j : Int)]) ++ impl_ExplainBlock.bld l1 (N - (i + 1)) ((i + 1 : Nat) : Int) E (lf - tv) = r1) := ⟨by
                    have h1 := HBL2.out
                    rw [PK2.out] at h1
                    simp only at h1
                    rw [HEE.out, HT01.out] at h1
                    rw [← h1, show N - (i + 1) = d by omega]
                    simp⟩
                  clear heq PK HPK
                  go_wp2_with (first | (go_at_call 33; (with_reducible refine HN.out.mono ?_); rintro e w4 ⟨rfl, hb⟩; have HB4 := Aside0.mk hb; clear hb) | (go_at_call 32; (with_reducible refine (IH2.out w4 HB4.out).mono ?_); rintro e w5 ⟨rfl, hg2, q5, hq5, hst5⟩; have HO5 := Aside0.mk (Kd.R_grown (Kd.R_below HO4.out HB4.out) hg2 (fun k_ hk_ e_ => hk_.1 (by injection e_))); have HQ5 := Aside0.mk hq5; have HS5 := Aside0.mk hst5; clear hg2 hq5 hst5) | (go_at_call 34; (with_reducible refine (impl_toInt.calls bv tv _ HTI.out).mono ?_); rintro e w' ⟨rfl, ⟨nd2, rfl⟩⟩) | ((with_reducible refine gate_builtin (b := .append) (xs := #[.tmp 54, .tmp 56]) rfl ?_); at_builtin; refine Kd.R_append (Kd.int .i64) (w0 := w) w.heap.size rfl (.tmp 54) (.tmp 56) 24 2 (.int .i64 0) 8 rfl Tryd.underlying24 info2 rfl (by decide) (by omega) u8 acc (j : Int) [.int .i64 (j : Int)] (fun k_ => k_ ≠ w1.heap.size ∧ k_ ≠ w1.heap.size + 1) (fun _ => False) rfl rfl ?aP (fun _ hk => hk.elim) ?aF ?aO ?aB ?aS ?aL ?_; (case aP => exact rfl); (case aB => exact pw_below_drewN HS5.out.below _); (case aF => have h1 := HS5.out.lt; have h2 := (Array.getElem?_eq_some_iff.1 HS5.out.cells).1; intro k_ hk_; simp at hk_; exact ⟨by omega, by omega⟩); (case aO => exact Kd.R_drewN HO5.out _); (case aS => exact HS5.out.below.size); (case aL => have := HL.out; omega); intro v6 w6 ho6 hb6 hg6 hat6; have HO6 := Aside0.mk ho6; have HS6 := Aside0.mk (impl_ExplainBlock.St.row (HS5.out.step (pw_below_drewN (Below.refl _ _) _)) (HO5.out.1) hg6 hb6); clear ho6 hb6 hg6 hat6))
                  go_roundg (N - (i + 1))
                  case measure => omega
                  case rel => exact ⟨i + 1, q5, lf - tv, E, acc ++ [(j : Int)], by omega, by omega, rfl, rfl, by go_num, ⟨by omega⟩, ⟨hE0, NB2⟩, ⟨by have := HL.out; simp; omega⟩, HBL3, ⟨by have h1 := HQ.out; have h2 := HQ5.out; have h3 := hcd.out; omega⟩, ⟨Kd.R_drewN HO6.out _⟩, ⟨HS6.out.step (pw_below_drewN (Below.refl _ _) _)⟩⟩
                · have keq : (F5 + tv == lf) = false := by simpa using heq
                  have PK2 : Aside0 (impl_ExplainBlock.pk l1 d i p lf 5 0 = impl_ExplainBlock.pk l1 d i p lf (5 - (j + 1)) (j + 1)) := ⟨by rw [PK.out, if_neg (fun h => heq h.2)]⟩
                  clear heq PK HPK
                  go_wp2_with (first | (go_at_call 33; (with_reducible refine HN.out.mono ?_); rintro e w4 ⟨rfl, hb⟩; have HB4 := Aside0.mk hb; clear hb) | (go_at_call 32; (with_reducible refine (IH2.out w4 HB4.out).mono ?_); rintro e w5 ⟨rfl, hg2, q5, hq5, hst5⟩; have HO5 := Aside0.mk (Kd.R_grown (Kd.R_below HO4.out HB4.out) hg2 (fun k_ hk_ e_ => hk_.1 (by injection e_))); have HQ5 := Aside0.mk hq5; have HS5 := Aside0.mk hst5; clear hg2 hq5 hst5) | (go_at_call 34; (with_reducible refine (impl_toInt.calls bv tv _ HTI.out).mono ?_); rintro e w' ⟨rfl, ⟨nd2, rfl⟩⟩))
                  go_roundg (5 - (j + 1))
                  case measure => omega
                  case rel => exact ⟨j + 1, q5, by omega, by omega, rfl, rfl, rfl, by go_num, PK2, ⟨by have h1 := HQ.out; have h2 := HQ5.out; have h3 := hcd.out; omega⟩, ⟨Kd.R_drewN HO5.out _⟩, ⟨HS5.out.step (pw_below_drewN (Below.refl _ _) _)⟩⟩
              · have kE : decide (0 ≤ E) = false := decide_eq_false hE0
                have PK2 : Aside0 (impl_ExplainBlock.pk l1 d i p lf 5 0 = impl_ExplainBlock.pk l1 d i p lf (5 - (j + 1)) (j + 1)) := ⟨by rw [PK.out, if_neg (fun h => hE0 h.1)]⟩
                clear PK HPK hE0 FB hF5
                go_wp2_with (first | (go_at_call 33; (with_reducible refine HN.out.mono ?_); rintro e w4 ⟨rfl, hb⟩; have HB4 := Aside0.mk hb; clear hb))
                go_roundg (5 - (j + 1))
                case measure => omega
                case rel => exact ⟨j + 1, q, by omega, by omega, rfl, rfl, rfl, by go_num, PK2, ⟨Nat.le_trans HQ.out (Nat.mul_le_mul_right _ (by omega))⟩, ⟨Kd.R_below HO4.out HB4.out⟩, ⟨HS4.out.step HB4.out⟩⟩
            · obtain rfl : j = 5 := by omega
              have HBL3 : Aside0 (acc ++ impl_ExplainBlock.bld l1 (N - (i + 1)) ((i + 1 : Nat) : Int) p lf = r1) := ⟨by
                have h1 := HBL2.out
                rw [HPK.out] at h1
                rw [show N - (i + 1) = d by omega]
                exact h1⟩
              go_wp2
              go_roundg (N - (i + 1))
              case measure => omega
              case rel => exact ⟨i + 1, q, lf, p, acc, by omega, by omega, rfl, rfl, by go_num, ⟨by omega⟩, ⟨hp0, hp1⟩, ⟨by have := HL.out; omega⟩, HBL3, ⟨by have h1 := HQ.out; omega⟩, HO4, HS4⟩
        · go_wp2
          go_ret2
          obtain rfl : i = N := by omega
          exact ⟨_, rfl, by have h1 := HBL.out; rw [Nat.sub_self] at h1; unfold impl_ExplainBlock.bld at h1; rw [List.append_nil] at h1; rw [← h1]; exact Kd.R_mono HO4.out (fun _ _ => trivial), HS4.out.below⟩

end Go.Proofs.YtfijcffhkobhbaaDoor.PFnDiagnosed
