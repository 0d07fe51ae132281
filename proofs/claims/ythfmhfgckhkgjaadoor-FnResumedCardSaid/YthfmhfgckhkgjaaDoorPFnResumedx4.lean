-- Laid by wip/mk/mk.py out of the translation. Not trusted: Lean checks it.
import Derived.Test.YthfmhfgckhkgjaaDoorPFnResumedx0
import Derived.Test.YthfmhfgckhkgjaaDoorPFnResumedx3
namespace Go.Proofs.YthfmhfgckhkgjaaDoor.PFnResumed
open Go.RowKit Go.Proofs.YthfmhfgckhkgjaaDoorW.PrintWords Go.Proofs.YthfmhfgckhkgjaaDoorW.PrintLast Go.Proofs.YthfmhfgckhkgjaaDoorW.PrintMore
attribute [local go_sem] max2_int min2_int max_two min_two max_three min_three max_four min_four   -- for this text's walks alone
set_option linter.unusedVariables false
set_option linter.unusedSimpArgs false

/-! ### spec_l29Run: function 22 -/
def spec_l29Run.l0 : Nat → List (S31) → Int → Int → Int → Int → Int → Option (Int × Int × Int × Int × Bool)
 | 0, _, _, _, _, _, _ => none
 | k + 1, x0, x5, x111000, x111001, x111002, x111003 => if x5 < (x0.length : Int) then (if 0 ≤ x5 then ((spec_l29Make.f x111000 x111001 x111002 x111003 ((rd_T31 x0 x5).f0) ((rd_T31 x0 x5).f1)).bind fun bt112 => (if bt112.2.2.2.2 = true then (spec_l29Run.l0 k x0 (wrap64 (x5 + 1)) bt112.1 bt112.2.1 bt112.2.2.1 bt112.2.2.2.1) else (some (0, 0, 0, 0, false)))) else (none)) else (some (x111000, x111001, x111002, x111003, decide ((x0.length : Int) ≤ 200)))
def spec_l29Run.f (k : Nat) (l0 : List (S31)) : Option (Int × Int × Int × Int × Bool) := spec_l29Run.l0 k l0 0 0 0 0 0
theorem spec_l29Run.mono_l : ∀ k, (∀ y0 y1 y2 y3 y4 y5, LeO (spec_l29Run.l0 k y0 y1 y2 y3 y4 y5) (spec_l29Run.l0 (k + 1) y0 y1 y2 y3 y4 y5))
 | 0 => fun _ _ _ _ _ _ r h => by simp [spec_l29Run.l0] at h
 | k + 1 => by
  have ih0 := spec_l29Run.mono_l k
  ·intro y0 y1 y2 y3 y4 y5
   unfold spec_l29Run.l0
   repeat' first | (with_reducible first | exact ih0 _ _ _ _ _ _ | exact LeO.refl _ | exact LeO.none _ | refine LeO.ite ?_ ?_ | refine LeO.bind ?_ (fun _ => ?_)) | exact ih0 _ _ _ _ _ _ | exact LeO.none _ | refine LeO.ite ?_ ?_ | refine LeO.bind ?_ (fun _ => ?_)
theorem spec_l29Run.mono : ∀ a0 k, LeO (spec_l29Run.f k a0) (spec_l29Run.f (k + 1) a0) := by
 intro a0 k
 have ih0 := spec_l29Run.mono_l k
 unfold spec_l29Run.f
 repeat' first | (with_reducible first | exact ih0 _ _ _ _ _ _ | exact LeO.refl _ | exact LeO.none _ | refine LeO.ite ?_ ?_ | refine LeO.bind ?_ (fun _ => ?_)) | exact ih0 _ _ _ _ _ _ | exact LeO.none _ | refine LeO.ite ?_ ?_ | refine LeO.bind ?_ (fun _ => ?_)
def spec_l29Run.T5 : Bool × List (List Nat × List Nat) := (true, [([], []), ([], []), ([], []), ([1, 2], [1, 2]), ([3], [3]), ([0, 4], [0, 4]), ([5], [5]), ([6], [6]), ([6], [6]), ([], []), ([9, 7, 5, 0, 1, 2, 3, 4, 5, 6, 7, 9], [7, 9]), ([8, 10, 0, 1, 2, 3, 4, 5, 6, 7, 8, 9, 10], [8])])
def spec_l29Run.B5 : List Nat := [0, 0, 0, 6, 14, 31, 63, 127, 127, 0, 767, 2047]
theorem spec_l29Run.tab5 : rtab .any (opsOf Tryd.f22 5) = spec_l29Run.T5 := by kernel_rfl
theorem spec_l29Run.bits5 : waitsOk spec_l29Run.T5.2 spec_l29Run.B5 = true := by kernel_rfl
set_option maxHeartbeats 8000000 in
set_option maxRecDepth 100000 in
theorem spec_l29Run.calls (k : Nat) (A0 : Option Addr) (c0 : Nat) (l0 : List (S31)) (r1 : Int) (r2 : Int) (r3 : Int) (r4 : Int) (r5 : Bool) (w : World) (hr0 : Kd.C k31 w A0 l0.length l0) (hc0 : l0.length ≤ c0) (h : spec_l29Run.f k l0 = some (r1, r2, r3, r4, r5)) :
  Calls Tryd.prog 22 #[.slice A0 l0.length c0] w fun e w' => e = .returned (.tuple #[.agg #[.int .i64 r1, .int .i64 r2, .int .i64 r3, .int .i64 r4], .bool r5]) ∧ Below w.heap.size w w' := by
 have hu29 := Tryd.underlying29
 have hu31 := Tryd.underlying31
 have HR0 := Aside0.mk hr0
 have HC0 := Aside0.mk hc0
 clear hr0 hc0
 have HB := am (Below.refl w.heap.size w)
 have H : (spec_l29Run.l0 k l0 0 0 0 0 0) = some (r1, r2, r3, r4, r5) := h
 clear h
 have H' := Aside0.mk H
 clear H
 go_enter Tryd.func22, Tryd.ntmps22
 go_wp2_with (first | ((with_reducible refine gate_dst (N := 2) rfl ?_); refine box_event ?hg (N := 2) ?hd (cs := #[.int .i64 0, .int .i64 0, .int .i64 0, .int .i64 0]) (t := 29) ?hr ?_; (case hd => rfl); (case hg => rfl); (case hr => first | (go_simp; done) | (go_simp; rfl)); intro gb109 hg w2 hbox hb; have n_ := (⟨am (below_step (bl0 HB.out) hb), am (hbox), am ((gw hg (bl0 HB.out) : w.heap.size ≤ gb109)), am ((gw hg (bl0 HB.out) : w.heap.size ≤ gb109))⟩ : _ ∧ _ ∧ _ ∧ _); clear HB; obtain ⟨HB, BK109, GW109, GE109⟩ := n_; clear hb hbox hg) | ((with_reducible refine gate_dst (N := 4) rfl ?_); refine box_event ?hg (N := 4) ?hd (cs := #[.int .i64 0, .int .i64 0, .int .i64 0, .int .i64 0]) (t := 29) ?hr ?_; (case hd => rfl); (case hg => rfl); (case hr => first | (go_simp; done) | (go_simp; rfl)); intro gb110 hg w3 hbox hb; have n_ := (⟨am (blk_below (bf0 BK109.out) hb), am (below_step (bl1 HB.out GE109.out) hb), am (hbox), am ((gw hg (bl1 HB.out GE109.out) : w.heap.size ≤ gb110)), am ((gw hg (bl1 HB.out GE109.out) : w.heap.size ≤ gb110)), am ((nl hg (bf0 BK109.out) : gb109 ≠ gb110)), am ((ng hg (bf0 BK109.out) : gb110 ≠ gb109))⟩ : _ ∧ _ ∧ _ ∧ _ ∧ _ ∧ _ ∧ _); clear BK109 HB; obtain ⟨BK109, HB, BK110, GW110, GE110, NB109_110, NB110_109⟩ := n_; clear hb hbox hg; have hnb4 := NB110_109.out; have hnc4 := NB109_110.out; obtain ⟨hcz5_0, hcz5_1, hcz5_2, hcz5_3, hfz5_0, hfz5_1, hfz5_2, hfz5_3⟩ := cs4 BK110.out))
 go_loopg [5] k (fun kq v5 w' => ∃ (x5_1 : Int) (x110000_1 : Int) (x110001_1 : Int) (x110002_1 : Int) (x110003_1 : Int) (x111000_1 : Int) (x111001_1 : Int) (x111002_1 : Int) (x111003_1 : Int), v5 = .int .i64 x5_1 ∧ Aside0 (spec_l29Run.l0 kq l0 x5_1 x111000_1 x111001_1 x111002_1 x111003_1 = some (r1, r2, r3, r4, r5)) ∧ Aside0 (kq ≤ k) ∧ Aside0 (w'.heap[gb109]? = some (.cells #[.int .i64 x110000_1, .int .i64 x110001_1, .int .i64 x110002_1, .int .i64 x110003_1] 29 (0, 0))) ∧ Aside0 (w'.heap[gb110]? = some (.cells #[.int .i64 x111000_1, .int .i64 x111001_1, .int .i64 x111002_1, .int .i64 x111003_1] 29 (0, 0))) ∧ Aside0 (Below w.heap.size w w'))
 case atStart => exact ⟨(0), (0), (0), (0), (0), (0), (0), (0), (0), (by first | rfl | (simp; done) | (simp [*]; done)), H', ⟨Nat.le_refl _⟩, ⟨bf1 BK109.out NB109_110.out⟩, ⟨by (with_reducible repeat (first | refine blk_drewN ?_ _ | refine blk_drew ?_ | refine blk_alloc ?_ _)); refine blk_put (cs := #[.int .i64 0, .int .i64 0, .int .i64 0, .int .i64 0]) ?_ 3 _ rfl; (with_reducible repeat (first | refine blk_drewN ?_ _ | refine blk_drew ?_ | refine blk_alloc ?_ _)); refine blk_put (cs := #[.int .i64 0, .int .i64 0, .int .i64 0, .int .i64 0]) ?_ 2 _ rfl; (with_reducible repeat (first | refine blk_drewN ?_ _ | refine blk_drew ?_ | refine blk_alloc ?_ _)); refine blk_put (cs := #[.int .i64 0, .int .i64 0, .int .i64 0, .int .i64 0]) ?_ 1 _ rfl; (with_reducible repeat (first | refine blk_drewN ?_ _ | refine blk_drew ?_ | refine blk_alloc ?_ _)); refine blk_put (cs := #[.int .i64 0, .int .i64 0, .int .i64 0, .int .i64 0]) ?_ 0 _ rfl; exact bf0 BK110.out⟩, ⟨bl2 HB.out GE109.out GE110.out⟩⟩
 case round =>
  clear H'
  try clear c2
  try clear p2
  try clear c4
  try clear hcz5_0
  try clear hcz5_1
  try clear hcz5_2
  try clear hcz5_3
  try clear hfz5_0
  try clear hfz5_1
  try clear hfz5_2
  try clear hfz5_3
  obtain ⟨x5_1, x110000_1, x110001_1, x110002_1, x110003_1, x111000_1, x111001_1, x111002_1, x111003_1, rfl, HA, HK1, BK109, BK110, HB⟩ := hrel
  cases gk with
  | zero => exact absurd HA.out (by simp [spec_l29Run.l0])
  | succ k1 =>
   have H := HA.out
   clear HA
   simp only [spec_l29Run.l0] at H
   by_cases c6 : x5_1 < (l0.length : Int)
   ·rw [if_pos c6] at H
    have c6b0 : decide (x5_1 < (l0.length : Int)) = true := decide_eq_true c6
    clear c6
    by_cases c7 : 0 ≤ x5_1
    ·rw [if_pos c7] at H
     have c7b0 : decide (0 ≤ x5_1) = true := decide_eq_true c7
     clear c7
     replace H := Option.bind_eq_some_iff.mp H
     obtain ⟨⟨t112, t113, t114, t115, t116⟩, A80, H⟩ := H
     replace H : (if t116 = true then (spec_l29Run.l0 k1 l0 (wrap64 (x5_1 + 1)) t112 t113 t114 t115) else (some (0, 0, 0, 0, false))) = some (r1, r2, r3, r4, r5) := H
     have A8 := Aside0.mk A80
     clear A80
     by_cases c9 : t116 = true
     ·subst c9
      have H1 : (spec_l29Run.l0 k1 l0 (wrap64 (x5_1 + 1)) t112 t113 t114 t115) = some (r1, r2, r3, r4, r5) := by rw [if_pos rfl] at H; exact H
      clear H
      have H := H1
      clear H1
      have H' := Aside0.mk H
      clear H
      try go_wp2
      have n_ := (⟨am (blk_drew BK109.out), am (blk_drew BK110.out), am (below_drew1 HB.out)⟩ : _ ∧ _ ∧ _)
      clear BK109
      clear BK110
      clear HB
      obtain ⟨BK109, BK110, HB⟩ := n_
      have p111 : 0 ≤ (x5_1 : Int) := of_decide_eq_true (by first | (with_reducible assumption) | assumption)
      have q111 : x5_1 < (l0.length : Int) := of_decide_eq_true (by first | (with_reducible assumption) | assumption)
      obtain ⟨ad111, e111, hx111_0, hx111_1⟩ := at_T31 HR0.out x5_1 p111 q111
      have hw111_1 := hx111_1
      have hw111_0 := hx111_0
      cases e111
      replace hx111_0 := (HB.out.cell (World.block_lt_of_cell? w _ hx111_0)).trans hx111_0
      replace hx111_1 := (HB.out.cell (World.block_lt_of_cell? w _ hx111_1)).trans hx111_1
      replace p111 := eq_true p111
      replace q111 := eq_true q111
      refine start_ (n := 12) (S := fun w' => w'.cell? ⟨gb110, 0, none⟩ = some (.int .i64 x111000_1) ∧ w'.cell? ⟨gb110, 1, none⟩ = some (.int .i64 x111001_1) ∧ w'.cell? ⟨gb110, 2, none⟩ = some (.int .i64 x111002_1) ∧ w'.cell? ⟨gb110, 3, none⟩ = some (.int .i64 x111003_1) ∧ w'.cell? (ad111.add ((x5_1).toNat * 2)) = some (.int .i64 ((rd_T31 l0 x5_1).f0)) ∧ w'.cell? ⟨(ad111.add ((x5_1).toNat * 2)).block, (ad111.add ((x5_1).toNat * 2)).off + 1, none⟩ = some (.int .i64 ((rd_T31 l0 x5_1).f1))) (ds := []) #[false, false, false, false, false, false, false, false, false, false, false, false] (by kernel_rfl) rfl rfl ⟨(blk_cell BK110.out 0).trans rfl, (blk_cell BK110.out 1).trans rfl, (blk_cell BK110.out 2).trans rfl, (blk_cell BK110.out 3).trans rfl, ((HB.out.cell (World.block_lt_of_cell? _ _ hw111_0)).trans hw111_0), ((HB.out.cell (World.block_lt_of_cell? _ _ hw111_1)).trans hw111_1)⟩ (fun hHeld => ?_); refine with_tabW spec_l29Run.tab5 spec_l29Run.bits5 (fun HT_ HW_ => ?_)
      generalize wr.drew = w10 at BK109 BK110 HB hx111_0 hx111_1 hHeld ⊢
      refine pure_ (i := 1) (N := some 17) (v := ?_) (a' := ?_) #[false, true, false, false, false, false, false, false, false, false, false, false] rfl rfl (any_of HT_.out (by kernel_rfl)) (fun _ _ _ h => h) (Or.inl ⟨by rfl, ?_⟩) ?_ ?_
      rotate_left; (focus exact gs); rotate_left; (focus exact pt)
      refine pure_ (i := 2) (N := some 18) (v := ?_) (a' := ?_) #[false, true, true, false, false, false, false, false, false, false, false, false] rfl rfl (any_of HT_.out (by kernel_rfl)) (fun _ _ _ h => h) (Or.inl ⟨by rfl, ?_⟩) ?_ ?_
      rotate_left; (focus exact gs); rotate_left; (focus exact pt)
      refine pure_ (i := 3) (N := some 19) (v := ?_) (a' := ?_) #[false, true, true, true, false, false, false, false, false, false, false, false] rfl rfl (any_of HT_.out (by kernel_rfl)) (fun _ _ _ h => h) (Or.inl ⟨by rfl, ?_⟩) ?_ ?_
      rotate_left; (focus exact gs); rotate_left; (focus exact pt)
      refine take_ (i := 0) (N := some 16) (v := ?_) (a' := ?_) #[true, true, true, true, false, false, false, false, false, false, false, false] rfl rfl (take_ofW HT_.out HW_.out (by kernel_rfl)) (fun _ _ _ h => h) (Or.inl ⟨by rfl, ?_⟩) hHeld ?_ ?_
      rotate_left
      ·rintro w' ⟨s0, s1, s2, s3, s4, s5⟩
       go_simp
       with_reducible rfl
      rotate_left
      ·exact pt
      refine take_ (i := 4) (N := some 20) (v := ?_) (a' := ?_) #[true, true, true, true, true, false, false, false, false, false, false, false] rfl rfl (take_ofW HT_.out HW_.out (by kernel_rfl)) (fun _ _ _ h => h) (Or.inl ⟨by rfl, ?_⟩) hHeld ?_ ?_
      rotate_left
      ·rintro w' ⟨s0, s1, s2, s3, s4, s5⟩
       go_simp
       with_reducible rfl
      rotate_left
      ·exact pt
      refine join_ (σ := Nat) 2 #[true, true, true, true, true, true, true, true, true, true, false, false] (fun s_ => [(21, .tuple #[.agg #[.int .i64 t112, .int .i64 t113, .int .i64 t114, .int .i64 t115], .bool true]), (6, .pointer (some ⟨s_, 0, none⟩)), (15, .tuple #[.agg #[.int .i64 t112, .int .i64 t113, .int .i64 t114, .int .i64 t115], .bool true]), (22, .agg #[.int .i64 t112, .int .i64 t113, .int .i64 t114, .int .i64 t115]), (23, .bool true)]) (fun s_ w' => (w'.cell? ⟨gb110, 0, none⟩ = some (.int .i64 x111000_1) ∧ w'.cell? ⟨gb110, 1, none⟩ = some (.int .i64 x111001_1) ∧ w'.cell? ⟨gb110, 2, none⟩ = some (.int .i64 x111002_1) ∧ w'.cell? ⟨gb110, 3, none⟩ = some (.int .i64 x111003_1) ∧ w'.cell? (ad111.add ((x5_1).toNat * 2)) = some (.int .i64 ((rd_T31 l0 x5_1).f0)) ∧ w'.cell? ⟨(ad111.add ((x5_1).toNat * 2)).block, (ad111.add ((x5_1).toNat * 2)).off + 1, none⟩ = some (.int .i64 ((rd_T31 l0 x5_1).f1))) ∧ (w'.heap[gb109]? = some (.cells #[.int .i64 x110000_1, .int .i64 x110001_1, .int .i64 x110002_1, .int .i64 x110003_1] 29 (0, 0))) ∧ (w'.heap[gb110]? = some (.cells #[.int .i64 x111000_1, .int .i64 x111001_1, .int .i64 x111002_1, .int .i64 x111003_1] 29 (0, 0))) ∧ (w'.heap[s_]? = some (.cells #[.int .i64 0, .int .i64 0, .int .i64 0, .int .i64 0] 29 (0, 0))) ∧ (w.heap.size ≤ s_) ∧ (w.heap.size ≤ s_) ∧ (gb109 ≠ s_) ∧ (s_ ≠ gb109) ∧ (gb110 ≠ s_) ∧ (s_ ≠ gb110) ∧ (Below w.heap.size w w')) ?_ ?_
      rotate_left
      ·intro hCont
       refine two_ (i := 5) (j := 9) (Ni := some 21) (Nj := some 6) #[true, true, true, true, true, true, false, false, false, false, false, false] #[true, true, true, true, true, false, false, false, false, true, false, false] rfl rfl rfl rfl (two_of HT_.out (by kernel_rfl)) (by decide) (by decide) (fun K hK => ?_) (fun K hK => ?_)
       ·skip
        refine goes_ Tryd.func27 (by kernel_rfl) rfl #[.agg #[.int .i64 x111000_1, .int .i64 x111001_1, .int .i64 x111002_1, .int .i64 x111003_1], .agg #[.int .i64 ((rd_T31 l0 x5_1).f0), .int .i64 ((rd_T31 l0 x5_1).f1)]] (by rfl) rfl rfl lnp ?_
        with_reducible refine (spec_l29Make.calls x111000_1 x111001_1 x111002_1 x111003_1 ((rd_T31 l0 x5_1).f0) ((rd_T31 l0 x5_1).f1) t112 t113 t114 t115 true _ A8.out).mono ?_
        rintro e w11 ⟨rfl, hb⟩
        refine ⟨_, rfl, ?_⟩
        have n_ := (⟨am (blk_below (bf0 BK109.out) hb), am (blk_below (bf0 BK110.out) hb), am (below_step (bl2 HB.out GE109.out GE110.out) hb)⟩ : _ ∧ _ ∧ _)
        clear BK109
        clear BK110
        clear HB
        obtain ⟨BK109, BK110, HB⟩ := n_
        (try clear hb)
        (try clear hb2)
        (try clear hk)
        (try clear hi)
        refine hK.out _ _ ⟨(blk_cell BK110.out 0).trans rfl, (blk_cell BK110.out 1).trans rfl, (blk_cell BK110.out 2).trans rfl, (blk_cell BK110.out 3).trans rfl, ((HB.out.cell (World.block_lt_of_cell? _ _ hw111_0)).trans hw111_0), ((HB.out.cell (World.block_lt_of_cell? _ _ hw111_1)).trans hw111_1)⟩ (fun hHeld => ?_)
        clear hK K
        refine norm_ (a' := ?_) ?_ ?_
        rotate_left
        ·show Act.put _ (some 21) _ = _
         simp only [Act.put, List.setIfInBounds_toArray, List.set_cons_zero, List.set_cons_succ, i64_w, i32_w]
         rfl
        refine pure_ (i := 6) (N := some 15) (v := ?_) (a' := ?_) #[true, true, true, true, true, true, true, false, false, false, false, false] rfl rfl (any_of HT_.out (by kernel_rfl)) (fun _ _ _ h => h) (Or.inl ⟨by rfl, ?_⟩) ?_ ?_
        rotate_left; (focus exact gs); rotate_left; (focus exact pt)
        refine pure_ (i := 7) (N := some 22) (v := ?_) (a' := ?_) #[true, true, true, true, true, true, true, true, false, false, false, false] rfl rfl (any_of HT_.out (by kernel_rfl)) (fun _ _ _ h => h) (Or.inl ⟨by rfl, ?_⟩) ?_ ?_
        rotate_left; (focus exact gs); rotate_left; (focus exact pt)
        refine pure_ (i := 8) (N := some 23) (v := ?_) (a' := ?_) #[true, true, true, true, true, true, true, true, true, false, false, false] rfl rfl (any_of HT_.out (by kernel_rfl)) (fun _ _ _ h => h) (Or.inl ⟨by rfl, ?_⟩) ?_ ?_
        rotate_left; (focus exact gs); rotate_left; (focus exact pt)
        refine one_ (i := 9) (N := some 6) #[true, true, true, true, true, true, true, true, true, true, false, false] rfl rfl (one_of HT_.out (by kernel_rfl)) (by decide) (fun K hK => ?_)
        refine box_step ?hg (N := 6) ?hd (cs := #[.int .i64 0, .int .i64 0, .int .i64 0, .int .i64 0]) (t := 29) ?hr ?_; (case hd => rfl); (case hg => rfl); (case hr => first | (go_simp; done) | (go_simp; rfl))
        intro gb117 hg w12 hbox hb
        have n_ := (⟨am (blk_below (bf0 BK109.out) hb), am (blk_below (bf0 BK110.out) hb), am (below_step (bl2 HB.out GE109.out GE110.out) hb), am (hbox), am ((gw hg (bl2 HB.out GE109.out GE110.out) : w.heap.size ≤ gb117)), am ((gw hg (bl2 HB.out GE109.out GE110.out) : w.heap.size ≤ gb117)), am ((nl hg (bf0 BK109.out) : gb109 ≠ gb117)), am ((ng hg (bf0 BK109.out) : gb117 ≠ gb109)), am ((nl hg (bf0 BK110.out) : gb110 ≠ gb117)), am ((ng hg (bf0 BK110.out) : gb117 ≠ gb110))⟩ : _ ∧ _ ∧ _ ∧ _ ∧ _ ∧ _ ∧ _ ∧ _ ∧ _ ∧ _)
        clear BK109
        clear BK110
        clear HB
        obtain ⟨BK109, BK110, HB, BK117, GW117, GE117, NB109_117, NB117_109, NB110_117, NB117_110⟩ := n_
        clear hb hbox hg
        refine hK.out _ _ ⟨(blk_cell BK110.out 0).trans rfl, (blk_cell BK110.out 1).trans rfl, (blk_cell BK110.out 2).trans rfl, (blk_cell BK110.out 3).trans rfl, ((HB.out.cell (World.block_lt_of_cell? _ _ hw111_0)).trans hw111_0), ((HB.out.cell (World.block_lt_of_cell? _ _ hw111_1)).trans hw111_1)⟩ (fun hHeld => ?_)
        clear hK K
        refine norm_ (a' := ?_) ?_ ?_
        rotate_left
        ·show Act.put _ (some 6) _ = _
         simp only [Act.put, List.setIfInBounds_toArray, List.set_cons_zero, List.set_cons_succ, i64_w, i32_w]
         rfl
        exact norm_ (by simp only [putAll, Act.put, List.setIfInBounds_toArray, List.set_cons_zero, List.set_cons_succ]) (hCont (gb117) _ ⟨hHeld, (bf0 BK109.out), (bf0 BK110.out), (bf0 BK117.out), GW117.out, GE117.out, NB109_117.out, NB117_109.out, NB110_117.out, NB117_110.out, (bl3 HB.out GE109.out GE110.out GE117.out)⟩)
       ·skip
        refine box_step ?hg (N := 6) ?hd (cs := #[.int .i64 0, .int .i64 0, .int .i64 0, .int .i64 0]) (t := 29) ?hr ?_; (case hd => rfl); (case hg => rfl); (case hr => first | (go_simp; done) | (go_simp; rfl))
        intro gb117 hg w11 hbox hb
        have n_ := (⟨am (blk_below (bf0 BK109.out) hb), am (blk_below (bf0 BK110.out) hb), am (below_step (bl2 HB.out GE109.out GE110.out) hb), am (hbox), am ((gw hg (bl2 HB.out GE109.out GE110.out) : w.heap.size ≤ gb117)), am ((gw hg (bl2 HB.out GE109.out GE110.out) : w.heap.size ≤ gb117)), am ((nl hg (bf0 BK109.out) : gb109 ≠ gb117)), am ((ng hg (bf0 BK109.out) : gb117 ≠ gb109)), am ((nl hg (bf0 BK110.out) : gb110 ≠ gb117)), am ((ng hg (bf0 BK110.out) : gb117 ≠ gb110))⟩ : _ ∧ _ ∧ _ ∧ _ ∧ _ ∧ _ ∧ _ ∧ _ ∧ _ ∧ _)
        clear BK109
        clear BK110
        clear HB
        obtain ⟨BK109, BK110, HB, BK117, GW117, GE117, NB109_117, NB117_109, NB110_117, NB117_110⟩ := n_
        clear hb hbox hg
        refine hK.out _ _ ⟨(blk_cell BK110.out 0).trans rfl, (blk_cell BK110.out 1).trans rfl, (blk_cell BK110.out 2).trans rfl, (blk_cell BK110.out 3).trans rfl, ((HB.out.cell (World.block_lt_of_cell? _ _ hw111_0)).trans hw111_0), ((HB.out.cell (World.block_lt_of_cell? _ _ hw111_1)).trans hw111_1)⟩ (fun hHeld => ?_)
        clear hK K
        refine norm_ (a' := ?_) ?_ ?_
        rotate_left
        ·show Act.put _ (some 6) _ = _
         simp only [Act.put, List.setIfInBounds_toArray, List.set_cons_zero, List.set_cons_succ, i64_w, i32_w]
         rfl
        refine one_ (i := 5) (N := some 21) #[true, true, true, true, true, true, false, false, false, true, false, false] rfl rfl (one_of HT_.out (by kernel_rfl)) (by decide) (fun K hK => ?_)
        refine goes_ Tryd.func27 (by kernel_rfl) rfl #[.agg #[.int .i64 x111000_1, .int .i64 x111001_1, .int .i64 x111002_1, .int .i64 x111003_1], .agg #[.int .i64 ((rd_T31 l0 x5_1).f0), .int .i64 ((rd_T31 l0 x5_1).f1)]] (by rfl) rfl rfl lnp ?_
        with_reducible refine (spec_l29Make.calls x111000_1 x111001_1 x111002_1 x111003_1 ((rd_T31 l0 x5_1).f0) ((rd_T31 l0 x5_1).f1) t112 t113 t114 t115 true _ A8.out).mono ?_
        rintro e w12 ⟨rfl, hb⟩
        refine ⟨_, rfl, ?_⟩
        have n_ := (⟨am (blk_below (bf0 BK109.out) hb), am (blk_below (bf0 BK110.out) hb), am (blk_below (bf0 BK117.out) hb), am (below_step (bl3 HB.out GE109.out GE110.out GE117.out) hb)⟩ : _ ∧ _ ∧ _ ∧ _)
        clear BK109
        clear BK110
        clear BK117
        clear HB
        obtain ⟨BK109, BK110, BK117, HB⟩ := n_
        (try clear hb)
        (try clear hb2)
        (try clear hk)
        (try clear hi)
        refine hK.out _ _ ⟨(blk_cell BK110.out 0).trans rfl, (blk_cell BK110.out 1).trans rfl, (blk_cell BK110.out 2).trans rfl, (blk_cell BK110.out 3).trans rfl, ((HB.out.cell (World.block_lt_of_cell? _ _ hw111_0)).trans hw111_0), ((HB.out.cell (World.block_lt_of_cell? _ _ hw111_1)).trans hw111_1)⟩ (fun hHeld => ?_)
        clear hK K
        refine norm_ (a' := ?_) ?_ ?_
        rotate_left
        ·show Act.put _ (some 21) _ = _
         simp only [Act.put, List.setIfInBounds_toArray, List.set_cons_zero, List.set_cons_succ, i64_w, i32_w]
         rfl
        refine pure_ (i := 6) (N := some 15) (v := ?_) (a' := ?_) #[true, true, true, true, true, true, true, false, false, true, false, false] rfl rfl (any_of HT_.out (by kernel_rfl)) (fun _ _ _ h => h) (Or.inl ⟨by rfl, ?_⟩) ?_ ?_
        rotate_left; (focus exact gs); rotate_left; (focus exact pt)
        refine pure_ (i := 7) (N := some 22) (v := ?_) (a' := ?_) #[true, true, true, true, true, true, true, true, false, true, false, false] rfl rfl (any_of HT_.out (by kernel_rfl)) (fun _ _ _ h => h) (Or.inl ⟨by rfl, ?_⟩) ?_ ?_
        rotate_left; (focus exact gs); rotate_left; (focus exact pt)
        refine pure_ (i := 8) (N := some 23) (v := ?_) (a' := ?_) #[true, true, true, true, true, true, true, true, true, true, false, false] rfl rfl (any_of HT_.out (by kernel_rfl)) (fun _ _ _ h => h) (Or.inl ⟨by rfl, ?_⟩) ?_ ?_
        rotate_left; (focus exact gs); rotate_left; (focus exact pt)
        exact norm_ (by simp only [putAll, Act.put, List.setIfInBounds_toArray, List.set_cons_zero, List.set_cons_succ]) (hCont (gb117) _ ⟨hHeld, (bf0 BK109.out), (bf0 BK110.out), (bf0 BK117.out), GW117.out, GE117.out, NB109_117.out, NB117_109.out, NB110_117.out, NB117_110.out, (bl3 HB.out GE109.out GE110.out GE117.out)⟩)
      rintro gb117 w13 ⟨hS_, h0_, h1_, h2_, h3_, h4_, h5_, h6_, h7_, h8_, h9_⟩
      have n0_ : Aside0 (w13.heap[gb109]? = some (.cells #[.int .i64 x110000_1, .int .i64 x110001_1, .int .i64 x110002_1, .int .i64 x110003_1] 29 (0, 0))) := ⟨h0_⟩
      have n1_ : Aside0 (w13.heap[gb110]? = some (.cells #[.int .i64 x111000_1, .int .i64 x111001_1, .int .i64 x111002_1, .int .i64 x111003_1] 29 (0, 0))) := ⟨h1_⟩
      have n2_ : Aside0 (w13.heap[gb117]? = some (.cells #[.int .i64 0, .int .i64 0, .int .i64 0, .int .i64 0] 29 (0, 0))) := ⟨h2_⟩
      have n3_ : Aside0 (w.heap.size ≤ gb117) := ⟨h3_⟩
      have n4_ : Aside0 (w.heap.size ≤ gb117) := ⟨h4_⟩
      have n5_ : Aside0 (gb109 ≠ gb117) := ⟨h5_⟩
      have n6_ : Aside0 (gb117 ≠ gb109) := ⟨h6_⟩
      have n7_ : Aside0 (gb110 ≠ gb117) := ⟨h7_⟩
      have n8_ : Aside0 (gb117 ≠ gb110) := ⟨h8_⟩
      have n9_ : Aside0 (Below w.heap.size w w13) := ⟨h9_⟩
      clear BK109
      clear BK110
      clear HB
      clear h0_ h1_ h2_ h3_ h4_ h5_ h6_ h7_ h8_ h9_
      have BK109 := n0_
      have BK110 := n1_
      have BK117 := n2_
      have GW117 := n3_
      have GE117 := n4_
      have NB109_117 := n5_
      have NB117_109 := n6_
      have NB110_117 := n7_
      have NB117_110 := n8_
      have HB := n9_
      clear n0_ n1_ n2_ n3_ n4_ n5_ n6_ n7_ n8_ n9_
      have hHeld : w13.cell? ⟨gb110, 0, none⟩ = some (.int .i64 x111000_1) ∧ w13.cell? ⟨gb110, 1, none⟩ = some (.int .i64 x111001_1) ∧ w13.cell? ⟨gb110, 2, none⟩ = some (.int .i64 x111002_1) ∧ w13.cell? ⟨gb110, 3, none⟩ = some (.int .i64 x111003_1) ∧ w13.cell? (ad111.add ((x5_1).toNat * 2)) = some (.int .i64 ((rd_T31 l0 x5_1).f0)) ∧ w13.cell? ⟨(ad111.add ((x5_1).toNat * 2)).block, (ad111.add ((x5_1).toNat * 2)).off + 1, none⟩ = some (.int .i64 ((rd_T31 l0 x5_1).f1)) := hS_
      refine norm_ (a' := ?_) ?_ ?_
      rotate_left
      ·simp only [putAll, Act.put, List.setIfInBounds_toArray, List.set_cons_zero, List.set_cons_succ]
       rfl
      refine one_ (i := 10) (N := none) #[true, true, true, true, true, true, true, true, true, true, true, false] rfl rfl (one_of HT_.out (by kernel_rfl)) (by decide) (fun K hK => ?_)
      have hs14 := bc BK117.out 0 (.int .i64 0)
      have hfs14 := bz BK117.out 0
      have hns14_0 := NB109_117.out
      have hns14_1 := NB110_117.out
      have hms14_0 := NB117_109.out
      have hms14_1 := NB117_110.out
      have hs15 := bc BK117.out 1 (.int .i64 0)
      have hfs15 := bz BK117.out 1
      have hns15_0 := NB109_117.out
      have hns15_1 := NB110_117.out
      have hms15_0 := NB117_109.out
      have hms15_1 := NB117_110.out
      have hs16 := bc BK117.out 2 (.int .i64 0)
      have hfs16 := bz BK117.out 2
      have hns16_0 := NB109_117.out
      have hns16_1 := NB110_117.out
      have hms16_0 := NB117_109.out
      have hms16_1 := NB117_110.out
      have hs17 := bc BK117.out 3 (.int .i64 0)
      have hfs17 := bz BK117.out 3
      have hns17_0 := NB109_117.out
      have hns17_1 := NB110_117.out
      have hms17_0 := NB117_109.out
      have hms17_1 := NB117_110.out
      refine skip_ (w1 := ?_) (by rfl) rfl ?_ ?_
      rotate_left
      ·go_simp
       rfl
      refine hK.out _ _ ⟨((cell_far (p := ⟨gb117, _, none⟩) NB110_117.out _).trans (((cell_far (p := ⟨gb117, _, none⟩) NB110_117.out _).trans (((cell_far (p := ⟨gb117, _, none⟩) NB110_117.out _).trans (((cell_far (p := ⟨gb117, _, none⟩) NB110_117.out _).trans (hHeld.1)))))))), ((cell_far (p := ⟨gb117, _, none⟩) NB110_117.out _).trans (((cell_far (p := ⟨gb117, _, none⟩) NB110_117.out _).trans (((cell_far (p := ⟨gb117, _, none⟩) NB110_117.out _).trans (((cell_far (p := ⟨gb117, _, none⟩) NB110_117.out _).trans (hHeld.2.1)))))))), ((cell_far (p := ⟨gb117, _, none⟩) NB110_117.out _).trans (((cell_far (p := ⟨gb117, _, none⟩) NB110_117.out _).trans (((cell_far (p := ⟨gb117, _, none⟩) NB110_117.out _).trans (((cell_far (p := ⟨gb117, _, none⟩) NB110_117.out _).trans (hHeld.2.2.1)))))))), ((cell_far (p := ⟨gb117, _, none⟩) NB110_117.out _).trans (((cell_far (p := ⟨gb117, _, none⟩) NB110_117.out _).trans (((cell_far (p := ⟨gb117, _, none⟩) NB110_117.out _).trans (((cell_far (p := ⟨gb117, _, none⟩) NB110_117.out _).trans (hHeld.2.2.2.1)))))))), ((cell_far (p := ⟨gb117, _, none⟩) (by first | exact Nat.ne_of_lt (Nat.lt_of_lt_of_le (by have := World.block_lt_of_cell? _ _ hw111_0; first | rwa [add_block] at this | exact this) GW117.out) | (rw [add_block]; exact Nat.ne_of_lt (Nat.lt_of_lt_of_le (by have := World.block_lt_of_cell? _ _ hw111_0; first | rwa [add_block] at this | exact this) GW117.out)) | (show (Addr.add _ _).block ≠ _; rw [add_block]; exact Nat.ne_of_lt (Nat.lt_of_lt_of_le (by have := World.block_lt_of_cell? _ _ hw111_0; first | rwa [add_block] at this | exact this) GW117.out)) | (dsimp only; exact Nat.ne_of_lt (Nat.lt_of_lt_of_le (by have := World.block_lt_of_cell? _ _ hw111_0; first | rwa [add_block] at this | exact this) GW117.out))) _).trans (((cell_far (p := ⟨gb117, _, none⟩) (by first | exact Nat.ne_of_lt (Nat.lt_of_lt_of_le (by have := World.block_lt_of_cell? _ _ hw111_0; first | rwa [add_block] at this | exact this) GW117.out) | (rw [add_block]; exact Nat.ne_of_lt (Nat.lt_of_lt_of_le (by have := World.block_lt_of_cell? _ _ hw111_0; first | rwa [add_block] at this | exact this) GW117.out)) | (show (Addr.add _ _).block ≠ _; rw [add_block]; exact Nat.ne_of_lt (Nat.lt_of_lt_of_le (by have := World.block_lt_of_cell? _ _ hw111_0; first | rwa [add_block] at this | exact this) GW117.out)) | (dsimp only; exact Nat.ne_of_lt (Nat.lt_of_lt_of_le (by have := World.block_lt_of_cell? _ _ hw111_0; first | rwa [add_block] at this | exact this) GW117.out))) _).trans (((cell_far (p := ⟨gb117, _, none⟩) (by first | exact Nat.ne_of_lt (Nat.lt_of_lt_of_le (by have := World.block_lt_of_cell? _ _ hw111_0; first | rwa [add_block] at this | exact this) GW117.out) | (rw [add_block]; exact Nat.ne_of_lt (Nat.lt_of_lt_of_le (by have := World.block_lt_of_cell? _ _ hw111_0; first | rwa [add_block] at this | exact this) GW117.out)) | (show (Addr.add _ _).block ≠ _; rw [add_block]; exact Nat.ne_of_lt (Nat.lt_of_lt_of_le (by have := World.block_lt_of_cell? _ _ hw111_0; first | rwa [add_block] at this | exact this) GW117.out)) | (dsimp only; exact Nat.ne_of_lt (Nat.lt_of_lt_of_le (by have := World.block_lt_of_cell? _ _ hw111_0; first | rwa [add_block] at this | exact this) GW117.out))) _).trans (((cell_far (p := ⟨gb117, _, none⟩) (by first | exact Nat.ne_of_lt (Nat.lt_of_lt_of_le (by have := World.block_lt_of_cell? _ _ hw111_0; first | rwa [add_block] at this | exact this) GW117.out) | (rw [add_block]; exact Nat.ne_of_lt (Nat.lt_of_lt_of_le (by have := World.block_lt_of_cell? _ _ hw111_0; first | rwa [add_block] at this | exact this) GW117.out)) | (show (Addr.add _ _).block ≠ _; rw [add_block]; exact Nat.ne_of_lt (Nat.lt_of_lt_of_le (by have := World.block_lt_of_cell? _ _ hw111_0; first | rwa [add_block] at this | exact this) GW117.out)) | (dsimp only; exact Nat.ne_of_lt (Nat.lt_of_lt_of_le (by have := World.block_lt_of_cell? _ _ hw111_0; first | rwa [add_block] at this | exact this) GW117.out))) _).trans (hHeld.2.2.2.2.1)))))))), ((cell_far (p := ⟨gb117, _, none⟩) (by first | exact Nat.ne_of_lt (Nat.lt_of_lt_of_le (by have := World.block_lt_of_cell? _ _ hw111_1; first | rwa [add_block] at this | exact this) GW117.out) | (rw [add_block]; exact Nat.ne_of_lt (Nat.lt_of_lt_of_le (by have := World.block_lt_of_cell? _ _ hw111_1; first | rwa [add_block] at this | exact this) GW117.out)) | (show (Addr.add _ _).block ≠ _; rw [add_block]; exact Nat.ne_of_lt (Nat.lt_of_lt_of_le (by have := World.block_lt_of_cell? _ _ hw111_1; first | rwa [add_block] at this | exact this) GW117.out)) | (dsimp only; exact Nat.ne_of_lt (Nat.lt_of_lt_of_le (by have := World.block_lt_of_cell? _ _ hw111_1; first | rwa [add_block] at this | exact this) GW117.out))) _).trans (((cell_far (p := ⟨gb117, _, none⟩) (by first | exact Nat.ne_of_lt (Nat.lt_of_lt_of_le (by have := World.block_lt_of_cell? _ _ hw111_1; first | rwa [add_block] at this | exact this) GW117.out) | (rw [add_block]; exact Nat.ne_of_lt (Nat.lt_of_lt_of_le (by have := World.block_lt_of_cell? _ _ hw111_1; first | rwa [add_block] at this | exact this) GW117.out)) | (show (Addr.add _ _).block ≠ _; rw [add_block]; exact Nat.ne_of_lt (Nat.lt_of_lt_of_le (by have := World.block_lt_of_cell? _ _ hw111_1; first | rwa [add_block] at this | exact this) GW117.out)) | (dsimp only; exact Nat.ne_of_lt (Nat.lt_of_lt_of_le (by have := World.block_lt_of_cell? _ _ hw111_1; first | rwa [add_block] at this | exact this) GW117.out))) _).trans (((cell_far (p := ⟨gb117, _, none⟩) (by first | exact Nat.ne_of_lt (Nat.lt_of_lt_of_le (by have := World.block_lt_of_cell? _ _ hw111_1; first | rwa [add_block] at this | exact this) GW117.out) | (rw [add_block]; exact Nat.ne_of_lt (Nat.lt_of_lt_of_le (by have := World.block_lt_of_cell? _ _ hw111_1; first | rwa [add_block] at this | exact this) GW117.out)) | (show (Addr.add _ _).block ≠ _; rw [add_block]; exact Nat.ne_of_lt (Nat.lt_of_lt_of_le (by have := World.block_lt_of_cell? _ _ hw111_1; first | rwa [add_block] at this | exact this) GW117.out)) | (dsimp only; exact Nat.ne_of_lt (Nat.lt_of_lt_of_le (by have := World.block_lt_of_cell? _ _ hw111_1; first | rwa [add_block] at this | exact this) GW117.out))) _).trans (((cell_far (p := ⟨gb117, _, none⟩) (by first | exact Nat.ne_of_lt (Nat.lt_of_lt_of_le (by have := World.block_lt_of_cell? _ _ hw111_1; first | rwa [add_block] at this | exact this) GW117.out) | (rw [add_block]; exact Nat.ne_of_lt (Nat.lt_of_lt_of_le (by have := World.block_lt_of_cell? _ _ hw111_1; first | rwa [add_block] at this | exact this) GW117.out)) | (show (Addr.add _ _).block ≠ _; rw [add_block]; exact Nat.ne_of_lt (Nat.lt_of_lt_of_le (by have := World.block_lt_of_cell? _ _ hw111_1; first | rwa [add_block] at this | exact this) GW117.out)) | (dsimp only; exact Nat.ne_of_lt (Nat.lt_of_lt_of_le (by have := World.block_lt_of_cell? _ _ hw111_1; first | rwa [add_block] at this | exact this) GW117.out))) _).trans (hHeld.2.2.2.2.2))))))))⟩ (fun hHeld => ?_)
      clear hK K
      refine pure_ (i := 11) (N := some 7) (v := ?_) (a' := ?_) #[true, true, true, true, true, true, true, true, true, true, true, true] rfl rfl (any_of HT_.out (by kernel_rfl)) (fun _ _ _ h => h) (Or.inl ⟨by rfl, ?_⟩) ?_ ?_
      rotate_left; (focus exact gs); rotate_left; (focus exact pt)
      refine done_ (done_of HT_.out (by kernel_rfl)) ?_
      have hnb18 := NB117_109.out
      have hnc18 := NB109_117.out
      have hnb19 := NB117_110.out
      have hnc19 := NB110_117.out
      obtain ⟨hcz20_0, hcz20_1, hcz20_2, hcz20_3, hfz20_0, hfz20_1, hfz20_2, hfz20_3⟩ := cs4 BK117.out
      have hnb21 := NB110_109.out
      have hnc21 := NB109_110.out
      obtain ⟨hcz22_0, hcz22_1, hcz22_2, hcz22_3, hfz22_0, hfz22_1, hfz22_2, hfz22_3⟩ := cs4 BK110.out
      try go_wp2
      go_roundg k1
      case measure => have := HK1.out; omega
      case rel => exact ⟨(wrap64 (x5_1 + 1)), (x110000_1), (x110001_1), (x110002_1), (x110003_1), (t112), (t113), (t114), (t115), (by first | rfl | (simp; done) | (simp [*]; done)), H', ⟨by have := HK1.out; omega⟩, ⟨bf2 BK109.out NB109_110.out NB109_117.out⟩, ⟨by (with_reducible repeat (first | refine blk_drewN ?_ _ | refine blk_drew ?_ | refine blk_alloc ?_ _)); refine blk_put (cs := #[.int .i64 t112, .int .i64 t113, .int .i64 t114, .int .i64 x111003_1]) ?_ 3 _ rfl; (with_reducible repeat (first | refine blk_drewN ?_ _ | refine blk_drew ?_ | refine blk_alloc ?_ _)); refine blk_put (cs := #[.int .i64 t112, .int .i64 t113, .int .i64 x111002_1, .int .i64 x111003_1]) ?_ 2 _ rfl; (with_reducible repeat (first | refine blk_drewN ?_ _ | refine blk_drew ?_ | refine blk_alloc ?_ _)); refine blk_put (cs := #[.int .i64 t112, .int .i64 x111001_1, .int .i64 x111002_1, .int .i64 x111003_1]) ?_ 1 _ rfl; (with_reducible repeat (first | refine blk_drewN ?_ _ | refine blk_drew ?_ | refine blk_alloc ?_ _)); refine blk_put (cs := #[.int .i64 x111000_1, .int .i64 x111001_1, .int .i64 x111002_1, .int .i64 x111003_1]) ?_ 0 _ rfl; exact bf1 BK110.out NB110_117.out⟩, ⟨bl3 HB.out GE109.out GE110.out GE117.out⟩⟩
     ·replace c9 := Bool.eq_false_iff.mpr c9
      subst c9
      have H1 : (some (0, 0, 0, 0, false)) = some (r1, r2, r3, r4, r5) := by rw [if_neg (show ¬ (false = true) by decide)] at H; exact H
      clear H
      have H := H1
      clear H1
      simp only [Option.some.injEq, Prod.mk.injEq] at H
      obtain ⟨rfl, rfl, rfl, rfl, rfl⟩ := H
      try go_wp2
      have n_ := (⟨am (blk_drew BK109.out), am (blk_drew BK110.out), am (below_drew1 HB.out)⟩ : _ ∧ _ ∧ _)
      clear BK109
      clear BK110
      clear HB
      obtain ⟨BK109, BK110, HB⟩ := n_
      have p111 : 0 ≤ (x5_1 : Int) := of_decide_eq_true (by first | (with_reducible assumption) | assumption)
      have q111 : x5_1 < (l0.length : Int) := of_decide_eq_true (by first | (with_reducible assumption) | assumption)
      obtain ⟨ad111, e111, hx111_0, hx111_1⟩ := at_T31 HR0.out x5_1 p111 q111
      have hw111_1 := hx111_1
      have hw111_0 := hx111_0
      cases e111
      replace hx111_0 := (HB.out.cell (World.block_lt_of_cell? w _ hx111_0)).trans hx111_0
      replace hx111_1 := (HB.out.cell (World.block_lt_of_cell? w _ hx111_1)).trans hx111_1
      replace p111 := eq_true p111
      replace q111 := eq_true q111
      refine start_ (n := 12) (S := fun w' => w'.cell? ⟨gb110, 0, none⟩ = some (.int .i64 x111000_1) ∧ w'.cell? ⟨gb110, 1, none⟩ = some (.int .i64 x111001_1) ∧ w'.cell? ⟨gb110, 2, none⟩ = some (.int .i64 x111002_1) ∧ w'.cell? ⟨gb110, 3, none⟩ = some (.int .i64 x111003_1) ∧ w'.cell? (ad111.add ((x5_1).toNat * 2)) = some (.int .i64 ((rd_T31 l0 x5_1).f0)) ∧ w'.cell? ⟨(ad111.add ((x5_1).toNat * 2)).block, (ad111.add ((x5_1).toNat * 2)).off + 1, none⟩ = some (.int .i64 ((rd_T31 l0 x5_1).f1))) (ds := []) #[false, false, false, false, false, false, false, false, false, false, false, false] (by kernel_rfl) rfl rfl ⟨(blk_cell BK110.out 0).trans rfl, (blk_cell BK110.out 1).trans rfl, (blk_cell BK110.out 2).trans rfl, (blk_cell BK110.out 3).trans rfl, ((HB.out.cell (World.block_lt_of_cell? _ _ hw111_0)).trans hw111_0), ((HB.out.cell (World.block_lt_of_cell? _ _ hw111_1)).trans hw111_1)⟩ (fun hHeld => ?_); refine with_tabW spec_l29Run.tab5 spec_l29Run.bits5 (fun HT_ HW_ => ?_)
      generalize wr.drew = w23 at BK109 BK110 HB hx111_0 hx111_1 hHeld ⊢
      refine pure_ (i := 1) (N := some 17) (v := ?_) (a' := ?_) #[false, true, false, false, false, false, false, false, false, false, false, false] rfl rfl (any_of HT_.out (by kernel_rfl)) (fun _ _ _ h => h) (Or.inl ⟨by rfl, ?_⟩) ?_ ?_
      rotate_left; (focus exact gs); rotate_left; (focus exact pt)
      refine pure_ (i := 2) (N := some 18) (v := ?_) (a' := ?_) #[false, true, true, false, false, false, false, false, false, false, false, false] rfl rfl (any_of HT_.out (by kernel_rfl)) (fun _ _ _ h => h) (Or.inl ⟨by rfl, ?_⟩) ?_ ?_
      rotate_left; (focus exact gs); rotate_left; (focus exact pt)
      refine pure_ (i := 3) (N := some 19) (v := ?_) (a' := ?_) #[false, true, true, true, false, false, false, false, false, false, false, false] rfl rfl (any_of HT_.out (by kernel_rfl)) (fun _ _ _ h => h) (Or.inl ⟨by rfl, ?_⟩) ?_ ?_
      rotate_left; (focus exact gs); rotate_left; (focus exact pt)
      refine take_ (i := 0) (N := some 16) (v := ?_) (a' := ?_) #[true, true, true, true, false, false, false, false, false, false, false, false] rfl rfl (take_ofW HT_.out HW_.out (by kernel_rfl)) (fun _ _ _ h => h) (Or.inl ⟨by rfl, ?_⟩) hHeld ?_ ?_
      rotate_left
      ·rintro w' ⟨s0, s1, s2, s3, s4, s5⟩
       go_simp
       with_reducible rfl
      rotate_left
      ·exact pt
      refine take_ (i := 4) (N := some 20) (v := ?_) (a' := ?_) #[true, true, true, true, true, false, false, false, false, false, false, false] rfl rfl (take_ofW HT_.out HW_.out (by kernel_rfl)) (fun _ _ _ h => h) (Or.inl ⟨by rfl, ?_⟩) hHeld ?_ ?_
      rotate_left
      ·rintro w' ⟨s0, s1, s2, s3, s4, s5⟩
       go_simp
       with_reducible rfl
      rotate_left
      ·exact pt
      refine join_ (σ := Nat) 2 #[true, true, true, true, true, true, true, true, true, true, false, false] (fun s_ => [(21, .tuple #[.agg #[.int .i64 t112, .int .i64 t113, .int .i64 t114, .int .i64 t115], .bool false]), (6, .pointer (some ⟨s_, 0, none⟩)), (15, .tuple #[.agg #[.int .i64 t112, .int .i64 t113, .int .i64 t114, .int .i64 t115], .bool false]), (22, .agg #[.int .i64 t112, .int .i64 t113, .int .i64 t114, .int .i64 t115]), (23, .bool false)]) (fun s_ w' => (w'.cell? ⟨gb110, 0, none⟩ = some (.int .i64 x111000_1) ∧ w'.cell? ⟨gb110, 1, none⟩ = some (.int .i64 x111001_1) ∧ w'.cell? ⟨gb110, 2, none⟩ = some (.int .i64 x111002_1) ∧ w'.cell? ⟨gb110, 3, none⟩ = some (.int .i64 x111003_1) ∧ w'.cell? (ad111.add ((x5_1).toNat * 2)) = some (.int .i64 ((rd_T31 l0 x5_1).f0)) ∧ w'.cell? ⟨(ad111.add ((x5_1).toNat * 2)).block, (ad111.add ((x5_1).toNat * 2)).off + 1, none⟩ = some (.int .i64 ((rd_T31 l0 x5_1).f1))) ∧ (w'.heap[gb109]? = some (.cells #[.int .i64 x110000_1, .int .i64 x110001_1, .int .i64 x110002_1, .int .i64 x110003_1] 29 (0, 0))) ∧ (w'.heap[gb110]? = some (.cells #[.int .i64 x111000_1, .int .i64 x111001_1, .int .i64 x111002_1, .int .i64 x111003_1] 29 (0, 0))) ∧ (w'.heap[s_]? = some (.cells #[.int .i64 0, .int .i64 0, .int .i64 0, .int .i64 0] 29 (0, 0))) ∧ (w.heap.size ≤ s_) ∧ (w.heap.size ≤ s_) ∧ (gb109 ≠ s_) ∧ (s_ ≠ gb109) ∧ (gb110 ≠ s_) ∧ (s_ ≠ gb110) ∧ (Below w.heap.size w w')) ?_ ?_
      rotate_left
      ·intro hCont
       refine two_ (i := 5) (j := 9) (Ni := some 21) (Nj := some 6) #[true, true, true, true, true, true, false, false, false, false, false, false] #[true, true, true, true, true, false, false, false, false, true, false, false] rfl rfl rfl rfl (two_of HT_.out (by kernel_rfl)) (by decide) (by decide) (fun K hK => ?_) (fun K hK => ?_)
       ·skip
        refine goes_ Tryd.func27 (by kernel_rfl) rfl #[.agg #[.int .i64 x111000_1, .int .i64 x111001_1, .int .i64 x111002_1, .int .i64 x111003_1], .agg #[.int .i64 ((rd_T31 l0 x5_1).f0), .int .i64 ((rd_T31 l0 x5_1).f1)]] (by rfl) rfl rfl lnp ?_
        with_reducible refine (spec_l29Make.calls x111000_1 x111001_1 x111002_1 x111003_1 ((rd_T31 l0 x5_1).f0) ((rd_T31 l0 x5_1).f1) t112 t113 t114 t115 false _ A8.out).mono ?_
        rintro e w24 ⟨rfl, hb⟩
        refine ⟨_, rfl, ?_⟩
        have n_ := (⟨am (blk_below (bf0 BK109.out) hb), am (blk_below (bf0 BK110.out) hb), am (below_step (bl2 HB.out GE109.out GE110.out) hb)⟩ : _ ∧ _ ∧ _)
        clear BK109
        clear BK110
        clear HB
        obtain ⟨BK109, BK110, HB⟩ := n_
        (try clear hb)
        (try clear hb2)
        (try clear hk)
        (try clear hi)
        refine hK.out _ _ ⟨(blk_cell BK110.out 0).trans rfl, (blk_cell BK110.out 1).trans rfl, (blk_cell BK110.out 2).trans rfl, (blk_cell BK110.out 3).trans rfl, ((HB.out.cell (World.block_lt_of_cell? _ _ hw111_0)).trans hw111_0), ((HB.out.cell (World.block_lt_of_cell? _ _ hw111_1)).trans hw111_1)⟩ (fun hHeld => ?_)
        clear hK K
        refine norm_ (a' := ?_) ?_ ?_
        rotate_left
        ·show Act.put _ (some 21) _ = _
         simp only [Act.put, List.setIfInBounds_toArray, List.set_cons_zero, List.set_cons_succ, i64_w, i32_w]
         rfl
        refine pure_ (i := 6) (N := some 15) (v := ?_) (a' := ?_) #[true, true, true, true, true, true, true, false, false, false, false, false] rfl rfl (any_of HT_.out (by kernel_rfl)) (fun _ _ _ h => h) (Or.inl ⟨by rfl, ?_⟩) ?_ ?_
        rotate_left; (focus exact gs); rotate_left; (focus exact pt)
        refine pure_ (i := 7) (N := some 22) (v := ?_) (a' := ?_) #[true, true, true, true, true, true, true, true, false, false, false, false] rfl rfl (any_of HT_.out (by kernel_rfl)) (fun _ _ _ h => h) (Or.inl ⟨by rfl, ?_⟩) ?_ ?_
        rotate_left; (focus exact gs); rotate_left; (focus exact pt)
        refine pure_ (i := 8) (N := some 23) (v := ?_) (a' := ?_) #[true, true, true, true, true, true, true, true, true, false, false, false] rfl rfl (any_of HT_.out (by kernel_rfl)) (fun _ _ _ h => h) (Or.inl ⟨by rfl, ?_⟩) ?_ ?_
        rotate_left; (focus exact gs); rotate_left; (focus exact pt)
        refine one_ (i := 9) (N := some 6) #[true, true, true, true, true, true, true, true, true, true, false, false] rfl rfl (one_of HT_.out (by kernel_rfl)) (by decide) (fun K hK => ?_)
        refine box_step ?hg (N := 6) ?hd (cs := #[.int .i64 0, .int .i64 0, .int .i64 0, .int .i64 0]) (t := 29) ?hr ?_; (case hd => rfl); (case hg => rfl); (case hr => first | (go_simp; done) | (go_simp; rfl))
        intro gb117 hg w25 hbox hb
        have n_ := (⟨am (blk_below (bf0 BK109.out) hb), am (blk_below (bf0 BK110.out) hb), am (below_step (bl2 HB.out GE109.out GE110.out) hb), am (hbox), am ((gw hg (bl2 HB.out GE109.out GE110.out) : w.heap.size ≤ gb117)), am ((gw hg (bl2 HB.out GE109.out GE110.out) : w.heap.size ≤ gb117)), am ((nl hg (bf0 BK109.out) : gb109 ≠ gb117)), am ((ng hg (bf0 BK109.out) : gb117 ≠ gb109)), am ((nl hg (bf0 BK110.out) : gb110 ≠ gb117)), am ((ng hg (bf0 BK110.out) : gb117 ≠ gb110))⟩ : _ ∧ _ ∧ _ ∧ _ ∧ _ ∧ _ ∧ _ ∧ _ ∧ _ ∧ _)
        clear BK109
        clear BK110
        clear HB
        obtain ⟨BK109, BK110, HB, BK117, GW117, GE117, NB109_117, NB117_109, NB110_117, NB117_110⟩ := n_
        clear hb hbox hg
        refine hK.out _ _ ⟨(blk_cell BK110.out 0).trans rfl, (blk_cell BK110.out 1).trans rfl, (blk_cell BK110.out 2).trans rfl, (blk_cell BK110.out 3).trans rfl, ((HB.out.cell (World.block_lt_of_cell? _ _ hw111_0)).trans hw111_0), ((HB.out.cell (World.block_lt_of_cell? _ _ hw111_1)).trans hw111_1)⟩ (fun hHeld => ?_)
        clear hK K
        refine norm_ (a' := ?_) ?_ ?_
        rotate_left
        ·show Act.put _ (some 6) _ = _
         simp only [Act.put, List.setIfInBounds_toArray, List.set_cons_zero, List.set_cons_succ, i64_w, i32_w]
         rfl
        exact norm_ (by simp only [putAll, Act.put, List.setIfInBounds_toArray, List.set_cons_zero, List.set_cons_succ]) (hCont (gb117) _ ⟨hHeld, (bf0 BK109.out), (bf0 BK110.out), (bf0 BK117.out), GW117.out, GE117.out, NB109_117.out, NB117_109.out, NB110_117.out, NB117_110.out, (bl3 HB.out GE109.out GE110.out GE117.out)⟩)
       ·skip
        refine box_step ?hg (N := 6) ?hd (cs := #[.int .i64 0, .int .i64 0, .int .i64 0, .int .i64 0]) (t := 29) ?hr ?_; (case hd => rfl); (case hg => rfl); (case hr => first | (go_simp; done) | (go_simp; rfl))
        intro gb117 hg w24 hbox hb
        have n_ := (⟨am (blk_below (bf0 BK109.out) hb), am (blk_below (bf0 BK110.out) hb), am (below_step (bl2 HB.out GE109.out GE110.out) hb), am (hbox), am ((gw hg (bl2 HB.out GE109.out GE110.out) : w.heap.size ≤ gb117)), am ((gw hg (bl2 HB.out GE109.out GE110.out) : w.heap.size ≤ gb117)), am ((nl hg (bf0 BK109.out) : gb109 ≠ gb117)), am ((ng hg (bf0 BK109.out) : gb117 ≠ gb109)), am ((nl hg (bf0 BK110.out) : gb110 ≠ gb117)), am ((ng hg (bf0 BK110.out) : gb117 ≠ gb110))⟩ : _ ∧ _ ∧ _ ∧ _ ∧ _ ∧ _ ∧ _ ∧ _ ∧ _ ∧ _)
        clear BK109
        clear BK110
        clear HB
        obtain ⟨BK109, BK110, HB, BK117, GW117, GE117, NB109_117, NB117_109, NB110_117, NB117_110⟩ := n_
        clear hb hbox hg
        refine hK.out _ _ ⟨(blk_cell BK110.out 0).trans rfl, (blk_cell BK110.out 1).trans rfl, (blk_cell BK110.out 2).trans rfl, (blk_cell BK110.out 3).trans rfl, ((HB.out.cell (World.block_lt_of_cell? _ _ hw111_0)).trans hw111_0), ((HB.out.cell (World.block_lt_of_cell? _ _ hw111_1)).trans hw111_1)⟩ (fun hHeld => ?_)
        clear hK K
        refine norm_ (a' := ?_) ?_ ?_
        rotate_left
        ·show Act.put _ (some 6) _ = _
         simp only [Act.put, List.setIfInBounds_toArray, List.set_cons_zero, List.set_cons_succ, i64_w, i32_w]
         rfl
        refine one_ (i := 5) (N := some 21) #[true, true, true, true, true, true, false, false, false, true, false, false] rfl rfl (one_of HT_.out (by kernel_rfl)) (by decide) (fun K hK => ?_)
        refine goes_ Tryd.func27 (by kernel_rfl) rfl #[.agg #[.int .i64 x111000_1, .int .i64 x111001_1, .int .i64 x111002_1, .int .i64 x111003_1], .agg #[.int .i64 ((rd_T31 l0 x5_1).f0), .int .i64 ((rd_T31 l0 x5_1).f1)]] (by rfl) rfl rfl lnp ?_
        with_reducible refine (spec_l29Make.calls x111000_1 x111001_1 x111002_1 x111003_1 ((rd_T31 l0 x5_1).f0) ((rd_T31 l0 x5_1).f1) t112 t113 t114 t115 false _ A8.out).mono ?_
        rintro e w25 ⟨rfl, hb⟩
        refine ⟨_, rfl, ?_⟩
        have n_ := (⟨am (blk_below (bf0 BK109.out) hb), am (blk_below (bf0 BK110.out) hb), am (blk_below (bf0 BK117.out) hb), am (below_step (bl3 HB.out GE109.out GE110.out GE117.out) hb)⟩ : _ ∧ _ ∧ _ ∧ _)
        clear BK109
        clear BK110
        clear BK117
        clear HB
        obtain ⟨BK109, BK110, BK117, HB⟩ := n_
        (try clear hb)
        (try clear hb2)
        (try clear hk)
        (try clear hi)
        refine hK.out _ _ ⟨(blk_cell BK110.out 0).trans rfl, (blk_cell BK110.out 1).trans rfl, (blk_cell BK110.out 2).trans rfl, (blk_cell BK110.out 3).trans rfl, ((HB.out.cell (World.block_lt_of_cell? _ _ hw111_0)).trans hw111_0), ((HB.out.cell (World.block_lt_of_cell? _ _ hw111_1)).trans hw111_1)⟩ (fun hHeld => ?_)
        clear hK K
        refine norm_ (a' := ?_) ?_ ?_
        rotate_left
        ·show Act.put _ (some 21) _ = _
         simp only [Act.put, List.setIfInBounds_toArray, List.set_cons_zero, List.set_cons_succ, i64_w, i32_w]
         rfl
        refine pure_ (i := 6) (N := some 15) (v := ?_) (a' := ?_) #[true, true, true, true, true, true, true, false, false, true, false, false] rfl rfl (any_of HT_.out (by kernel_rfl)) (fun _ _ _ h => h) (Or.inl ⟨by rfl, ?_⟩) ?_ ?_
        rotate_left; (focus exact gs); rotate_left; (focus exact pt)
        refine pure_ (i := 7) (N := some 22) (v := ?_) (a' := ?_) #[true, true, true, true, true, true, true, true, false, true, false, false] rfl rfl (any_of HT_.out (by kernel_rfl)) (fun _ _ _ h => h) (Or.inl ⟨by rfl, ?_⟩) ?_ ?_
        rotate_left; (focus exact gs); rotate_left; (focus exact pt)
        refine pure_ (i := 8) (N := some 23) (v := ?_) (a' := ?_) #[true, true, true, true, true, true, true, true, true, true, false, false] rfl rfl (any_of HT_.out (by kernel_rfl)) (fun _ _ _ h => h) (Or.inl ⟨by rfl, ?_⟩) ?_ ?_
        rotate_left; (focus exact gs); rotate_left; (focus exact pt)
        exact norm_ (by simp only [putAll, Act.put, List.setIfInBounds_toArray, List.set_cons_zero, List.set_cons_succ]) (hCont (gb117) _ ⟨hHeld, (bf0 BK109.out), (bf0 BK110.out), (bf0 BK117.out), GW117.out, GE117.out, NB109_117.out, NB117_109.out, NB110_117.out, NB117_110.out, (bl3 HB.out GE109.out GE110.out GE117.out)⟩)
      rintro gb117 w26 ⟨hS_, h0_, h1_, h2_, h3_, h4_, h5_, h6_, h7_, h8_, h9_⟩
      have n0_ : Aside0 (w26.heap[gb109]? = some (.cells #[.int .i64 x110000_1, .int .i64 x110001_1, .int .i64 x110002_1, .int .i64 x110003_1] 29 (0, 0))) := ⟨h0_⟩
      have n1_ : Aside0 (w26.heap[gb110]? = some (.cells #[.int .i64 x111000_1, .int .i64 x111001_1, .int .i64 x111002_1, .int .i64 x111003_1] 29 (0, 0))) := ⟨h1_⟩
      have n2_ : Aside0 (w26.heap[gb117]? = some (.cells #[.int .i64 0, .int .i64 0, .int .i64 0, .int .i64 0] 29 (0, 0))) := ⟨h2_⟩
      have n3_ : Aside0 (w.heap.size ≤ gb117) := ⟨h3_⟩
      have n4_ : Aside0 (w.heap.size ≤ gb117) := ⟨h4_⟩
      have n5_ : Aside0 (gb109 ≠ gb117) := ⟨h5_⟩
      have n6_ : Aside0 (gb117 ≠ gb109) := ⟨h6_⟩
      have n7_ : Aside0 (gb110 ≠ gb117) := ⟨h7_⟩
      have n8_ : Aside0 (gb117 ≠ gb110) := ⟨h8_⟩
      have n9_ : Aside0 (Below w.heap.size w w26) := ⟨h9_⟩
      clear BK109
      clear BK110
      clear HB
      clear h0_ h1_ h2_ h3_ h4_ h5_ h6_ h7_ h8_ h9_
      have BK109 := n0_
      have BK110 := n1_
      have BK117 := n2_
      have GW117 := n3_
      have GE117 := n4_
      have NB109_117 := n5_
      have NB117_109 := n6_
      have NB110_117 := n7_
      have NB117_110 := n8_
      have HB := n9_
      clear n0_ n1_ n2_ n3_ n4_ n5_ n6_ n7_ n8_ n9_
      have hHeld : w26.cell? ⟨gb110, 0, none⟩ = some (.int .i64 x111000_1) ∧ w26.cell? ⟨gb110, 1, none⟩ = some (.int .i64 x111001_1) ∧ w26.cell? ⟨gb110, 2, none⟩ = some (.int .i64 x111002_1) ∧ w26.cell? ⟨gb110, 3, none⟩ = some (.int .i64 x111003_1) ∧ w26.cell? (ad111.add ((x5_1).toNat * 2)) = some (.int .i64 ((rd_T31 l0 x5_1).f0)) ∧ w26.cell? ⟨(ad111.add ((x5_1).toNat * 2)).block, (ad111.add ((x5_1).toNat * 2)).off + 1, none⟩ = some (.int .i64 ((rd_T31 l0 x5_1).f1)) := hS_
      refine norm_ (a' := ?_) ?_ ?_
      rotate_left
      ·simp only [putAll, Act.put, List.setIfInBounds_toArray, List.set_cons_zero, List.set_cons_succ]
       rfl
      refine one_ (i := 10) (N := none) #[true, true, true, true, true, true, true, true, true, true, true, false] rfl rfl (one_of HT_.out (by kernel_rfl)) (by decide) (fun K hK => ?_)
      have hs27 := bc BK117.out 0 (.int .i64 0)
      have hfs27 := bz BK117.out 0
      have hns27_0 := NB109_117.out
      have hns27_1 := NB110_117.out
      have hms27_0 := NB117_109.out
      have hms27_1 := NB117_110.out
      have hs28 := bc BK117.out 1 (.int .i64 0)
      have hfs28 := bz BK117.out 1
      have hns28_0 := NB109_117.out
      have hns28_1 := NB110_117.out
      have hms28_0 := NB117_109.out
      have hms28_1 := NB117_110.out
      have hs29 := bc BK117.out 2 (.int .i64 0)
      have hfs29 := bz BK117.out 2
      have hns29_0 := NB109_117.out
      have hns29_1 := NB110_117.out
      have hms29_0 := NB117_109.out
      have hms29_1 := NB117_110.out
      have hs30 := bc BK117.out 3 (.int .i64 0)
      have hfs30 := bz BK117.out 3
      have hns30_0 := NB109_117.out
      have hns30_1 := NB110_117.out
      have hms30_0 := NB117_109.out
      have hms30_1 := NB117_110.out
      refine skip_ (w1 := ?_) (by rfl) rfl ?_ ?_
      rotate_left
      ·go_simp
       rfl
      refine hK.out _ _ ⟨((cell_far (p := ⟨gb117, _, none⟩) NB110_117.out _).trans (((cell_far (p := ⟨gb117, _, none⟩) NB110_117.out _).trans (((cell_far (p := ⟨gb117, _, none⟩) NB110_117.out _).trans (((cell_far (p := ⟨gb117, _, none⟩) NB110_117.out _).trans (hHeld.1)))))))), ((cell_far (p := ⟨gb117, _, none⟩) NB110_117.out _).trans (((cell_far (p := ⟨gb117, _, none⟩) NB110_117.out _).trans (((cell_far (p := ⟨gb117, _, none⟩) NB110_117.out _).trans (((cell_far (p := ⟨gb117, _, none⟩) NB110_117.out _).trans (hHeld.2.1)))))))), ((cell_far (p := ⟨gb117, _, none⟩) NB110_117.out _).trans (((cell_far (p := ⟨gb117, _, none⟩) NB110_117.out _).trans (((cell_far (p := ⟨gb117, _, none⟩) NB110_117.out _).trans (((cell_far (p := ⟨gb117, _, none⟩) NB110_117.out _).trans (hHeld.2.2.1)))))))), ((cell_far (p := ⟨gb117, _, none⟩) NB110_117.out _).trans (((cell_far (p := ⟨gb117, _, none⟩) NB110_117.out _).trans (((cell_far (p := ⟨gb117, _, none⟩) NB110_117.out _).trans (((cell_far (p := ⟨gb117, _, none⟩) NB110_117.out _).trans (hHeld.2.2.2.1)))))))), ((cell_far (p := ⟨gb117, _, none⟩) (by first | exact Nat.ne_of_lt (Nat.lt_of_lt_of_le (by have := World.block_lt_of_cell? _ _ hw111_0; first | rwa [add_block] at this | exact this) GW117.out) | (rw [add_block]; exact Nat.ne_of_lt (Nat.lt_of_lt_of_le (by have := World.block_lt_of_cell? _ _ hw111_0; first | rwa [add_block] at this | exact this) GW117.out)) | (show (Addr.add _ _).block ≠ _; rw [add_block]; exact Nat.ne_of_lt (Nat.lt_of_lt_of_le (by have := World.block_lt_of_cell? _ _ hw111_0; first | rwa [add_block] at this | exact this) GW117.out)) | (dsimp only; exact Nat.ne_of_lt (Nat.lt_of_lt_of_le (by have := World.block_lt_of_cell? _ _ hw111_0; first | rwa [add_block] at this | exact this) GW117.out))) _).trans (((cell_far (p := ⟨gb117, _, none⟩) (by first | exact Nat.ne_of_lt (Nat.lt_of_lt_of_le (by have := World.block_lt_of_cell? _ _ hw111_0; first | rwa [add_block] at this | exact this) GW117.out) | (rw [add_block]; exact Nat.ne_of_lt (Nat.lt_of_lt_of_le (by have := World.block_lt_of_cell? _ _ hw111_0; first | rwa [add_block] at this | exact this) GW117.out)) | (show (Addr.add _ _).block ≠ _; rw [add_block]; exact Nat.ne_of_lt (Nat.lt_of_lt_of_le (by have := World.block_lt_of_cell? _ _ hw111_0; first | rwa [add_block] at this | exact this) GW117.out)) | (dsimp only; exact Nat.ne_of_lt (Nat.lt_of_lt_of_le (by have := World.block_lt_of_cell? _ _ hw111_0; first | rwa [add_block] at this | exact this) GW117.out))) _).trans (((cell_far (p := ⟨gb117, _, none⟩) (by first | exact Nat.ne_of_lt (Nat.lt_of_lt_of_le (by have := World.block_lt_of_cell? _ _ hw111_0; first | rwa [add_block] at this | exact this) GW117.out) | (rw [add_block]; exact Nat.ne_of_lt (Nat.lt_of_lt_of_le (by have := World.block_lt_of_cell? _ _ hw111_0; first | rwa [add_block] at this | exact this) GW117.out)) | (show (Addr.add _ _).block ≠ _; rw [add_block]; exact Nat.ne_of_lt (Nat.lt_of_lt_of_le (by have := World.block_lt_of_cell? _ _ hw111_0; first | rwa [add_block] at this | exact this) GW117.out)) | (dsimp only; exact Nat.ne_of_lt (Nat.lt_of_lt_of_le (by have := World.block_lt_of_cell? _ _ hw111_0; first | rwa [add_block] at this | exact this) GW117.out))) _).trans (((cell_far (p := ⟨gb117, _, none⟩) (by first | exact Nat.ne_of_lt (Nat.lt_of_lt_of_le (by have := World.block_lt_of_cell? _ _ hw111_0; first | rwa [add_block] at this | exact this) GW117.out) | (rw [add_block]; exact Nat.ne_of_lt (Nat.lt_of_lt_of_le (by have := World.block_lt_of_cell? _ _ hw111_0; first | rwa [add_block] at this | exact this) GW117.out)) | (show (Addr.add _ _).block ≠ _; rw [add_block]; exact Nat.ne_of_lt (Nat.lt_of_lt_of_le (by have := World.block_lt_of_cell? _ _ hw111_0; first | rwa [add_block] at this | exact this) GW117.out)) | (dsimp only; exact Nat.ne_of_lt (Nat.lt_of_lt_of_le (by have := World.block_lt_of_cell? _ _ hw111_0; first | rwa [add_block] at this | exact this) GW117.out))) _).trans (hHeld.2.2.2.2.1)))))))), ((cell_far (p := ⟨gb117, _, none⟩) (by first | exact Nat.ne_of_lt (Nat.lt_of_lt_of_le (by have := World.block_lt_of_cell? _ _ hw111_1; first | rwa [add_block] at this | exact this) GW117.out) | (rw [add_block]; exact Nat.ne_of_lt (Nat.lt_of_lt_of_le (by have := World.block_lt_of_cell? _ _ hw111_1; first | rwa [add_block] at this | exact this) GW117.out)) | (show (Addr.add _ _).block ≠ _; rw [add_block]; exact Nat.ne_of_lt (Nat.lt_of_lt_of_le (by have := World.block_lt_of_cell? _ _ hw111_1; first | rwa [add_block] at this | exact this) GW117.out)) | (dsimp only; exact Nat.ne_of_lt (Nat.lt_of_lt_of_le (by have := World.block_lt_of_cell? _ _ hw111_1; first | rwa [add_block] at this | exact this) GW117.out))) _).trans (((cell_far (p := ⟨gb117, _, none⟩) (by first | exact Nat.ne_of_lt (Nat.lt_of_lt_of_le (by have := World.block_lt_of_cell? _ _ hw111_1; first | rwa [add_block] at this | exact this) GW117.out) | (rw [add_block]; exact Nat.ne_of_lt (Nat.lt_of_lt_of_le (by have := World.block_lt_of_cell? _ _ hw111_1; first | rwa [add_block] at this | exact this) GW117.out)) | (show (Addr.add _ _).block ≠ _; rw [add_block]; exact Nat.ne_of_lt (Nat.lt_of_lt_of_le (by have := World.block_lt_of_cell? _ _ hw111_1; first | rwa [add_block] at this | exact this) GW117.out)) | (dsimp only; exact Nat.ne_of_lt (Nat.lt_of_lt_of_le (by have := World.block_lt_of_cell? _ _ hw111_1; first | rwa [add_block] at this | exact this) GW117.out))) _).trans (((cell_far (p := ⟨gb117, _, none⟩) (by first | exact Nat.ne_of_lt (Nat.lt_of_lt_of_le (by have := World.block_lt_of_cell? _ _ hw111_1; first | rwa [add_block] at this | exact this) GW117.out) | (rw [add_block]; exact Nat.ne_of_lt (Nat.lt_of_lt_of_le (by have := World.block_lt_of_cell? _ _ hw111_1; first | rwa [add_block] at this | exact this) GW117.out)) | (show (Addr.add _ _).block ≠ _; rw [add_block]; exact Nat.ne_of_lt (Nat.lt_of_lt_of_le (by have := World.block_lt_of_cell? _ _ hw111_1; first | rwa [add_block] at this | exact this) GW117.out)) | (dsimp only; exact Nat.ne_of_lt (Nat.lt_of_lt_of_le (by have := World.block_lt_of_cell? _ _ hw111_1; first | rwa [add_block] at this | exact this) GW117.out))) _).trans (((cell_far (p := ⟨gb117, _, none⟩) (by first | exact Nat.ne_of_lt (Nat.lt_of_lt_of_le (by have := World.block_lt_of_cell? _ _ hw111_1; first | rwa [add_block] at this | exact this) GW117.out) | (rw [add_block]; exact Nat.ne_of_lt (Nat.lt_of_lt_of_le (by have := World.block_lt_of_cell? _ _ hw111_1; first | rwa [add_block] at this | exact this) GW117.out)) | (show (Addr.add _ _).block ≠ _; rw [add_block]; exact Nat.ne_of_lt (Nat.lt_of_lt_of_le (by have := World.block_lt_of_cell? _ _ hw111_1; first | rwa [add_block] at this | exact this) GW117.out)) | (dsimp only; exact Nat.ne_of_lt (Nat.lt_of_lt_of_le (by have := World.block_lt_of_cell? _ _ hw111_1; first | rwa [add_block] at this | exact this) GW117.out))) _).trans (hHeld.2.2.2.2.2))))))))⟩ (fun hHeld => ?_)
      clear hK K
      refine pure_ (i := 11) (N := some 7) (v := ?_) (a' := ?_) #[true, true, true, true, true, true, true, true, true, true, true, true] rfl rfl (any_of HT_.out (by kernel_rfl)) (fun _ _ _ h => h) (Or.inl ⟨by rfl, ?_⟩) ?_ ?_
      rotate_left; (focus exact gs); rotate_left; (focus exact pt)
      refine done_ (done_of HT_.out (by kernel_rfl)) ?_
      have hnb31 := NB109_110.out
      have hnc31 := NB110_109.out
      have hnb32 := NB109_117.out
      have hnc32 := NB117_109.out
      obtain ⟨hcz33_0, hcz33_1, hcz33_2, hcz33_3, hfz33_0, hfz33_1, hfz33_2, hfz33_3⟩ := cs4 BK109.out
      try go_wp2
      refine bodyPost_ret (results_ct rfl _ _ gb109 29 #[.int .i64 0, .int .i64 0, .int .i64 0, .int .i64 0] (0, 0) _ rfl (bp1 BK109.out NB109_117.out) Tryd.underlying29 rfl (by kernel_rfl)) rfl ?_
      exact ⟨er, bl3 HB.out GE109.out GE110.out GE117.out⟩
    ·rw [if_neg c7] at H
     exact absurd H (by simp)
   ·rw [if_neg c6] at H
    have c6b0 : decide (x5_1 < (l0.length : Int)) = false := decide_eq_false c6
    clear c6
    simp only [Option.some.injEq, Prod.mk.injEq] at H
    obtain ⟨rfl, rfl, rfl, rfl, rfl⟩ := H
    have hnb34 := NB110_109.out
    have hnc34 := NB109_110.out
    obtain ⟨hcz35_0, hcz35_1, hcz35_2, hcz35_3, hfz35_0, hfz35_1, hfz35_2, hfz35_3⟩ := cs4 BK110.out
    obtain ⟨hcz36_0, hcz36_1, hcz36_2, hcz36_3, hfz36_0, hfz36_1, hfz36_2, hfz36_3⟩ := cs4 BK109.out
    go_wp2
    refine bodyPost_ret (results_ct rfl _ _ gb109 29 #[.int .i64 x111000_1, .int .i64 x111001_1, .int .i64 x111002_1, .int .i64 x111003_1] (0, 0) _ rfl (bp0 BK109.out) Tryd.underlying29 rfl (by kernel_rfl)) rfl ?_
    exact ⟨er, bl2 HB.out GE109.out GE110.out⟩

end Go.Proofs.YthfmhfgckhkgjaaDoor.PFnResumed
