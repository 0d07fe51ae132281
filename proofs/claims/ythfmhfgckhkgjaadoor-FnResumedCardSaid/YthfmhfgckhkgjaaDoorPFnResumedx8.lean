-- Laid by wip/mk/mk.py out of the translation. Not trusted: Lean checks it.
import Derived.Test.YthfmhfgckhkgjaaDoorPFnResumedx0
import Derived.Test.YthfmhfgckhkgjaaDoorPFnResumedx7
namespace Go.Proofs.YthfmhfgckhkgjaaDoor.PFnResumed
open Go.RowKit Go.Proofs.YthfmhfgckhkgjaaDoorW.PrintWords Go.Proofs.YthfmhfgckhkgjaaDoorW.PrintLast Go.Proofs.YthfmhfgckhkgjaaDoorW.PrintMore
attribute [local go_sem] max2_int min2_int max_two min_two max_three min_three max_four min_four   -- for this text's walks alone
set_option linter.unusedVariables false
set_option linter.unusedSimpArgs false

/-! ### impl_after: function 26 -/
def impl_after.j0 : Nat → Bool → Int → Int → Int → Int → Int → Int → Option (Int × Int × Int × Int × Bool)
 | 0, _, _, _, _, _, _, _ => none
 | k + 1, x18, x281000, x281001, x281002, x281003, x282000, x282001 => if x18 = true then (some (x281000, x281001, x281002, x281003, false)) else (if x282000 = 1 then (some (x282001, x281001, x281002, x281003, decide (x282001 ≥ 1))) else (if x282000 = 2 then (some (x281000, wrap64 (x281001 + x282001), x281002, x281003, decide ((wrap64 (x281001 + x282001)) ≤ 1000000))) else (if x282000 = 3 then (if x282001 < 12 then (some (x281000, x281001, wrap64 (x281002 + 1), x281003, decide ((wrap64 (x281002 + 1)) ≤ 1000000))) else (some (x281000, x281001, wrap64 (x281002 + 1), x281003, false))) else (if x282000 = 4 then (if x282001 = x281001 then (some (0, 0, 0, wrap64 (x281003 + 1), decide (x281003 < 1000000000))) else (some (0, 0, 0, wrap64 (x281003 + 1), false))) else (some (x281000, x281001, x281002, x281003, false))))))
def impl_after.f (k : Nat) (a0_0 : Int) (a0_1 : Int) (a0_2 : Int) (a0_3 : Int) (a1_0 : Int) (a1_1 : Int) : Option (Int × Int × Int × Int × Bool) := (impl_inRange.f a1_1 0 1000000000).bind fun t283 => (if t283 = true then (impl_after.j0 k ((a0_0 == 0) != (a1_0 == 1)) a0_0 a0_1 a0_2 a0_3 a1_0 a1_1) else (impl_after.j0 k true a0_0 a0_1 a0_2 a0_3 a1_0 a1_1))
theorem impl_after.mono_l : ∀ k, (∀ y0 y1 y2 y3 y4 y5 y6, LeO (impl_after.j0 k y0 y1 y2 y3 y4 y5 y6) (impl_after.j0 (k + 1) y0 y1 y2 y3 y4 y5 y6))
 | 0 => fun _ _ _ _ _ _ _ r h => by simp [impl_after.j0] at h
 | k + 1 => by
  have ih0 := impl_after.mono_l k
  ·intro y0 y1 y2 y3 y4 y5 y6
   unfold impl_after.j0
   repeat' first | (with_reducible first | exact ih0 _ _ _ _ _ _ _ | exact LeO.refl _ | exact LeO.none _ | refine LeO.ite ?_ ?_ | refine LeO.bind ?_ (fun _ => ?_)) | exact ih0 _ _ _ _ _ _ _ | exact LeO.none _ | refine LeO.ite ?_ ?_ | refine LeO.bind ?_ (fun _ => ?_)
theorem impl_after.mono : ∀ a0 a1 a2 a3 a4 a5 k, LeO (impl_after.f k a0 a1 a2 a3 a4 a5) (impl_after.f (k + 1) a0 a1 a2 a3 a4 a5) := by
 intro a0 a1 a2 a3 a4 a5 k
 have ih0 := impl_after.mono_l k
 unfold impl_after.f
 repeat' first | (with_reducible first | exact ih0 _ _ _ _ _ _ _ | exact LeO.refl _ | exact LeO.none _ | refine LeO.ite ?_ ?_ | refine LeO.bind ?_ (fun _ => ?_)) | exact ih0 _ _ _ _ _ _ _ | exact LeO.none _ | refine LeO.ite ?_ ?_ | refine LeO.bind ?_ (fun _ => ?_)
def impl_after.T12 : Bool × List (List Nat × List Nat) := (true, [([], []), ([], []), ([1], [1]), ([2], [2]), ([3], [3]), ([4], [4]), ([5, 4], [4, 5]), ([6, 4], [4, 6]), ([4, 7], [4, 7]), ([0, 4, 0], [0]), ([8, 9, 0, 1, 2, 3, 4, 5, 6, 7, 8, 9], [8])])
def impl_after.B12 : List Nat := [0, 0, 2, 6, 14, 30, 62, 126, 254, 31, 1023]
theorem impl_after.tab12 : rtab .any (opsOf Tryd.f26 12) = impl_after.T12 := by kernel_rfl
theorem impl_after.bits12 : waitsOk impl_after.T12.2 impl_after.B12 = true := by kernel_rfl
def impl_after.T14 : Bool × List (List Nat × List Nat) := (true, [([], []), ([0], [0]), ([1], [1]), ([2], [2]), ([], []), ([4], [4]), ([], []), ([6], [6]), ([5, 7], [5, 7]), ([8], [8]), ([9], [9]), ([10, 9], [9, 10]), ([11, 9], [9, 11]), ([9, 12], [9, 12]), ([3, 9, 0, 1, 2, 3], [3]), ([13, 14, 0, 1, 2, 3, 4, 5, 6, 7, 8, 9, 10, 11, 12, 13, 14], [13])])
def impl_after.B14 : List Nat := [0, 1, 3, 7, 0, 16, 0, 64, 240, 496, 1008, 2032, 4080, 8176, 1023, 32767]
theorem impl_after.tab14 : rtab .any (opsOf Tryd.f26 14) = impl_after.T14 := by kernel_rfl
theorem impl_after.bits14 : waitsOk impl_after.T14.2 impl_after.B14 = true := by kernel_rfl
set_option maxHeartbeats 8000000 in
set_option maxRecDepth 100000 in
theorem impl_after.calls (k : Nat) (a0_0 : Int) (a0_1 : Int) (a0_2 : Int) (a0_3 : Int) (a1_0 : Int) (a1_1 : Int) (r1 : Int) (r2 : Int) (r3 : Int) (r4 : Int) (r5 : Bool) (w : World) (h : impl_after.f k a0_0 a0_1 a0_2 a0_3 a1_0 a1_1 = some (r1, r2, r3, r4, r5)) :
  Calls Tryd.prog 26 #[.agg #[.int .i64 a0_0, .int .i64 a0_1, .int .i64 a0_2, .int .i64 a0_3], .agg #[.int .i64 a1_0, .int .i64 a1_1]] w fun e w' => e = .returned (.tuple #[.agg #[.int .i64 r1, .int .i64 r2, .int .i64 r3, .int .i64 r4], .bool r5]) ∧ Below w.heap.size w w' := by
 have hu29 := Tryd.underlying29
 have hu31 := Tryd.underlying31
 have HB := am (Below.refl w.heap.size w)
 have H : ((impl_inRange.f a1_1 0 1000000000).bind fun t283 => (if t283 = true then (impl_after.j0 k ((a0_0 == 0) != (a1_0 == 1)) a0_0 a0_1 a0_2 a0_3 a1_0 a1_1) else (impl_after.j0 k true a0_0 a0_1 a0_2 a0_3 a1_0 a1_1))) = some (r1, r2, r3, r4, r5) := h
 clear h
 have HC3 := Aside0.mk H
 clear H
 go_enter Tryd.func26, Tryd.ntmps26
 go_upto_region 1 with (first | ((with_reducible refine gate_dst (N := 2) rfl ?_); refine box_event ?hg (N := 2) ?hd (cs := #[.int .i64 a0_0, .int .i64 a0_1, .int .i64 a0_2, .int .i64 a0_3]) (t := 29) ?hr ?_; (case hd => rfl); (case hg => rfl); (case hr => first | (go_simp; done) | (go_simp; rfl)); intro gb280 hg w4 hbox hb; have n_ := (⟨am (below_step (bl0 HB.out) hb), am (hbox), am ((gw hg (bl0 HB.out) : w.heap.size ≤ gb280)), am ((gw hg (bl0 HB.out) : w.heap.size ≤ gb280))⟩ : _ ∧ _ ∧ _ ∧ _); clear HB; obtain ⟨HB, BK280, GW280, GE280⟩ := n_; clear hb hbox hg) | ((with_reducible refine gate_dst (N := 3) rfl ?_); refine box_event ?hg (N := 3) ?hd (cs := #[.int .i64 a1_0, .int .i64 a1_1]) (t := 31) ?hr ?_; (case hd => rfl); (case hg => rfl); (case hr => first | (go_simp; done) | (go_simp; rfl)); intro gb281 hg w5 hbox hb; have n_ := (⟨am (blk_below (bf0 BK280.out) hb), am (below_step (bl1 HB.out GE280.out) hb), am (hbox), am ((gw hg (bl1 HB.out GE280.out) : w.heap.size ≤ gb281)), am ((gw hg (bl1 HB.out GE280.out) : w.heap.size ≤ gb281)), am ((nl hg (bf0 BK280.out) : gb280 ≠ gb281)), am ((ng hg (bf0 BK280.out) : gb281 ≠ gb280))⟩ : _ ∧ _ ∧ _ ∧ _ ∧ _ ∧ _ ∧ _); clear BK280 HB; obtain ⟨BK280, HB, BK281, GW281, GE281, NB280_281, NB281_280⟩ := n_; clear hb hbox hg) | ((with_reducible refine gate_dst (N := 4) rfl ?_); refine box_event ?hg (N := 4) ?hd (cs := #[.int .i64 0, .int .i64 0, .int .i64 0, .int .i64 0]) (t := 29) ?hr ?_; (case hd => rfl); (case hg => rfl); (case hr => first | (go_simp; done) | (go_simp; rfl)); intro gb282 hg w6 hbox hb; have n_ := (⟨am (blk_below (bf0 BK280.out) hb), am (blk_below (bf0 BK281.out) hb), am (below_step (bl2 HB.out GE280.out GE281.out) hb), am (hbox), am ((gw hg (bl2 HB.out GE280.out GE281.out) : w.heap.size ≤ gb282)), am ((gw hg (bl2 HB.out GE280.out GE281.out) : w.heap.size ≤ gb282)), am ((nl hg (bf0 BK280.out) : gb280 ≠ gb282)), am ((ng hg (bf0 BK280.out) : gb282 ≠ gb280)), am ((nl hg (bf0 BK281.out) : gb281 ≠ gb282)), am ((ng hg (bf0 BK281.out) : gb282 ≠ gb281))⟩ : _ ∧ _ ∧ _ ∧ _ ∧ _ ∧ _ ∧ _ ∧ _ ∧ _ ∧ _); clear BK280 BK281 HB; obtain ⟨BK280, BK281, HB, BK282, GW282, GE282, NB280_282, NB282_280, NB281_282, NB282_281⟩ := n_; clear hb hbox hg))
 (try simp only [Act.put, List.setIfInBounds_toArray, List.set_cons_zero, List.set_cons_succ])
 go_cut [18] (fun v18 wc => ∃ (kq : Nat) (x18_2 : Bool), v18 = .bool x18_2 ∧ Aside0 (impl_after.j0 kq x18_2 a0_0 a0_1 a0_2 a0_3 a1_0 a1_1 = some (r1, r2, r3, r4, r5)) ∧ Aside0 (kq ≤ k) ∧ Aside0 (wc.heap[gb280]? = some (.cells #[.int .i64 a0_0, .int .i64 a0_1, .int .i64 a0_2, .int .i64 a0_3] 29 (0, 0))) ∧ Aside0 (wc.heap[gb281]? = some (.cells #[.int .i64 a1_0, .int .i64 a1_1] 31 (0, 0))) ∧ Aside0 (wc.heap[gb282]? = some (.cells #[.int .i64 0, .int .i64 0, .int .i64 0, .int .i64 0] 29 (0, 0))) ∧ Aside0 (Below w.heap.size w wc))
 case first =>
  have H := HC3.out
  clear HC3
  replace H := Option.bind_eq_some_iff.mp H
  obtain ⟨t283, A70, H⟩ := H
  replace H : (if t283 = true then (impl_after.j0 k ((a0_0 == 0) != (a1_0 == 1)) a0_0 a0_1 a0_2 a0_3 a1_0 a1_1) else (impl_after.j0 k true a0_0 a0_1 a0_2 a0_3 a1_0 a1_1)) = some (r1, r2, r3, r4, r5) := H
  have A7 := Aside0.mk A70
  clear A70
  by_cases c8 : t283 = true
  ·subst c8
   have H1 : (impl_after.j0 k ((a0_0 == 0) != (a1_0 == 1)) a0_0 a0_1 a0_2 a0_3 a1_0 a1_1) = some (r1, r2, r3, r4, r5) := by rw [if_pos rfl] at H; exact H
   clear H
   have H := H1
   clear H1
   have H' := Aside0.mk H
   clear H
   have hnb9 := NB281_280.out
   have hnc9 := NB280_281.out
   have hnb10 := NB281_282.out
   have hnc10 := NB282_281.out
   obtain ⟨hcz11_0, hcz11_1, hfz11_0, hfz11_1⟩ := cs2 BK281.out
   go_wp2_with (first | ((with_reducible refine gate_callee (f := 28) rfl ?_); refine goesL_ (some 8) rfl rfl Tryd.func28 (by kernel_rfl) rfl #[.int .i64 a1_1, .int .i64 0, .int .i64 1000000000] rfl lnp ?_; (with_reducible refine (impl_inRange.calls a1_1 0 1000000000 true _ A7.out).mono ?_); rintro e w' ⟨rfl, ⟨nd, rfl⟩⟩; refine ⟨_, rfl, ?_⟩; have hnb12 := NB280_282.out; have hnc12 := NB282_280.out; obtain ⟨hcz13_0, hcz13_1, hcz13_2, hcz13_3, hfz13_0, hfz13_1, hfz13_2, hfz13_3⟩ := cs4 BK280.out))
   go_meet
   case rel => exact ⟨_, (((a0_0 == 0) != (a1_0 == 1))), (by first | rfl | (simp; done) | (simp [*]; done)), H', ⟨by first | omega | exact Nat.le_refl _⟩, ⟨bf0 BK280.out⟩, ⟨bf0 BK281.out⟩, ⟨bf0 BK282.out⟩, ⟨bl3 HB.out GE280.out GE281.out GE282.out⟩⟩
  ·replace c8 := Bool.eq_false_iff.mpr c8
   subst c8
   have H1 : (impl_after.j0 k true a0_0 a0_1 a0_2 a0_3 a1_0 a1_1) = some (r1, r2, r3, r4, r5) := by rw [if_neg (show ¬ (false = true) by decide)] at H; exact H
   clear H
   have H := H1
   clear H1
   have H' := Aside0.mk H
   clear H
   have hnb14 := NB281_280.out
   have hnc14 := NB280_281.out
   have hnb15 := NB281_282.out
   have hnc15 := NB282_281.out
   obtain ⟨hcz16_0, hcz16_1, hfz16_0, hfz16_1⟩ := cs2 BK281.out
   go_wp2_with (first | ((with_reducible refine gate_callee (f := 28) rfl ?_); refine goesL_ (some 8) rfl rfl Tryd.func28 (by kernel_rfl) rfl #[.int .i64 a1_1, .int .i64 0, .int .i64 1000000000] rfl lnp ?_; (with_reducible refine (impl_inRange.calls a1_1 0 1000000000 false _ A7.out).mono ?_); rintro e w' ⟨rfl, ⟨nd, rfl⟩⟩; refine ⟨_, rfl, ?_⟩))
   go_meet
   case rel => exact ⟨_, (true), (by first | rfl | (simp; done) | (simp [*]; done)), H', ⟨by first | omega | exact Nat.le_refl _⟩, ⟨bf0 BK280.out⟩, ⟨bf0 BK281.out⟩, ⟨bf0 BK282.out⟩, ⟨bl3 HB.out GE280.out GE281.out GE282.out⟩⟩
 case rest =>
  clear HC3
  try clear c1
  try clear c2
  try clear p2
  try clear c8
  try clear c9
  try clear c10
  try clear c12
  try clear c14
  try clear c15
  try clear hcz11_0
  try clear hcz11_1
  try clear hcz13_0
  try clear hcz13_1
  try clear hcz13_2
  try clear hcz13_3
  try clear hcz16_0
  try clear hcz16_1
  try clear hfz11_0
  try clear hfz11_1
  try clear hfz13_0
  try clear hfz13_1
  try clear hfz13_2
  try clear hfz13_3
  try clear hfz16_0
  try clear hfz16_1
  obtain ⟨kq, x18_2, rfl, HA, HJ2, BK280, BK281, BK282, HB⟩ := hcut
  cases kq with
  | zero => exact absurd HA.out (by simp [impl_after.j0])
  | succ kj2 =>
   have H := HA.out
   clear HA
   simp only [impl_after.j0] at H
   by_cases c17 : x18_2 = true
   ·subst c17
    have H1 : (some (a0_0, a0_1, a0_2, a0_3, false)) = some (r1, r2, r3, r4, r5) := by rw [if_pos rfl] at H; exact H
    clear H
    have H := H1
    clear H1
    simp only [Option.some.injEq, Prod.mk.injEq] at H
    obtain ⟨rfl, rfl, rfl, rfl, rfl⟩ := H
    have hnb18 := NB280_281.out
    have hnc18 := NB281_280.out
    have hnb19 := NB280_282.out
    have hnc19 := NB282_280.out
    obtain ⟨hcz20_0, hcz20_1, hcz20_2, hcz20_3, hfz20_0, hfz20_1, hfz20_2, hfz20_3⟩ := cs4 BK280.out
    have hnb21 := NB282_281.out
    have hnc21 := NB281_282.out
    obtain ⟨hcz22_0, hcz22_1, hcz22_2, hcz22_3, hfz22_0, hfz22_1, hfz22_2, hfz22_3⟩ := cs4 BK282.out
    go_wp2
    refine bodyPost_ret (results_ct rfl _ _ gb282 29 #[.int .i64 a0_0, .int .i64 a0_1, .int .i64 a0_2, .int .i64 a0_3] (0, 0) _ rfl (bp0 BK282.out) Tryd.underlying29 rfl (by kernel_rfl)) rfl ?_
    exact ⟨er, bl3 HB.out GE280.out GE281.out GE282.out⟩
   ·replace c17 := Bool.eq_false_iff.mpr c17
    subst c17
    have H1 : (if a1_0 = 1 then (some (a1_1, a0_1, a0_2, a0_3, decide (a1_1 ≥ 1))) else (if a1_0 = 2 then (some (a0_0, wrap64 (a0_1 + a1_1), a0_2, a0_3, decide ((wrap64 (a0_1 + a1_1)) ≤ 1000000))) else (if a1_0 = 3 then (if a1_1 < 12 then (some (a0_0, a0_1, wrap64 (a0_2 + 1), a0_3, decide ((wrap64 (a0_2 + 1)) ≤ 1000000))) else (some (a0_0, a0_1, wrap64 (a0_2 + 1), a0_3, false))) else (if a1_0 = 4 then (if a1_1 = a0_1 then (some (0, 0, 0, wrap64 (a0_3 + 1), decide (a0_3 < 1000000000))) else (some (0, 0, 0, wrap64 (a0_3 + 1), false))) else (some (a0_0, a0_1, a0_2, a0_3, false)))))) = some (r1, r2, r3, r4, r5) := by rw [if_neg (show ¬ (false = true) by decide)] at H; exact H
    clear H
    have H := H1
    clear H1
    by_cases c23 : a1_0 = 1
    ·rw [if_pos c23] at H
     have c23b0 : (a1_0 == 1) = true := beq_iff_eq.mpr c23
     have c23b1 : (a1_0 != 1) = false := bne_eq_false_iff_eq.mpr c23
     clear c23
     simp only [Option.some.injEq, Prod.mk.injEq] at H
     obtain ⟨rfl, rfl, rfl, rfl, rfl⟩ := H
     have hnb24 := NB281_280.out
     have hnc24 := NB280_281.out
     have hnb25 := NB281_282.out
     have hnc25 := NB282_281.out
     obtain ⟨hcz26_0, hcz26_1, hfz26_0, hfz26_1⟩ := cs2 BK281.out
     have hnb27 := NB280_282.out
     have hnc27 := NB282_280.out
     obtain ⟨hcz28_0, hcz28_1, hcz28_2, hcz28_3, hfz28_0, hfz28_1, hfz28_2, hfz28_3⟩ := cs4 BK280.out
     try go_wp2
     have n0_ : Aside0 ((wc.setCell ⟨gb280, 0, none⟩ (.int .i64 a1_1)).heap[gb280]? = some (.cells #[.int .i64 a1_1, .int .i64 a0_1, .int .i64 a0_2, .int .i64 a0_3] 29 (0, 0))) := ⟨by (with_reducible repeat (first | refine blk_drewN ?_ _ | refine blk_drew ?_ | refine blk_alloc ?_ _)); refine blk_put (cs := #[.int .i64 a0_0, .int .i64 a0_1, .int .i64 a0_2, .int .i64 a0_3]) ?_ 0 _ rfl; exact bf0 BK280.out⟩
     have n1_ : Aside0 ((wc.setCell ⟨gb280, 0, none⟩ (.int .i64 a1_1)).heap[gb281]? = some (.cells #[.int .i64 a1_0, .int .i64 a1_1] 31 (0, 0))) := ⟨bf1 BK281.out NB281_280.out⟩
     have n2_ : Aside0 ((wc.setCell ⟨gb280, 0, none⟩ (.int .i64 a1_1)).heap[gb282]? = some (.cells #[.int .i64 0, .int .i64 0, .int .i64 0, .int .i64 0] 29 (0, 0))) := ⟨bf1 BK282.out NB282_280.out⟩
     have n3_ : Aside0 (Below w.heap.size w (wc.setCell ⟨gb280, 0, none⟩ (.int .i64 a1_1))) := ⟨bl3 HB.out GE280.out GE281.out GE282.out⟩
     (try clear BK280)
     (try clear BK281)
     (try clear BK282)
     (try clear HB)
     generalize (wc.setCell ⟨gb280, 0, none⟩ (.int .i64 a1_1)) = w29 at n0_ n1_ n2_ n3_ ⊢
     have BK280 := n0_
     have BK281 := n1_
     have BK282 := n2_
     have HB := n3_
     clear n0_ n1_ n2_ n3_
     have n_ := (⟨am (blk_drew BK280.out), am (blk_drew BK281.out), am (blk_drew BK282.out), am (below_drew1 HB.out)⟩ : _ ∧ _ ∧ _ ∧ _)
     clear BK280
     clear BK281
     clear BK282
     clear HB
     obtain ⟨BK280, BK281, BK282, HB⟩ := n_
     refine start_ (n := 6) (S := fun w' => w'.cell? ⟨gb280, 0, none⟩ = some (.int .i64 a1_1) ∧ w'.cell? ⟨gb280, 1, none⟩ = some (.int .i64 a0_1) ∧ w'.cell? ⟨gb280, 2, none⟩ = some (.int .i64 a0_2) ∧ w'.cell? ⟨gb280, 3, none⟩ = some (.int .i64 a0_3) ∧ w'.cell? ⟨gb281, 0, none⟩ = some (.int .i64 a1_0) ∧ w'.cell? ⟨gb281, 1, none⟩ = some (.int .i64 a1_1)) (ds := []) #[false, false, false, false, false, false] (by kernel_rfl) rfl rfl ⟨(blk_cell BK280.out 0).trans rfl, (blk_cell BK280.out 1).trans rfl, (blk_cell BK280.out 2).trans rfl, (blk_cell BK280.out 3).trans rfl, (blk_cell BK281.out 0).trans rfl, (blk_cell BK281.out 1).trans rfl⟩ (fun hHeld => ?_)
     generalize w29.drew = w30 at BK280 BK281 BK282 HB hHeld ⊢
     refine pure_ (i := 1) (N := some 28) (v := ?_) (a' := ?_) #[false, true, false, false, false, false] rfl rfl (by kernel_rfl) (fun _ _ _ h => h) (Or.inl ⟨by rfl, ?_⟩) ?_ ?_
     rotate_left; (focus exact gs); rotate_left; (focus exact pt)
     refine take_ (i := 0) (N := some 27) (v := ?_) (a' := ?_) #[true, true, false, false, false, false] rfl rfl (by kernel_rfl) (fun _ _ _ h => h) (Or.inl ⟨by rfl, ?_⟩) hHeld ?_ ?_
     rotate_left
     ·rintro w' ⟨s0, s1, s2, s3, s4, s5⟩
      go_simp
      with_reducible rfl
     rotate_left
     ·exact pt
     refine take_ (i := 2) (N := some 29) (v := ?_) (a' := ?_) #[true, true, true, false, false, false] rfl rfl (by kernel_rfl) (fun _ _ _ h => h) (Or.inl ⟨by rfl, ?_⟩) hHeld ?_ ?_
     rotate_left
     ·rintro w' ⟨s0, s1, s2, s3, s4, s5⟩
      go_simp
      with_reducible rfl
     rotate_left
     ·exact pt
     refine pure_ (i := 3) (N := some 30) (v := ?_) (a' := ?_) #[true, true, true, true, false, false] rfl rfl (by kernel_rfl) (fun _ _ _ h => h) (Or.inl ⟨by rfl, ?_⟩) ?_ ?_
     rotate_left; (focus exact gs); rotate_left; (focus exact pt)
     refine one_ (i := 4) (N := none) #[true, true, true, true, true, false] rfl rfl (by kernel_rfl) (by decide) (fun K hK => ?_)
     have hs31 := bc BK282.out 0 (.int .i64 0)
     have hfs31 := bz BK282.out 0
     have hns31_0 := NB280_282.out
     have hns31_1 := NB281_282.out
     have hms31_0 := NB282_280.out
     have hms31_1 := NB282_281.out
     have hs32 := bc BK282.out 1 (.int .i64 0)
     have hfs32 := bz BK282.out 1
     have hns32_0 := NB280_282.out
     have hns32_1 := NB281_282.out
     have hms32_0 := NB282_280.out
     have hms32_1 := NB282_281.out
     have hs33 := bc BK282.out 2 (.int .i64 0)
     have hfs33 := bz BK282.out 2
     have hns33_0 := NB280_282.out
     have hns33_1 := NB281_282.out
     have hms33_0 := NB282_280.out
     have hms33_1 := NB282_281.out
     have hs34 := bc BK282.out 3 (.int .i64 0)
     have hfs34 := bz BK282.out 3
     have hns34_0 := NB280_282.out
     have hns34_1 := NB281_282.out
     have hms34_0 := NB282_280.out
     have hms34_1 := NB282_281.out
     refine skip_ (w1 := ?_) (by rfl) rfl ?_ ?_
     rotate_left
     ·go_simp
      rfl
     refine hK.out _ _ ⟨((cell_far (p := ⟨gb282, _, none⟩) NB280_282.out _).trans (((cell_far (p := ⟨gb282, _, none⟩) NB280_282.out _).trans (((cell_far (p := ⟨gb282, _, none⟩) NB280_282.out _).trans (((cell_far (p := ⟨gb282, _, none⟩) NB280_282.out _).trans (hHeld.1)))))))), ((cell_far (p := ⟨gb282, _, none⟩) NB280_282.out _).trans (((cell_far (p := ⟨gb282, _, none⟩) NB280_282.out _).trans (((cell_far (p := ⟨gb282, _, none⟩) NB280_282.out _).trans (((cell_far (p := ⟨gb282, _, none⟩) NB280_282.out _).trans (hHeld.2.1)))))))), ((cell_far (p := ⟨gb282, _, none⟩) NB280_282.out _).trans (((cell_far (p := ⟨gb282, _, none⟩) NB280_282.out _).trans (((cell_far (p := ⟨gb282, _, none⟩) NB280_282.out _).trans (((cell_far (p := ⟨gb282, _, none⟩) NB280_282.out _).trans (hHeld.2.2.1)))))))), ((cell_far (p := ⟨gb282, _, none⟩) NB280_282.out _).trans (((cell_far (p := ⟨gb282, _, none⟩) NB280_282.out _).trans (((cell_far (p := ⟨gb282, _, none⟩) NB280_282.out _).trans (((cell_far (p := ⟨gb282, _, none⟩) NB280_282.out _).trans (hHeld.2.2.2.1)))))))), ((cell_far (p := ⟨gb282, _, none⟩) NB281_282.out _).trans (((cell_far (p := ⟨gb282, _, none⟩) NB281_282.out _).trans (((cell_far (p := ⟨gb282, _, none⟩) NB281_282.out _).trans (((cell_far (p := ⟨gb282, _, none⟩) NB281_282.out _).trans (hHeld.2.2.2.2.1)))))))), ((cell_far (p := ⟨gb282, _, none⟩) NB281_282.out _).trans (((cell_far (p := ⟨gb282, _, none⟩) NB281_282.out _).trans (((cell_far (p := ⟨gb282, _, none⟩) NB281_282.out _).trans (((cell_far (p := ⟨gb282, _, none⟩) NB281_282.out _).trans (hHeld.2.2.2.2.2))))))))⟩ (fun hHeld => ?_)
     clear hK K
     refine pure_ (i := 5) (N := some 5) (v := ?_) (a' := ?_) #[true, true, true, true, true, true] rfl rfl (by kernel_rfl) (fun _ _ _ h => h) (Or.inl ⟨by rfl, ?_⟩) ?_ ?_
     rotate_left; (focus exact gs); rotate_left; (focus exact pt)
     refine done_ (by kernel_rfl) ?_
     try go_wp2
     refine bodyPost_ret (results_ct rfl _ _ gb282 29 #[.int .i64 a1_1, .int .i64 a0_1, .int .i64 a0_2, .int .i64 a0_3] (0, 0) _ rfl (bp0 BK282.out) Tryd.underlying29 rfl (by kernel_rfl)) rfl ?_
     exact ⟨er, bl3 HB.out GE280.out GE281.out GE282.out⟩
    ·rw [if_neg c23] at H
     have c23b0 : (a1_0 == 1) = false := beq_eq_false_iff_ne.mpr c23
     have c23b1 : (a1_0 != 1) = true := bne_iff_ne.mpr c23
     by_cases c35 : a1_0 = 2
     ·rw [if_pos c35] at H
      have c35b0 : (a1_0 == 2) = true := beq_iff_eq.mpr c35
      have c35b1 : (a1_0 != 2) = false := bne_eq_false_iff_eq.mpr c35
      clear c35
      simp only [Option.some.injEq, Prod.mk.injEq] at H
      obtain ⟨rfl, rfl, rfl, rfl, rfl⟩ := H
      have hnb36 := NB281_280.out
      have hnc36 := NB280_281.out
      have hnb37 := NB281_282.out
      have hnc37 := NB282_281.out
      obtain ⟨hcz38_0, hcz38_1, hfz38_0, hfz38_1⟩ := cs2 BK281.out
      have hnb39 := NB280_282.out
      have hnc39 := NB282_280.out
      obtain ⟨hcz40_0, hcz40_1, hcz40_2, hcz40_3, hfz40_0, hfz40_1, hfz40_2, hfz40_3⟩ := cs4 BK280.out
      try go_wp2
      have n0_ : Aside0 ((wc.setCell ⟨gb280, 1, none⟩ (.int .i64 (wrap64 (a0_1 + a1_1)))).heap[gb280]? = some (.cells #[.int .i64 a0_0, .int .i64 (wrap64 (a0_1 + a1_1)), .int .i64 a0_2, .int .i64 a0_3] 29 (0, 0))) := ⟨by (with_reducible repeat (first | refine blk_drewN ?_ _ | refine blk_drew ?_ | refine blk_alloc ?_ _)); refine blk_put (cs := #[.int .i64 a0_0, .int .i64 a0_1, .int .i64 a0_2, .int .i64 a0_3]) ?_ 1 _ rfl; exact bf0 BK280.out⟩
      have n1_ : Aside0 ((wc.setCell ⟨gb280, 1, none⟩ (.int .i64 (wrap64 (a0_1 + a1_1)))).heap[gb281]? = some (.cells #[.int .i64 a1_0, .int .i64 a1_1] 31 (0, 0))) := ⟨bf1 BK281.out NB281_280.out⟩
      have n2_ : Aside0 ((wc.setCell ⟨gb280, 1, none⟩ (.int .i64 (wrap64 (a0_1 + a1_1)))).heap[gb282]? = some (.cells #[.int .i64 0, .int .i64 0, .int .i64 0, .int .i64 0] 29 (0, 0))) := ⟨bf1 BK282.out NB282_280.out⟩
      have n3_ : Aside0 (Below w.heap.size w (wc.setCell ⟨gb280, 1, none⟩ (.int .i64 (wrap64 (a0_1 + a1_1))))) := ⟨bl3 HB.out GE280.out GE281.out GE282.out⟩
      (try clear BK280)
      (try clear BK281)
      (try clear BK282)
      (try clear HB)
      generalize (wc.setCell ⟨gb280, 1, none⟩ (.int .i64 (wrap64 (a0_1 + a1_1)))) = w41 at n0_ n1_ n2_ n3_ ⊢
      have BK280 := n0_
      have BK281 := n1_
      have BK282 := n2_
      have HB := n3_
      clear n0_ n1_ n2_ n3_
      have n_ := (⟨am (blk_drew BK280.out), am (blk_drew BK281.out), am (blk_drew BK282.out), am (below_drew1 HB.out)⟩ : _ ∧ _ ∧ _ ∧ _)
      clear BK280
      clear BK281
      clear BK282
      clear HB
      obtain ⟨BK280, BK281, BK282, HB⟩ := n_
      refine start_ (n := 6) (S := fun w' => w'.cell? ⟨gb280, 0, none⟩ = some (.int .i64 a0_0) ∧ w'.cell? ⟨gb280, 1, none⟩ = some (.int .i64 (wrap64 (a0_1 + a1_1))) ∧ w'.cell? ⟨gb280, 2, none⟩ = some (.int .i64 a0_2) ∧ w'.cell? ⟨gb280, 3, none⟩ = some (.int .i64 a0_3)) (ds := []) #[false, false, false, false, false, false] (by kernel_rfl) rfl rfl ⟨(blk_cell BK280.out 0).trans rfl, (blk_cell BK280.out 1).trans rfl, (blk_cell BK280.out 2).trans rfl, (blk_cell BK280.out 3).trans rfl⟩ (fun hHeld => ?_)
      generalize w41.drew = w42 at BK280 BK281 BK282 HB hHeld ⊢
      refine pure_ (i := 1) (N := some 40) (v := ?_) (a' := ?_) #[false, true, false, false, false, false] rfl rfl (by kernel_rfl) (fun _ _ _ h => h) (Or.inl ⟨by rfl, ?_⟩) ?_ ?_
      rotate_left; (focus exact gs); rotate_left; (focus exact pt)
      refine take_ (i := 0) (N := some 39) (v := ?_) (a' := ?_) #[true, true, false, false, false, false] rfl rfl (by kernel_rfl) (fun _ _ _ h => h) (Or.inl ⟨by rfl, ?_⟩) hHeld ?_ ?_
      rotate_left
      ·rintro w' ⟨s0, s1, s2, s3⟩
       go_simp
       with_reducible rfl
      rotate_left
      ·exact pt
      refine take_ (i := 2) (N := some 41) (v := ?_) (a' := ?_) #[true, true, true, false, false, false] rfl rfl (by kernel_rfl) (fun _ _ _ h => h) (Or.inl ⟨by rfl, ?_⟩) hHeld ?_ ?_
      rotate_left
      ·rintro w' ⟨s0, s1, s2, s3⟩
       go_simp
       with_reducible rfl
      rotate_left
      ·exact pt
      refine pure_ (i := 3) (N := some 42) (v := ?_) (a' := ?_) #[true, true, true, true, false, false] rfl rfl (by kernel_rfl) (fun _ _ _ h => h) (Or.inl ⟨by rfl, ?_⟩) ?_ ?_
      rotate_left; (focus exact gs); rotate_left; (focus exact pt)
      refine one_ (i := 4) (N := none) #[true, true, true, true, true, false] rfl rfl (by kernel_rfl) (by decide) (fun K hK => ?_)
      have hs43 := bc BK282.out 0 (.int .i64 0)
      have hfs43 := bz BK282.out 0
      have hns43_0 := NB280_282.out
      have hns43_1 := NB281_282.out
      have hms43_0 := NB282_280.out
      have hms43_1 := NB282_281.out
      have hs44 := bc BK282.out 1 (.int .i64 0)
      have hfs44 := bz BK282.out 1
      have hns44_0 := NB280_282.out
      have hns44_1 := NB281_282.out
      have hms44_0 := NB282_280.out
      have hms44_1 := NB282_281.out
      have hs45 := bc BK282.out 2 (.int .i64 0)
      have hfs45 := bz BK282.out 2
      have hns45_0 := NB280_282.out
      have hns45_1 := NB281_282.out
      have hms45_0 := NB282_280.out
      have hms45_1 := NB282_281.out
      have hs46 := bc BK282.out 3 (.int .i64 0)
      have hfs46 := bz BK282.out 3
      have hns46_0 := NB280_282.out
      have hns46_1 := NB281_282.out
      have hms46_0 := NB282_280.out
      have hms46_1 := NB282_281.out
      refine skip_ (w1 := ?_) (by rfl) rfl ?_ ?_
      rotate_left
      ·go_simp
       rfl
      refine hK.out _ _ ⟨((cell_far (p := ⟨gb282, _, none⟩) NB280_282.out _).trans (((cell_far (p := ⟨gb282, _, none⟩) NB280_282.out _).trans (((cell_far (p := ⟨gb282, _, none⟩) NB280_282.out _).trans (((cell_far (p := ⟨gb282, _, none⟩) NB280_282.out _).trans (hHeld.1)))))))), ((cell_far (p := ⟨gb282, _, none⟩) NB280_282.out _).trans (((cell_far (p := ⟨gb282, _, none⟩) NB280_282.out _).trans (((cell_far (p := ⟨gb282, _, none⟩) NB280_282.out _).trans (((cell_far (p := ⟨gb282, _, none⟩) NB280_282.out _).trans (hHeld.2.1)))))))), ((cell_far (p := ⟨gb282, _, none⟩) NB280_282.out _).trans (((cell_far (p := ⟨gb282, _, none⟩) NB280_282.out _).trans (((cell_far (p := ⟨gb282, _, none⟩) NB280_282.out _).trans (((cell_far (p := ⟨gb282, _, none⟩) NB280_282.out _).trans (hHeld.2.2.1)))))))), ((cell_far (p := ⟨gb282, _, none⟩) NB280_282.out _).trans (((cell_far (p := ⟨gb282, _, none⟩) NB280_282.out _).trans (((cell_far (p := ⟨gb282, _, none⟩) NB280_282.out _).trans (((cell_far (p := ⟨gb282, _, none⟩) NB280_282.out _).trans (hHeld.2.2.2))))))))⟩ (fun hHeld => ?_)
      clear hK K
      refine pure_ (i := 5) (N := some 5) (v := ?_) (a' := ?_) #[true, true, true, true, true, true] rfl rfl (by kernel_rfl) (fun _ _ _ h => h) (Or.inl ⟨by rfl, ?_⟩) ?_ ?_
      rotate_left; (focus exact gs); rotate_left; (focus exact pt)
      refine done_ (by kernel_rfl) ?_
      try go_wp2
      refine bodyPost_ret (results_ct rfl _ _ gb282 29 #[.int .i64 a0_0, .int .i64 (wrap64 (a0_1 + a1_1)), .int .i64 a0_2, .int .i64 a0_3] (0, 0) _ rfl (bp0 BK282.out) Tryd.underlying29 rfl (by kernel_rfl)) rfl ?_
      exact ⟨er, bl3 HB.out GE280.out GE281.out GE282.out⟩
     ·rw [if_neg c35] at H
      have c35b0 : (a1_0 == 2) = false := beq_eq_false_iff_ne.mpr c35
      have c35b1 : (a1_0 != 2) = true := bne_iff_ne.mpr c35
      by_cases c47 : a1_0 = 3
      ·rw [if_pos c47] at H
       have c47b0 : (a1_0 == 3) = true := beq_iff_eq.mpr c47
       have c47b1 : (a1_0 != 3) = false := bne_eq_false_iff_eq.mpr c47
       clear c47
       by_cases c48 : a1_1 < 12
       ·rw [if_pos c48] at H
        have c48b0 : decide (a1_1 < 12) = true := decide_eq_true c48
        clear c48
        simp only [Option.some.injEq, Prod.mk.injEq] at H
        obtain ⟨rfl, rfl, rfl, rfl, rfl⟩ := H
        have hnb49 := NB281_280.out
        have hnc49 := NB280_281.out
        have hnb50 := NB281_282.out
        have hnc50 := NB282_281.out
        obtain ⟨hcz51_0, hcz51_1, hfz51_0, hfz51_1⟩ := cs2 BK281.out
        have hnb52 := NB280_282.out
        have hnc52 := NB282_280.out
        obtain ⟨hcz53_0, hcz53_1, hcz53_2, hcz53_3, hfz53_0, hfz53_1, hfz53_2, hfz53_3⟩ := cs4 BK280.out
        try go_wp2
        have n0_ : Aside0 ((wc.setCell ⟨gb280, 2, none⟩ (.int .i64 (wrap64 (a0_2 + 1)))).heap[gb280]? = some (.cells #[.int .i64 a0_0, .int .i64 a0_1, .int .i64 (wrap64 (a0_2 + 1)), .int .i64 a0_3] 29 (0, 0))) := ⟨by (with_reducible repeat (first | refine blk_drewN ?_ _ | refine blk_drew ?_ | refine blk_alloc ?_ _)); refine blk_put (cs := #[.int .i64 a0_0, .int .i64 a0_1, .int .i64 a0_2, .int .i64 a0_3]) ?_ 2 _ rfl; exact bf0 BK280.out⟩
        have n1_ : Aside0 ((wc.setCell ⟨gb280, 2, none⟩ (.int .i64 (wrap64 (a0_2 + 1)))).heap[gb281]? = some (.cells #[.int .i64 a1_0, .int .i64 a1_1] 31 (0, 0))) := ⟨bf1 BK281.out NB281_280.out⟩
        have n2_ : Aside0 ((wc.setCell ⟨gb280, 2, none⟩ (.int .i64 (wrap64 (a0_2 + 1)))).heap[gb282]? = some (.cells #[.int .i64 0, .int .i64 0, .int .i64 0, .int .i64 0] 29 (0, 0))) := ⟨bf1 BK282.out NB282_280.out⟩
        have n3_ : Aside0 (Below w.heap.size w (wc.setCell ⟨gb280, 2, none⟩ (.int .i64 (wrap64 (a0_2 + 1))))) := ⟨bl3 HB.out GE280.out GE281.out GE282.out⟩
        (try clear BK280)
        (try clear BK281)
        (try clear BK282)
        (try clear HB)
        generalize (wc.setCell ⟨gb280, 2, none⟩ (.int .i64 (wrap64 (a0_2 + 1)))) = w54 at n0_ n1_ n2_ n3_ ⊢
        have BK280 := n0_
        have BK281 := n1_
        have BK282 := n2_
        have HB := n3_
        clear n0_ n1_ n2_ n3_
        have n_ := (⟨am (blk_drew BK280.out), am (blk_drew BK281.out), am (blk_drew BK282.out), am (below_drew1 HB.out)⟩ : _ ∧ _ ∧ _ ∧ _)
        clear BK280
        clear BK281
        clear BK282
        clear HB
        obtain ⟨BK280, BK281, BK282, HB⟩ := n_
        refine start_ (n := 11) (S := fun w' => w'.cell? ⟨gb280, 0, none⟩ = some (.int .i64 a0_0) ∧ w'.cell? ⟨gb280, 1, none⟩ = some (.int .i64 a0_1) ∧ w'.cell? ⟨gb280, 2, none⟩ = some (.int .i64 (wrap64 (a0_2 + 1))) ∧ w'.cell? ⟨gb280, 3, none⟩ = some (.int .i64 a0_3) ∧ w'.cell? ⟨gb281, 0, none⟩ = some (.int .i64 a1_0) ∧ w'.cell? ⟨gb281, 1, none⟩ = some (.int .i64 a1_1)) (ds := []) #[false, false, false, false, false, false, false, false, false, false, false] (by kernel_rfl) rfl rfl ⟨(blk_cell BK280.out 0).trans rfl, (blk_cell BK280.out 1).trans rfl, (blk_cell BK280.out 2).trans rfl, (blk_cell BK280.out 3).trans rfl, (blk_cell BK281.out 0).trans rfl, (blk_cell BK281.out 1).trans rfl⟩ (fun hHeld => ?_); refine with_tabW impl_after.tab12 impl_after.bits12 (fun HT_ HW_ => ?_)
        generalize w54.drew = w55 at BK280 BK281 BK282 HB hHeld ⊢
        refine pure_ (i := 1) (N := some 50) (v := ?_) (a' := ?_) #[false, true, false, false, false, false, false, false, false, false, false] rfl rfl (any_of HT_.out (by kernel_rfl)) (fun _ _ _ h => h) (Or.inl ⟨by rfl, ?_⟩) ?_ ?_
        rotate_left; (focus exact gs); rotate_left; (focus exact pt)
        refine take_ (i := 0) (N := some 49) (v := ?_) (a' := ?_) #[true, true, false, false, false, false, false, false, false, false, false] rfl rfl (take_ofW HT_.out HW_.out (by kernel_rfl)) (fun _ _ _ h => h) (Or.inl ⟨by rfl, ?_⟩) hHeld ?_ ?_
        rotate_left
        ·rintro w' ⟨s0, s1, s2, s3, s4, s5⟩
         go_simp
         with_reducible rfl
        rotate_left
        ·exact pt
        refine take_ (i := 2) (N := some 51) (v := ?_) (a' := ?_) #[true, true, true, false, false, false, false, false, false, false, false] rfl rfl (take_ofW HT_.out HW_.out (by kernel_rfl)) (fun _ _ _ h => h) (Or.inl ⟨by rfl, ?_⟩) hHeld ?_ ?_
        rotate_left
        ·rintro w' ⟨s0, s1, s2, s3, s4, s5⟩
         go_simp
         with_reducible rfl
        rotate_left
        ·exact pt
        refine pure_ (i := 3) (N := some 52) (v := ?_) (a' := ?_) #[true, true, true, true, false, false, false, false, false, false, false] rfl rfl (any_of HT_.out (by kernel_rfl)) (fun _ _ _ h => h) (Or.inl ⟨by rfl, ?_⟩) ?_ ?_
        rotate_left; (focus exact gs); rotate_left; (focus exact pt)
        refine pure_ (i := 4) (N := some 53) (v := ?_) (a' := ?_) #[true, true, true, true, true, false, false, false, false, false, false] rfl rfl (any_of HT_.out (by kernel_rfl)) (fun _ _ _ h => h) (Or.inl ⟨by rfl, ?_⟩) ?_ ?_
        rotate_left; (focus exact gs); rotate_left; (focus exact pt)
        refine pure_ (i := 5) (N := some 54) (v := ?_) (a' := ?_) #[true, true, true, true, true, true, false, false, false, false, false] rfl rfl (any_of HT_.out (by kernel_rfl)) (fun _ _ _ h => h) (Or.inl ⟨by rfl, ?_⟩) ?_ ?_
        rotate_left; (focus exact gs); rotate_left; (focus exact pt)
        refine take_ (i := 6) (N := some 55) (v := ?_) (a' := ?_) #[true, true, true, true, true, true, true, false, false, false, false] rfl rfl (take_ofW HT_.out HW_.out (by kernel_rfl)) (fun _ _ _ h => h) (Or.inl ⟨by rfl, ?_⟩) hHeld ?_ ?_
        rotate_left
        ·rintro w' ⟨s0, s1, s2, s3, s4, s5⟩
         go_simp
         with_reducible rfl
        rotate_left
        ·exact pt
        refine pure_ (i := 7) (N := some 56) (v := ?_) (a' := ?_) #[true, true, true, true, true, true, true, true, false, false, false] rfl rfl (any_of HT_.out (by kernel_rfl)) (fun _ _ _ h => h) (Or.inl ⟨by rfl, ?_⟩) ?_ ?_
        rotate_left; (focus exact gs); rotate_left; (focus exact pt)
        refine pure_ (i := 8) (N := some 57) (v := ?_) (a' := ?_) #[true, true, true, true, true, true, true, true, true, false, false] rfl rfl (any_of HT_.out (by kernel_rfl)) (fun _ _ _ h => h) (Or.inl ⟨by rfl, ?_⟩) ?_ ?_
        rotate_left; (focus exact gs); rotate_left; (focus exact pt)
        refine one_ (i := 9) (N := none) #[true, true, true, true, true, true, true, true, true, true, false] rfl rfl (one_of HT_.out (by kernel_rfl)) (by decide) (fun K hK => ?_)
        have hs56 := bc BK282.out 0 (.int .i64 0)
        have hfs56 := bz BK282.out 0
        have hns56_0 := NB280_282.out
        have hns56_1 := NB281_282.out
        have hms56_0 := NB282_280.out
        have hms56_1 := NB282_281.out
        have hs57 := bc BK282.out 1 (.int .i64 0)
        have hfs57 := bz BK282.out 1
        have hns57_0 := NB280_282.out
        have hns57_1 := NB281_282.out
        have hms57_0 := NB282_280.out
        have hms57_1 := NB282_281.out
        have hs58 := bc BK282.out 2 (.int .i64 0)
        have hfs58 := bz BK282.out 2
        have hns58_0 := NB280_282.out
        have hns58_1 := NB281_282.out
        have hms58_0 := NB282_280.out
        have hms58_1 := NB282_281.out
        have hs59 := bc BK282.out 3 (.int .i64 0)
        have hfs59 := bz BK282.out 3
        have hns59_0 := NB280_282.out
        have hns59_1 := NB281_282.out
        have hms59_0 := NB282_280.out
        have hms59_1 := NB282_281.out
        refine skip_ (w1 := ?_) (by rfl) rfl ?_ ?_
        rotate_left
        ·go_simp
         rfl
        refine hK.out _ _ ⟨((cell_far (p := ⟨gb282, _, none⟩) NB280_282.out _).trans (((cell_far (p := ⟨gb282, _, none⟩) NB280_282.out _).trans (((cell_far (p := ⟨gb282, _, none⟩) NB280_282.out _).trans (((cell_far (p := ⟨gb282, _, none⟩) NB280_282.out _).trans (hHeld.1)))))))), ((cell_far (p := ⟨gb282, _, none⟩) NB280_282.out _).trans (((cell_far (p := ⟨gb282, _, none⟩) NB280_282.out _).trans (((cell_far (p := ⟨gb282, _, none⟩) NB280_282.out _).trans (((cell_far (p := ⟨gb282, _, none⟩) NB280_282.out _).trans (hHeld.2.1)))))))), ((cell_far (p := ⟨gb282, _, none⟩) NB280_282.out _).trans (((cell_far (p := ⟨gb282, _, none⟩) NB280_282.out _).trans (((cell_far (p := ⟨gb282, _, none⟩) NB280_282.out _).trans (((cell_far (p := ⟨gb282, _, none⟩) NB280_282.out _).trans (hHeld.2.2.1)))))))), ((cell_far (p := ⟨gb282, _, none⟩) NB280_282.out _).trans (((cell_far (p := ⟨gb282, _, none⟩) NB280_282.out _).trans (((cell_far (p := ⟨gb282, _, none⟩) NB280_282.out _).trans (((cell_far (p := ⟨gb282, _, none⟩) NB280_282.out _).trans (hHeld.2.2.2.1)))))))), ((cell_far (p := ⟨gb282, _, none⟩) NB281_282.out _).trans (((cell_far (p := ⟨gb282, _, none⟩) NB281_282.out _).trans (((cell_far (p := ⟨gb282, _, none⟩) NB281_282.out _).trans (((cell_far (p := ⟨gb282, _, none⟩) NB281_282.out _).trans (hHeld.2.2.2.2.1)))))))), ((cell_far (p := ⟨gb282, _, none⟩) NB281_282.out _).trans (((cell_far (p := ⟨gb282, _, none⟩) NB281_282.out _).trans (((cell_far (p := ⟨gb282, _, none⟩) NB281_282.out _).trans (((cell_far (p := ⟨gb282, _, none⟩) NB281_282.out _).trans (hHeld.2.2.2.2.2))))))))⟩ (fun hHeld => ?_)
        clear hK K
        refine pure_ (i := 10) (N := some 5) (v := ?_) (a' := ?_) #[true, true, true, true, true, true, true, true, true, true, true] rfl rfl (any_of HT_.out (by kernel_rfl)) (fun _ _ _ h => h) (Or.inl ⟨by rfl, ?_⟩) ?_ ?_
        rotate_left; (focus exact gs); rotate_left; (focus exact pt)
        refine done_ (done_of HT_.out (by kernel_rfl)) ?_
        try go_wp2
        refine bodyPost_ret (results_ct rfl _ _ gb282 29 #[.int .i64 a0_0, .int .i64 a0_1, .int .i64 (wrap64 (a0_2 + 1)), .int .i64 a0_3] (0, 0) _ rfl (bp0 BK282.out) Tryd.underlying29 rfl (by kernel_rfl)) rfl ?_
        exact ⟨er, bl3 HB.out GE280.out GE281.out GE282.out⟩
       ·rw [if_neg c48] at H
        have c48b0 : decide (a1_1 < 12) = false := decide_eq_false c48
        clear c48
        simp only [Option.some.injEq, Prod.mk.injEq] at H
        obtain ⟨rfl, rfl, rfl, rfl, rfl⟩ := H
        have hnb60 := NB281_280.out
        have hnc60 := NB280_281.out
        have hnb61 := NB281_282.out
        have hnc61 := NB282_281.out
        obtain ⟨hcz62_0, hcz62_1, hfz62_0, hfz62_1⟩ := cs2 BK281.out
        have hnb63 := NB280_282.out
        have hnc63 := NB282_280.out
        obtain ⟨hcz64_0, hcz64_1, hcz64_2, hcz64_3, hfz64_0, hfz64_1, hfz64_2, hfz64_3⟩ := cs4 BK280.out
        try go_wp2
        have n0_ : Aside0 ((wc.setCell ⟨gb280, 2, none⟩ (.int .i64 (wrap64 (a0_2 + 1)))).heap[gb280]? = some (.cells #[.int .i64 a0_0, .int .i64 a0_1, .int .i64 (wrap64 (a0_2 + 1)), .int .i64 a0_3] 29 (0, 0))) := ⟨by (with_reducible repeat (first | refine blk_drewN ?_ _ | refine blk_drew ?_ | refine blk_alloc ?_ _)); refine blk_put (cs := #[.int .i64 a0_0, .int .i64 a0_1, .int .i64 a0_2, .int .i64 a0_3]) ?_ 2 _ rfl; exact bf0 BK280.out⟩
        have n1_ : Aside0 ((wc.setCell ⟨gb280, 2, none⟩ (.int .i64 (wrap64 (a0_2 + 1)))).heap[gb281]? = some (.cells #[.int .i64 a1_0, .int .i64 a1_1] 31 (0, 0))) := ⟨bf1 BK281.out NB281_280.out⟩
        have n2_ : Aside0 ((wc.setCell ⟨gb280, 2, none⟩ (.int .i64 (wrap64 (a0_2 + 1)))).heap[gb282]? = some (.cells #[.int .i64 0, .int .i64 0, .int .i64 0, .int .i64 0] 29 (0, 0))) := ⟨bf1 BK282.out NB282_280.out⟩
        have n3_ : Aside0 (Below w.heap.size w (wc.setCell ⟨gb280, 2, none⟩ (.int .i64 (wrap64 (a0_2 + 1))))) := ⟨bl3 HB.out GE280.out GE281.out GE282.out⟩
        (try clear BK280)
        (try clear BK281)
        (try clear BK282)
        (try clear HB)
        generalize (wc.setCell ⟨gb280, 2, none⟩ (.int .i64 (wrap64 (a0_2 + 1)))) = w65 at n0_ n1_ n2_ n3_ ⊢
        have BK280 := n0_
        have BK281 := n1_
        have BK282 := n2_
        have HB := n3_
        clear n0_ n1_ n2_ n3_
        have n_ := (⟨am (blk_drew BK280.out), am (blk_drew BK281.out), am (blk_drew BK282.out), am (below_drew1 HB.out)⟩ : _ ∧ _ ∧ _ ∧ _)
        clear BK280
        clear BK281
        clear BK282
        clear HB
        obtain ⟨BK280, BK281, BK282, HB⟩ := n_
        refine start_ (n := 11) (S := fun w' => w'.cell? ⟨gb280, 0, none⟩ = some (.int .i64 a0_0) ∧ w'.cell? ⟨gb280, 1, none⟩ = some (.int .i64 a0_1) ∧ w'.cell? ⟨gb280, 2, none⟩ = some (.int .i64 (wrap64 (a0_2 + 1))) ∧ w'.cell? ⟨gb280, 3, none⟩ = some (.int .i64 a0_3) ∧ w'.cell? ⟨gb281, 0, none⟩ = some (.int .i64 a1_0) ∧ w'.cell? ⟨gb281, 1, none⟩ = some (.int .i64 a1_1)) (ds := []) #[false, false, false, false, false, false, false, false, false, false, false] (by kernel_rfl) rfl rfl ⟨(blk_cell BK280.out 0).trans rfl, (blk_cell BK280.out 1).trans rfl, (blk_cell BK280.out 2).trans rfl, (blk_cell BK280.out 3).trans rfl, (blk_cell BK281.out 0).trans rfl, (blk_cell BK281.out 1).trans rfl⟩ (fun hHeld => ?_); refine with_tabW impl_after.tab12 impl_after.bits12 (fun HT_ HW_ => ?_)
        generalize w65.drew = w66 at BK280 BK281 BK282 HB hHeld ⊢
        refine pure_ (i := 1) (N := some 50) (v := ?_) (a' := ?_) #[false, true, false, false, false, false, false, false, false, false, false] rfl rfl (any_of HT_.out (by kernel_rfl)) (fun _ _ _ h => h) (Or.inl ⟨by rfl, ?_⟩) ?_ ?_
        rotate_left; (focus exact gs); rotate_left; (focus exact pt)
        refine take_ (i := 0) (N := some 49) (v := ?_) (a' := ?_) #[true, true, false, false, false, false, false, false, false, false, false] rfl rfl (take_ofW HT_.out HW_.out (by kernel_rfl)) (fun _ _ _ h => h) (Or.inl ⟨by rfl, ?_⟩) hHeld ?_ ?_
        rotate_left
        ·rintro w' ⟨s0, s1, s2, s3, s4, s5⟩
         go_simp
         with_reducible rfl
        rotate_left
        ·exact pt
        refine take_ (i := 2) (N := some 51) (v := ?_) (a' := ?_) #[true, true, true, false, false, false, false, false, false, false, false] rfl rfl (take_ofW HT_.out HW_.out (by kernel_rfl)) (fun _ _ _ h => h) (Or.inl ⟨by rfl, ?_⟩) hHeld ?_ ?_
        rotate_left
        ·rintro w' ⟨s0, s1, s2, s3, s4, s5⟩
         go_simp
         with_reducible rfl
        rotate_left
        ·exact pt
        refine pure_ (i := 3) (N := some 52) (v := ?_) (a' := ?_) #[true, true, true, true, false, false, false, false, false, false, false] rfl rfl (any_of HT_.out (by kernel_rfl)) (fun _ _ _ h => h) (Or.inl ⟨by rfl, ?_⟩) ?_ ?_
        rotate_left; (focus exact gs); rotate_left; (focus exact pt)
        refine pure_ (i := 4) (N := some 53) (v := ?_) (a' := ?_) #[true, true, true, true, true, false, false, false, false, false, false] rfl rfl (any_of HT_.out (by kernel_rfl)) (fun _ _ _ h => h) (Or.inl ⟨by rfl, ?_⟩) ?_ ?_
        rotate_left; (focus exact gs); rotate_left; (focus exact pt)
        refine pure_ (i := 5) (N := some 54) (v := undef) (a' := ?_) #[true, true, true, true, true, true, false, false, false, false, false] rfl rfl (any_of HT_.out (by kernel_rfl)) (fun _ _ _ h => h) (Or.inr ⟨by rfl, rfl⟩) ?_ ?_
        rotate_left
        ·exact pt
        refine pure_ (i := 6) (N := some 55) (v := undef) (a' := ?_) #[true, true, true, true, true, true, true, false, false, false, false] rfl rfl (any_of HT_.out (by kernel_rfl)) (fun _ _ _ h => h) (Or.inr ⟨by rfl, rfl⟩) ?_ ?_
        rotate_left
        ·exact pt
        refine pure_ (i := 7) (N := some 56) (v := undef) (a' := ?_) #[true, true, true, true, true, true, true, true, false, false, false] rfl rfl (any_of HT_.out (by kernel_rfl)) (fun _ _ _ h => h) (Or.inr ⟨by rfl, rfl⟩) ?_ ?_
        rotate_left
        ·exact pt
        refine pure_ (i := 8) (N := some 57) (v := ?_) (a' := ?_) #[true, true, true, true, true, true, true, true, true, false, false] rfl rfl (any_of HT_.out (by kernel_rfl)) (fun _ _ _ h => h) (Or.inl ⟨by rfl, ?_⟩) ?_ ?_
        rotate_left; (focus exact gs); rotate_left; (focus exact pt)
        refine one_ (i := 9) (N := none) #[true, true, true, true, true, true, true, true, true, true, false] rfl rfl (one_of HT_.out (by kernel_rfl)) (by decide) (fun K hK => ?_)
        have hs67 := bc BK282.out 0 (.int .i64 0)
        have hfs67 := bz BK282.out 0
        have hns67_0 := NB280_282.out
        have hns67_1 := NB281_282.out
        have hms67_0 := NB282_280.out
        have hms67_1 := NB282_281.out
        have hs68 := bc BK282.out 1 (.int .i64 0)
        have hfs68 := bz BK282.out 1
        have hns68_0 := NB280_282.out
        have hns68_1 := NB281_282.out
        have hms68_0 := NB282_280.out
        have hms68_1 := NB282_281.out
        have hs69 := bc BK282.out 2 (.int .i64 0)
        have hfs69 := bz BK282.out 2
        have hns69_0 := NB280_282.out
        have hns69_1 := NB281_282.out
        have hms69_0 := NB282_280.out
        have hms69_1 := NB282_281.out
        have hs70 := bc BK282.out 3 (.int .i64 0)
        have hfs70 := bz BK282.out 3
        have hns70_0 := NB280_282.out
        have hns70_1 := NB281_282.out
        have hms70_0 := NB282_280.out
        have hms70_1 := NB282_281.out
        refine skip_ (w1 := ?_) (by rfl) rfl ?_ ?_
        rotate_left
        ·go_simp
         rfl
        refine hK.out _ _ ⟨((cell_far (p := ⟨gb282, _, none⟩) NB280_282.out _).trans (((cell_far (p := ⟨gb282, _, none⟩) NB280_282.out _).trans (((cell_far (p := ⟨gb282, _, none⟩) NB280_282.out _).trans (((cell_far (p := ⟨gb282, _, none⟩) NB280_282.out _).trans (hHeld.1)))))))), ((cell_far (p := ⟨gb282, _, none⟩) NB280_282.out _).trans (((cell_far (p := ⟨gb282, _, none⟩) NB280_282.out _).trans (((cell_far (p := ⟨gb282, _, none⟩) NB280_282.out _).trans (((cell_far (p := ⟨gb282, _, none⟩) NB280_282.out _).trans (hHeld.2.1)))))))), ((cell_far (p := ⟨gb282, _, none⟩) NB280_282.out _).trans (((cell_far (p := ⟨gb282, _, none⟩) NB280_282.out _).trans (((cell_far (p := ⟨gb282, _, none⟩) NB280_282.out _).trans (((cell_far (p := ⟨gb282, _, none⟩) NB280_282.out _).trans (hHeld.2.2.1)))))))), ((cell_far (p := ⟨gb282, _, none⟩) NB280_282.out _).trans (((cell_far (p := ⟨gb282, _, none⟩) NB280_282.out _).trans (((cell_far (p := ⟨gb282, _, none⟩) NB280_282.out _).trans (((cell_far (p := ⟨gb282, _, none⟩) NB280_282.out _).trans (hHeld.2.2.2.1)))))))), ((cell_far (p := ⟨gb282, _, none⟩) NB281_282.out _).trans (((cell_far (p := ⟨gb282, _, none⟩) NB281_282.out _).trans (((cell_far (p := ⟨gb282, _, none⟩) NB281_282.out _).trans (((cell_far (p := ⟨gb282, _, none⟩) NB281_282.out _).trans (hHeld.2.2.2.2.1)))))))), ((cell_far (p := ⟨gb282, _, none⟩) NB281_282.out _).trans (((cell_far (p := ⟨gb282, _, none⟩) NB281_282.out _).trans (((cell_far (p := ⟨gb282, _, none⟩) NB281_282.out _).trans (((cell_far (p := ⟨gb282, _, none⟩) NB281_282.out _).trans (hHeld.2.2.2.2.2))))))))⟩ (fun hHeld => ?_)
        clear hK K
        refine pure_ (i := 10) (N := some 5) (v := ?_) (a' := ?_) #[true, true, true, true, true, true, true, true, true, true, true] rfl rfl (any_of HT_.out (by kernel_rfl)) (fun _ _ _ h => h) (Or.inl ⟨by rfl, ?_⟩) ?_ ?_
        rotate_left; (focus exact gs); rotate_left; (focus exact pt)
        refine done_ (done_of HT_.out (by kernel_rfl)) ?_
        try go_wp2
        refine bodyPost_ret (results_ct rfl _ _ gb282 29 #[.int .i64 a0_0, .int .i64 a0_1, .int .i64 (wrap64 (a0_2 + 1)), .int .i64 a0_3] (0, 0) _ rfl (bp0 BK282.out) Tryd.underlying29 rfl (by kernel_rfl)) rfl ?_
        exact ⟨er, bl3 HB.out GE280.out GE281.out GE282.out⟩
      ·rw [if_neg c47] at H
       have c47b0 : (a1_0 == 3) = false := beq_eq_false_iff_ne.mpr c47
       have c47b1 : (a1_0 != 3) = true := bne_iff_ne.mpr c47
       by_cases c71 : a1_0 = 4
       ·rw [if_pos c71] at H
        have c71b0 : (a1_0 == 4) = true := beq_iff_eq.mpr c71
        have c71b1 : (a1_0 != 4) = false := bne_eq_false_iff_eq.mpr c71
        clear c71
        by_cases c72 : a1_1 = a0_1
        ·rw [if_pos c72] at H
         have c72b0 : (a1_1 == a0_1) = true := beq_iff_eq.mpr c72
         have c72b1 : (a1_1 != a0_1) = false := bne_eq_false_iff_eq.mpr c72
         clear c72
         simp only [Option.some.injEq, Prod.mk.injEq] at H
         obtain ⟨rfl, rfl, rfl, rfl, rfl⟩ := H
         have hnb73 := NB281_280.out
         have hnc73 := NB280_281.out
         have hnb74 := NB281_282.out
         have hnc74 := NB282_281.out
         obtain ⟨hcz75_0, hcz75_1, hfz75_0, hfz75_1⟩ := cs2 BK281.out
         try go_wp2
         have n_ := (⟨am (blk_drew BK280.out), am (blk_drew BK281.out), am (blk_drew BK282.out), am (below_drew1 HB.out)⟩ : _ ∧ _ ∧ _ ∧ _)
         clear BK280
         clear BK281
         clear BK282
         clear HB
         obtain ⟨BK280, BK281, BK282, HB⟩ := n_
         refine start_ (n := 16) (S := fun w' => w'.cell? ⟨gb280, 0, none⟩ = some (.int .i64 a0_0) ∧ w'.cell? ⟨gb280, 1, none⟩ = some (.int .i64 a0_1) ∧ w'.cell? ⟨gb280, 2, none⟩ = some (.int .i64 a0_2) ∧ w'.cell? ⟨gb280, 3, none⟩ = some (.int .i64 a0_3) ∧ w'.cell? ⟨gb281, 0, none⟩ = some (.int .i64 a1_0) ∧ w'.cell? ⟨gb281, 1, none⟩ = some (.int .i64 a1_1)) (ds := []) #[false, false, false, false, false, false, false, false, false, false, false, false, false, false, false, false] (by kernel_rfl) rfl rfl ⟨(blk_cell BK280.out 0).trans rfl, (blk_cell BK280.out 1).trans rfl, (blk_cell BK280.out 2).trans rfl, (blk_cell BK280.out 3).trans rfl, (blk_cell BK281.out 0).trans rfl, (blk_cell BK281.out 1).trans rfl⟩ (fun hHeld => ?_); refine with_tabW impl_after.tab14 impl_after.bits14 (fun HT_ HW_ => ?_)
         generalize wc.drew = w76 at BK280 BK281 BK282 HB hHeld ⊢
         refine pure_ (i := 0) (N := some 60) (v := ?_) (a' := ?_) #[true, false, false, false, false, false, false, false, false, false, false, false, false, false, false, false] rfl rfl (any_of HT_.out (by kernel_rfl)) (fun _ _ _ h => h) (Or.inl ⟨by rfl, ?_⟩) ?_ ?_
         rotate_left; (focus exact gs); rotate_left; (focus exact pt)
         refine pure_ (i := 4) (N := some 64) (v := ?_) (a' := ?_) #[true, false, false, false, true, false, false, false, false, false, false, false, false, false, false, false] rfl rfl (any_of HT_.out (by kernel_rfl)) (fun _ _ _ h => h) (Or.inl ⟨by rfl, ?_⟩) ?_ ?_
         rotate_left; (focus exact gs); rotate_left; (focus exact pt)
         refine pure_ (i := 6) (N := some 66) (v := ?_) (a' := ?_) #[true, false, false, false, true, false, true, false, false, false, false, false, false, false, false, false] rfl rfl (any_of HT_.out (by kernel_rfl)) (fun _ _ _ h => h) (Or.inl ⟨by rfl, ?_⟩) ?_ ?_
         rotate_left; (focus exact gs); rotate_left; (focus exact pt)
         refine take_ (i := 1) (N := some 61) (v := ?_) (a' := ?_) #[true, true, false, false, true, false, true, false, false, false, false, false, false, false, false, false] rfl rfl (take_ofW HT_.out HW_.out (by kernel_rfl)) (fun _ _ _ h => h) (Or.inl ⟨by rfl, ?_⟩) hHeld ?_ ?_
         rotate_left
         ·rintro w' ⟨s0, s1, s2, s3, s4, s5⟩
          go_simp
          with_reducible rfl
         rotate_left
         ·exact pt
         refine pure_ (i := 2) (N := some 62) (v := ?_) (a' := ?_) #[true, true, true, false, true, false, true, false, false, false, false, false, false, false, false, false] rfl rfl (any_of HT_.out (by kernel_rfl)) (fun _ _ _ h => h) (Or.inl ⟨by rfl, ?_⟩) ?_ ?_
         rotate_left; (focus exact gs); rotate_left; (focus exact pt)
         refine pure_ (i := 3) (N := some 63) (v := ?_) (a' := ?_) #[true, true, true, true, true, false, true, false, false, false, false, false, false, false, false, false] rfl rfl (any_of HT_.out (by kernel_rfl)) (fun _ _ _ h => h) (Or.inl ⟨by rfl, ?_⟩) ?_ ?_
         rotate_left; (focus exact gs); rotate_left; (focus exact pt)
         refine take_ (i := 5) (N := some 65) (v := ?_) (a' := ?_) #[true, true, true, true, true, true, true, false, false, false, false, false, false, false, false, false] rfl rfl (take_ofW HT_.out HW_.out (by kernel_rfl)) (fun _ _ _ h => h) (Or.inl ⟨by rfl, ?_⟩) hHeld ?_ ?_
         rotate_left
         ·rintro w' ⟨s0, s1, s2, s3, s4, s5⟩
          go_simp
          with_reducible rfl
         rotate_left
         ·exact pt
         refine take_ (i := 7) (N := some 67) (v := ?_) (a' := ?_) #[true, true, true, true, true, true, true, true, false, false, false, false, false, false, false, false] rfl rfl (take_ofW HT_.out HW_.out (by kernel_rfl)) (fun _ _ _ h => h) (Or.inl ⟨by rfl, ?_⟩) hHeld ?_ ?_
         rotate_left
         ·rintro w' ⟨s0, s1, s2, s3, s4, s5⟩
          go_simp
          with_reducible rfl
         rotate_left
         ·exact pt
         refine pure_ (i := 8) (N := some 68) (v := ?_) (a' := ?_) #[true, true, true, true, true, true, true, true, true, false, false, false, false, false, false, false] rfl rfl (any_of HT_.out (by kernel_rfl)) (fun _ _ _ h => h) (Or.inl ⟨by rfl, ?_⟩) ?_ ?_
         rotate_left; (focus exact gs); rotate_left; (focus exact pt)
         refine pure_ (i := 9) (N := some 69) (v := ?_) (a' := ?_) #[true, true, true, true, true, true, true, true, true, true, false, false, false, false, false, false] rfl rfl (any_of HT_.out (by kernel_rfl)) (fun _ _ _ h => h) (Or.inl ⟨by rfl, ?_⟩) ?_ ?_
         rotate_left; (focus exact gs); rotate_left; (focus exact pt)
         refine pure_ (i := 10) (N := some 70) (v := ?_) (a' := ?_) #[true, true, true, true, true, true, true, true, true, true, true, false, false, false, false, false] rfl rfl (any_of HT_.out (by kernel_rfl)) (fun _ _ _ h => h) (Or.inl ⟨by rfl, ?_⟩) ?_ ?_
         rotate_left; (focus exact gs); rotate_left; (focus exact pt)
         refine take_ (i := 11) (N := some 71) (v := ?_) (a' := ?_) #[true, true, true, true, true, true, true, true, true, true, true, true, false, false, false, false] rfl rfl (take_ofW HT_.out HW_.out (by kernel_rfl)) (fun _ _ _ h => h) (Or.inl ⟨by rfl, ?_⟩) hHeld ?_ ?_
         rotate_left
         ·rintro w' ⟨s0, s1, s2, s3, s4, s5⟩
          go_simp
          with_reducible rfl
         rotate_left
         ·exact pt
         refine pure_ (i := 12) (N := some 72) (v := ?_) (a' := ?_) #[true, true, true, true, true, true, true, true, true, true, true, true, true, false, false, false] rfl rfl (any_of HT_.out (by kernel_rfl)) (fun _ _ _ h => h) (Or.inl ⟨by rfl, ?_⟩) ?_ ?_
         rotate_left; (focus exact gs); rotate_left; (focus exact pt)
         refine pure_ (i := 13) (N := some 73) (v := ?_) (a' := ?_) #[true, true, true, true, true, true, true, true, true, true, true, true, true, true, false, false] rfl rfl (any_of HT_.out (by kernel_rfl)) (fun _ _ _ h => h) (Or.inl ⟨by rfl, ?_⟩) ?_ ?_
         rotate_left; (focus exact gs); rotate_left; (focus exact pt)
         refine one_ (i := 14) (N := none) #[true, true, true, true, true, true, true, true, true, true, true, true, true, true, true, false] rfl rfl (one_of HT_.out (by kernel_rfl)) (by decide) (fun K hK => ?_)
         have hs77 := bc BK282.out 0 (.int .i64 0)
         have hfs77 := bz BK282.out 0
         have hns77_0 := NB280_282.out
         have hns77_1 := NB281_282.out
         have hms77_0 := NB282_280.out
         have hms77_1 := NB282_281.out
         have hs78 := bc BK282.out 1 (.int .i64 0)
         have hfs78 := bz BK282.out 1
         have hns78_0 := NB280_282.out
         have hns78_1 := NB281_282.out
         have hms78_0 := NB282_280.out
         have hms78_1 := NB282_281.out
         have hs79 := bc BK282.out 2 (.int .i64 0)
         have hfs79 := bz BK282.out 2
         have hns79_0 := NB280_282.out
         have hns79_1 := NB281_282.out
         have hms79_0 := NB282_280.out
         have hms79_1 := NB282_281.out
         have hs80 := bc BK282.out 3 (.int .i64 0)
         have hfs80 := bz BK282.out 3
         have hns80_0 := NB280_282.out
         have hns80_1 := NB281_282.out
         have hms80_0 := NB282_280.out
         have hms80_1 := NB282_281.out
         refine skip_ (w1 := ?_) (by rfl) rfl ?_ ?_
         rotate_left
         ·go_simp
          rfl
         refine hK.out _ _ ⟨((cell_far (p := ⟨gb282, _, none⟩) NB280_282.out _).trans (((cell_far (p := ⟨gb282, _, none⟩) NB280_282.out _).trans (((cell_far (p := ⟨gb282, _, none⟩) NB280_282.out _).trans (((cell_far (p := ⟨gb282, _, none⟩) NB280_282.out _).trans (hHeld.1)))))))), ((cell_far (p := ⟨gb282, _, none⟩) NB280_282.out _).trans (((cell_far (p := ⟨gb282, _, none⟩) NB280_282.out _).trans (((cell_far (p := ⟨gb282, _, none⟩) NB280_282.out _).trans (((cell_far (p := ⟨gb282, _, none⟩) NB280_282.out _).trans (hHeld.2.1)))))))), ((cell_far (p := ⟨gb282, _, none⟩) NB280_282.out _).trans (((cell_far (p := ⟨gb282, _, none⟩) NB280_282.out _).trans (((cell_far (p := ⟨gb282, _, none⟩) NB280_282.out _).trans (((cell_far (p := ⟨gb282, _, none⟩) NB280_282.out _).trans (hHeld.2.2.1)))))))), ((cell_far (p := ⟨gb282, _, none⟩) NB280_282.out _).trans (((cell_far (p := ⟨gb282, _, none⟩) NB280_282.out _).trans (((cell_far (p := ⟨gb282, _, none⟩) NB280_282.out _).trans (((cell_far (p := ⟨gb282, _, none⟩) NB280_282.out _).trans (hHeld.2.2.2.1)))))))), ((cell_far (p := ⟨gb282, _, none⟩) NB281_282.out _).trans (((cell_far (p := ⟨gb282, _, none⟩) NB281_282.out _).trans (((cell_far (p := ⟨gb282, _, none⟩) NB281_282.out _).trans (((cell_far (p := ⟨gb282, _, none⟩) NB281_282.out _).trans (hHeld.2.2.2.2.1)))))))), ((cell_far (p := ⟨gb282, _, none⟩) NB281_282.out _).trans (((cell_far (p := ⟨gb282, _, none⟩) NB281_282.out _).trans (((cell_far (p := ⟨gb282, _, none⟩) NB281_282.out _).trans (((cell_far (p := ⟨gb282, _, none⟩) NB281_282.out _).trans (hHeld.2.2.2.2.2))))))))⟩ (fun hHeld => ?_)
         clear hK K
         refine pure_ (i := 15) (N := some 5) (v := ?_) (a' := ?_) #[true, true, true, true, true, true, true, true, true, true, true, true, true, true, true, true] rfl rfl (any_of HT_.out (by kernel_rfl)) (fun _ _ _ h => h) (Or.inl ⟨by rfl, ?_⟩) ?_ ?_
         rotate_left; (focus exact gs); rotate_left; (focus exact pt)
         refine done_ (done_of HT_.out (by kernel_rfl)) ?_
         try go_wp2
         refine bodyPost_ret (results_ct rfl _ _ gb282 29 #[.int .i64 0, .int .i64 0, .int .i64 0, .int .i64 (wrap64 (a0_3 + 1))] (0, 0) _ rfl (bp0 BK282.out) Tryd.underlying29 rfl (by kernel_rfl)) rfl ?_
         exact ⟨er, bl3 HB.out GE280.out GE281.out GE282.out⟩
        ·rw [if_neg c72] at H
         have c72b0 : (a1_1 == a0_1) = false := beq_eq_false_iff_ne.mpr c72
         have c72b1 : (a1_1 != a0_1) = true := bne_iff_ne.mpr c72
         simp only [Option.some.injEq, Prod.mk.injEq] at H
         obtain ⟨rfl, rfl, rfl, rfl, rfl⟩ := H
         have hnb81 := NB281_280.out
         have hnc81 := NB280_281.out
         have hnb82 := NB281_282.out
         have hnc82 := NB282_281.out
         obtain ⟨hcz83_0, hcz83_1, hfz83_0, hfz83_1⟩ := cs2 BK281.out
         try go_wp2
         have n_ := (⟨am (blk_drew BK280.out), am (blk_drew BK281.out), am (blk_drew BK282.out), am (below_drew1 HB.out)⟩ : _ ∧ _ ∧ _ ∧ _)
         clear BK280
         clear BK281
         clear BK282
         clear HB
         obtain ⟨BK280, BK281, BK282, HB⟩ := n_
         refine start_ (n := 16) (S := fun w' => w'.cell? ⟨gb280, 0, none⟩ = some (.int .i64 a0_0) ∧ w'.cell? ⟨gb280, 1, none⟩ = some (.int .i64 a0_1) ∧ w'.cell? ⟨gb280, 2, none⟩ = some (.int .i64 a0_2) ∧ w'.cell? ⟨gb280, 3, none⟩ = some (.int .i64 a0_3) ∧ w'.cell? ⟨gb281, 0, none⟩ = some (.int .i64 a1_0) ∧ w'.cell? ⟨gb281, 1, none⟩ = some (.int .i64 a1_1)) (ds := []) #[false, false, false, false, false, false, false, false, false, false, false, false, false, false, false, false] (by kernel_rfl) rfl rfl ⟨(blk_cell BK280.out 0).trans rfl, (blk_cell BK280.out 1).trans rfl, (blk_cell BK280.out 2).trans rfl, (blk_cell BK280.out 3).trans rfl, (blk_cell BK281.out 0).trans rfl, (blk_cell BK281.out 1).trans rfl⟩ (fun hHeld => ?_); refine with_tabW impl_after.tab14 impl_after.bits14 (fun HT_ HW_ => ?_)
         generalize wc.drew = w84 at BK280 BK281 BK282 HB hHeld ⊢
         refine pure_ (i := 0) (N := some 60) (v := ?_) (a' := ?_) #[true, false, false, false, false, false, false, false, false, false, false, false, false, false, false, false] rfl rfl (any_of HT_.out (by kernel_rfl)) (fun _ _ _ h => h) (Or.inl ⟨by rfl, ?_⟩) ?_ ?_
         rotate_left; (focus exact gs); rotate_left; (focus exact pt)
         refine pure_ (i := 4) (N := some 64) (v := ?_) (a' := ?_) #[true, false, false, false, true, false, false, false, false, false, false, false, false, false, false, false] rfl rfl (any_of HT_.out (by kernel_rfl)) (fun _ _ _ h => h) (Or.inl ⟨by rfl, ?_⟩) ?_ ?_
         rotate_left; (focus exact gs); rotate_left; (focus exact pt)
         refine pure_ (i := 6) (N := some 66) (v := ?_) (a' := ?_) #[true, false, false, false, true, false, true, false, false, false, false, false, false, false, false, false] rfl rfl (any_of HT_.out (by kernel_rfl)) (fun _ _ _ h => h) (Or.inl ⟨by rfl, ?_⟩) ?_ ?_
         rotate_left; (focus exact gs); rotate_left; (focus exact pt)
         refine take_ (i := 1) (N := some 61) (v := ?_) (a' := ?_) #[true, true, false, false, true, false, true, false, false, false, false, false, false, false, false, false] rfl rfl (take_ofW HT_.out HW_.out (by kernel_rfl)) (fun _ _ _ h => h) (Or.inl ⟨by rfl, ?_⟩) hHeld ?_ ?_
         rotate_left
         ·rintro w' ⟨s0, s1, s2, s3, s4, s5⟩
          go_simp
          with_reducible rfl
         rotate_left
         ·exact pt
         refine pure_ (i := 2) (N := some 62) (v := ?_) (a' := ?_) #[true, true, true, false, true, false, true, false, false, false, false, false, false, false, false, false] rfl rfl (any_of HT_.out (by kernel_rfl)) (fun _ _ _ h => h) (Or.inl ⟨by rfl, ?_⟩) ?_ ?_
         rotate_left; (focus exact gs); rotate_left; (focus exact pt)
         refine pure_ (i := 3) (N := some 63) (v := ?_) (a' := ?_) #[true, true, true, true, true, false, true, false, false, false, false, false, false, false, false, false] rfl rfl (any_of HT_.out (by kernel_rfl)) (fun _ _ _ h => h) (Or.inl ⟨by rfl, ?_⟩) ?_ ?_
         rotate_left; (focus exact gs); rotate_left; (focus exact pt)
         refine take_ (i := 5) (N := some 65) (v := ?_) (a' := ?_) #[true, true, true, true, true, true, true, false, false, false, false, false, false, false, false, false] rfl rfl (take_ofW HT_.out HW_.out (by kernel_rfl)) (fun _ _ _ h => h) (Or.inl ⟨by rfl, ?_⟩) hHeld ?_ ?_
         rotate_left
         ·rintro w' ⟨s0, s1, s2, s3, s4, s5⟩
          go_simp
          with_reducible rfl
         rotate_left
         ·exact pt
         refine take_ (i := 7) (N := some 67) (v := ?_) (a' := ?_) #[true, true, true, true, true, true, true, true, false, false, false, false, false, false, false, false] rfl rfl (take_ofW HT_.out HW_.out (by kernel_rfl)) (fun _ _ _ h => h) (Or.inl ⟨by rfl, ?_⟩) hHeld ?_ ?_
         rotate_left
         ·rintro w' ⟨s0, s1, s2, s3, s4, s5⟩
          go_simp
          with_reducible rfl
         rotate_left
         ·exact pt
         refine pure_ (i := 8) (N := some 68) (v := ?_) (a' := ?_) #[true, true, true, true, true, true, true, true, true, false, false, false, false, false, false, false] rfl rfl (any_of HT_.out (by kernel_rfl)) (fun _ _ _ h => h) (Or.inl ⟨by rfl, ?_⟩) ?_ ?_
         rotate_left; (focus exact gs); rotate_left; (focus exact pt)
         refine pure_ (i := 9) (N := some 69) (v := ?_) (a' := ?_) #[true, true, true, true, true, true, true, true, true, true, false, false, false, false, false, false] rfl rfl (any_of HT_.out (by kernel_rfl)) (fun _ _ _ h => h) (Or.inl ⟨by rfl, ?_⟩) ?_ ?_
         rotate_left; (focus exact gs); rotate_left; (focus exact pt)
         refine pure_ (i := 10) (N := some 70) (v := undef) (a' := ?_) #[true, true, true, true, true, true, true, true, true, true, true, false, false, false, false, false] rfl rfl (any_of HT_.out (by kernel_rfl)) (fun _ _ _ h => h) (Or.inr ⟨by rfl, rfl⟩) ?_ ?_
         rotate_left
         ·exact pt
         refine pure_ (i := 11) (N := some 71) (v := undef) (a' := ?_) #[true, true, true, true, true, true, true, true, true, true, true, true, false, false, false, false] rfl rfl (any_of HT_.out (by kernel_rfl)) (fun _ _ _ h => h) (Or.inr ⟨by rfl, rfl⟩) ?_ ?_
         rotate_left
         ·exact pt
         refine pure_ (i := 12) (N := some 72) (v := undef) (a' := ?_) #[true, true, true, true, true, true, true, true, true, true, true, true, true, false, false, false] rfl rfl (any_of HT_.out (by kernel_rfl)) (fun _ _ _ h => h) (Or.inr ⟨by rfl, rfl⟩) ?_ ?_
         rotate_left
         ·exact pt
         refine pure_ (i := 13) (N := some 73) (v := ?_) (a' := ?_) #[true, true, true, true, true, true, true, true, true, true, true, true, true, true, false, false] rfl rfl (any_of HT_.out (by kernel_rfl)) (fun _ _ _ h => h) (Or.inl ⟨by rfl, ?_⟩) ?_ ?_
         rotate_left; (focus exact gs); rotate_left; (focus exact pt)
         refine one_ (i := 14) (N := none) #[true, true, true, true, true, true, true, true, true, true, true, true, true, true, true, false] rfl rfl (one_of HT_.out (by kernel_rfl)) (by decide) (fun K hK => ?_)
         have hs85 := bc BK282.out 0 (.int .i64 0)
         have hfs85 := bz BK282.out 0
         have hns85_0 := NB280_282.out
         have hns85_1 := NB281_282.out
         have hms85_0 := NB282_280.out
         have hms85_1 := NB282_281.out
         have hs86 := bc BK282.out 1 (.int .i64 0)
         have hfs86 := bz BK282.out 1
         have hns86_0 := NB280_282.out
         have hns86_1 := NB281_282.out
         have hms86_0 := NB282_280.out
         have hms86_1 := NB282_281.out
         have hs87 := bc BK282.out 2 (.int .i64 0)
         have hfs87 := bz BK282.out 2
         have hns87_0 := NB280_282.out
         have hns87_1 := NB281_282.out
         have hms87_0 := NB282_280.out
         have hms87_1 := NB282_281.out
         have hs88 := bc BK282.out 3 (.int .i64 0)
         have hfs88 := bz BK282.out 3
         have hns88_0 := NB280_282.out
         have hns88_1 := NB281_282.out
         have hms88_0 := NB282_280.out
         have hms88_1 := NB282_281.out
         refine skip_ (w1 := ?_) (by rfl) rfl ?_ ?_
         rotate_left
         ·go_simp
          rfl
         refine hK.out _ _ ⟨((cell_far (p := ⟨gb282, _, none⟩) NB280_282.out _).trans (((cell_far (p := ⟨gb282, _, none⟩) NB280_282.out _).trans (((cell_far (p := ⟨gb282, _, none⟩) NB280_282.out _).trans (((cell_far (p := ⟨gb282, _, none⟩) NB280_282.out _).trans (hHeld.1)))))))), ((cell_far (p := ⟨gb282, _, none⟩) NB280_282.out _).trans (((cell_far (p := ⟨gb282, _, none⟩) NB280_282.out _).trans (((cell_far (p := ⟨gb282, _, none⟩) NB280_282.out _).trans (((cell_far (p := ⟨gb282, _, none⟩) NB280_282.out _).trans (hHeld.2.1)))))))), ((cell_far (p := ⟨gb282, _, none⟩) NB280_282.out _).trans (((cell_far (p := ⟨gb282, _, none⟩) NB280_282.out _).trans (((cell_far (p := ⟨gb282, _, none⟩) NB280_282.out _).trans (((cell_far (p := ⟨gb282, _, none⟩) NB280_282.out _).trans (hHeld.2.2.1)))))))), ((cell_far (p := ⟨gb282, _, none⟩) NB280_282.out _).trans (((cell_far (p := ⟨gb282, _, none⟩) NB280_282.out _).trans (((cell_far (p := ⟨gb282, _, none⟩) NB280_282.out _).trans (((cell_far (p := ⟨gb282, _, none⟩) NB280_282.out _).trans (hHeld.2.2.2.1)))))))), ((cell_far (p := ⟨gb282, _, none⟩) NB281_282.out _).trans (((cell_far (p := ⟨gb282, _, none⟩) NB281_282.out _).trans (((cell_far (p := ⟨gb282, _, none⟩) NB281_282.out _).trans (((cell_far (p := ⟨gb282, _, none⟩) NB281_282.out _).trans (hHeld.2.2.2.2.1)))))))), ((cell_far (p := ⟨gb282, _, none⟩) NB281_282.out _).trans (((cell_far (p := ⟨gb282, _, none⟩) NB281_282.out _).trans (((cell_far (p := ⟨gb282, _, none⟩) NB281_282.out _).trans (((cell_far (p := ⟨gb282, _, none⟩) NB281_282.out _).trans (hHeld.2.2.2.2.2))))))))⟩ (fun hHeld => ?_)
         clear hK K
         refine pure_ (i := 15) (N := some 5) (v := ?_) (a' := ?_) #[true, true, true, true, true, true, true, true, true, true, true, true, true, true, true, true] rfl rfl (any_of HT_.out (by kernel_rfl)) (fun _ _ _ h => h) (Or.inl ⟨by rfl, ?_⟩) ?_ ?_
         rotate_left; (focus exact gs); rotate_left; (focus exact pt)
         refine done_ (done_of HT_.out (by kernel_rfl)) ?_
         try go_wp2
         refine bodyPost_ret (results_ct rfl _ _ gb282 29 #[.int .i64 0, .int .i64 0, .int .i64 0, .int .i64 (wrap64 (a0_3 + 1))] (0, 0) _ rfl (bp0 BK282.out) Tryd.underlying29 rfl (by kernel_rfl)) rfl ?_
         exact ⟨er, bl3 HB.out GE280.out GE281.out GE282.out⟩
       ·rw [if_neg c71] at H
        have c71b0 : (a1_0 == 4) = false := beq_eq_false_iff_ne.mpr c71
        have c71b1 : (a1_0 != 4) = true := bne_iff_ne.mpr c71
        simp only [Option.some.injEq, Prod.mk.injEq] at H
        obtain ⟨rfl, rfl, rfl, rfl, rfl⟩ := H
        have hnb89 := NB281_280.out
        have hnc89 := NB280_281.out
        have hnb90 := NB281_282.out
        have hnc90 := NB282_281.out
        obtain ⟨hcz91_0, hcz91_1, hfz91_0, hfz91_1⟩ := cs2 BK281.out
        have hnb92 := NB280_282.out
        have hnc92 := NB282_280.out
        obtain ⟨hcz93_0, hcz93_1, hcz93_2, hcz93_3, hfz93_0, hfz93_1, hfz93_2, hfz93_3⟩ := cs4 BK280.out
        obtain ⟨hcz94_0, hcz94_1, hcz94_2, hcz94_3, hfz94_0, hfz94_1, hfz94_2, hfz94_3⟩ := cs4 BK282.out
        go_wp2
        refine bodyPost_ret (results_ct rfl _ _ gb282 29 #[.int .i64 a0_0, .int .i64 a0_1, .int .i64 a0_2, .int .i64 a0_3] (0, 0) _ rfl (bp0 BK282.out) Tryd.underlying29 rfl (by kernel_rfl)) rfl ?_
        exact ⟨er, bl3 HB.out GE280.out GE281.out GE282.out⟩

end Go.Proofs.YthfmhfgckhkgjaaDoor.PFnResumed
