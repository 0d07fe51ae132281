-- Laid by wip/mk/mk.py out of the translation. Not trusted: Lean checks it.
import Derived.Test.YthfmhfgckhkgjaaDoorPFnResumedx0
import Derived.Test.YthfmhfgckhkgjaaDoorPFnResumedx3
import Derived.Test.YthfmhfgckhkgjaaDoorPFnResumedx5
import Derived.Test.YthfmhfgckhkgjaaDoorPFnResumedx14
namespace Go.Proofs.YthfmhfgckhkgjaaDoor.PFnResumed
open Go.RowKit Go.Proofs.YthfmhfgckhkgjaaDoorW.PrintWords Go.Proofs.YthfmhfgckhkgjaaDoorW.PrintLast Go.Proofs.YthfmhfgckhkgjaaDoorW.PrintMore
attribute [local go_sem] max2_int min2_int max_two min_two max_three min_three max_four min_four   -- for this text's walks alone
set_option linter.unusedVariables false
set_option linter.unusedSimpArgs false

/-! ### spec_l29Recover: function 23 -/
mutual
def spec_l29Recover.l0 : Nat → List ByteArray → List (S31) → Int → Int → Int → Int → Int → Option ((List (S31)))
 | 0, _, _, _, _, _, _, _ => none
 | k + 1, x3, x4, x6, x361000, x361001, x361002, x361003 => if (wrap64 (x6 + 1)) < (x3.length : Int) then (spec_l29Recover.j1 k x3 x4 x6 (decide (x6 < 200)) x361000 x361001 x361002 x361003) else (spec_l29Recover.j1 k x3 x4 x6 false x361000 x361001 x361002 x361003)
def spec_l29Recover.j1 : Nat → List ByteArray → List (S31) → Int → Bool → Int → Int → Int → Int → Option ((List (S31)))
 | 0, _, _, _, _, _, _, _, _ => none
 | k + 1, x3, x4, x6, x24, x361000, x361001, x361002, x361003 => if x24 = true then (if 0 ≤ x6 then (if x6 < (x3.length : Int) then ((spec_l01Split.f k (rdOf ByteArray.empty x3 x6) 32).bind fun t362 => ((spec_l01Numbers.f k t362).bind fun bt365 => (if bt365.2 = true then (spec_l29Recover.j2 k x3 x4 x6 bt365.1 ((bt365.1.length : Int) != 3) x361000 x361001 x361002 x361003) else (spec_l29Recover.j2 k x3 x4 x6 bt365.1 true x361000 x361001 x361002 x361003)))) else (none)) else (none)) else (some x4)
def spec_l29Recover.j2 : Nat → List ByteArray → List (S31) → Int → List Int → Bool → Int → Int → Int → Int → Option ((List (S31)))
 | 0, _, _, _, _, _, _, _, _, _ => none
 | k + 1, x3, x4, x6, x7, x42, x361000, x361001, x361002, x361003 => if x42 = true then (some x4) else (if 0 < (x7.length : Int) then (if 1 < (x7.length : Int) then ((spec_l29Make.f x361000 x361001 x361002 x361003 (rd x7 0) (rd x7 1)).bind fun bt372 => (if bt372.2.2.2.2 = true then ((spec_l29Line.f k (rd x7 0) (rd x7 1) x6).bind fun t378 => (if 0 ≤ x6 then (if x6 < (x3.length : Int) then (if t378.toList = (rdOf ByteArray.empty x3 x6).toList then (if x4.length < 8796093022208 then (spec_l29Recover.l0 k x3 (x4 ++ [(⟨rd x7 0, rd x7 1⟩ : S31)]) (wrap64 (x6 + 1)) bt372.1 bt372.2.1 bt372.2.2.1 bt372.2.2.2.1) else (none)) else (some x4)) else (none)) else (none))) else (some x4))) else (none)) else (none))
end
def spec_l29Recover.f (k : Nat) (a0 : ByteArray) : Option ((List (S31))) := (spec_l01Split.f k a0 10).bind fun t354 => (spec_l29Recover.l0 k t354 (([] : List (S31))) 0 0 0 0 0)
theorem spec_l29Recover.mono_l : ∀ k, (∀ y0 y1 y2 y3 y4 y5 y6, LeO (spec_l29Recover.l0 k y0 y1 y2 y3 y4 y5 y6) (spec_l29Recover.l0 (k + 1) y0 y1 y2 y3 y4 y5 y6)) ∧ (∀ y0 y1 y2 y3 y4 y5 y6 y7, LeO (spec_l29Recover.j1 k y0 y1 y2 y3 y4 y5 y6 y7) (spec_l29Recover.j1 (k + 1) y0 y1 y2 y3 y4 y5 y6 y7)) ∧ (∀ y0 y1 y2 y3 y4 y5 y6 y7 y8, LeO (spec_l29Recover.j2 k y0 y1 y2 y3 y4 y5 y6 y7 y8) (spec_l29Recover.j2 (k + 1) y0 y1 y2 y3 y4 y5 y6 y7 y8))
 | 0 => ⟨fun _ _ _ _ _ _ _ r h => by simp [spec_l29Recover.l0] at h, fun _ _ _ _ _ _ _ _ r h => by simp [spec_l29Recover.j1] at h, fun _ _ _ _ _ _ _ _ _ r h => by simp [spec_l29Recover.j2] at h⟩
 | k + 1 => by
  obtain ⟨ih0, ih1, ih2⟩ := spec_l29Recover.mono_l k
  refine ⟨?_, ?_, ?_⟩
  ·intro y0 y1 y2 y3 y4 y5 y6
   unfold spec_l29Recover.l0
   repeat' first | (with_reducible first | exact ih0 _ _ _ _ _ _ _ | exact ih1 _ _ _ _ _ _ _ _ | exact ih2 _ _ _ _ _ _ _ _ _ | exact spec_l01Numbers.mono _ _ | exact spec_l01Split.mono _ _ _ | exact spec_l29Line.mono _ _ _ _ | exact LeO.refl _ | exact LeO.none _ | refine LeO.ite ?_ ?_ | refine LeO.bind ?_ (fun _ => ?_)) | exact ih0 _ _ _ _ _ _ _ | exact ih1 _ _ _ _ _ _ _ _ | exact ih2 _ _ _ _ _ _ _ _ _ | exact spec_l01Numbers.mono _ _ | exact spec_l01Split.mono _ _ _ | exact spec_l29Line.mono _ _ _ _ | exact LeO.none _ | refine LeO.ite ?_ ?_ | refine LeO.bind ?_ (fun _ => ?_)
  ·intro y0 y1 y2 y3 y4 y5 y6 y7
   unfold spec_l29Recover.j1
   repeat' first | (with_reducible first | exact ih0 _ _ _ _ _ _ _ | exact ih1 _ _ _ _ _ _ _ _ | exact ih2 _ _ _ _ _ _ _ _ _ | exact spec_l01Numbers.mono _ _ | exact spec_l01Split.mono _ _ _ | exact spec_l29Line.mono _ _ _ _ | exact LeO.refl _ | exact LeO.none _ | refine LeO.ite ?_ ?_ | refine LeO.bind ?_ (fun _ => ?_)) | exact ih0 _ _ _ _ _ _ _ | exact ih1 _ _ _ _ _ _ _ _ | exact ih2 _ _ _ _ _ _ _ _ _ | exact spec_l01Numbers.mono _ _ | exact spec_l01Split.mono _ _ _ | exact spec_l29Line.mono _ _ _ _ | exact LeO.none _ | refine LeO.ite ?_ ?_ | refine LeO.bind ?_ (fun _ => ?_)
  ·intro y0 y1 y2 y3 y4 y5 y6 y7 y8
   unfold spec_l29Recover.j2
   repeat' first | (with_reducible first | exact ih0 _ _ _ _ _ _ _ | exact ih1 _ _ _ _ _ _ _ _ | exact ih2 _ _ _ _ _ _ _ _ _ | exact spec_l01Numbers.mono _ _ | exact spec_l01Split.mono _ _ _ | exact spec_l29Line.mono _ _ _ _ | exact LeO.refl _ | exact LeO.none _ | refine LeO.ite ?_ ?_ | refine LeO.bind ?_ (fun _ => ?_)) | exact ih0 _ _ _ _ _ _ _ | exact ih1 _ _ _ _ _ _ _ _ | exact ih2 _ _ _ _ _ _ _ _ _ | exact spec_l01Numbers.mono _ _ | exact spec_l01Split.mono _ _ _ | exact spec_l29Line.mono _ _ _ _ | exact LeO.none _ | refine LeO.ite ?_ ?_ | refine LeO.bind ?_ (fun _ => ?_)
theorem spec_l29Recover.mono : ∀ a0 k, LeO (spec_l29Recover.f k a0) (spec_l29Recover.f (k + 1) a0) := by
 intro a0 k
 obtain ⟨ih0, ih1, ih2⟩ := spec_l29Recover.mono_l k
 unfold spec_l29Recover.f
 repeat' first | (with_reducible first | exact ih0 _ _ _ _ _ _ _ | exact ih1 _ _ _ _ _ _ _ _ | exact ih2 _ _ _ _ _ _ _ _ _ | exact spec_l01Numbers.mono _ _ | exact spec_l01Split.mono _ _ _ | exact spec_l29Line.mono _ _ _ _ | exact LeO.refl _ | exact LeO.none _ | refine LeO.ite ?_ ?_ | refine LeO.bind ?_ (fun _ => ?_)) | exact ih0 _ _ _ _ _ _ _ | exact ih1 _ _ _ _ _ _ _ _ | exact ih2 _ _ _ _ _ _ _ _ _ | exact spec_l01Numbers.mono _ _ | exact spec_l01Split.mono _ _ _ | exact spec_l29Line.mono _ _ _ _ | exact LeO.none _ | refine LeO.ite ?_ ?_ | refine LeO.bind ?_ (fun _ => ?_)
def spec_l29Recover.T9 : Bool × List (List Nat × List Nat) := (true, [([], []), ([0], [0]), ([1], [1]), ([], []), ([3], [3]), ([4], [4]), ([2, 5], [2, 5]), ([], []), ([7, 6, 0, 1, 2, 3, 4, 5, 6, 7], [6, 7])])
def spec_l29Recover.B9 : List Nat := [0, 1, 3, 0, 8, 24, 63, 0, 255]
theorem spec_l29Recover.tab9 : rtab .any (opsOf Tryd.f23 9) = spec_l29Recover.T9 := by kernel_rfl
theorem spec_l29Recover.bits9 : waitsOk spec_l29Recover.T9.2 spec_l29Recover.B9 = true := by kernel_rfl
def spec_l29Recover.T11 : Bool × List (List Nat × List Nat) := (true, [([], []), ([0], [0]), ([1], [1]), ([2], [2]), ([2], [2]), ([3, 4, 2, 2], [2, 3, 4]), ([2], [2]), ([2], [2]), ([6, 7, 2], [2, 6, 7]), ([8, 2], [2, 8]), ([5, 9, 2], [2, 5, 9]), ([2, 10], [2, 10])])
def spec_l29Recover.B11 : List Nat := [0, 1, 3, 7, 7, 31, 7, 7, 199, 455, 1023, 2047]
theorem spec_l29Recover.tab11 : rtab .any (opsOf Tryd.f23 11) = spec_l29Recover.T11 := by kernel_rfl
theorem spec_l29Recover.bits11 : waitsOk spec_l29Recover.T11.2 spec_l29Recover.B11 = true := by kernel_rfl
set_option maxHeartbeats 8000000 in
set_option maxRecDepth 100000 in
theorem spec_l29Recover.calls (k : Nat) (a0 : ByteArray) (r : List (S31)) (w : World) (h : spec_l29Recover.f k a0 = some r) :
  Calls Tryd.prog 23 #[.string a0] w fun e w' => ∃ v0_ : Value, e = .returned (v0_) ∧ Kd.R k31 31 w' w.heap.size (fun _ => True) v0_ r ∧ Below w.heap.size w w' := by
 have hu29 := Tryd.underlying29
 have hu31 := Tryd.underlying31
 have HB := am (Below.refl w.heap.size w)
 have H : ((spec_l01Split.f k a0 10).bind fun t354 => (spec_l29Recover.l0 k t354 (([] : List (S31))) 0 0 0 0 0)) = some r := h
 clear h
 replace H := Option.bind_eq_some_iff.mp H
 obtain ⟨t354, A20, H⟩ := H
 replace H : (spec_l29Recover.l0 k t354 (([] : List (S31))) 0 0 0 0 0) = some r := H
 have A2 := Aside0.mk A20
 clear A20
 obtain ⟨y357, hy357⟩ : ∃ y_ : List (S31), y_ = (([] : List (S31))) := ⟨_, rfl⟩
 replace H : (spec_l29Recover.l0 k t354 y357 0 0 0 0 0) = some r := by first | (rw [hy357]; with_reducible exact H) | (have H2_ := (Option.bind_some _ _).symm.trans H; rw [hy357]; with_reducible exact H2_) | (have H2_ := (Option.bind_some _ _).symm.trans H; with_reducible exact H2_) | with_reducible exact H | (rw [hy357]; exact H) | exact H
 have Ny357 := Aside0.mk hy357
 clear hy357
 have H' := Aside0.mk H
 clear H
 go_enter Tryd.func23, Tryd.ntmps23
 go_wp2_with (first | ((with_reducible refine gate_callee (f := 36) rfl ?_); refine goesL_ (some 13) rfl rfl Tryd.func36 (by kernel_rfl) rfl #[.string a0, .int .u8 10] rfl lnp ?_; (with_reducible refine (spec_l01Split.calls k a0 10 t354 _ A2.out).mono ?_); rintro e w3 ⟨v355, rfl, ho0, hb⟩; refine ⟨_, rfl, ?_⟩; have n_ := (⟨am (Kd.R_lower ho0 (below_size (bl0 HB.out))), am (below_step (bl0 HB.out) hb)⟩ : _ ∧ _); clear HB; obtain ⟨HO356, HB⟩ := n_; (try clear hb); (try clear hb2); (try clear hk); (try clear hi); (try clear ho0)) | ((with_reducible refine gate_dst (N := 14) rfl ?_); (try (refine gate_guard (by rfl) ?_; dsimp only)); refine Kd.R_lit k31 _ 31 ?hg (N := 14) ?hd (xs := ([] : List (S31))) (inner := []) (ok := fun _ => True) (okp := fun _ => True) ?hr ?hp (fun _ hk => hk) trivial (Below.refl _ _) (Nat.le_refl _) (by simp) ?_; (case hd => rfl); (case hg => rfl); (case hr => first | (go_simp; done) | (go_simp; rfl)); (case hp => exact (Reps.none _ _)); intro v358 w4 ho5 hb hg_ hnew_; clear hg_ hnew_; (first | rw [← Ny357.out] at ho5 | (simp only [Int.reduceToNat] at ho5; rw [← Ny357.out] at ho5)); have n_ := (⟨am (Kd.R_below (rqR HO356.out) hb), am (Kd.R_lower ho5 (below_size (bl0 HB.out))), am (below_step (bl0 HB.out) hb)⟩ : _ ∧ _ ∧ _); clear HO356 HB; obtain ⟨HO356, HO359, HB⟩ := n_; clear hb ho5) | ((with_reducible refine gate_dst (N := 5) rfl ?_); (try (refine gate_guard (by rfl) ?_; dsimp only)); refine box_event ?hg (N := 5) ?hd (cs := #[.int .i64 0, .int .i64 0, .int .i64 0, .int .i64 0]) (t := 29) ?hr ?_; (case hd => rfl); (case hg => rfl); (case hr => first | (go_simp; done) | (go_simp; rfl)); intro gb360 hg w6 hbox hb; have n_ := (⟨am (Kd.R_below (rqR HO356.out) hb), am (Kd.R_below (rqR HO359.out) hb), am (below_step (bl0 HB.out) hb), am (hbox), am ((gw hg (bl0 HB.out) : w.heap.size ≤ gb360)), am ((gw hg (bl0 HB.out) : w.heap.size ≤ gb360))⟩ : _ ∧ _ ∧ _ ∧ _ ∧ _ ∧ _); clear HO356 HO359 HB; obtain ⟨HO356, HO359, HB, BK360, GW360, GE360⟩ := n_; clear hb hbox hg; obtain ⟨hcz7_0, hcz7_1, hcz7_2, hcz7_3, hfz7_0, hfz7_1, hfz7_2, hfz7_3⟩ := cs4 BK360.out))
 go_loopg [4, 6] k (fun kq v4 v6 w' => ∃ (x4_1 : List (S31)) (x6_1 : Int) (x361000_1 : Int) (x361001_1 : Int) (x361002_1 : Int) (x361003_1 : Int), v6 = .int .i64 x6_1 ∧ Aside0 (spec_l29Recover.l0 kq t354 x4_1 x6_1 x361000_1 x361001_1 x361002_1 x361003_1 = some r) ∧ Aside0 (kq ≤ k) ∧ Aside0 (Kd.R Kd.string 9 w' w.heap.size (fun _ => True) v355 t354) ∧ Aside0 (Kd.R k31 31 w' w.heap.size (fun _ => True) v4 x4_1) ∧ Aside0 (w'.heap[gb360]? = some (.cells #[.int .i64 x361000_1, .int .i64 x361001_1, .int .i64 x361002_1, .int .i64 x361003_1] 29 (0, 0))) ∧ Aside0 (Below w.heap.size w w'))
 case atStart => exact ⟨(y357), (0), (0), (0), (0), (0), (by first | rfl | (simp; done) | (simp [*]; done)), H', ⟨Nat.le_refl _⟩, ⟨by (with_reducible repeat (first | apply Kd.R_alloc | apply Kd.R_drewN | apply Kd.R_drew)); exact Kd.R_mono (Kd.R_far (p := ⟨gb360, 3, none⟩) (Kd.R_far (p := ⟨gb360, 2, none⟩) (Kd.R_far (p := ⟨gb360, 1, none⟩) (Kd.R_far (p := ⟨gb360, 0, none⟩) (Kd.R_types HO356.out BK360.out (by decide)) (fun _ hk => hk.2) (.int .i64 0)) (fun _ hk => hk.2) (.int .i64 0)) (fun _ hk => hk.2) (.int .i64 0)) (fun _ hk => hk.2) (.int .i64 0)) (fun _ hk => trivial)⟩, ⟨by (with_reducible repeat (first | apply Kd.R_alloc | apply Kd.R_drewN | apply Kd.R_drew)); exact Kd.R_mono (Kd.R_far (p := ⟨gb360, 3, none⟩) (Kd.R_far (p := ⟨gb360, 2, none⟩) (Kd.R_far (p := ⟨gb360, 1, none⟩) (Kd.R_far (p := ⟨gb360, 0, none⟩) (Kd.R_types HO359.out BK360.out (by decide)) (fun _ hk => hk.2) (.int .i64 0)) (fun _ hk => hk.2) (.int .i64 0)) (fun _ hk => hk.2) (.int .i64 0)) (fun _ hk => hk.2) (.int .i64 0)) (fun _ hk => trivial)⟩, ⟨by (with_reducible repeat (first | refine blk_drewN ?_ _ | refine blk_drew ?_ | refine blk_alloc ?_ _)); refine blk_put (cs := #[.int .i64 0, .int .i64 0, .int .i64 0, .int .i64 0]) ?_ 3 _ rfl; (with_reducible repeat (first | refine blk_drewN ?_ _ | refine blk_drew ?_ | refine blk_alloc ?_ _)); refine blk_put (cs := #[.int .i64 0, .int .i64 0, .int .i64 0, .int .i64 0]) ?_ 2 _ rfl; (with_reducible repeat (first | refine blk_drewN ?_ _ | refine blk_drew ?_ | refine blk_alloc ?_ _)); refine blk_put (cs := #[.int .i64 0, .int .i64 0, .int .i64 0, .int .i64 0]) ?_ 1 _ rfl; (with_reducible repeat (first | refine blk_drewN ?_ _ | refine blk_drew ?_ | refine blk_alloc ?_ _)); refine blk_put (cs := #[.int .i64 0, .int .i64 0, .int .i64 0, .int .i64 0]) ?_ 0 _ rfl; exact bf0 BK360.out⟩, ⟨bl1 HB.out GE360.out⟩⟩
 case round =>
  clear H'
  try clear c2
  try clear p2
  try clear c3
  try clear hcz7_0
  try clear hcz7_1
  try clear hcz7_2
  try clear hcz7_3
  try clear hfz7_0
  try clear hfz7_1
  try clear hfz7_2
  try clear hfz7_3
  obtain ⟨x4_1, x6_1, x361000_1, x361001_1, x361002_1, x361003_1, rfl, HA, HK1, HO_3, HO_4, BK360, HB⟩ := hrel
  cases gk with
  | zero => exact absurd HA.out (by simp [spec_l29Recover.l0])
  | succ k1 =>
   have H := HA.out
   clear HA
   simp only [spec_l29Recover.l0] at H
   have HC8 := Aside0.mk H
   clear H
   go_upto_region 5 with (fail)
   go_cut [24] (fun v24 wc => ∃ (kq : Nat) (x24_7 : Bool), v24 = .bool x24_7 ∧ Aside0 (spec_l29Recover.j1 kq t354 x4_1 x6_1 x24_7 x361000_1 x361001_1 x361002_1 x361003_1 = some r) ∧ Aside0 (kq ≤ k1) ∧ Aside0 (Kd.R Kd.string 9 wc w.heap.size (fun _ => True) v355 t354) ∧ Aside0 (Kd.R k31 31 wc w.heap.size (fun _ => True) u4 x4_1) ∧ Aside0 (wc.heap[gb360]? = some (.cells #[.int .i64 x361000_1, .int .i64 x361001_1, .int .i64 x361002_1, .int .i64 x361003_1] 29 (0, 0))) ∧ Aside0 (Below w.heap.size w wc))
   case first =>
    have H := HC8.out
    clear HC8
    by_cases c9 : (wrap64 (x6_1 + 1)) < (t354.length : Int)
    ·rw [if_pos c9] at H
     have c9b0 : decide ((wrap64 (x6_1 + 1)) < (t354.length : Int)) = true := decide_eq_true c9
     clear c9
     (first | rw [c9b0] | (simp only [i64_w, i32_w]; rw [c9b0]) | skip)
     have H' := Aside0.mk H
     clear H
     obtain ⟨Ao10, co10, eo10⟩ := Kd.R_slice HO_3.out
     subst eo10
     go_wp2
     go_meet
     case rel => exact ⟨_, (decide (x6_1 < 200)), (by first | rfl | (simp; done) | (simp [*]; done)), H', ⟨by have := HK1.out; first | omega | exact Nat.le_refl _⟩, ⟨by (with_reducible repeat (first | apply Kd.R_alloc | apply Kd.R_drewN | apply Kd.R_drew)); exact HO_3.out⟩, ⟨by (with_reducible repeat (first | apply Kd.R_alloc | apply Kd.R_drewN | apply Kd.R_drew)); exact HO_4.out⟩, ⟨bf0 BK360.out⟩, ⟨bl1 HB.out GE360.out⟩⟩
    ·rw [if_neg c9] at H
     have c9b0 : decide ((wrap64 (x6_1 + 1)) < (t354.length : Int)) = false := decide_eq_false c9
     clear c9
     (first | rw [c9b0] | (simp only [i64_w, i32_w]; rw [c9b0]) | skip)
     have H' := Aside0.mk H
     clear H
     obtain ⟨Ao11, co11, eo11⟩ := Kd.R_slice HO_3.out
     subst eo11
     go_wp2
     go_meet
     case rel => exact ⟨_, (false), (by first | rfl | (simp; done) | (simp [*]; done)), H', ⟨by have := HK1.out; first | omega | exact Nat.le_refl _⟩, ⟨by (with_reducible repeat (first | apply Kd.R_alloc | apply Kd.R_drewN | apply Kd.R_drew)); exact HO_3.out⟩, ⟨by (with_reducible repeat (first | apply Kd.R_alloc | apply Kd.R_drewN | apply Kd.R_drew)); exact HO_4.out⟩, ⟨bf0 BK360.out⟩, ⟨bl1 HB.out GE360.out⟩⟩
   case rest =>
    clear HC8
    try clear c2
    try clear p2
    try clear c3
    try clear p6
    try clear c9
    try clear c9b0
    try clear hcz7_0
    try clear hcz7_1
    try clear hcz7_2
    try clear hcz7_3
    try clear hfz7_0
    try clear hfz7_1
    try clear hfz7_2
    try clear hfz7_3
    try clear p2
    obtain ⟨kq, x24_7, rfl, HA, HJ7, HO_3, HO_4, BK360, HB⟩ := hcut
    cases kq with
    | zero => exact absurd HA.out (by simp [spec_l29Recover.j1])
    | succ kj7 =>
     have H := HA.out
     clear HA
     simp only [spec_l29Recover.j1] at H
     by_cases c12 : x24_7 = true
     ·subst c12
      have H1 : (if 0 ≤ x6_1 then (if x6_1 < (t354.length : Int) then ((spec_l01Split.f kj7 (rdOf ByteArray.empty t354 x6_1) 32).bind fun t362 => ((spec_l01Numbers.f kj7 t362).bind fun bt365 => (if bt365.2 = true then (spec_l29Recover.j2 kj7 t354 x4_1 x6_1 bt365.1 ((bt365.1.length : Int) != 3) x361000_1 x361001_1 x361002_1 x361003_1) else (spec_l29Recover.j2 kj7 t354 x4_1 x6_1 bt365.1 true x361000_1 x361001_1 x361002_1 x361003_1)))) else (none)) else (none)) = some r := by rw [if_pos rfl] at H; exact H
      clear H
      have H := H1
      clear H1
      by_cases c13 : 0 ≤ x6_1
      ·rw [if_pos c13] at H
       have c13b0 : decide (0 ≤ x6_1) = true := decide_eq_true c13
       clear c13
       by_cases c14 : x6_1 < (t354.length : Int)
       ·rw [if_pos c14] at H
        have c14b0 : decide (x6_1 < (t354.length : Int)) = true := decide_eq_true c14
        clear c14
        replace H := Option.bind_eq_some_iff.mp H
        obtain ⟨t362, A150, H⟩ := H
        replace H : ((spec_l01Numbers.f kj7 t362).bind fun bt365 => (if bt365.2 = true then (spec_l29Recover.j2 kj7 t354 x4_1 x6_1 bt365.1 ((bt365.1.length : Int) != 3) x361000_1 x361001_1 x361002_1 x361003_1) else (spec_l29Recover.j2 kj7 t354 x4_1 x6_1 bt365.1 true x361000_1 x361001_1 x361002_1 x361003_1))) = some r := H
        have A15 := Aside0.mk A150
        clear A150
        replace H := Option.bind_eq_some_iff.mp H
        obtain ⟨⟨t365, t366⟩, A160, H⟩ := H
        replace H : (if t366 = true then (spec_l29Recover.j2 kj7 t354 x4_1 x6_1 t365 ((t365.length : Int) != 3) x361000_1 x361001_1 x361002_1 x361003_1) else (spec_l29Recover.j2 kj7 t354 x4_1 x6_1 t365 true x361000_1 x361001_1 x361002_1 x361003_1)) = some r := H
        have A16 := Aside0.mk A160
        clear A160
        have HC17 := Aside0.mk H
        clear H
        obtain ⟨Ao18, co18, eo18⟩ := Kd.R_slice HO_3.out
        subst eo18
        have p361 : 0 ≤ (x6_1 : Int) := of_decide_eq_true (by first | (with_reducible assumption) | assumption)
        have q361 : x6_1 < (t354.length : Int) := of_decide_eq_true (by first | (with_reducible assumption) | assumption)
        obtain ⟨ad361, e361, hx361_0⟩ := Kd.at_string (Kd.R_reads' HO_3.out).2.2 x6_1 p361 q361
        cases e361
        replace p361 := eq_true p361
        replace q361 := eq_true q361
        go_upto_region 8 with (first | ((with_reducible refine gate_callee (f := 36) rfl ?_); refine goesL_ (some 32) rfl rfl Tryd.func36 (by kernel_rfl) rfl #[.string (rdOf ByteArray.empty t354 x6_1), .int .u8 32] rfl lnp ?_; (with_reducible refine (spec_l01Split.calls kj7 (rdOf ByteArray.empty t354 x6_1) 32 t362 _ A15.out).mono ?_); rintro e w19 ⟨v363, rfl, ho0, hb⟩; refine ⟨_, rfl, ?_⟩; have n_ := (⟨am (Kd.R_elder' (rqR HO_3.out) (Kd.R_base ho0) hb), am (Kd.R_below (rqR HO_4.out) hb), am (Kd.R_lower (Kd.R_new' ho0 (Kd.R_lt (rqR HO_3.out))) (below_size (bl1 HB.out GE360.out))), am (blk_below (bf0 BK360.out) hb), am (below_step (bl1 HB.out GE360.out) hb)⟩ : _ ∧ _ ∧ _ ∧ _ ∧ _); clear HO_3 HO_4 BK360 HB; obtain ⟨HO_3, HO_4, HO364, BK360, HB⟩ := n_; (try clear hb); (try clear hb2); (try clear hk); (try clear hi); (try clear ho0); obtain ⟨Ao20, co20, eo20⟩ := Kd.R_slice HO364.out; subst eo20) | ((with_reducible refine gate_callee (f := 37) rfl ?_); refine goesL_ (some 33) rfl rfl Tryd.func37 (by kernel_rfl) rfl #[.slice Ao20 t362.length co20] rfl lnp ?_; (with_reducible refine (spec_l01Numbers.calls kj7 _ _ t362 t365 t366 _ ?side1 ?side2 A16.out).mono ?_); (case side1 => repeat (first | exact (Kd.R_reads' HO364.out).2.2 | (with_reducible refine Kd.C_alloc ?_ _) | (with_reducible refine Kd.C_drewN ?_ _) | (with_reducible refine Kd.C_drew ?_))); (case side2 => exact (Kd.R_reads' HO364.out).2.1); rintro e w21 ⟨v367, rfl, ho0, hb⟩; refine ⟨_, rfl, ?_⟩; have n_ := (⟨am (Kd.R_below (rqR HO_3.out) hb), am (Kd.R_below (rqR HO_4.out) hb), am (Kd.R_below (rqR HO364.out) hb), am (Kd.R_lower ho0 (below_size (bl1 HB.out GE360.out))), am (blk_below (bf0 BK360.out) hb), am (below_step (bl1 HB.out GE360.out) hb)⟩ : _ ∧ _ ∧ _ ∧ _ ∧ _ ∧ _); clear HO_3 HO_4 HO364 BK360 HB; obtain ⟨HO_3, HO_4, HO364, HO368, BK360, HB⟩ := n_; (try clear hb); (try clear hb2); (try clear hk); (try clear hi); (try clear ho0)))
        (try simp only [Act.put, List.setIfInBounds_toArray, List.set_cons_zero, List.set_cons_succ])
        go_cut [42] (fun v42 wc => ∃ (kq : Nat) (x42_16 : Bool), v42 = .bool x42_16 ∧ Aside0 (spec_l29Recover.j2 kq t354 x4_1 x6_1 t365 x42_16 x361000_1 x361001_1 x361002_1 x361003_1 = some r) ∧ Aside0 (kq ≤ kj7) ∧ Aside0 (Kd.R Kd.string 9 wc w.heap.size (fun _ => True) (.slice (some ad361) t354.length co18) t354) ∧ Aside0 (Kd.R k31 31 wc w.heap.size (fun _ => True) u4 x4_1) ∧ Aside0 (Kd.R (Kd.int .i64) 2 wc w.heap.size (fun _ => True) v367 t365) ∧ Aside0 (wc.heap[gb360]? = some (.cells #[.int .i64 x361000_1, .int .i64 x361001_1, .int .i64 x361002_1, .int .i64 x361003_1] 29 (0, 0))) ∧ Aside0 (Below w.heap.size w wc))
        case first =>
         have H := HC17.out
         clear HC17
         by_cases c22 : t366 = true
         ·subst c22
          have H1 : (spec_l29Recover.j2 kj7 t354 x4_1 x6_1 t365 ((t365.length : Int) != 3) x361000_1 x361001_1 x361002_1 x361003_1) = some r := by rw [if_pos rfl] at H; exact H
          clear H
          have H := H1
          clear H1
          have H' := Aside0.mk H
          clear H
          obtain ⟨Ao23, co23, eo23⟩ := Kd.R_slice HO368.out
          subst eo23
          go_wp2
          go_meet
          case rel => exact ⟨_, (((t365.length : Int) != 3)), (by first | rfl | (simp; done) | (simp [*]; done)), H', ⟨by have := HK1.out; have := HJ7.out; first | omega | exact Nat.le_refl _⟩, ⟨by (with_reducible repeat (first | apply Kd.R_alloc | apply Kd.R_drewN | apply Kd.R_drew)); exact Kd.R_mono HO_3.out (fun _ hk => trivial)⟩, ⟨by (with_reducible repeat (first | apply Kd.R_alloc | apply Kd.R_drewN | apply Kd.R_drew)); exact HO_4.out⟩, ⟨by (with_reducible repeat (first | apply Kd.R_alloc | apply Kd.R_drewN | apply Kd.R_drew)); exact HO368.out⟩, ⟨bf0 BK360.out⟩, ⟨bl1 HB.out GE360.out⟩⟩
         ·replace c22 := Bool.eq_false_iff.mpr c22
          subst c22
          have H1 : (spec_l29Recover.j2 kj7 t354 x4_1 x6_1 t365 true x361000_1 x361001_1 x361002_1 x361003_1) = some r := by rw [if_neg (show ¬ (false = true) by decide)] at H; exact H
          clear H
          have H := H1
          clear H1
          have H' := Aside0.mk H
          clear H
          go_wp2
          go_meet
          case rel => exact ⟨_, (true), (by first | rfl | (simp; done) | (simp [*]; done)), H', ⟨by have := HK1.out; have := HJ7.out; first | omega | exact Nat.le_refl _⟩, ⟨by (with_reducible repeat (first | apply Kd.R_alloc | apply Kd.R_drewN | apply Kd.R_drew)); exact Kd.R_mono HO_3.out (fun _ hk => trivial)⟩, ⟨by (with_reducible repeat (first | apply Kd.R_alloc | apply Kd.R_drewN | apply Kd.R_drew)); exact HO_4.out⟩, ⟨by (with_reducible repeat (first | apply Kd.R_alloc | apply Kd.R_drewN | apply Kd.R_drew)); exact HO368.out⟩, ⟨bf0 BK360.out⟩, ⟨bl1 HB.out GE360.out⟩⟩
        case rest =>
         clear HC17
         try clear c1
         try clear c2
         try clear p2
         try clear c3
         try clear p3
         try clear q3
         try clear hx3
         try clear p6
         try clear c9
         try clear c9b0
         try clear c12
         try clear c13
         try clear c13b0
         try clear c14
         try clear c14b0
         try clear c22
         try clear c23
         try clear hcz7_0
         try clear hcz7_1
         try clear hcz7_2
         try clear hcz7_3
         try clear hfz7_0
         try clear hfz7_1
         try clear hfz7_2
         try clear hfz7_3
         try clear hx361_0
         try clear p2
         try clear p361
         try clear p6
         try clear q361
         obtain ⟨kq, x42_16, rfl, HA, HJ16, HO_3, HO_4, HO_7, BK360, HB⟩ := hcut
         cases kq with
         | zero => exact absurd HA.out (by simp [spec_l29Recover.j2])
         | succ kj16 =>
          have H := HA.out
          clear HA
          simp only [spec_l29Recover.j2] at H
          by_cases c24 : x42_16 = true
          ·subst c24
           have H1 : (some x4_1) = some r := by rw [if_pos rfl] at H; exact H
           clear H
           have H := H1
           clear H1
           obtain rfl := Option.some.inj H
           go_wp2
           go_ret
           exact ⟨_, by first | rfl | (simp [errW_none, errW_some] <;> rfl) | (simp [*, errW_none, errW_some] <;> rfl), by (with_reducible repeat (first | apply Kd.R_alloc | apply Kd.R_drewN | apply Kd.R_drew)); exact HO_4.out, bl1 HB.out GE360.out⟩
          ·replace c24 := Bool.eq_false_iff.mpr c24
           subst c24
           have H1 : (if 0 < (t365.length : Int) then (if 1 < (t365.length : Int) then ((spec_l29Make.f x361000_1 x361001_1 x361002_1 x361003_1 (rd t365 0) (rd t365 1)).bind fun bt372 => (if bt372.2.2.2.2 = true then ((spec_l29Line.f kj16 (rd t365 0) (rd t365 1) x6_1).bind fun t378 => (if 0 ≤ x6_1 then (if x6_1 < (t354.length : Int) then (if t378.toList = (rdOf ByteArray.empty t354 x6_1).toList then (if x4_1.length < 8796093022208 then (spec_l29Recover.l0 kj16 t354 (x4_1 ++ [(⟨rd t365 0, rd t365 1⟩ : S31)]) (wrap64 (x6_1 + 1)) bt372.1 bt372.2.1 bt372.2.2.1 bt372.2.2.2.1) else (none)) else (some x4_1)) else (none)) else (none))) else (some x4_1))) else (none)) else (none)) = some r := by rw [if_neg (show ¬ (false = true) by decide)] at H; exact H
           clear H
           have H := H1
           clear H1
           by_cases c25 : 0 < (t365.length : Int)
           ·rw [if_pos c25] at H
            have c25b0 : decide (0 < (t365.length : Int)) = true := decide_eq_true c25
            have c25b1 : decide (0 < t365.length) = true := decide_eq_true (by omega)
            clear c25
            by_cases c26 : 1 < (t365.length : Int)
            ·rw [if_pos c26] at H
             have c26b0 : decide (1 < (t365.length : Int)) = true := decide_eq_true c26
             have c26b1 : decide (1 < t365.length) = true := decide_eq_true (by omega)
             clear c26
             replace H := Option.bind_eq_some_iff.mp H
             obtain ⟨⟨t372, t373, t374, t375, t376⟩, A270, H⟩ := H
             replace H : (if t376 = true then ((spec_l29Line.f kj16 (rd t365 0) (rd t365 1) x6_1).bind fun t378 => (if 0 ≤ x6_1 then (if x6_1 < (t354.length : Int) then (if t378.toList = (rdOf ByteArray.empty t354 x6_1).toList then (if x4_1.length < 8796093022208 then (spec_l29Recover.l0 kj16 t354 (x4_1 ++ [(⟨rd t365 0, rd t365 1⟩ : S31)]) (wrap64 (x6_1 + 1)) t372 t373 t374 t375) else (none)) else (some x4_1)) else (none)) else (none))) else (some x4_1)) = some r := H
             have A27 := Aside0.mk A270
             clear A270
             by_cases c28 : t376 = true
             ·subst c28
              have H1 : ((spec_l29Line.f kj16 (rd t365 0) (rd t365 1) x6_1).bind fun t378 => (if 0 ≤ x6_1 then (if x6_1 < (t354.length : Int) then (if t378.toList = (rdOf ByteArray.empty t354 x6_1).toList then (if x4_1.length < 8796093022208 then (spec_l29Recover.l0 kj16 t354 (x4_1 ++ [(⟨rd t365 0, rd t365 1⟩ : S31)]) (wrap64 (x6_1 + 1)) t372 t373 t374 t375) else (none)) else (some x4_1)) else (none)) else (none))) = some r := by rw [if_pos rfl] at H; exact H
              clear H
              have H := H1
              clear H1
              replace H := Option.bind_eq_some_iff.mp H
              obtain ⟨t378, A290, H⟩ := H
              replace H : (if 0 ≤ x6_1 then (if x6_1 < (t354.length : Int) then (if t378.toList = (rdOf ByteArray.empty t354 x6_1).toList then (if x4_1.length < 8796093022208 then (spec_l29Recover.l0 kj16 t354 (x4_1 ++ [(⟨rd t365 0, rd t365 1⟩ : S31)]) (wrap64 (x6_1 + 1)) t372 t373 t374 t375) else (none)) else (some x4_1)) else (none)) else (none)) = some r := H
              have A29 := Aside0.mk A290
              clear A290
              by_cases c30 : 0 ≤ x6_1
              ·rw [if_pos c30] at H
               have c30b0 : decide (0 ≤ x6_1) = true := decide_eq_true c30
               clear c30
               by_cases c31 : x6_1 < (t354.length : Int)
               ·rw [if_pos c31] at H
                have c31b0 : decide (x6_1 < (t354.length : Int)) = true := decide_eq_true c31
                clear c31
                by_cases c32 : t378.toList = (rdOf ByteArray.empty t354 x6_1).toList
                ·rw [if_pos c32] at H
                 have c32b0 : (t378.toList == (rdOf ByteArray.empty t354 x6_1).toList) = true := beq_iff_eq.mpr c32
                 have c32b1 : (t378.toList != (rdOf ByteArray.empty t354 x6_1).toList) = false := bne_eq_false_iff_eq.mpr c32
                 clear c32
                 by_cases c33 : x4_1.length < 8796093022208
                 ·rw [if_pos c33] at H
                  have LMc33 := Aside0.mk c33
                  clear c33
                  obtain ⟨y380, hy380⟩ : ∃ y_ : List (S31), y_ = (x4_1 ++ [(⟨rd t365 0, rd t365 1⟩ : S31)]) := ⟨_, rfl⟩
                  replace H : (spec_l29Recover.l0 kj16 t354 y380 (wrap64 (x6_1 + 1)) t372 t373 t374 t375) = some r := by first | (rw [hy380]; with_reducible exact H) | (have H2_ := (Option.bind_some _ _).symm.trans H; rw [hy380]; with_reducible exact H2_) | (have H2_ := (Option.bind_some _ _).symm.trans H; with_reducible exact H2_) | with_reducible exact H | (rw [hy380]; exact H) | exact H
                  have Ny380 := Aside0.mk hy380
                  clear hy380
                  have H' := Aside0.mk H
                  clear H
                  try go_wp2
                  have n_ := (⟨am (Kd.R_drew HO_3.out), am (Kd.R_drew HO_4.out), am (Kd.R_drew HO_7.out), am (blk_drew BK360.out), am (below_drew1 HB.out)⟩ : _ ∧ _ ∧ _ ∧ _ ∧ _)
                  clear HO_3
                  clear HO_4
                  clear HO_7
                  clear BK360
                  clear HB
                  obtain ⟨HO_3, HO_4, HO_7, BK360, HB⟩ := n_
                  obtain ⟨Ao35, co35, eo35⟩ := Kd.R_slice HO_7.out
                  (first | subst eo35 | (injection eo35 with f1_ f2_ f3_; have f4_ := f1_.symm; have f5_ := f3_.symm; clear f1_ f2_ f3_; subst f4_; subst f5_))
                  have p369 : 0 ≤ (0 : Int) := (by omega)
                  have q369 : 0 < (t365.length : Int) := of_decide_eq_true (by first | (with_reducible assumption) | assumption)
                  obtain ⟨ad369, e369, hx369_0⟩ := Kd.at_int (Kd.R_reads' HO_7.out).2.2 0 p369 q369
                  cases e369
                  have qi369 : (0 < t365.length) = True := eq_true (by omega)
                  (try rw [show ((0 : Int)).toNat = 0 from rfl] at hx369_0)
                  (try rw [Addr.add_zero'] at hx369_0)
                  replace p369 := eq_true p369
                  replace q369 := eq_true q369
                  have p370 : 0 ≤ (1 : Int) := (by omega)
                  have q370 : 1 < (t365.length : Int) := of_decide_eq_true (by first | (with_reducible assumption) | assumption)
                  obtain ⟨ad370, e370, hx370_0⟩ := Kd.at_int (Kd.R_reads' HO_7.out).2.2 1 p370 q370
                  obtain rfl : ad369 = ad370 := (by injection e370)
                  (try simp only [show (1 : Int).toNat = 1 from rfl, Nat.reduceMul, Nat.reduceEqDiff, Go.Addr.add, ↓reduceIte] at hx370_0)
                  have qi370 : (1 < t365.length) = True := eq_true (by omega)
                  (try rw [show ((1 : Int)).toNat = 1 from rfl] at hx370_0)
                  replace p370 := eq_true p370
                  replace q370 := eq_true q370
                  refine start_ (n := 9) (S := fun w' => w'.cell? ad369 = some (.int .i64 (rd t365 0)) ∧ w'.cell? ⟨ad369.block, ad369.off + 1, none⟩ = some (.int .i64 (rd t365 1))) (ds := []) #[false, false, false, false, false, false, false, false, false] (by kernel_rfl) rfl rfl ⟨hx369_0, hx370_0⟩ (fun hHeld => ?_); refine with_tabW spec_l29Recover.tab9 spec_l29Recover.bits9 (fun HT_ HW_ => ?_)
                  generalize wc.drew = w34 at HO_3 HO_4 HO_7 BK360 HB hx369_0 hx370_0 hHeld ⊢
                  refine pure_ (i := 0) (N := some 43) (v := ?_) (a' := ?_) #[true, false, false, false, false, false, false, false, false] rfl rfl (any_of HT_.out (by kernel_rfl)) (fun _ _ _ h => h) (Or.inl ⟨by rfl, ?_⟩) ?_ ?_
                  rotate_left; (focus exact gs); rotate_left; (focus exact pt)
                  refine pure_ (i := 1) (N := some 44) (v := ?_) (a' := ?_) #[true, true, false, false, false, false, false, false, false] rfl rfl (any_of HT_.out (by kernel_rfl)) (fun _ _ _ h => h) (Or.inl ⟨by rfl, ?_⟩) ?_ ?_
                  rotate_left; (focus exact gs); rotate_left; (focus exact pt)
                  refine pure_ (i := 3) (N := some 46) (v := ?_) (a' := ?_) #[true, true, false, true, false, false, false, false, false] rfl rfl (any_of HT_.out (by kernel_rfl)) (fun _ _ _ h => h) (Or.inl ⟨by rfl, ?_⟩) ?_ ?_
                  rotate_left; (focus exact gs); rotate_left; (focus exact pt)
                  refine pure_ (i := 4) (N := some 47) (v := ?_) (a' := ?_) #[true, true, false, true, true, false, false, false, false] rfl rfl (any_of HT_.out (by kernel_rfl)) (fun _ _ _ h => h) (Or.inl ⟨by rfl, ?_⟩) ?_ ?_
                  rotate_left; (focus exact gs); rotate_left; (focus exact pt)
                  refine take_ (i := 2) (N := some 45) (v := ?_) (a' := ?_) #[true, true, true, true, true, false, false, false, false] rfl rfl (take_ofW HT_.out HW_.out (by kernel_rfl)) (fun _ _ _ h => h) (Or.inl ⟨by rfl, ?_⟩) hHeld ?_ ?_
                  rotate_left
                  ·rintro w' ⟨s0, s1⟩
                   go_simp
                   with_reducible rfl
                  rotate_left
                  ·exact pt
                  refine take_ (i := 5) (N := some 48) (v := ?_) (a' := ?_) #[true, true, true, true, true, true, false, false, false] rfl rfl (take_ofW HT_.out HW_.out (by kernel_rfl)) (fun _ _ _ h => h) (Or.inl ⟨by rfl, ?_⟩) hHeld ?_ ?_
                  rotate_left
                  ·rintro w' ⟨s0, s1⟩
                   go_simp
                   with_reducible rfl
                  rotate_left
                  ·exact pt
                  refine pure_ (i := 6) (N := some 49) (v := ?_) (a' := ?_) #[true, true, true, true, true, true, true, false, false] rfl rfl (any_of HT_.out (by kernel_rfl)) (fun _ _ _ h => h) (Or.inl ⟨by rfl, ?_⟩) ?_ ?_
                  rotate_left; (focus exact gs); rotate_left; (focus exact pt)
                  refine one_ (i := 7) (N := some 9) #[true, true, true, true, true, true, true, true, false] rfl rfl (one_of HT_.out (by kernel_rfl)) (by decide) (fun K hK => ?_)
                  refine box_step ?hg (N := 9) ?hd (cs := #[.int .i64 0, .int .i64 0]) (t := 31) ?hr ?_; (case hd => rfl); (case hg => rfl); (case hr => first | (go_simp; done) | (go_simp; rfl))
                  intro gb371 hg w36 hbox hb
                  have HS0_ := (hb.cell (World.block_lt_of_cell? _ _ (hHeld.1))).trans (hHeld.1)
                  have HS1_ := (hb.cell (World.block_lt_of_cell? _ _ (hHeld.2))).trans (hHeld.2)
                  have n_ := (⟨am (Kd.R_below (rqR HO_3.out) hb), am (Kd.R_below (Kd.R_elderB (rqR HO_4.out) gb371 (Nat.le_of_eq hg.symm)) hb), am (Kd.R_below (rqR HO_7.out) hb), am (blk_below (bf0 BK360.out) hb), am (below_step (bl1 HB.out GE360.out) hb), am (hbox), am ((gw hg (bl1 HB.out GE360.out) : w.heap.size ≤ gb371)), am ((gw hg (bl1 HB.out GE360.out) : w.heap.size ≤ gb371)), am ((nl hg (bf0 BK360.out) : gb360 ≠ gb371)), am ((ng hg (bf0 BK360.out) : gb371 ≠ gb360))⟩ : _ ∧ _ ∧ _ ∧ _ ∧ _ ∧ _ ∧ _ ∧ _ ∧ _ ∧ _)
                  clear HO_3
                  clear HO_4
                  clear HO_7
                  clear BK360
                  clear HB
                  obtain ⟨HO_3, HO_4, HO_7, BK360, HB, BK371, GW371, GE371, NB360_371, NB371_360⟩ := n_
                  clear hb hbox hg
                  refine hK.out _ _ ⟨HS0_, HS1_⟩ (fun hHeld => ?_)
                  clear hK K
                  refine norm_ (a' := ?_) ?_ ?_
                  rotate_left
                  ·show Act.put _ (some 9) _ = _
                   simp only [Act.put, List.setIfInBounds_toArray, List.set_cons_zero, List.set_cons_succ, i64_w, i32_w]
                   rfl
                  refine one_ (i := 8) (N := none) #[true, true, true, true, true, true, true, true, true] rfl rfl (one_of HT_.out (by kernel_rfl)) (by decide) (fun K hK => ?_)
                  have hs37 := bc BK371.out 0 (.int .i64 0)
                  have hfs37 := bz BK371.out 0
                  have hns37_0 := NB360_371.out
                  have hms37_0 := NB371_360.out
                  have hs38 := bc BK371.out 1 (.int .i64 0)
                  have hfs38 := bz BK371.out 1
                  have hns38_0 := NB360_371.out
                  have hms38_0 := NB371_360.out
                  refine skip_ (w1 := ?_) (by rfl) rfl ?_ ?_
                  rotate_left
                  ·go_simp
                   rfl
                  refine hK.out _ _ ⟨((cell_far (p := ⟨gb371, _, none⟩) (by first | exact Kd.own_blk (Kd.R_ne HO_7.out BK371.out (by decide)) | (rw [add_block]; exact Kd.own_blk (Kd.R_ne HO_7.out BK371.out (by decide))) | (show (Addr.add _ _).block ≠ _; rw [add_block]; exact Kd.own_blk (Kd.R_ne HO_7.out BK371.out (by decide))) | (dsimp only; exact Kd.own_blk (Kd.R_ne HO_7.out BK371.out (by decide)))) _).trans (((cell_far (p := ⟨gb371, _, none⟩) (by first | exact Kd.own_blk (Kd.R_ne HO_7.out BK371.out (by decide)) | (rw [add_block]; exact Kd.own_blk (Kd.R_ne HO_7.out BK371.out (by decide))) | (show (Addr.add _ _).block ≠ _; rw [add_block]; exact Kd.own_blk (Kd.R_ne HO_7.out BK371.out (by decide))) | (dsimp only; exact Kd.own_blk (Kd.R_ne HO_7.out BK371.out (by decide)))) _).trans (hHeld.1)))), ((cell_far (p := ⟨gb371, _, none⟩) (by first | exact Kd.own_blk (Kd.R_ne HO_7.out BK371.out (by decide)) | (rw [add_block]; exact Kd.own_blk (Kd.R_ne HO_7.out BK371.out (by decide))) | (show (Addr.add _ _).block ≠ _; rw [add_block]; exact Kd.own_blk (Kd.R_ne HO_7.out BK371.out (by decide))) | (dsimp only; exact Kd.own_blk (Kd.R_ne HO_7.out BK371.out (by decide)))) _).trans (((cell_far (p := ⟨gb371, _, none⟩) (by first | exact Kd.own_blk (Kd.R_ne HO_7.out BK371.out (by decide)) | (rw [add_block]; exact Kd.own_blk (Kd.R_ne HO_7.out BK371.out (by decide))) | (show (Addr.add _ _).block ≠ _; rw [add_block]; exact Kd.own_blk (Kd.R_ne HO_7.out BK371.out (by decide))) | (dsimp only; exact Kd.own_blk (Kd.R_ne HO_7.out BK371.out (by decide)))) _).trans (hHeld.2))))⟩ (fun hHeld => ?_)
                  clear hK K
                  refine done_ (done_of HT_.out (by kernel_rfl)) ?_
                  have hnb39 := NB360_371.out
                  have hnc39 := NB371_360.out
                  obtain ⟨hcz40_0, hcz40_1, hcz40_2, hcz40_3, hfz40_0, hfz40_1, hfz40_2, hfz40_3⟩ := cs4 BK360.out
                  obtain ⟨hcz41_0, hcz41_1, hfz41_0, hfz41_1⟩ := cs2 BK371.out
                  try go_wp2_with (first | ((with_reducible refine gate_callee (f := 27) rfl ?_); refine goesL_ (some 53) rfl rfl Tryd.func27 (by kernel_rfl) rfl #[.agg #[.int .i64 x361000_1, .int .i64 x361001_1, .int .i64 x361002_1, .int .i64 x361003_1], .agg #[.int .i64 (rd t365 0), .int .i64 (rd t365 1)]] rfl lnp ?_; (with_reducible refine (spec_l29Make.calls x361000_1 x361001_1 x361002_1 x361003_1 (rd t365 0) (rd t365 1) t372 t373 t374 t375 true _ A27.out).mono ?_); rintro e w42 ⟨rfl, hb⟩; refine ⟨_, rfl, ?_⟩; have n_ := (⟨am (Kd.R_below (by (with_reducible repeat (first | apply Kd.R_alloc | apply Kd.R_drewN | apply Kd.R_drew)); exact (Kd.R_mono (Kd.R_far (p := ⟨gb371, 1, none⟩) (Kd.R_far (p := ⟨gb371, 0, none⟩) (Kd.R_types HO_3.out BK371.out (by decide)) (fun _ hk => hk.2) (.int .i64 (rd t365 0))) (fun _ hk => hk.2) (.int .i64 (rd t365 1))) (fun _ h_ => h_.1))) hb), am (Kd.R_below (by (with_reducible repeat (first | apply Kd.R_alloc | apply Kd.R_drewN | apply Kd.R_drew)); exact (Kd.R_mono (Kd.R_far (p := ⟨gb371, 1, none⟩) (Kd.R_far (p := ⟨gb371, 0, none⟩) (Kd.R_mono HO_4.out (fun k_ hk => (⟨hk, hk.2⟩ : _ ∧ k_ ≠ gb371))) (fun _ hk => hk.2) (.int .i64 (rd t365 0))) (fun _ hk => hk.2) (.int .i64 (rd t365 1))) (fun _ h_ => h_.1))) hb), am (Kd.R_below (by (with_reducible repeat (first | apply Kd.R_alloc | apply Kd.R_drewN | apply Kd.R_drew)); exact (Kd.R_mono (Kd.R_far (p := ⟨gb371, 1, none⟩) (Kd.R_far (p := ⟨gb371, 0, none⟩) (Kd.R_types HO_7.out BK371.out (by decide)) (fun _ hk => hk.2) (.int .i64 (rd t365 0))) (fun _ hk => hk.2) (.int .i64 (rd t365 1))) (fun _ h_ => h_.1))) hb), am (blk_below (bf1 BK360.out NB360_371.out) hb), am (blk_below (g := gb371) (o := .cells #[.int .i64 (rd t365 0), .int .i64 (rd t365 1)] 31 (0, 0)) (bp0 BK371.out) hb), am (below_step (bl2 HB.out GE360.out GE371.out) hb)⟩ : _ ∧ _ ∧ _ ∧ _ ∧ _ ∧ _); clear HO_3 HO_4 HO_7 BK360 BK371 HB; obtain ⟨HO_3, HO_4, HO_7, BK360, BK371, HB⟩ := n_; (try clear hb); (try clear hb2); (try clear hk); (try clear hi)) | ((with_reducible refine gate_dst (N := 10) rfl ?_); (try (refine gate_guard (by rfl) ?_; dsimp only)); refine box_event ?hg (N := 10) ?hd (cs := #[.int .i64 0, .int .i64 0, .int .i64 0, .int .i64 0]) (t := 29) ?hr ?_; (case hd => rfl); (case hg => rfl); (case hr => first | (go_simp; done) | (go_simp; rfl)); intro gb377 hg w43 hbox hb; have n_ := (⟨am (Kd.R_below (rqR HO_3.out) hb), am (Kd.R_below (rqR HO_4.out) hb), am (Kd.R_below (rqR HO_7.out) hb), am (blk_below (bf0 BK360.out) hb), am (blk_below (bf0 BK371.out) hb), am (below_step (bl2 HB.out GE360.out GE371.out) hb), am (hbox), am ((gw hg (bl2 HB.out GE360.out GE371.out) : w.heap.size ≤ gb377)), am ((gw hg (bl2 HB.out GE360.out GE371.out) : w.heap.size ≤ gb377)), am ((nl hg (bf0 BK360.out) : gb360 ≠ gb377)), am ((ng hg (bf0 BK360.out) : gb377 ≠ gb360)), am ((nl hg (bf0 BK371.out) : gb371 ≠ gb377)), am ((ng hg (bf0 BK371.out) : gb377 ≠ gb371))⟩ : _ ∧ _ ∧ _ ∧ _ ∧ _ ∧ _ ∧ _ ∧ _ ∧ _ ∧ _ ∧ _ ∧ _ ∧ _); clear HO_3 HO_4 HO_7 BK360 BK371 HB; obtain ⟨HO_3, HO_4, HO_7, BK360, BK371, HB, BK377, GW377, GE377, NB360_377, NB377_360, NB371_377, NB377_371⟩ := n_; clear hb hbox hg; have hnb44 := NB377_360.out; have hnc44 := NB360_377.out; have hnb45 := NB377_371.out; have hnc45 := NB371_377.out; obtain ⟨hcz46_0, hcz46_1, hcz46_2, hcz46_3, hfz46_0, hfz46_1, hfz46_2, hfz46_3⟩ := cs4 BK377.out))
                  have n0_ : Aside0 (Kd.R Kd.string 9 ((((w43.setCell ⟨gb377, 0, none⟩ (.int .i64 t372)).setCell ⟨gb377, 1, none⟩ (.int .i64 t373)).setCell ⟨gb377, 2, none⟩ (.int .i64 t374)).setCell ⟨gb377, 3, none⟩ (.int .i64 t375)) w.heap.size (fun _ => True) (.slice (some ad361) t354.length co18) t354) := ⟨by (with_reducible repeat (first | apply Kd.R_alloc | apply Kd.R_drewN | apply Kd.R_drew)); exact Kd.R_mono (Kd.R_far (p := ⟨gb377, 3, none⟩) (Kd.R_far (p := ⟨gb377, 2, none⟩) (Kd.R_far (p := ⟨gb377, 1, none⟩) (Kd.R_far (p := ⟨gb377, 0, none⟩) (Kd.R_types HO_3.out BK377.out (by decide)) (fun _ hk => hk.2) (.int .i64 t372)) (fun _ hk => hk.2) (.int .i64 t373)) (fun _ hk => hk.2) (.int .i64 t374)) (fun _ hk => hk.2) (.int .i64 t375)) (fun _ hk => trivial)⟩
                  have n1_ : Aside0 (Kd.R k31 31 ((((w43.setCell ⟨gb377, 0, none⟩ (.int .i64 t372)).setCell ⟨gb377, 1, none⟩ (.int .i64 t373)).setCell ⟨gb377, 2, none⟩ (.int .i64 t374)).setCell ⟨gb377, 3, none⟩ (.int .i64 t375)) w.heap.size (fun k_ => k_ ≠ gb371) u4 x4_1) := ⟨by (with_reducible repeat (first | apply Kd.R_alloc | apply Kd.R_drewN | apply Kd.R_drew)); exact Kd.R_mono (Kd.R_far (p := ⟨gb377, 3, none⟩) (Kd.R_far (p := ⟨gb377, 2, none⟩) (Kd.R_far (p := ⟨gb377, 1, none⟩) (Kd.R_far (p := ⟨gb377, 0, none⟩) (Kd.R_types HO_4.out BK377.out (by decide)) (fun _ hk => hk.2) (.int .i64 t372)) (fun _ hk => hk.2) (.int .i64 t373)) (fun _ hk => hk.2) (.int .i64 t374)) (fun _ hk => hk.2) (.int .i64 t375)) (fun _ hk => hk.1.2)⟩
                  have n2_ : Aside0 (Kd.R (Kd.int .i64) 2 ((((w43.setCell ⟨gb377, 0, none⟩ (.int .i64 t372)).setCell ⟨gb377, 1, none⟩ (.int .i64 t373)).setCell ⟨gb377, 2, none⟩ (.int .i64 t374)).setCell ⟨gb377, 3, none⟩ (.int .i64 t375)) w.heap.size (fun _ => True) (.slice (some ad369) t365.length co35) t365) := ⟨by (with_reducible repeat (first | apply Kd.R_alloc | apply Kd.R_drewN | apply Kd.R_drew)); exact Kd.R_mono (Kd.R_far (p := ⟨gb377, 3, none⟩) (Kd.R_far (p := ⟨gb377, 2, none⟩) (Kd.R_far (p := ⟨gb377, 1, none⟩) (Kd.R_far (p := ⟨gb377, 0, none⟩) (Kd.R_types HO_7.out BK377.out (by decide)) (fun _ hk => hk.2) (.int .i64 t372)) (fun _ hk => hk.2) (.int .i64 t373)) (fun _ hk => hk.2) (.int .i64 t374)) (fun _ hk => hk.2) (.int .i64 t375)) (fun _ hk => trivial)⟩
                  have n3_ : Aside0 (((((w43.setCell ⟨gb377, 0, none⟩ (.int .i64 t372)).setCell ⟨gb377, 1, none⟩ (.int .i64 t373)).setCell ⟨gb377, 2, none⟩ (.int .i64 t374)).setCell ⟨gb377, 3, none⟩ (.int .i64 t375)).heap[gb360]? = some (.cells #[.int .i64 x361000_1, .int .i64 x361001_1, .int .i64 x361002_1, .int .i64 x361003_1] 29 (0, 0))) := ⟨bf1 BK360.out NB360_377.out⟩
                  have n4_ : Aside0 (((((w43.setCell ⟨gb377, 0, none⟩ (.int .i64 t372)).setCell ⟨gb377, 1, none⟩ (.int .i64 t373)).setCell ⟨gb377, 2, none⟩ (.int .i64 t374)).setCell ⟨gb377, 3, none⟩ (.int .i64 t375)).heap[gb371]? = some (.cells #[.int .i64 (rd t365 0), .int .i64 (rd t365 1)] 31 (0, 0))) := ⟨bf1 BK371.out NB371_377.out⟩
                  have n5_ : Aside0 (((((w43.setCell ⟨gb377, 0, none⟩ (.int .i64 t372)).setCell ⟨gb377, 1, none⟩ (.int .i64 t373)).setCell ⟨gb377, 2, none⟩ (.int .i64 t374)).setCell ⟨gb377, 3, none⟩ (.int .i64 t375)).heap[gb377]? = some (.cells #[.int .i64 t372, .int .i64 t373, .int .i64 t374, .int .i64 t375] 29 (0, 0))) := ⟨by (with_reducible repeat (first | refine blk_drewN ?_ _ | refine blk_drew ?_ | refine blk_alloc ?_ _)); refine blk_put (cs := #[.int .i64 t372, .int .i64 t373, .int .i64 t374, .int .i64 0]) ?_ 3 _ rfl; (with_reducible repeat (first | refine blk_drewN ?_ _ | refine blk_drew ?_ | refine blk_alloc ?_ _)); refine blk_put (cs := #[.int .i64 t372, .int .i64 t373, .int .i64 0, .int .i64 0]) ?_ 2 _ rfl; (with_reducible repeat (first | refine blk_drewN ?_ _ | refine blk_drew ?_ | refine blk_alloc ?_ _)); refine blk_put (cs := #[.int .i64 t372, .int .i64 0, .int .i64 0, .int .i64 0]) ?_ 1 _ rfl; (with_reducible repeat (first | refine blk_drewN ?_ _ | refine blk_drew ?_ | refine blk_alloc ?_ _)); refine blk_put (cs := #[.int .i64 0, .int .i64 0, .int .i64 0, .int .i64 0]) ?_ 0 _ rfl; exact bf0 BK377.out⟩
                  have n6_ : Aside0 (Below w.heap.size w ((((w43.setCell ⟨gb377, 0, none⟩ (.int .i64 t372)).setCell ⟨gb377, 1, none⟩ (.int .i64 t373)).setCell ⟨gb377, 2, none⟩ (.int .i64 t374)).setCell ⟨gb377, 3, none⟩ (.int .i64 t375))) := ⟨bl3 HB.out GE360.out GE371.out GE377.out⟩
                  (try clear HO_3)
                  (try clear HO_4)
                  (try clear HO_7)
                  (try clear BK360)
                  (try clear BK371)
                  (try clear BK377)
                  (try clear HB)
                  generalize ((((w43.setCell ⟨gb377, 0, none⟩ (.int .i64 t372)).setCell ⟨gb377, 1, none⟩ (.int .i64 t373)).setCell ⟨gb377, 2, none⟩ (.int .i64 t374)).setCell ⟨gb377, 3, none⟩ (.int .i64 t375)) = w47 at n0_ n1_ n2_ n3_ n4_ n5_ n6_ ⊢
                  have HO_3 := n0_
                  have HO_4 := n1_
                  have HO_7 := n2_
                  have BK360 := n3_
                  have BK371 := n4_
                  have BK377 := n5_
                  have HB := n6_
                  clear n0_ n1_ n2_ n3_ n4_ n5_ n6_
                  have n_ := (⟨am (Kd.R_drew HO_3.out), am (Kd.R_drew HO_4.out), am (Kd.R_drew HO_7.out), am (blk_drew BK360.out), am (blk_drew BK371.out), am (blk_drew BK377.out), am (below_drew1 HB.out)⟩ : _ ∧ _ ∧ _ ∧ _ ∧ _ ∧ _ ∧ _)
                  clear HO_3
                  clear HO_4
                  clear HO_7
                  clear BK360
                  clear BK371
                  clear BK377
                  clear HB
                  obtain ⟨HO_3, HO_4, HO_7, BK360, BK371, BK377, HB⟩ := n_
                  have p379 : 0 ≤ (x6_1 : Int) := of_decide_eq_true (by first | (with_reducible assumption) | assumption)
                  have q379 : x6_1 < (t354.length : Int) := of_decide_eq_true (by first | (with_reducible assumption) | assumption)
                  obtain ⟨ad379, e379, hx379_0⟩ := Kd.at_string (Kd.R_reads' HO_3.out).2.2 x6_1 p379 q379
                  obtain rfl : ad361 = ad379 := (by injection e379)
                  replace p379 := eq_true p379
                  replace q379 := eq_true q379
                  refine start_ (n := 12) (S := fun w' => w'.cell? ⟨gb371, 0, none⟩ = some (.int .i64 (rd t365 0)) ∧ w'.cell? ⟨gb371, 1, none⟩ = some (.int .i64 (rd t365 1)) ∧ w'.cell? (ad361.add (x6_1).toNat) = some (.string (rdOf ByteArray.empty t354 x6_1))) (ds := []) #[false, false, false, false, false, false, false, false, false, false, false, false] (by kernel_rfl) rfl rfl ⟨(blk_cell BK371.out 0).trans rfl, (blk_cell BK371.out 1).trans rfl, hx379_0⟩ (fun hHeld => ?_); refine with_tabW spec_l29Recover.tab11 spec_l29Recover.bits11 (fun HT_ HW_ => ?_)
                  generalize w47.drew = w48 at HO_3 HO_4 HO_7 BK360 BK371 BK377 HB hx379_0 hHeld ⊢
                  refine pure_ (i := 0) (N := some 56) (v := ?_) (a' := ?_) #[true, false, false, false, false, false, false, false, false, false, false, false] rfl rfl (any_of HT_.out (by kernel_rfl)) (fun _ _ _ h => h) (Or.inl ⟨by rfl, ?_⟩) ?_ ?_
                  rotate_left; (focus exact gs); rotate_left; (focus exact pt)
                  refine pure_ (i := 1) (N := some 57) (v := ?_) (a' := ?_) #[true, true, false, false, false, false, false, false, false, false, false, false] rfl rfl (any_of HT_.out (by kernel_rfl)) (fun _ _ _ h => h) (Or.inl ⟨by rfl, ?_⟩) ?_ ?_
                  rotate_left; (focus exact gs); rotate_left; (focus exact pt)
                  refine pure_ (i := 2) (N := some 58) (v := ?_) (a' := ?_) #[true, true, true, false, false, false, false, false, false, false, false, false] rfl rfl (any_of HT_.out (by kernel_rfl)) (fun _ _ _ h => h) (Or.inl ⟨by rfl, ?_⟩) ?_ ?_
                  rotate_left; (focus exact gs); rotate_left; (focus exact pt)
                  refine pure_ (i := 4) (N := some 60) (v := ?_) (a' := ?_) #[true, true, true, false, true, false, false, false, false, false, false, false] rfl rfl (any_of HT_.out (by kernel_rfl)) (fun _ _ _ h => h) (Or.inl ⟨by rfl, ?_⟩) ?_ ?_
                  rotate_left; (focus exact gs); rotate_left; (focus exact pt)
                  refine pure_ (i := 6) (N := some 62) (v := ?_) (a' := ?_) #[true, true, true, false, true, false, true, false, false, false, false, false] rfl rfl (any_of HT_.out (by kernel_rfl)) (fun _ _ _ h => h) (Or.inl ⟨by rfl, ?_⟩) ?_ ?_
                  rotate_left; (focus exact gs); rotate_left; (focus exact pt)
                  refine pure_ (i := 7) (N := some 63) (v := ?_) (a' := ?_) #[true, true, true, false, true, false, true, true, false, false, false, false] rfl rfl (any_of HT_.out (by kernel_rfl)) (fun _ _ _ h => h) (Or.inl ⟨by rfl, ?_⟩) ?_ ?_
                  rotate_left; (focus exact gs); rotate_left; (focus exact pt)
                  refine pure_ (i := 8) (N := some 64) (v := ?_) (a' := ?_) #[true, true, true, false, true, false, true, true, true, false, false, false] rfl rfl (any_of HT_.out (by kernel_rfl)) (fun _ _ _ h => h) (Or.inl ⟨by rfl, ?_⟩) ?_ ?_
                  rotate_left; (focus exact gs); rotate_left; (focus exact pt)
                  refine take_ (i := 3) (N := some 59) (v := ?_) (a' := ?_) #[true, true, true, true, true, false, true, true, true, false, false, false] rfl rfl (take_ofW HT_.out HW_.out (by kernel_rfl)) (fun _ _ _ h => h) (Or.inl ⟨by rfl, ?_⟩) hHeld ?_ ?_
                  rotate_left
                  ·rintro w' ⟨s0, s1, s2⟩
                   go_simp
                   with_reducible rfl
                  rotate_left
                  ·exact pt
                  refine take_ (i := 9) (N := some 65) (v := ?_) (a' := ?_) #[true, true, true, true, true, false, true, true, true, true, false, false] rfl rfl (take_ofW HT_.out HW_.out (by kernel_rfl)) (fun _ _ _ h => h) (Or.inl ⟨by rfl, ?_⟩) hHeld ?_ ?_
                  rotate_left
                  ·rintro w' ⟨s0, s1, s2⟩
                   go_simp
                   with_reducible rfl
                  rotate_left
                  ·exact pt
                  refine one_ (i := 5) (N := some 61) #[true, true, true, true, true, true, true, true, true, true, false, false] rfl rfl (one_of HT_.out (by kernel_rfl)) (by decide) (fun K hK => ?_)
                  refine goes_ Tryd.func38 (by kernel_rfl) rfl #[.agg #[.int .i64 (rd t365 0), .int .i64 (rd t365 1)], .int .i64 x6_1] (by rfl) rfl rfl lnp ?_
                  with_reducible refine (spec_l29Line.calls kj16 (rd t365 0) (rd t365 1) x6_1 t378 _ A29.out).mono ?_
                  rintro e w49 ⟨rfl, hb⟩
                  have HS2_ := (hb.cell (World.block_lt_of_cell? _ _ (hHeld.2.2))).trans (hHeld.2.2)
                  refine ⟨_, rfl, ?_⟩
                  have n_ := (⟨am (Kd.R_below (rqR HO_3.out) hb), am (Kd.R_below (rqR HO_4.out) hb), am (Kd.R_below (rqR HO_7.out) hb), am (blk_below (bf0 BK360.out) hb), am (blk_below (bf0 BK371.out) hb), am (blk_below (bf0 BK377.out) hb), am (below_step (bl3 HB.out GE360.out GE371.out GE377.out) hb)⟩ : _ ∧ _ ∧ _ ∧ _ ∧ _ ∧ _ ∧ _)
                  clear HO_3
                  clear HO_4
                  clear HO_7
                  clear BK360
                  clear BK371
                  clear BK377
                  clear HB
                  obtain ⟨HO_3, HO_4, HO_7, BK360, BK371, BK377, HB⟩ := n_
                  (try clear hb)
                  (try clear hb2)
                  (try clear hk)
                  (try clear hi)
                  refine hK.out _ _ ⟨(blk_cell BK371.out 0).trans rfl, (blk_cell BK371.out 1).trans rfl, HS2_⟩ (fun hHeld => ?_)
                  clear hK K
                  refine norm_ (a' := ?_) ?_ ?_
                  rotate_left
                  ·show Act.put _ (some 61) _ = _
                   simp only [Act.put, List.setIfInBounds_toArray, List.set_cons_zero, List.set_cons_succ, i64_w, i32_w]
                   rfl
                  refine pure_ (i := 10) (N := some 66) (v := ?_) (a' := ?_) #[true, true, true, true, true, true, true, true, true, true, true, false] rfl rfl (any_of HT_.out (by kernel_rfl)) (fun _ _ _ h => h) (Or.inl ⟨by rfl, ?_⟩) ?_ ?_
                  rotate_left; (focus exact gs); rotate_left; (focus exact pt)
                  refine pure_ (i := 11) (N := some 67) (v := ?_) (a' := ?_) #[true, true, true, true, true, true, true, true, true, true, true, true] rfl rfl (any_of HT_.out (by kernel_rfl)) (fun _ _ _ h => h) (Or.inl ⟨by rfl, ?_⟩) ?_ ?_
                  rotate_left; (focus exact gs); rotate_left; (focus exact pt)
                  refine done_ (done_of HT_.out (by kernel_rfl)) ?_
                  obtain ⟨hcz50_0, hcz50_1, hcz50_2, hcz50_3, hfz50_0, hfz50_1, hfz50_2, hfz50_3⟩ := cs4 BK377.out
                  obtain ⟨hcz51_0, hcz51_1, hcz51_2, hcz51_3, hfz51_0, hfz51_1, hfz51_2, hfz51_3⟩ := cs4 BK360.out
                  obtain ⟨hcz52_0, hcz52_1, hfz52_0, hfz52_1⟩ := cs2 BK371.out
                  try go_wp2_with (first | ((with_reducible refine gate_builtin (b := .append) (xs := #[.tmp 69, .tmp 71]) rfl ?_); (try (refine gate_guard (by rfl) ?_; dsimp only)); at_builtin; refine Kd.R_append k31 (w0 := w) w.heap.size rfl (.tmp 69) (.tmp 71) 37 31 (.agg #[(.int .i64 0), (.int .i64 0)]) 16 rfl Tryd.underlying37 info31 rfl (by decide) (by omega) u4 x4_1 (⟨rd t365 0, rd t365 1⟩ : S31) [.int .i64 (rd t365 0), .int .i64 (rd t365 1)] (fun k_ => k_ ≠ gb371) (fun _ => False) rfl (by first | (go_simp; done) | (go_simp; rfl)) ?aP (fun _ hk => hk.elim) ?aF ?aO ?aB ?aS ?aL ?_; (case aP => exact k31_mkM _ _ _ (⟨rd t365 0, rd t365 1⟩ : S31)); (case aB => exact (bl3 HB.out GE360.out GE371.out GE377.out)); (case aF => exact (fun k_ hk => Kd.freshB (g := gb371) (o := .cells #[.int .i64 (rd t365 0), .int .i64 (rd t365 1)] 31 (0, 0)) (bf1 BK371.out NB371_360.out) k_ hk)); (case aO => exact (by (with_reducible repeat (first | apply Kd.R_alloc | apply Kd.R_drewN | apply Kd.R_drew)); exact Kd.R_mono (Kd.R_far (p := ⟨gb360, 3, none⟩) (Kd.R_far (p := ⟨gb360, 2, none⟩) (Kd.R_far (p := ⟨gb360, 1, none⟩) (Kd.R_far (p := ⟨gb360, 0, none⟩) (Kd.R_types HO_4.out BK360.out (by decide)) (fun _ hk => hk.2) (.int .i64 t372)) (fun _ hk => hk.2) (.int .i64 t373)) (fun _ hk => hk.2) (.int .i64 t374)) (fun _ hk => hk.2) (.int .i64 t375)) (fun _ hk => hk.1))); (case aS => exact (below_size (bl3 HB.out GE360.out GE371.out GE377.out))); (case aL => have := LMc33.out; omega); intro v381 w53 ho hb hg hat; rw [← Ny380.out] at ho; have n_ := (⟨am (Kd.R_over' (by (with_reducible repeat (first | apply Kd.R_alloc | apply Kd.R_drewN | apply Kd.R_drew)); exact (Kd.R_mono (Kd.R_far (p := ⟨gb360, 3, none⟩) (Kd.R_far (p := ⟨gb360, 2, none⟩) (Kd.R_far (p := ⟨gb360, 1, none⟩) (Kd.R_far (p := ⟨gb360, 0, none⟩) (Kd.R_types HO_3.out BK360.out (by decide)) (fun _ hk => hk.2) (.int .i64 t372)) (fun _ hk => hk.2) (.int .i64 t373)) (fun _ hk => hk.2) (.int .i64 t374)) (fun _ hk => hk.2) (.int .i64 t375)) (fun _ h_ => h_.1))) (Kd.R_typed (by (with_reducible repeat (first | apply Kd.R_alloc | apply Kd.R_drewN | apply Kd.R_drew)); exact (Kd.R_mono (Kd.R_far (p := ⟨gb360, 3, none⟩) (Kd.R_far (p := ⟨gb360, 2, none⟩) (Kd.R_far (p := ⟨gb360, 1, none⟩) (Kd.R_far (p := ⟨gb360, 0, none⟩) (Kd.R_types HO_4.out BK360.out (by decide)) (fun _ hk => hk.2) (.int .i64 t372)) (fun _ hk => hk.2) (.int .i64 t373)) (fun _ hk => hk.2) (.int .i64 t374)) (fun _ hk => hk.2) (.int .i64 t375)) (fun _ h_ => h_.1)))) (by decide) hg), am (Kd.R_over' (by (with_reducible repeat (first | apply Kd.R_alloc | apply Kd.R_drewN | apply Kd.R_drew)); exact (Kd.R_mono (Kd.R_far (p := ⟨gb360, 3, none⟩) (Kd.R_far (p := ⟨gb360, 2, none⟩) (Kd.R_far (p := ⟨gb360, 1, none⟩) (Kd.R_far (p := ⟨gb360, 0, none⟩) (Kd.R_types HO_7.out BK360.out (by decide)) (fun _ hk => hk.2) (.int .i64 t372)) (fun _ hk => hk.2) (.int .i64 t373)) (fun _ hk => hk.2) (.int .i64 t374)) (fun _ hk => hk.2) (.int .i64 t375)) (fun _ h_ => h_.1))) (Kd.R_typed (by (with_reducible repeat (first | apply Kd.R_alloc | apply Kd.R_drewN | apply Kd.R_drew)); exact (Kd.R_mono (Kd.R_far (p := ⟨gb360, 3, none⟩) (Kd.R_far (p := ⟨gb360, 2, none⟩) (Kd.R_far (p := ⟨gb360, 1, none⟩) (Kd.R_far (p := ⟨gb360, 0, none⟩) (Kd.R_types HO_4.out BK360.out (by decide)) (fun _ hk => hk.2) (.int .i64 t372)) (fun _ hk => hk.2) (.int .i64 t373)) (fun _ hk => hk.2) (.int .i64 t374)) (fun _ hk => hk.2) (.int .i64 t375)) (fun _ h_ => h_.1)))) (by decide) hg), am (blk_grown (g := gb360) (o := .cells #[.int .i64 t372, .int .i64 t373, .int .i64 t374, .int .i64 t375] 29 (0, 0)) (bp0 BK360.out) hg (Kd.R_ne HO_4.out BK360.out (by decide))), am (blk_grown (bf1 BK371.out NB371_360.out) hg (Kd.R_away HO_4.out (fun _ hk => hk))), am (blk_grown (bf1 BK377.out NB377_360.out) hg (Kd.R_ne HO_4.out BK377.out (by decide))), am (hb), am (ho)⟩ : _ ∧ _ ∧ _ ∧ _ ∧ _ ∧ _ ∧ _); clear HO_3 HO_7 BK360 BK371 BK377 HB HO_4; obtain ⟨HO_3, HO_7, BK360, BK371, BK377, HB, HO382⟩ := n_; clear ho hb hg hat))
                  go_roundg kj16
                  case measure => have := HK1.out; have := HJ7.out; have := HJ16.out; omega
                  case rel => exact ⟨(y380), (wrap64 (x6_1 + 1)), (t372), (t373), (t374), (t375), (by first | rfl | (simp; done) | (simp [*]; done)), H', ⟨by have := HK1.out; have := HJ7.out; have := HJ16.out; omega⟩, ⟨by (with_reducible repeat (first | apply Kd.R_alloc | apply Kd.R_drewN | apply Kd.R_drew)); exact HO_3.out⟩, ⟨by (with_reducible repeat (first | apply Kd.R_alloc | apply Kd.R_drewN | apply Kd.R_drew)); exact Kd.R_mono HO382.out (fun _ hk => trivial)⟩, ⟨bf0 BK360.out⟩, ⟨bl3 HB.out GE360.out GE371.out GE377.out⟩⟩
                 ·rw [if_neg c33] at H
                  exact absurd H (by simp)
                ·rw [if_neg c32] at H
                 have c32b0 : (t378.toList == (rdOf ByteArray.empty t354 x6_1).toList) = false := beq_eq_false_iff_ne.mpr c32
                 have c32b1 : (t378.toList != (rdOf ByteArray.empty t354 x6_1).toList) = true := bne_iff_ne.mpr c32
                 obtain rfl := Option.some.inj H
                 try go_wp2
                 have n_ := (⟨am (Kd.R_drew HO_3.out), am (Kd.R_drew HO_4.out), am (Kd.R_drew HO_7.out), am (blk_drew BK360.out), am (below_drew1 HB.out)⟩ : _ ∧ _ ∧ _ ∧ _ ∧ _)
                 clear HO_3
                 clear HO_4
                 clear HO_7
                 clear BK360
                 clear HB
                 obtain ⟨HO_3, HO_4, HO_7, BK360, HB⟩ := n_
                 obtain ⟨Ao55, co55, eo55⟩ := Kd.R_slice HO_7.out
                 (first | subst eo55 | (injection eo55 with f1_ f2_ f3_; have f4_ := f1_.symm; have f5_ := f3_.symm; clear f1_ f2_ f3_; subst f4_; subst f5_))
                 have p369 : 0 ≤ (0 : Int) := (by omega)
                 have q369 : 0 < (t365.length : Int) := of_decide_eq_true (by first | (with_reducible assumption) | assumption)
                 obtain ⟨ad369, e369, hx369_0⟩ := Kd.at_int (Kd.R_reads' HO_7.out).2.2 0 p369 q369
                 cases e369
                 have qi369 : (0 < t365.length) = True := eq_true (by omega)
                 (try rw [show ((0 : Int)).toNat = 0 from rfl] at hx369_0)
                 (try rw [Addr.add_zero'] at hx369_0)
                 replace p369 := eq_true p369
                 replace q369 := eq_true q369
                 have p370 : 0 ≤ (1 : Int) := (by omega)
                 have q370 : 1 < (t365.length : Int) := of_decide_eq_true (by first | (with_reducible assumption) | assumption)
                 obtain ⟨ad370, e370, hx370_0⟩ := Kd.at_int (Kd.R_reads' HO_7.out).2.2 1 p370 q370
                 obtain rfl : ad369 = ad370 := (by injection e370)
                 (try simp only [show (1 : Int).toNat = 1 from rfl, Nat.reduceMul, Nat.reduceEqDiff, Go.Addr.add, ↓reduceIte] at hx370_0)
                 have qi370 : (1 < t365.length) = True := eq_true (by omega)
                 (try rw [show ((1 : Int)).toNat = 1 from rfl] at hx370_0)
                 replace p370 := eq_true p370
                 replace q370 := eq_true q370
                 refine start_ (n := 9) (S := fun w' => w'.cell? ad369 = some (.int .i64 (rd t365 0)) ∧ w'.cell? ⟨ad369.block, ad369.off + 1, none⟩ = some (.int .i64 (rd t365 1))) (ds := []) #[false, false, false, false, false, false, false, false, false] (by kernel_rfl) rfl rfl ⟨hx369_0, hx370_0⟩ (fun hHeld => ?_); refine with_tabW spec_l29Recover.tab9 spec_l29Recover.bits9 (fun HT_ HW_ => ?_)
                 generalize wc.drew = w54 at HO_3 HO_4 HO_7 BK360 HB hx369_0 hx370_0 hHeld ⊢
                 refine pure_ (i := 0) (N := some 43) (v := ?_) (a' := ?_) #[true, false, false, false, false, false, false, false, false] rfl rfl (any_of HT_.out (by kernel_rfl)) (fun _ _ _ h => h) (Or.inl ⟨by rfl, ?_⟩) ?_ ?_
                 rotate_left; (focus exact gs); rotate_left; (focus exact pt)
                 refine pure_ (i := 1) (N := some 44) (v := ?_) (a' := ?_) #[true, true, false, false, false, false, false, false, false] rfl rfl (any_of HT_.out (by kernel_rfl)) (fun _ _ _ h => h) (Or.inl ⟨by rfl, ?_⟩) ?_ ?_
                 rotate_left; (focus exact gs); rotate_left; (focus exact pt)
                 refine pure_ (i := 3) (N := some 46) (v := ?_) (a' := ?_) #[true, true, false, true, false, false, false, false, false] rfl rfl (any_of HT_.out (by kernel_rfl)) (fun _ _ _ h => h) (Or.inl ⟨by rfl, ?_⟩) ?_ ?_
                 rotate_left; (focus exact gs); rotate_left; (focus exact pt)
                 refine pure_ (i := 4) (N := some 47) (v := ?_) (a' := ?_) #[true, true, false, true, true, false, false, false, false] rfl rfl (any_of HT_.out (by kernel_rfl)) (fun _ _ _ h => h) (Or.inl ⟨by rfl, ?_⟩) ?_ ?_
                 rotate_left; (focus exact gs); rotate_left; (focus exact pt)
                 refine take_ (i := 2) (N := some 45) (v := ?_) (a' := ?_) #[true, true, true, true, true, false, false, false, false] rfl rfl (take_ofW HT_.out HW_.out (by kernel_rfl)) (fun _ _ _ h => h) (Or.inl ⟨by rfl, ?_⟩) hHeld ?_ ?_
                 rotate_left
                 ·rintro w' ⟨s0, s1⟩
                  go_simp
                  with_reducible rfl
                 rotate_left
                 ·exact pt
                 refine take_ (i := 5) (N := some 48) (v := ?_) (a' := ?_) #[true, true, true, true, true, true, false, false, false] rfl rfl (take_ofW HT_.out HW_.out (by kernel_rfl)) (fun _ _ _ h => h) (Or.inl ⟨by rfl, ?_⟩) hHeld ?_ ?_
                 rotate_left
                 ·rintro w' ⟨s0, s1⟩
                  go_simp
                  with_reducible rfl
                 rotate_left
                 ·exact pt
                 refine pure_ (i := 6) (N := some 49) (v := ?_) (a' := ?_) #[true, true, true, true, true, true, true, false, false] rfl rfl (any_of HT_.out (by kernel_rfl)) (fun _ _ _ h => h) (Or.inl ⟨by rfl, ?_⟩) ?_ ?_
                 rotate_left; (focus exact gs); rotate_left; (focus exact pt)
                 refine one_ (i := 7) (N := some 9) #[true, true, true, true, true, true, true, true, false] rfl rfl (one_of HT_.out (by kernel_rfl)) (by decide) (fun K hK => ?_)
                 refine box_step ?hg (N := 9) ?hd (cs := #[.int .i64 0, .int .i64 0]) (t := 31) ?hr ?_; (case hd => rfl); (case hg => rfl); (case hr => first | (go_simp; done) | (go_simp; rfl))
                 intro gb371 hg w56 hbox hb
                 have HS0_ := (hb.cell (World.block_lt_of_cell? _ _ (hHeld.1))).trans (hHeld.1)
                 have HS1_ := (hb.cell (World.block_lt_of_cell? _ _ (hHeld.2))).trans (hHeld.2)
                 have n_ := (⟨am (Kd.R_below (rqR HO_3.out) hb), am (Kd.R_below (Kd.R_elderB (rqR HO_4.out) gb371 (Nat.le_of_eq hg.symm)) hb), am (Kd.R_below (rqR HO_7.out) hb), am (blk_below (bf0 BK360.out) hb), am (below_step (bl1 HB.out GE360.out) hb), am (hbox), am ((gw hg (bl1 HB.out GE360.out) : w.heap.size ≤ gb371)), am ((gw hg (bl1 HB.out GE360.out) : w.heap.size ≤ gb371)), am ((nl hg (bf0 BK360.out) : gb360 ≠ gb371)), am ((ng hg (bf0 BK360.out) : gb371 ≠ gb360))⟩ : _ ∧ _ ∧ _ ∧ _ ∧ _ ∧ _ ∧ _ ∧ _ ∧ _ ∧ _)
                 clear HO_3
                 clear HO_4
                 clear HO_7
                 clear BK360
                 clear HB
                 obtain ⟨HO_3, HO_4, HO_7, BK360, HB, BK371, GW371, GE371, NB360_371, NB371_360⟩ := n_
                 clear hb hbox hg
                 refine hK.out _ _ ⟨HS0_, HS1_⟩ (fun hHeld => ?_)
                 clear hK K
                 refine norm_ (a' := ?_) ?_ ?_
                 rotate_left
                 ·show Act.put _ (some 9) _ = _
                  simp only [Act.put, List.setIfInBounds_toArray, List.set_cons_zero, List.set_cons_succ, i64_w, i32_w]
                  rfl
                 refine one_ (i := 8) (N := none) #[true, true, true, true, true, true, true, true, true] rfl rfl (one_of HT_.out (by kernel_rfl)) (by decide) (fun K hK => ?_)
                 have hs57 := bc BK371.out 0 (.int .i64 0)
                 have hfs57 := bz BK371.out 0
                 have hns57_0 := NB360_371.out
                 have hms57_0 := NB371_360.out
                 have hs58 := bc BK371.out 1 (.int .i64 0)
                 have hfs58 := bz BK371.out 1
                 have hns58_0 := NB360_371.out
                 have hms58_0 := NB371_360.out
                 refine skip_ (w1 := ?_) (by rfl) rfl ?_ ?_
                 rotate_left
                 ·go_simp
                  rfl
                 refine hK.out _ _ ⟨((cell_far (p := ⟨gb371, _, none⟩) (by first | exact Kd.own_blk (Kd.R_ne HO_7.out BK371.out (by decide)) | (rw [add_block]; exact Kd.own_blk (Kd.R_ne HO_7.out BK371.out (by decide))) | (show (Addr.add _ _).block ≠ _; rw [add_block]; exact Kd.own_blk (Kd.R_ne HO_7.out BK371.out (by decide))) | (dsimp only; exact Kd.own_blk (Kd.R_ne HO_7.out BK371.out (by decide)))) _).trans (((cell_far (p := ⟨gb371, _, none⟩) (by first | exact Kd.own_blk (Kd.R_ne HO_7.out BK371.out (by decide)) | (rw [add_block]; exact Kd.own_blk (Kd.R_ne HO_7.out BK371.out (by decide))) | (show (Addr.add _ _).block ≠ _; rw [add_block]; exact Kd.own_blk (Kd.R_ne HO_7.out BK371.out (by decide))) | (dsimp only; exact Kd.own_blk (Kd.R_ne HO_7.out BK371.out (by decide)))) _).trans (hHeld.1)))), ((cell_far (p := ⟨gb371, _, none⟩) (by first | exact Kd.own_blk (Kd.R_ne HO_7.out BK371.out (by decide)) | (rw [add_block]; exact Kd.own_blk (Kd.R_ne HO_7.out BK371.out (by decide))) | (show (Addr.add _ _).block ≠ _; rw [add_block]; exact Kd.own_blk (Kd.R_ne HO_7.out BK371.out (by decide))) | (dsimp only; exact Kd.own_blk (Kd.R_ne HO_7.out BK371.out (by decide)))) _).trans (((cell_far (p := ⟨gb371, _, none⟩) (by first | exact Kd.own_blk (Kd.R_ne HO_7.out BK371.out (by decide)) | (rw [add_block]; exact Kd.own_blk (Kd.R_ne HO_7.out BK371.out (by decide))) | (show (Addr.add _ _).block ≠ _; rw [add_block]; exact Kd.own_blk (Kd.R_ne HO_7.out BK371.out (by decide))) | (dsimp only; exact Kd.own_blk (Kd.R_ne HO_7.out BK371.out (by decide)))) _).trans (hHeld.2))))⟩ (fun hHeld => ?_)
                 clear hK K
                 refine done_ (done_of HT_.out (by kernel_rfl)) ?_
                 have hnb59 := NB360_371.out
                 have hnc59 := NB371_360.out
                 obtain ⟨hcz60_0, hcz60_1, hcz60_2, hcz60_3, hfz60_0, hfz60_1, hfz60_2, hfz60_3⟩ := cs4 BK360.out
                 obtain ⟨hcz61_0, hcz61_1, hfz61_0, hfz61_1⟩ := cs2 BK371.out
                 try go_wp2_with (first | ((with_reducible refine gate_callee (f := 27) rfl ?_); refine goesL_ (some 53) rfl rfl Tryd.func27 (by kernel_rfl) rfl #[.agg #[.int .i64 x361000_1, .int .i64 x361001_1, .int .i64 x361002_1, .int .i64 x361003_1], .agg #[.int .i64 (rd t365 0), .int .i64 (rd t365 1)]] rfl lnp ?_; (with_reducible refine (spec_l29Make.calls x361000_1 x361001_1 x361002_1 x361003_1 (rd t365 0) (rd t365 1) t372 t373 t374 t375 true _ A27.out).mono ?_); rintro e w62 ⟨rfl, hb⟩; refine ⟨_, rfl, ?_⟩; have n_ := (⟨am (Kd.R_below (by (with_reducible repeat (first | apply Kd.R_alloc | apply Kd.R_drewN | apply Kd.R_drew)); exact (Kd.R_mono (Kd.R_far (p := ⟨gb371, 1, none⟩) (Kd.R_far (p := ⟨gb371, 0, none⟩) (Kd.R_types HO_3.out BK371.out (by decide)) (fun _ hk => hk.2) (.int .i64 (rd t365 0))) (fun _ hk => hk.2) (.int .i64 (rd t365 1))) (fun _ h_ => h_.1))) hb), am (Kd.R_below (by (with_reducible repeat (first | apply Kd.R_alloc | apply Kd.R_drewN | apply Kd.R_drew)); exact (Kd.R_mono (Kd.R_far (p := ⟨gb371, 1, none⟩) (Kd.R_far (p := ⟨gb371, 0, none⟩) (Kd.R_mono HO_4.out (fun k_ hk => (⟨hk, hk.2⟩ : _ ∧ k_ ≠ gb371))) (fun _ hk => hk.2) (.int .i64 (rd t365 0))) (fun _ hk => hk.2) (.int .i64 (rd t365 1))) (fun _ h_ => h_.1))) hb), am (Kd.R_below (by (with_reducible repeat (first | apply Kd.R_alloc | apply Kd.R_drewN | apply Kd.R_drew)); exact (Kd.R_mono (Kd.R_far (p := ⟨gb371, 1, none⟩) (Kd.R_far (p := ⟨gb371, 0, none⟩) (Kd.R_types HO_7.out BK371.out (by decide)) (fun _ hk => hk.2) (.int .i64 (rd t365 0))) (fun _ hk => hk.2) (.int .i64 (rd t365 1))) (fun _ h_ => h_.1))) hb), am (blk_below (bf1 BK360.out NB360_371.out) hb), am (blk_below (g := gb371) (o := .cells #[.int .i64 (rd t365 0), .int .i64 (rd t365 1)] 31 (0, 0)) (bp0 BK371.out) hb), am (below_step (bl2 HB.out GE360.out GE371.out) hb)⟩ : _ ∧ _ ∧ _ ∧ _ ∧ _ ∧ _); clear HO_3 HO_4 HO_7 BK360 BK371 HB; obtain ⟨HO_3, HO_4, HO_7, BK360, BK371, HB⟩ := n_; (try clear hb); (try clear hb2); (try clear hk); (try clear hi)) | ((with_reducible refine gate_dst (N := 10) rfl ?_); (try (refine gate_guard (by rfl) ?_; dsimp only)); refine box_event ?hg (N := 10) ?hd (cs := #[.int .i64 0, .int .i64 0, .int .i64 0, .int .i64 0]) (t := 29) ?hr ?_; (case hd => rfl); (case hg => rfl); (case hr => first | (go_simp; done) | (go_simp; rfl)); intro gb377 hg w63 hbox hb; have n_ := (⟨am (Kd.R_below (rqR HO_3.out) hb), am (Kd.R_below (rqR HO_4.out) hb), am (Kd.R_below (rqR HO_7.out) hb), am (blk_below (bf0 BK360.out) hb), am (blk_below (bf0 BK371.out) hb), am (below_step (bl2 HB.out GE360.out GE371.out) hb), am (hbox), am ((gw hg (bl2 HB.out GE360.out GE371.out) : w.heap.size ≤ gb377)), am ((gw hg (bl2 HB.out GE360.out GE371.out) : w.heap.size ≤ gb377)), am ((nl hg (bf0 BK360.out) : gb360 ≠ gb377)), am ((ng hg (bf0 BK360.out) : gb377 ≠ gb360)), am ((nl hg (bf0 BK371.out) : gb371 ≠ gb377)), am ((ng hg (bf0 BK371.out) : gb377 ≠ gb371))⟩ : _ ∧ _ ∧ _ ∧ _ ∧ _ ∧ _ ∧ _ ∧ _ ∧ _ ∧ _ ∧ _ ∧ _ ∧ _); clear HO_3 HO_4 HO_7 BK360 BK371 HB; obtain ⟨HO_3, HO_4, HO_7, BK360, BK371, HB, BK377, GW377, GE377, NB360_377, NB377_360, NB371_377, NB377_371⟩ := n_; clear hb hbox hg; have hnb64 := NB377_360.out; have hnc64 := NB360_377.out; have hnb65 := NB377_371.out; have hnc65 := NB371_377.out; obtain ⟨hcz66_0, hcz66_1, hcz66_2, hcz66_3, hfz66_0, hfz66_1, hfz66_2, hfz66_3⟩ := cs4 BK377.out))
                 have n0_ : Aside0 (Kd.R Kd.string 9 ((((w63.setCell ⟨gb377, 0, none⟩ (.int .i64 t372)).setCell ⟨gb377, 1, none⟩ (.int .i64 t373)).setCell ⟨gb377, 2, none⟩ (.int .i64 t374)).setCell ⟨gb377, 3, none⟩ (.int .i64 t375)) w.heap.size (fun _ => True) (.slice (some ad361) t354.length co18) t354) := ⟨by (with_reducible repeat (first | apply Kd.R_alloc | apply Kd.R_drewN | apply Kd.R_drew)); exact Kd.R_mono (Kd.R_far (p := ⟨gb377, 3, none⟩) (Kd.R_far (p := ⟨gb377, 2, none⟩) (Kd.R_far (p := ⟨gb377, 1, none⟩) (Kd.R_far (p := ⟨gb377, 0, none⟩) (Kd.R_types HO_3.out BK377.out (by decide)) (fun _ hk => hk.2) (.int .i64 t372)) (fun _ hk => hk.2) (.int .i64 t373)) (fun _ hk => hk.2) (.int .i64 t374)) (fun _ hk => hk.2) (.int .i64 t375)) (fun _ hk => trivial)⟩
                 have n1_ : Aside0 (Kd.R k31 31 ((((w63.setCell ⟨gb377, 0, none⟩ (.int .i64 t372)).setCell ⟨gb377, 1, none⟩ (.int .i64 t373)).setCell ⟨gb377, 2, none⟩ (.int .i64 t374)).setCell ⟨gb377, 3, none⟩ (.int .i64 t375)) w.heap.size (fun k_ => k_ ≠ gb371) u4 x4_1) := ⟨by (with_reducible repeat (first | apply Kd.R_alloc | apply Kd.R_drewN | apply Kd.R_drew)); exact Kd.R_mono (Kd.R_far (p := ⟨gb377, 3, none⟩) (Kd.R_far (p := ⟨gb377, 2, none⟩) (Kd.R_far (p := ⟨gb377, 1, none⟩) (Kd.R_far (p := ⟨gb377, 0, none⟩) (Kd.R_types HO_4.out BK377.out (by decide)) (fun _ hk => hk.2) (.int .i64 t372)) (fun _ hk => hk.2) (.int .i64 t373)) (fun _ hk => hk.2) (.int .i64 t374)) (fun _ hk => hk.2) (.int .i64 t375)) (fun _ hk => hk.1.2)⟩
                 have n2_ : Aside0 (Kd.R (Kd.int .i64) 2 ((((w63.setCell ⟨gb377, 0, none⟩ (.int .i64 t372)).setCell ⟨gb377, 1, none⟩ (.int .i64 t373)).setCell ⟨gb377, 2, none⟩ (.int .i64 t374)).setCell ⟨gb377, 3, none⟩ (.int .i64 t375)) w.heap.size (fun _ => True) (.slice (some ad369) t365.length co55) t365) := ⟨by (with_reducible repeat (first | apply Kd.R_alloc | apply Kd.R_drewN | apply Kd.R_drew)); exact Kd.R_mono (Kd.R_far (p := ⟨gb377, 3, none⟩) (Kd.R_far (p := ⟨gb377, 2, none⟩) (Kd.R_far (p := ⟨gb377, 1, none⟩) (Kd.R_far (p := ⟨gb377, 0, none⟩) (Kd.R_types HO_7.out BK377.out (by decide)) (fun _ hk => hk.2) (.int .i64 t372)) (fun _ hk => hk.2) (.int .i64 t373)) (fun _ hk => hk.2) (.int .i64 t374)) (fun _ hk => hk.2) (.int .i64 t375)) (fun _ hk => trivial)⟩
                 have n3_ : Aside0 (((((w63.setCell ⟨gb377, 0, none⟩ (.int .i64 t372)).setCell ⟨gb377, 1, none⟩ (.int .i64 t373)).setCell ⟨gb377, 2, none⟩ (.int .i64 t374)).setCell ⟨gb377, 3, none⟩ (.int .i64 t375)).heap[gb360]? = some (.cells #[.int .i64 x361000_1, .int .i64 x361001_1, .int .i64 x361002_1, .int .i64 x361003_1] 29 (0, 0))) := ⟨bf1 BK360.out NB360_377.out⟩
                 have n4_ : Aside0 (((((w63.setCell ⟨gb377, 0, none⟩ (.int .i64 t372)).setCell ⟨gb377, 1, none⟩ (.int .i64 t373)).setCell ⟨gb377, 2, none⟩ (.int .i64 t374)).setCell ⟨gb377, 3, none⟩ (.int .i64 t375)).heap[gb371]? = some (.cells #[.int .i64 (rd t365 0), .int .i64 (rd t365 1)] 31 (0, 0))) := ⟨bf1 BK371.out NB371_377.out⟩
                 have n5_ : Aside0 (((((w63.setCell ⟨gb377, 0, none⟩ (.int .i64 t372)).setCell ⟨gb377, 1, none⟩ (.int .i64 t373)).setCell ⟨gb377, 2, none⟩ (.int .i64 t374)).setCell ⟨gb377, 3, none⟩ (.int .i64 t375)).heap[gb377]? = some (.cells #[.int .i64 t372, .int .i64 t373, .int .i64 t374, .int .i64 t375] 29 (0, 0))) := ⟨by (with_reducible repeat (first | refine blk_drewN ?_ _ | refine blk_drew ?_ | refine blk_alloc ?_ _)); refine blk_put (cs := #[.int .i64 t372, .int .i64 t373, .int .i64 t374, .int .i64 0]) ?_ 3 _ rfl; (with_reducible repeat (first | refine blk_drewN ?_ _ | refine blk_drew ?_ | refine blk_alloc ?_ _)); refine blk_put (cs := #[.int .i64 t372, .int .i64 t373, .int .i64 0, .int .i64 0]) ?_ 2 _ rfl; (with_reducible repeat (first | refine blk_drewN ?_ _ | refine blk_drew ?_ | refine blk_alloc ?_ _)); refine blk_put (cs := #[.int .i64 t372, .int .i64 0, .int .i64 0, .int .i64 0]) ?_ 1 _ rfl; (with_reducible repeat (first | refine blk_drewN ?_ _ | refine blk_drew ?_ | refine blk_alloc ?_ _)); refine blk_put (cs := #[.int .i64 0, .int .i64 0, .int .i64 0, .int .i64 0]) ?_ 0 _ rfl; exact bf0 BK377.out⟩
                 have n6_ : Aside0 (Below w.heap.size w ((((w63.setCell ⟨gb377, 0, none⟩ (.int .i64 t372)).setCell ⟨gb377, 1, none⟩ (.int .i64 t373)).setCell ⟨gb377, 2, none⟩ (.int .i64 t374)).setCell ⟨gb377, 3, none⟩ (.int .i64 t375))) := ⟨bl3 HB.out GE360.out GE371.out GE377.out⟩
                 (try clear HO_3)
                 (try clear HO_4)
                 (try clear HO_7)
                 (try clear BK360)
                 (try clear BK371)
                 (try clear BK377)
                 (try clear HB)
                 generalize ((((w63.setCell ⟨gb377, 0, none⟩ (.int .i64 t372)).setCell ⟨gb377, 1, none⟩ (.int .i64 t373)).setCell ⟨gb377, 2, none⟩ (.int .i64 t374)).setCell ⟨gb377, 3, none⟩ (.int .i64 t375)) = w67 at n0_ n1_ n2_ n3_ n4_ n5_ n6_ ⊢
                 have HO_3 := n0_
                 have HO_4 := n1_
                 have HO_7 := n2_
                 have BK360 := n3_
                 have BK371 := n4_
                 have BK377 := n5_
                 have HB := n6_
                 clear n0_ n1_ n2_ n3_ n4_ n5_ n6_
                 have n_ := (⟨am (Kd.R_drew HO_3.out), am (Kd.R_drew HO_4.out), am (Kd.R_drew HO_7.out), am (blk_drew BK360.out), am (blk_drew BK371.out), am (blk_drew BK377.out), am (below_drew1 HB.out)⟩ : _ ∧ _ ∧ _ ∧ _ ∧ _ ∧ _ ∧ _)
                 clear HO_3
                 clear HO_4
                 clear HO_7
                 clear BK360
                 clear BK371
                 clear BK377
                 clear HB
                 obtain ⟨HO_3, HO_4, HO_7, BK360, BK371, BK377, HB⟩ := n_
                 have p379 : 0 ≤ (x6_1 : Int) := of_decide_eq_true (by first | (with_reducible assumption) | assumption)
                 have q379 : x6_1 < (t354.length : Int) := of_decide_eq_true (by first | (with_reducible assumption) | assumption)
                 obtain ⟨ad379, e379, hx379_0⟩ := Kd.at_string (Kd.R_reads' HO_3.out).2.2 x6_1 p379 q379
                 obtain rfl : ad361 = ad379 := (by injection e379)
                 replace p379 := eq_true p379
                 replace q379 := eq_true q379
                 refine start_ (n := 12) (S := fun w' => w'.cell? ⟨gb371, 0, none⟩ = some (.int .i64 (rd t365 0)) ∧ w'.cell? ⟨gb371, 1, none⟩ = some (.int .i64 (rd t365 1)) ∧ w'.cell? (ad361.add (x6_1).toNat) = some (.string (rdOf ByteArray.empty t354 x6_1))) (ds := []) #[false, false, false, false, false, false, false, false, false, false, false, false] (by kernel_rfl) rfl rfl ⟨(blk_cell BK371.out 0).trans rfl, (blk_cell BK371.out 1).trans rfl, hx379_0⟩ (fun hHeld => ?_); refine with_tabW spec_l29Recover.tab11 spec_l29Recover.bits11 (fun HT_ HW_ => ?_)
                 generalize w67.drew = w68 at HO_3 HO_4 HO_7 BK360 BK371 BK377 HB hx379_0 hHeld ⊢
                 refine pure_ (i := 0) (N := some 56) (v := ?_) (a' := ?_) #[true, false, false, false, false, false, false, false, false, false, false, false] rfl rfl (any_of HT_.out (by kernel_rfl)) (fun _ _ _ h => h) (Or.inl ⟨by rfl, ?_⟩) ?_ ?_
                 rotate_left; (focus exact gs); rotate_left; (focus exact pt)
                 refine pure_ (i := 1) (N := some 57) (v := ?_) (a' := ?_) #[true, true, false, false, false, false, false, false, false, false, false, false] rfl rfl (any_of HT_.out (by kernel_rfl)) (fun _ _ _ h => h) (Or.inl ⟨by rfl, ?_⟩) ?_ ?_
                 rotate_left; (focus exact gs); rotate_left; (focus exact pt)
                 refine pure_ (i := 2) (N := some 58) (v := ?_) (a' := ?_) #[true, true, true, false, false, false, false, false, false, false, false, false] rfl rfl (any_of HT_.out (by kernel_rfl)) (fun _ _ _ h => h) (Or.inl ⟨by rfl, ?_⟩) ?_ ?_
                 rotate_left; (focus exact gs); rotate_left; (focus exact pt)
                 refine pure_ (i := 4) (N := some 60) (v := ?_) (a' := ?_) #[true, true, true, false, true, false, false, false, false, false, false, false] rfl rfl (any_of HT_.out (by kernel_rfl)) (fun _ _ _ h => h) (Or.inl ⟨by rfl, ?_⟩) ?_ ?_
                 rotate_left; (focus exact gs); rotate_left; (focus exact pt)
                 refine pure_ (i := 6) (N := some 62) (v := ?_) (a' := ?_) #[true, true, true, false, true, false, true, false, false, false, false, false] rfl rfl (any_of HT_.out (by kernel_rfl)) (fun _ _ _ h => h) (Or.inl ⟨by rfl, ?_⟩) ?_ ?_
                 rotate_left; (focus exact gs); rotate_left; (focus exact pt)
                 refine pure_ (i := 7) (N := some 63) (v := ?_) (a' := ?_) #[true, true, true, false, true, false, true, true, false, false, false, false] rfl rfl (any_of HT_.out (by kernel_rfl)) (fun _ _ _ h => h) (Or.inl ⟨by rfl, ?_⟩) ?_ ?_
                 rotate_left; (focus exact gs); rotate_left; (focus exact pt)
                 refine pure_ (i := 8) (N := some 64) (v := ?_) (a' := ?_) #[true, true, true, false, true, false, true, true, true, false, false, false] rfl rfl (any_of HT_.out (by kernel_rfl)) (fun _ _ _ h => h) (Or.inl ⟨by rfl, ?_⟩) ?_ ?_
                 rotate_left; (focus exact gs); rotate_left; (focus exact pt)
                 refine take_ (i := 3) (N := some 59) (v := ?_) (a' := ?_) #[true, true, true, true, true, false, true, true, true, false, false, false] rfl rfl (take_ofW HT_.out HW_.out (by kernel_rfl)) (fun _ _ _ h => h) (Or.inl ⟨by rfl, ?_⟩) hHeld ?_ ?_
                 rotate_left
                 ·rintro w' ⟨s0, s1, s2⟩
                  go_simp
                  with_reducible rfl
                 rotate_left
                 ·exact pt
                 refine take_ (i := 9) (N := some 65) (v := ?_) (a' := ?_) #[true, true, true, true, true, false, true, true, true, true, false, false] rfl rfl (take_ofW HT_.out HW_.out (by kernel_rfl)) (fun _ _ _ h => h) (Or.inl ⟨by rfl, ?_⟩) hHeld ?_ ?_
                 rotate_left
                 ·rintro w' ⟨s0, s1, s2⟩
                  go_simp
                  with_reducible rfl
                 rotate_left
                 ·exact pt
                 refine one_ (i := 5) (N := some 61) #[true, true, true, true, true, true, true, true, true, true, false, false] rfl rfl (one_of HT_.out (by kernel_rfl)) (by decide) (fun K hK => ?_)
                 refine goes_ Tryd.func38 (by kernel_rfl) rfl #[.agg #[.int .i64 (rd t365 0), .int .i64 (rd t365 1)], .int .i64 x6_1] (by rfl) rfl rfl lnp ?_
                 with_reducible refine (spec_l29Line.calls kj16 (rd t365 0) (rd t365 1) x6_1 t378 _ A29.out).mono ?_
                 rintro e w69 ⟨rfl, hb⟩
                 have HS2_ := (hb.cell (World.block_lt_of_cell? _ _ (hHeld.2.2))).trans (hHeld.2.2)
                 refine ⟨_, rfl, ?_⟩
                 have n_ := (⟨am (Kd.R_below (rqR HO_3.out) hb), am (Kd.R_below (rqR HO_4.out) hb), am (Kd.R_below (rqR HO_7.out) hb), am (blk_below (bf0 BK360.out) hb), am (blk_below (bf0 BK371.out) hb), am (blk_below (bf0 BK377.out) hb), am (below_step (bl3 HB.out GE360.out GE371.out GE377.out) hb)⟩ : _ ∧ _ ∧ _ ∧ _ ∧ _ ∧ _ ∧ _)
                 clear HO_3
                 clear HO_4
                 clear HO_7
                 clear BK360
                 clear BK371
                 clear BK377
                 clear HB
                 obtain ⟨HO_3, HO_4, HO_7, BK360, BK371, BK377, HB⟩ := n_
                 (try clear hb)
                 (try clear hb2)
                 (try clear hk)
                 (try clear hi)
                 refine hK.out _ _ ⟨(blk_cell BK371.out 0).trans rfl, (blk_cell BK371.out 1).trans rfl, HS2_⟩ (fun hHeld => ?_)
                 clear hK K
                 refine norm_ (a' := ?_) ?_ ?_
                 rotate_left
                 ·show Act.put _ (some 61) _ = _
                  simp only [Act.put, List.setIfInBounds_toArray, List.set_cons_zero, List.set_cons_succ, i64_w, i32_w]
                  rfl
                 refine pure_ (i := 10) (N := some 66) (v := ?_) (a' := ?_) #[true, true, true, true, true, true, true, true, true, true, true, false] rfl rfl (any_of HT_.out (by kernel_rfl)) (fun _ _ _ h => h) (Or.inl ⟨by rfl, ?_⟩) ?_ ?_
                 rotate_left; (focus exact gs); rotate_left; (focus exact pt)
                 refine pure_ (i := 11) (N := some 67) (v := ?_) (a' := ?_) #[true, true, true, true, true, true, true, true, true, true, true, true] rfl rfl (any_of HT_.out (by kernel_rfl)) (fun _ _ _ h => h) (Or.inl ⟨by rfl, ?_⟩) ?_ ?_
                 rotate_left; (focus exact gs); rotate_left; (focus exact pt)
                 refine done_ (done_of HT_.out (by kernel_rfl)) ?_
                 try go_wp2
                 go_ret
                 exact ⟨_, by first | rfl | (simp [errW_none, errW_some] <;> rfl) | (simp [*, errW_none, errW_some] <;> rfl), by (with_reducible repeat (first | apply Kd.R_alloc | apply Kd.R_drewN | apply Kd.R_drew)); exact Kd.R_mono HO_4.out (fun _ hk => trivial), bl3 HB.out GE360.out GE371.out GE377.out⟩
               ·rw [if_neg c31] at H
                exact absurd H (by simp)
              ·rw [if_neg c30] at H
               exact absurd H (by simp)
             ·replace c28 := Bool.eq_false_iff.mpr c28
              subst c28
              have H1 : (some x4_1) = some r := by rw [if_neg (show ¬ (false = true) by decide)] at H; exact H
              clear H
              have H := H1
              clear H1
              obtain rfl := Option.some.inj H
              try go_wp2
              have n_ := (⟨am (Kd.R_drew HO_3.out), am (Kd.R_drew HO_4.out), am (Kd.R_drew HO_7.out), am (blk_drew BK360.out), am (below_drew1 HB.out)⟩ : _ ∧ _ ∧ _ ∧ _ ∧ _)
              clear HO_3
              clear HO_4
              clear HO_7
              clear BK360
              clear HB
              obtain ⟨HO_3, HO_4, HO_7, BK360, HB⟩ := n_
              obtain ⟨Ao71, co71, eo71⟩ := Kd.R_slice HO_7.out
              (first | subst eo71 | (injection eo71 with f1_ f2_ f3_; have f4_ := f1_.symm; have f5_ := f3_.symm; clear f1_ f2_ f3_; subst f4_; subst f5_))
              have p369 : 0 ≤ (0 : Int) := (by omega)
              have q369 : 0 < (t365.length : Int) := of_decide_eq_true (by first | (with_reducible assumption) | assumption)
              obtain ⟨ad369, e369, hx369_0⟩ := Kd.at_int (Kd.R_reads' HO_7.out).2.2 0 p369 q369
              cases e369
              have qi369 : (0 < t365.length) = True := eq_true (by omega)
              (try rw [show ((0 : Int)).toNat = 0 from rfl] at hx369_0)
              (try rw [Addr.add_zero'] at hx369_0)
              replace p369 := eq_true p369
              replace q369 := eq_true q369
              have p370 : 0 ≤ (1 : Int) := (by omega)
              have q370 : 1 < (t365.length : Int) := of_decide_eq_true (by first | (with_reducible assumption) | assumption)
              obtain ⟨ad370, e370, hx370_0⟩ := Kd.at_int (Kd.R_reads' HO_7.out).2.2 1 p370 q370
              obtain rfl : ad369 = ad370 := (by injection e370)
              (try simp only [show (1 : Int).toNat = 1 from rfl, Nat.reduceMul, Nat.reduceEqDiff, Go.Addr.add, ↓reduceIte] at hx370_0)
              have qi370 : (1 < t365.length) = True := eq_true (by omega)
              (try rw [show ((1 : Int)).toNat = 1 from rfl] at hx370_0)
              replace p370 := eq_true p370
              replace q370 := eq_true q370
              refine start_ (n := 9) (S := fun w' => w'.cell? ad369 = some (.int .i64 (rd t365 0)) ∧ w'.cell? ⟨ad369.block, ad369.off + 1, none⟩ = some (.int .i64 (rd t365 1))) (ds := []) #[false, false, false, false, false, false, false, false, false] (by kernel_rfl) rfl rfl ⟨hx369_0, hx370_0⟩ (fun hHeld => ?_); refine with_tabW spec_l29Recover.tab9 spec_l29Recover.bits9 (fun HT_ HW_ => ?_)
              generalize wc.drew = w70 at HO_3 HO_4 HO_7 BK360 HB hx369_0 hx370_0 hHeld ⊢
              refine pure_ (i := 0) (N := some 43) (v := ?_) (a' := ?_) #[true, false, false, false, false, false, false, false, false] rfl rfl (any_of HT_.out (by kernel_rfl)) (fun _ _ _ h => h) (Or.inl ⟨by rfl, ?_⟩) ?_ ?_
              rotate_left; (focus exact gs); rotate_left; (focus exact pt)
              refine pure_ (i := 1) (N := some 44) (v := ?_) (a' := ?_) #[true, true, false, false, false, false, false, false, false] rfl rfl (any_of HT_.out (by kernel_rfl)) (fun _ _ _ h => h) (Or.inl ⟨by rfl, ?_⟩) ?_ ?_
              rotate_left; (focus exact gs); rotate_left; (focus exact pt)
              refine pure_ (i := 3) (N := some 46) (v := ?_) (a' := ?_) #[true, true, false, true, false, false, false, false, false] rfl rfl (any_of HT_.out (by kernel_rfl)) (fun _ _ _ h => h) (Or.inl ⟨by rfl, ?_⟩) ?_ ?_
              rotate_left; (focus exact gs); rotate_left; (focus exact pt)
              refine pure_ (i := 4) (N := some 47) (v := ?_) (a' := ?_) #[true, true, false, true, true, false, false, false, false] rfl rfl (any_of HT_.out (by kernel_rfl)) (fun _ _ _ h => h) (Or.inl ⟨by rfl, ?_⟩) ?_ ?_
              rotate_left; (focus exact gs); rotate_left; (focus exact pt)
              refine take_ (i := 2) (N := some 45) (v := ?_) (a' := ?_) #[true, true, true, true, true, false, false, false, false] rfl rfl (take_ofW HT_.out HW_.out (by kernel_rfl)) (fun _ _ _ h => h) (Or.inl ⟨by rfl, ?_⟩) hHeld ?_ ?_
              rotate_left
              ·rintro w' ⟨s0, s1⟩
               go_simp
               with_reducible rfl
              rotate_left
              ·exact pt
              refine take_ (i := 5) (N := some 48) (v := ?_) (a' := ?_) #[true, true, true, true, true, true, false, false, false] rfl rfl (take_ofW HT_.out HW_.out (by kernel_rfl)) (fun _ _ _ h => h) (Or.inl ⟨by rfl, ?_⟩) hHeld ?_ ?_
              rotate_left
              ·rintro w' ⟨s0, s1⟩
               go_simp
               with_reducible rfl
              rotate_left
              ·exact pt
              refine pure_ (i := 6) (N := some 49) (v := ?_) (a' := ?_) #[true, true, true, true, true, true, true, false, false] rfl rfl (any_of HT_.out (by kernel_rfl)) (fun _ _ _ h => h) (Or.inl ⟨by rfl, ?_⟩) ?_ ?_
              rotate_left; (focus exact gs); rotate_left; (focus exact pt)
              refine one_ (i := 7) (N := some 9) #[true, true, true, true, true, true, true, true, false] rfl rfl (one_of HT_.out (by kernel_rfl)) (by decide) (fun K hK => ?_)
              refine box_step ?hg (N := 9) ?hd (cs := #[.int .i64 0, .int .i64 0]) (t := 31) ?hr ?_; (case hd => rfl); (case hg => rfl); (case hr => first | (go_simp; done) | (go_simp; rfl))
              intro gb371 hg w72 hbox hb
              have HS0_ := (hb.cell (World.block_lt_of_cell? _ _ (hHeld.1))).trans (hHeld.1)
              have HS1_ := (hb.cell (World.block_lt_of_cell? _ _ (hHeld.2))).trans (hHeld.2)
              have n_ := (⟨am (Kd.R_below (rqR HO_3.out) hb), am (Kd.R_below (Kd.R_elderB (rqR HO_4.out) gb371 (Nat.le_of_eq hg.symm)) hb), am (Kd.R_below (rqR HO_7.out) hb), am (blk_below (bf0 BK360.out) hb), am (below_step (bl1 HB.out GE360.out) hb), am (hbox), am ((gw hg (bl1 HB.out GE360.out) : w.heap.size ≤ gb371)), am ((gw hg (bl1 HB.out GE360.out) : w.heap.size ≤ gb371)), am ((nl hg (bf0 BK360.out) : gb360 ≠ gb371)), am ((ng hg (bf0 BK360.out) : gb371 ≠ gb360))⟩ : _ ∧ _ ∧ _ ∧ _ ∧ _ ∧ _ ∧ _ ∧ _ ∧ _ ∧ _)
              clear HO_3
              clear HO_4
              clear HO_7
              clear BK360
              clear HB
              obtain ⟨HO_3, HO_4, HO_7, BK360, HB, BK371, GW371, GE371, NB360_371, NB371_360⟩ := n_
              clear hb hbox hg
              refine hK.out _ _ ⟨HS0_, HS1_⟩ (fun hHeld => ?_)
              clear hK K
              refine norm_ (a' := ?_) ?_ ?_
              rotate_left
              ·show Act.put _ (some 9) _ = _
               simp only [Act.put, List.setIfInBounds_toArray, List.set_cons_zero, List.set_cons_succ, i64_w, i32_w]
               rfl
              refine one_ (i := 8) (N := none) #[true, true, true, true, true, true, true, true, true] rfl rfl (one_of HT_.out (by kernel_rfl)) (by decide) (fun K hK => ?_)
              have hs73 := bc BK371.out 0 (.int .i64 0)
              have hfs73 := bz BK371.out 0
              have hns73_0 := NB360_371.out
              have hms73_0 := NB371_360.out
              have hs74 := bc BK371.out 1 (.int .i64 0)
              have hfs74 := bz BK371.out 1
              have hns74_0 := NB360_371.out
              have hms74_0 := NB371_360.out
              refine skip_ (w1 := ?_) (by rfl) rfl ?_ ?_
              rotate_left
              ·go_simp
               rfl
              refine hK.out _ _ ⟨((cell_far (p := ⟨gb371, _, none⟩) (by first | exact Kd.own_blk (Kd.R_ne HO_7.out BK371.out (by decide)) | (rw [add_block]; exact Kd.own_blk (Kd.R_ne HO_7.out BK371.out (by decide))) | (show (Addr.add _ _).block ≠ _; rw [add_block]; exact Kd.own_blk (Kd.R_ne HO_7.out BK371.out (by decide))) | (dsimp only; exact Kd.own_blk (Kd.R_ne HO_7.out BK371.out (by decide)))) _).trans (((cell_far (p := ⟨gb371, _, none⟩) (by first | exact Kd.own_blk (Kd.R_ne HO_7.out BK371.out (by decide)) | (rw [add_block]; exact Kd.own_blk (Kd.R_ne HO_7.out BK371.out (by decide))) | (show (Addr.add _ _).block ≠ _; rw [add_block]; exact Kd.own_blk (Kd.R_ne HO_7.out BK371.out (by decide))) | (dsimp only; exact Kd.own_blk (Kd.R_ne HO_7.out BK371.out (by decide)))) _).trans (hHeld.1)))), ((cell_far (p := ⟨gb371, _, none⟩) (by first | exact Kd.own_blk (Kd.R_ne HO_7.out BK371.out (by decide)) | (rw [add_block]; exact Kd.own_blk (Kd.R_ne HO_7.out BK371.out (by decide))) | (show (Addr.add _ _).block ≠ _; rw [add_block]; exact Kd.own_blk (Kd.R_ne HO_7.out BK371.out (by decide))) | (dsimp only; exact Kd.own_blk (Kd.R_ne HO_7.out BK371.out (by decide)))) _).trans (((cell_far (p := ⟨gb371, _, none⟩) (by first | exact Kd.own_blk (Kd.R_ne HO_7.out BK371.out (by decide)) | (rw [add_block]; exact Kd.own_blk (Kd.R_ne HO_7.out BK371.out (by decide))) | (show (Addr.add _ _).block ≠ _; rw [add_block]; exact Kd.own_blk (Kd.R_ne HO_7.out BK371.out (by decide))) | (dsimp only; exact Kd.own_blk (Kd.R_ne HO_7.out BK371.out (by decide)))) _).trans (hHeld.2))))⟩ (fun hHeld => ?_)
              clear hK K
              refine done_ (done_of HT_.out (by kernel_rfl)) ?_
              have hnb75 := NB360_371.out
              have hnc75 := NB371_360.out
              obtain ⟨hcz76_0, hcz76_1, hcz76_2, hcz76_3, hfz76_0, hfz76_1, hfz76_2, hfz76_3⟩ := cs4 BK360.out
              obtain ⟨hcz77_0, hcz77_1, hfz77_0, hfz77_1⟩ := cs2 BK371.out
              try go_wp2_with (first | ((with_reducible refine gate_callee (f := 27) rfl ?_); refine goesL_ (some 53) rfl rfl Tryd.func27 (by kernel_rfl) rfl #[.agg #[.int .i64 x361000_1, .int .i64 x361001_1, .int .i64 x361002_1, .int .i64 x361003_1], .agg #[.int .i64 (rd t365 0), .int .i64 (rd t365 1)]] rfl lnp ?_; (with_reducible refine (spec_l29Make.calls x361000_1 x361001_1 x361002_1 x361003_1 (rd t365 0) (rd t365 1) t372 t373 t374 t375 false _ A27.out).mono ?_); rintro e w78 ⟨rfl, hb⟩; refine ⟨_, rfl, ?_⟩; have n_ := (⟨am (Kd.R_below (by (with_reducible repeat (first | apply Kd.R_alloc | apply Kd.R_drewN | apply Kd.R_drew)); exact (Kd.R_mono (Kd.R_far (p := ⟨gb371, 1, none⟩) (Kd.R_far (p := ⟨gb371, 0, none⟩) (Kd.R_types HO_3.out BK371.out (by decide)) (fun _ hk => hk.2) (.int .i64 (rd t365 0))) (fun _ hk => hk.2) (.int .i64 (rd t365 1))) (fun _ h_ => h_.1))) hb), am (Kd.R_below (by (with_reducible repeat (first | apply Kd.R_alloc | apply Kd.R_drewN | apply Kd.R_drew)); exact (Kd.R_mono (Kd.R_far (p := ⟨gb371, 1, none⟩) (Kd.R_far (p := ⟨gb371, 0, none⟩) (Kd.R_mono HO_4.out (fun k_ hk => (⟨hk, hk.2⟩ : _ ∧ k_ ≠ gb371))) (fun _ hk => hk.2) (.int .i64 (rd t365 0))) (fun _ hk => hk.2) (.int .i64 (rd t365 1))) (fun _ h_ => h_.1))) hb), am (Kd.R_below (by (with_reducible repeat (first | apply Kd.R_alloc | apply Kd.R_drewN | apply Kd.R_drew)); exact (Kd.R_mono (Kd.R_far (p := ⟨gb371, 1, none⟩) (Kd.R_far (p := ⟨gb371, 0, none⟩) (Kd.R_types HO_7.out BK371.out (by decide)) (fun _ hk => hk.2) (.int .i64 (rd t365 0))) (fun _ hk => hk.2) (.int .i64 (rd t365 1))) (fun _ h_ => h_.1))) hb), am (blk_below (bf1 BK360.out NB360_371.out) hb), am (blk_below (g := gb371) (o := .cells #[.int .i64 (rd t365 0), .int .i64 (rd t365 1)] 31 (0, 0)) (bp0 BK371.out) hb), am (below_step (bl2 HB.out GE360.out GE371.out) hb)⟩ : _ ∧ _ ∧ _ ∧ _ ∧ _ ∧ _); clear HO_3 HO_4 HO_7 BK360 BK371 HB; obtain ⟨HO_3, HO_4, HO_7, BK360, BK371, HB⟩ := n_; (try clear hb); (try clear hb2); (try clear hk); (try clear hi)) | ((with_reducible refine gate_dst (N := 10) rfl ?_); (try (refine gate_guard (by rfl) ?_; dsimp only)); refine box_event ?hg (N := 10) ?hd (cs := #[.int .i64 0, .int .i64 0, .int .i64 0, .int .i64 0]) (t := 29) ?hr ?_; (case hd => rfl); (case hg => rfl); (case hr => first | (go_simp; done) | (go_simp; rfl)); intro gb377 hg w79 hbox hb; have n_ := (⟨am (Kd.R_below (rqR HO_3.out) hb), am (Kd.R_below (rqR HO_4.out) hb), am (Kd.R_below (rqR HO_7.out) hb), am (blk_below (bf0 BK360.out) hb), am (blk_below (bf0 BK371.out) hb), am (below_step (bl2 HB.out GE360.out GE371.out) hb), am (hbox), am ((gw hg (bl2 HB.out GE360.out GE371.out) : w.heap.size ≤ gb377)), am ((gw hg (bl2 HB.out GE360.out GE371.out) : w.heap.size ≤ gb377)), am ((nl hg (bf0 BK360.out) : gb360 ≠ gb377)), am ((ng hg (bf0 BK360.out) : gb377 ≠ gb360)), am ((nl hg (bf0 BK371.out) : gb371 ≠ gb377)), am ((ng hg (bf0 BK371.out) : gb377 ≠ gb371))⟩ : _ ∧ _ ∧ _ ∧ _ ∧ _ ∧ _ ∧ _ ∧ _ ∧ _ ∧ _ ∧ _ ∧ _ ∧ _); clear HO_3 HO_4 HO_7 BK360 BK371 HB; obtain ⟨HO_3, HO_4, HO_7, BK360, BK371, HB, BK377, GW377, GE377, NB360_377, NB377_360, NB371_377, NB377_371⟩ := n_; clear hb hbox hg; have hnb80 := NB377_360.out; have hnc80 := NB360_377.out; have hnb81 := NB377_371.out; have hnc81 := NB371_377.out; obtain ⟨hcz82_0, hcz82_1, hcz82_2, hcz82_3, hfz82_0, hfz82_1, hfz82_2, hfz82_3⟩ := cs4 BK377.out))
              have n0_ : Aside0 (Kd.R Kd.string 9 ((((w79.setCell ⟨gb377, 0, none⟩ (.int .i64 t372)).setCell ⟨gb377, 1, none⟩ (.int .i64 t373)).setCell ⟨gb377, 2, none⟩ (.int .i64 t374)).setCell ⟨gb377, 3, none⟩ (.int .i64 t375)) w.heap.size (fun _ => True) (.slice (some ad361) t354.length co18) t354) := ⟨by (with_reducible repeat (first | apply Kd.R_alloc | apply Kd.R_drewN | apply Kd.R_drew)); exact Kd.R_mono (Kd.R_far (p := ⟨gb377, 3, none⟩) (Kd.R_far (p := ⟨gb377, 2, none⟩) (Kd.R_far (p := ⟨gb377, 1, none⟩) (Kd.R_far (p := ⟨gb377, 0, none⟩) (Kd.R_types HO_3.out BK377.out (by decide)) (fun _ hk => hk.2) (.int .i64 t372)) (fun _ hk => hk.2) (.int .i64 t373)) (fun _ hk => hk.2) (.int .i64 t374)) (fun _ hk => hk.2) (.int .i64 t375)) (fun _ hk => trivial)⟩
              have n1_ : Aside0 (Kd.R k31 31 ((((w79.setCell ⟨gb377, 0, none⟩ (.int .i64 t372)).setCell ⟨gb377, 1, none⟩ (.int .i64 t373)).setCell ⟨gb377, 2, none⟩ (.int .i64 t374)).setCell ⟨gb377, 3, none⟩ (.int .i64 t375)) w.heap.size (fun k_ => k_ ≠ gb371) u4 x4_1) := ⟨by (with_reducible repeat (first | apply Kd.R_alloc | apply Kd.R_drewN | apply Kd.R_drew)); exact Kd.R_mono (Kd.R_far (p := ⟨gb377, 3, none⟩) (Kd.R_far (p := ⟨gb377, 2, none⟩) (Kd.R_far (p := ⟨gb377, 1, none⟩) (Kd.R_far (p := ⟨gb377, 0, none⟩) (Kd.R_types HO_4.out BK377.out (by decide)) (fun _ hk => hk.2) (.int .i64 t372)) (fun _ hk => hk.2) (.int .i64 t373)) (fun _ hk => hk.2) (.int .i64 t374)) (fun _ hk => hk.2) (.int .i64 t375)) (fun _ hk => hk.1.2)⟩
              have n2_ : Aside0 (Kd.R (Kd.int .i64) 2 ((((w79.setCell ⟨gb377, 0, none⟩ (.int .i64 t372)).setCell ⟨gb377, 1, none⟩ (.int .i64 t373)).setCell ⟨gb377, 2, none⟩ (.int .i64 t374)).setCell ⟨gb377, 3, none⟩ (.int .i64 t375)) w.heap.size (fun _ => True) (.slice (some ad369) t365.length co71) t365) := ⟨by (with_reducible repeat (first | apply Kd.R_alloc | apply Kd.R_drewN | apply Kd.R_drew)); exact Kd.R_mono (Kd.R_far (p := ⟨gb377, 3, none⟩) (Kd.R_far (p := ⟨gb377, 2, none⟩) (Kd.R_far (p := ⟨gb377, 1, none⟩) (Kd.R_far (p := ⟨gb377, 0, none⟩) (Kd.R_types HO_7.out BK377.out (by decide)) (fun _ hk => hk.2) (.int .i64 t372)) (fun _ hk => hk.2) (.int .i64 t373)) (fun _ hk => hk.2) (.int .i64 t374)) (fun _ hk => hk.2) (.int .i64 t375)) (fun _ hk => trivial)⟩
              have n3_ : Aside0 (((((w79.setCell ⟨gb377, 0, none⟩ (.int .i64 t372)).setCell ⟨gb377, 1, none⟩ (.int .i64 t373)).setCell ⟨gb377, 2, none⟩ (.int .i64 t374)).setCell ⟨gb377, 3, none⟩ (.int .i64 t375)).heap[gb360]? = some (.cells #[.int .i64 x361000_1, .int .i64 x361001_1, .int .i64 x361002_1, .int .i64 x361003_1] 29 (0, 0))) := ⟨bf1 BK360.out NB360_377.out⟩
              have n4_ : Aside0 (((((w79.setCell ⟨gb377, 0, none⟩ (.int .i64 t372)).setCell ⟨gb377, 1, none⟩ (.int .i64 t373)).setCell ⟨gb377, 2, none⟩ (.int .i64 t374)).setCell ⟨gb377, 3, none⟩ (.int .i64 t375)).heap[gb371]? = some (.cells #[.int .i64 (rd t365 0), .int .i64 (rd t365 1)] 31 (0, 0))) := ⟨bf1 BK371.out NB371_377.out⟩
              have n5_ : Aside0 (((((w79.setCell ⟨gb377, 0, none⟩ (.int .i64 t372)).setCell ⟨gb377, 1, none⟩ (.int .i64 t373)).setCell ⟨gb377, 2, none⟩ (.int .i64 t374)).setCell ⟨gb377, 3, none⟩ (.int .i64 t375)).heap[gb377]? = some (.cells #[.int .i64 t372, .int .i64 t373, .int .i64 t374, .int .i64 t375] 29 (0, 0))) := ⟨by (with_reducible repeat (first | refine blk_drewN ?_ _ | refine blk_drew ?_ | refine blk_alloc ?_ _)); refine blk_put (cs := #[.int .i64 t372, .int .i64 t373, .int .i64 t374, .int .i64 0]) ?_ 3 _ rfl; (with_reducible repeat (first | refine blk_drewN ?_ _ | refine blk_drew ?_ | refine blk_alloc ?_ _)); refine blk_put (cs := #[.int .i64 t372, .int .i64 t373, .int .i64 0, .int .i64 0]) ?_ 2 _ rfl; (with_reducible repeat (first | refine blk_drewN ?_ _ | refine blk_drew ?_ | refine blk_alloc ?_ _)); refine blk_put (cs := #[.int .i64 t372, .int .i64 0, .int .i64 0, .int .i64 0]) ?_ 1 _ rfl; (with_reducible repeat (first | refine blk_drewN ?_ _ | refine blk_drew ?_ | refine blk_alloc ?_ _)); refine blk_put (cs := #[.int .i64 0, .int .i64 0, .int .i64 0, .int .i64 0]) ?_ 0 _ rfl; exact bf0 BK377.out⟩
              have n6_ : Aside0 (Below w.heap.size w ((((w79.setCell ⟨gb377, 0, none⟩ (.int .i64 t372)).setCell ⟨gb377, 1, none⟩ (.int .i64 t373)).setCell ⟨gb377, 2, none⟩ (.int .i64 t374)).setCell ⟨gb377, 3, none⟩ (.int .i64 t375))) := ⟨bl3 HB.out GE360.out GE371.out GE377.out⟩
              (try clear HO_3)
              (try clear HO_4)
              (try clear HO_7)
              (try clear BK360)
              (try clear BK371)
              (try clear BK377)
              (try clear HB)
              generalize ((((w79.setCell ⟨gb377, 0, none⟩ (.int .i64 t372)).setCell ⟨gb377, 1, none⟩ (.int .i64 t373)).setCell ⟨gb377, 2, none⟩ (.int .i64 t374)).setCell ⟨gb377, 3, none⟩ (.int .i64 t375)) = w83 at n0_ n1_ n2_ n3_ n4_ n5_ n6_ ⊢
              have HO_3 := n0_
              have HO_4 := n1_
              have HO_7 := n2_
              have BK360 := n3_
              have BK371 := n4_
              have BK377 := n5_
              have HB := n6_
              clear n0_ n1_ n2_ n3_ n4_ n5_ n6_
              have n_ := (⟨am (Kd.R_drew HO_3.out), am (Kd.R_drew HO_4.out), am (Kd.R_drew HO_7.out), am (blk_drew BK360.out), am (blk_drew BK371.out), am (blk_drew BK377.out), am (below_drew1 HB.out)⟩ : _ ∧ _ ∧ _ ∧ _ ∧ _ ∧ _ ∧ _)
              clear HO_3
              clear HO_4
              clear HO_7
              clear BK360
              clear BK371
              clear BK377
              clear HB
              obtain ⟨HO_3, HO_4, HO_7, BK360, BK371, BK377, HB⟩ := n_
              refine start_ (n := 12) (S := fun w' => True) (ds := []) #[false, false, false, false, false, false, false, false, false, false, false, false] (by kernel_rfl) rfl rfl trivial (fun hHeld => ?_); refine with_tabW spec_l29Recover.tab11 spec_l29Recover.bits11 (fun HT_ HW_ => ?_)
              generalize w83.drew = w84 at HO_3 HO_4 HO_7 BK360 BK371 BK377 HB hHeld ⊢
              refine pure_ (i := 0) (N := some 56) (v := ?_) (a' := ?_) #[true, false, false, false, false, false, false, false, false, false, false, false] rfl rfl (any_of HT_.out (by kernel_rfl)) (fun _ _ _ h => h) (Or.inl ⟨by rfl, ?_⟩) ?_ ?_
              rotate_left; (focus exact gs); rotate_left; (focus exact pt)
              refine pure_ (i := 1) (N := some 57) (v := ?_) (a' := ?_) #[true, true, false, false, false, false, false, false, false, false, false, false] rfl rfl (any_of HT_.out (by kernel_rfl)) (fun _ _ _ h => h) (Or.inl ⟨by rfl, ?_⟩) ?_ ?_
              rotate_left; (focus exact gs); rotate_left; (focus exact pt)
              refine pure_ (i := 2) (N := some 58) (v := ?_) (a' := ?_) #[true, true, true, false, false, false, false, false, false, false, false, false] rfl rfl (any_of HT_.out (by kernel_rfl)) (fun _ _ _ h => h) (Or.inl ⟨by rfl, ?_⟩) ?_ ?_
              rotate_left; (focus exact gs); rotate_left; (focus exact pt)
              refine pure_ (i := 3) (N := some 59) (v := undef) (a' := ?_) #[true, true, true, true, false, false, false, false, false, false, false, false] rfl rfl (any_of HT_.out (by kernel_rfl)) (fun _ _ _ h => h) (Or.inr ⟨by rfl, rfl⟩) ?_ ?_
              rotate_left
              ·exact pt
              refine pure_ (i := 4) (N := some 60) (v := undef) (a' := ?_) #[true, true, true, true, true, false, false, false, false, false, false, false] rfl rfl (any_of HT_.out (by kernel_rfl)) (fun _ _ _ h => h) (Or.inr ⟨by rfl, rfl⟩) ?_ ?_
              rotate_left
              ·exact pt
              refine pure_ (i := 5) (N := some 61) (v := undef) (a' := ?_) #[true, true, true, true, true, true, false, false, false, false, false, false] rfl rfl (any_of HT_.out (by kernel_rfl)) (fun _ _ _ h => h) (Or.inr ⟨by rfl, rfl⟩) ?_ ?_
              rotate_left
              ·exact pt
              refine pure_ (i := 6) (N := some 62) (v := undef) (a' := ?_) #[true, true, true, true, true, true, true, false, false, false, false, false] rfl rfl (any_of HT_.out (by kernel_rfl)) (fun _ _ _ h => h) (Or.inr ⟨by rfl, rfl⟩) ?_ ?_
              rotate_left
              ·exact pt
              refine pure_ (i := 7) (N := some 63) (v := undef) (a' := ?_) #[true, true, true, true, true, true, true, true, false, false, false, false] rfl rfl (any_of HT_.out (by kernel_rfl)) (fun _ _ _ h => h) (Or.inr ⟨by rfl, rfl⟩) ?_ ?_
              rotate_left
              ·exact pt
              refine pure_ (i := 8) (N := some 64) (v := undef) (a' := ?_) #[true, true, true, true, true, true, true, true, true, false, false, false] rfl rfl (any_of HT_.out (by kernel_rfl)) (fun _ _ _ h => h) (Or.inr ⟨by rfl, rfl⟩) ?_ ?_
              rotate_left
              ·exact pt
              refine pure_ (i := 9) (N := some 65) (v := undef) (a' := ?_) #[true, true, true, true, true, true, true, true, true, true, false, false] rfl rfl (any_of HT_.out (by kernel_rfl)) (fun _ _ _ h => h) (Or.inr ⟨by rfl, rfl⟩) ?_ ?_
              rotate_left
              ·exact pt
              refine pure_ (i := 10) (N := some 66) (v := undef) (a' := ?_) #[true, true, true, true, true, true, true, true, true, true, true, false] rfl rfl (any_of HT_.out (by kernel_rfl)) (fun _ _ _ h => h) (Or.inr ⟨by rfl, rfl⟩) ?_ ?_
              rotate_left
              ·exact pt
              refine pure_ (i := 11) (N := some 67) (v := ?_) (a' := ?_) #[true, true, true, true, true, true, true, true, true, true, true, true] rfl rfl (any_of HT_.out (by kernel_rfl)) (fun _ _ _ h => h) (Or.inl ⟨by rfl, ?_⟩) ?_ ?_
              rotate_left; (focus exact gs); rotate_left; (focus exact pt)
              refine done_ (done_of HT_.out (by kernel_rfl)) ?_
              try go_wp2
              go_ret
              exact ⟨_, by first | rfl | (simp [errW_none, errW_some] <;> rfl) | (simp [*, errW_none, errW_some] <;> rfl), by (with_reducible repeat (first | apply Kd.R_alloc | apply Kd.R_drewN | apply Kd.R_drew)); exact Kd.R_mono HO_4.out (fun _ hk => trivial), bl3 HB.out GE360.out GE371.out GE377.out⟩
            ·rw [if_neg c26] at H
             exact absurd H (by simp)
           ·rw [if_neg c25] at H
            exact absurd H (by simp)
       ·rw [if_neg c14] at H
        exact absurd H (by simp)
      ·rw [if_neg c13] at H
       exact absurd H (by simp)
     ·replace c12 := Bool.eq_false_iff.mpr c12
      subst c12
      have H1 : (some x4_1) = some r := by rw [if_neg (show ¬ (false = true) by decide)] at H; exact H
      clear H
      have H := H1
      clear H1
      obtain rfl := Option.some.inj H
      go_wp2
      go_ret
      exact ⟨_, by first | rfl | (simp [errW_none, errW_some] <;> rfl) | (simp [*, errW_none, errW_some] <;> rfl), by (with_reducible repeat (first | apply Kd.R_alloc | apply Kd.R_drewN | apply Kd.R_drew)); exact HO_4.out, bl1 HB.out GE360.out⟩

end Go.Proofs.YthfmhfgckhkgjaaDoor.PFnResumed
