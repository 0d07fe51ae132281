-- Laid by wip/mk/mk.py out of the translation. Not trusted: Lean checks it.
import Derived.Test.YtfijcffhkobhbaaDoorPFnDiagnosedx0
import Derived.Test.YtfijcffhkobhbaaDoorPFnDiagnosedx1
namespace Go.Proofs.YtfijcffhkobhbaaDoor.PFnDiagnosed
open Go.RowKit Go.Proofs.YtfijcffhkobhbaaDoorW.PrintWords Go.Proofs.YtfijcffhkobhbaaDoorW.PrintLast Go.Proofs.YtfijcffhkobhbaaDoorW.PrintMore
attribute [local go_sem] max2_int min2_int max_two min_two max_three min_three max_four min_four   -- for this text's walks alone
set_option linter.unusedVariables false
set_option maxHeartbeats 8000000
set_option maxRecDepth 100000
set_option linter.unusedSimpArgs false

/-! ### spec_l28Pages: function 56 -/
def spec_l28Pages.l0 : Nat → Int → Int → List Int → Int → Option (List Int)
 | 0, _, _, _, _ => none
 | k + 1, x0, x1, x5, x6 => if x6 ≤ x0 then (if x1 > 0 then (if x5.length < 17592186044416 then (spec_l28Pages.l0 k x0 x1 (x5 ++ [wrap64 ((wrap64 ((wrap64 (x1 - 1)) * x0)) + x6)]) (wrap64 (x6 + 1))) else (none)) else (if x5.length < 17592186044416 then (spec_l28Pages.l0 k x0 x1 (x5 ++ [wrap64 ((wrap64 ((wrap64 (x1 * x0)) + x6)) - 1)]) (wrap64 (x6 + 1))) else (none))) else (some x5)
def spec_l28Pages.f (k : Nat) (a0 : Int) (a1 : Int) : Option (List Int) := spec_l28Pages.l0 k a0 a1 (([] : List Int)) 1
theorem spec_l28Pages.mono_l : ∀ k, (∀ y0 y1 y2 y3, LeO (spec_l28Pages.l0 k y0 y1 y2 y3) (spec_l28Pages.l0 (k + 1) y0 y1 y2 y3))
 | 0 => fun _ _ _ _ r h => by simp [spec_l28Pages.l0] at h
 | k + 1 => by
  have ih0 := spec_l28Pages.mono_l k
  ·intro y0 y1 y2 y3
   unfold spec_l28Pages.l0
   repeat' first | (with_reducible first | exact ih0 _ _ _ _ | exact LeO.refl _ | exact LeO.none _ | refine LeO.ite ?_ ?_ | refine LeO.bind ?_ (fun _ => ?_)) | exact ih0 _ _ _ _ | exact LeO.none _ | refine LeO.ite ?_ ?_ | refine LeO.bind ?_ (fun _ => ?_)
theorem spec_l28Pages.mono : ∀ a0 a1 k, LeO (spec_l28Pages.f k a0 a1) (spec_l28Pages.f (k + 1) a0 a1) := by
 intro a0 a1 k
 have ih0 := spec_l28Pages.mono_l k
 unfold spec_l28Pages.f
 repeat' first | (with_reducible first | exact ih0 _ _ _ _ | exact LeO.refl _ | exact LeO.none _ | refine LeO.ite ?_ ?_ | refine LeO.bind ?_ (fun _ => ?_)) | exact ih0 _ _ _ _ | exact LeO.none _ | refine LeO.ite ?_ ?_ | refine LeO.bind ?_ (fun _ => ?_)
theorem spec_l28Pages.calls (k : Nat) (a0 : Int) (a1 : Int) (r : List Int) (w : World) (h : spec_l28Pages.f k a0 a1 = some r) :
  Calls Tryd.prog 56 #[.int .i64 a0, .int .i64 a1] w fun e w' => ∃ v0_ : Value, e = .returned (v0_) ∧ Kd.R (Kd.int .i64) 2 w' w.heap.size (fun _ => True) v0_ r ∧ Below w.heap.size w w' := by
 have HB := am (Below.refl w.heap.size w)
 have H : (spec_l28Pages.l0 k a0 a1 (([] : List Int)) 1) = some r := h
 clear h
 obtain ⟨y187, hy187⟩ : ∃ y_ : List Int, y_ = (([] : List Int)) := ⟨_, rfl⟩
 replace H : (spec_l28Pages.l0 k a0 a1 y187 1) = some r := by first | (rw [hy187]; with_reducible exact H) | (have H2_ := (Option.bind_some _ _).symm.trans H; rw [hy187]; with_reducible exact H2_) | (have H2_ := (Option.bind_some _ _).symm.trans H; with_reducible exact H2_) | with_reducible exact H | (rw [hy187]; exact H) | exact H
 have Ny187 := Aside0.mk hy187
 clear hy187
 have H' := Aside0.mk H
 clear H
 go_enter Tryd.func56, Tryd.ntmps56
 go_wp2_with (first | ((with_reducible refine gate_dst (N := 7) rfl ?_); refine Kd.R_lit (Kd.int .i64) _ 2 ?hg (N := 7) ?hd (xs := ([] : List Int)) (inner := []) (ok := fun _ => True) (okp := fun _ => True) ?hr ?hp (fun _ hk => hk) trivial (Below.refl _ _) (Nat.le_refl _) (by simp) ?_; (case hd => rfl); (case hg => rfl); (case hr => first | (go_simp; done) | (go_simp; rfl)); (case hp => exact (Reps.none _ _)); intro v188 w3 ho4 hb hg_ hnew_; clear hg_ hnew_; (first | rw [← Ny187.out] at ho4 | (simp only [Int.reduceToNat] at ho4; rw [← Ny187.out] at ho4)); have n_ := (⟨am (Kd.R_lower ho4 (below_size (bl0 HB.out))), am (below_step (bl0 HB.out) hb)⟩ : _ ∧ _); clear HB; obtain ⟨HO189, HB⟩ := n_; clear hb ho4))
 go_loopg [5, 6] k (fun kq v5 v6 w' => ∃ (x5_1 : List Int) (x6_1 : Int), v6 = .int .i64 x6_1 ∧ Aside0 (spec_l28Pages.l0 kq a0 a1 x5_1 x6_1 = some r) ∧ Aside0 (kq ≤ k) ∧ Aside0 (Kd.R (Kd.int .i64) 2 w' w.heap.size (fun _ => True) v5 x5_1) ∧ Aside0 (Below w.heap.size w w'))
 case atStart => exact ⟨(y187), (1), (by first | rfl | (simp; done) | (simp [*]; done)), H', ⟨Nat.le_refl _⟩, ⟨by (with_reducible repeat (first | apply Kd.R_alloc | apply Kd.R_drewN | apply Kd.R_drew)); exact HO189.out⟩, ⟨bl0 HB.out⟩⟩
 case round =>
  clear H'
  try clear p2
  obtain ⟨x5_1, x6_1, rfl, HA, HK1, HO_5, HB⟩ := hrel
  cases gk with
  | zero => exact absurd HA.out (by simp [spec_l28Pages.l0])
  | succ k1 =>
   have H := HA.out
   clear HA
   simp only [spec_l28Pages.l0] at H
   by_cases c5 : x6_1 ≤ a0
   ·rw [if_pos c5] at H
    have c5b0 : decide (x6_1 ≤ a0) = true := decide_eq_true c5
    clear c5
    by_cases c6 : a1 > 0
    ·rw [if_pos c6] at H
     have c6b0 : decide (0 < a1) = true := decide_eq_true c6
     clear c6
     by_cases c7 : x5_1.length < 17592186044416
     ·rw [if_pos c7] at H
      have LMc7 := Aside0.mk c7
      clear c7
      obtain ⟨y190, hy190⟩ : ∃ y_ : List Int, y_ = (x5_1 ++ [wrap64 ((wrap64 ((wrap64 (a1 - 1)) * a0)) + x6_1)]) := ⟨_, rfl⟩
      replace H : (spec_l28Pages.l0 k1 a0 a1 y190 (wrap64 (x6_1 + 1))) = some r := by first | (rw [hy190]; with_reducible exact H) | (have H2_ := (Option.bind_some _ _).symm.trans H; rw [hy190]; with_reducible exact H2_) | (have H2_ := (Option.bind_some _ _).symm.trans H; with_reducible exact H2_) | with_reducible exact H | (rw [hy190]; exact H) | exact H
      have Ny190 := Aside0.mk hy190
      clear hy190
      have H' := Aside0.mk H
      clear H
      go_wp2_with (first | ((with_reducible refine gate_builtin (b := .append) (xs := #[.tmp 15, .tmp 22]) rfl ?_); at_builtin; refine Kd.R_append (Kd.int .i64) (w0 := w) w.heap.size rfl (.tmp 15) (.tmp 22) 24 2 (.int .i64 0) 8 rfl Tryd.underlying24 info2 rfl (by decide) (by omega) u5 x5_1 (wrap64 ((wrap64 ((wrap64 (a1 - 1)) * a0)) + x6_1)) [.int .i64 (wrap64 ((wrap64 ((wrap64 (a1 - 1)) * a0)) + x6_1))] (fun _ => True) (fun _ => False) rfl rfl ?aP (fun _ hk => hk.elim) ?aF ?aO ?aB ?aS ?aL ?_; (case aP => exact rfl); (case aB => exact (bl0 HB.out)); (case aF => exact (fun _ _ => trivial)); (case aO => exact (rqR HO_5.out)); (case aS => exact (below_size (bl0 HB.out))); (case aL => have := LMc7.out; omega); intro v191 w8 ho hb hg hat; rw [← Ny190.out] at ho; have n_ := (⟨am (hb), am (ho)⟩ : _ ∧ _); clear HB HO_5; obtain ⟨HB, HO192⟩ := n_; clear ho hb hg hat))
      go_roundg k1
      case measure => have := HK1.out; omega
      case rel => exact ⟨(y190), (wrap64 (x6_1 + 1)), (by first | rfl | (simp; done) | (simp [*]; done)), H', ⟨by have := HK1.out; omega⟩, ⟨by (with_reducible repeat (first | apply Kd.R_alloc | apply Kd.R_drewN | apply Kd.R_drew)); exact HO192.out⟩, ⟨bl0 HB.out⟩⟩
     ·rw [if_neg c7] at H
      exact absurd H (by simp)
    ·rw [if_neg c6] at H
     have c6b0 : decide (0 < a1) = false := decide_eq_false c6
     clear c6
     by_cases c9 : x5_1.length < 17592186044416
     ·rw [if_pos c9] at H
      have LMc9 := Aside0.mk c9
      clear c9
      obtain ⟨y193, hy193⟩ : ∃ y_ : List Int, y_ = (x5_1 ++ [wrap64 ((wrap64 ((wrap64 (a1 * a0)) + x6_1)) - 1)]) := ⟨_, rfl⟩
      replace H : (spec_l28Pages.l0 k1 a0 a1 y193 (wrap64 (x6_1 + 1))) = some r := by first | (rw [hy193]; with_reducible exact H) | (have H2_ := (Option.bind_some _ _).symm.trans H; rw [hy193]; with_reducible exact H2_) | (have H2_ := (Option.bind_some _ _).symm.trans H; with_reducible exact H2_) | with_reducible exact H | (rw [hy193]; exact H) | exact H
      have Ny193 := Aside0.mk hy193
      clear hy193
      have H' := Aside0.mk H
      clear H
      go_wp2_with (first | ((with_reducible refine gate_builtin (b := .append) (xs := #[.tmp 24, .tmp 31]) rfl ?_); at_builtin; refine Kd.R_append (Kd.int .i64) (w0 := w) w.heap.size rfl (.tmp 24) (.tmp 31) 24 2 (.int .i64 0) 8 rfl Tryd.underlying24 info2 rfl (by decide) (by omega) u5 x5_1 (wrap64 ((wrap64 ((wrap64 (a1 * a0)) + x6_1)) - 1)) [.int .i64 (wrap64 ((wrap64 ((wrap64 (a1 * a0)) + x6_1)) - 1))] (fun _ => True) (fun _ => False) rfl rfl ?aP (fun _ hk => hk.elim) ?aF ?aO ?aB ?aS ?aL ?_; (case aP => exact rfl); (case aB => exact (bl0 HB.out)); (case aF => exact (fun _ _ => trivial)); (case aO => exact (rqR HO_5.out)); (case aS => exact (below_size (bl0 HB.out))); (case aL => have := LMc9.out; omega); intro v194 w10 ho hb hg hat; rw [← Ny193.out] at ho; have n_ := (⟨am (hb), am (ho)⟩ : _ ∧ _); clear HB HO_5; obtain ⟨HB, HO195⟩ := n_; clear ho hb hg hat))
      go_roundg k1
      case measure => have := HK1.out; omega
      case rel => exact ⟨(y193), (wrap64 (x6_1 + 1)), (by first | rfl | (simp; done) | (simp [*]; done)), H', ⟨by have := HK1.out; omega⟩, ⟨by (with_reducible repeat (first | apply Kd.R_alloc | apply Kd.R_drewN | apply Kd.R_drew)); exact HO195.out⟩, ⟨bl0 HB.out⟩⟩
     ·rw [if_neg c9] at H
      exact absurd H (by simp)
   ·rw [if_neg c5] at H
    have c5b0 : decide (x6_1 ≤ a0) = false := decide_eq_false c5
    clear c5
    obtain rfl := Option.some.inj H
    go_wp2
    go_ret
    exact ⟨_, by first | rfl | (simp [errW_none, errW_some] <;> rfl) | (simp [*, errW_none, errW_some] <;> rfl), by (with_reducible repeat (first | apply Kd.R_alloc | apply Kd.R_drewN | apply Kd.R_drew)); exact HO_5.out, bl0 HB.out⟩

/-! ### spec_l28All: function 37 -/
def spec_l28All.l0 : Nat → Int → List Int → List Int → Int → Option (List Int)
 | 0, _, _, _, _ => none
 | k + 1, x0, x1, x5, x6 => if x6 < (x1.length : Int) then (if 0 ≤ x6 then ((spec_l28Pages.f k x0 (rd x1 x6)).bind fun t200 => (if x5.length + t200.length < 17592186044416 then (spec_l28All.l0 k x0 x1 (x5 ++ t200) (wrap64 (x6 + 1))) else (none))) else (none)) else (some x5)
def spec_l28All.f (k : Nat) (a0 : Int) (l1 : List Int) : Option (List Int) := spec_l28All.l0 k a0 l1 (([] : List Int)) 0
theorem spec_l28All.mono_l : ∀ k, (∀ y0 y1 y2 y3, LeO (spec_l28All.l0 k y0 y1 y2 y3) (spec_l28All.l0 (k + 1) y0 y1 y2 y3))
 | 0 => fun _ _ _ _ r h => by simp [spec_l28All.l0] at h
 | k + 1 => by
  have ih0 := spec_l28All.mono_l k
  ·intro y0 y1 y2 y3
   unfold spec_l28All.l0
   repeat' first | (with_reducible first | exact ih0 _ _ _ _ | exact spec_l28Pages.mono _ _ _ | exact LeO.refl _ | exact LeO.none _ | refine LeO.ite ?_ ?_ | refine LeO.bind ?_ (fun _ => ?_)) | exact ih0 _ _ _ _ | exact spec_l28Pages.mono _ _ _ | exact LeO.none _ | refine LeO.ite ?_ ?_ | refine LeO.bind ?_ (fun _ => ?_)
theorem spec_l28All.mono : ∀ a0 a1 k, LeO (spec_l28All.f k a0 a1) (spec_l28All.f (k + 1) a0 a1) := by
 intro a0 a1 k
 have ih0 := spec_l28All.mono_l k
 unfold spec_l28All.f
 repeat' first | (with_reducible first | exact ih0 _ _ _ _ | exact spec_l28Pages.mono _ _ _ | exact LeO.refl _ | exact LeO.none _ | refine LeO.ite ?_ ?_ | refine LeO.bind ?_ (fun _ => ?_)) | exact ih0 _ _ _ _ | exact spec_l28Pages.mono _ _ _ | exact LeO.none _ | refine LeO.ite ?_ ?_ | refine LeO.bind ?_ (fun _ => ?_)
theorem spec_l28All.calls (k : Nat) (a0 : Int) (A1 : Option Addr) (c1 : Nat) (l1 : List Int) (r : List Int) (w : World) (hr1 : Kd.C (Kd.int .i64) w A1 l1.length l1) (hc1 : l1.length ≤ c1) (h : spec_l28All.f k a0 l1 = some r) :
  Calls Tryd.prog 37 #[.int .i64 a0, .slice A1 l1.length c1] w fun e w' => ∃ v0_ : Value, e = .returned (v0_) ∧ Kd.R (Kd.int .i64) 2 w' w.heap.size (fun _ => True) v0_ r ∧ Below w.heap.size w w' := by
 have HR1 := Aside0.mk hr1
 have HC1 := Aside0.mk hc1
 clear hr1 hc1
 have HB := am (Below.refl w.heap.size w)
 have H : (spec_l28All.l0 k a0 l1 (([] : List Int)) 0) = some r := h
 clear h
 obtain ⟨y196, hy196⟩ : ∃ y_ : List Int, y_ = (([] : List Int)) := ⟨_, rfl⟩
 replace H : (spec_l28All.l0 k a0 l1 y196 0) = some r := by first | (rw [hy196]; with_reducible exact H) | (have H2_ := (Option.bind_some _ _).symm.trans H; rw [hy196]; with_reducible exact H2_) | (have H2_ := (Option.bind_some _ _).symm.trans H; with_reducible exact H2_) | with_reducible exact H | (rw [hy196]; exact H) | exact H
 have Ny196 := Aside0.mk hy196
 clear hy196
 have H' := Aside0.mk H
 clear H
 go_enter Tryd.func37, Tryd.ntmps37
 go_wp2_with (first | ((with_reducible refine gate_dst (N := 7) rfl ?_); refine Kd.R_lit (Kd.int .i64) _ 2 ?hg (N := 7) ?hd (xs := ([] : List Int)) (inner := []) (ok := fun _ => True) (okp := fun _ => True) ?hr ?hp (fun _ hk => hk) trivial (Below.refl _ _) (Nat.le_refl _) (by simp) ?_; (case hd => rfl); (case hg => rfl); (case hr => first | (go_simp; done) | (go_simp; rfl)); (case hp => exact (Reps.none _ _)); intro v197 w3 ho4 hb hg_ hnew_; clear hg_ hnew_; (first | rw [← Ny196.out] at ho4 | (simp only [Int.reduceToNat] at ho4; rw [← Ny196.out] at ho4)); have n_ := (⟨am (Kd.R_lower ho4 (below_size (bl0 HB.out))), am (below_step (bl0 HB.out) hb)⟩ : _ ∧ _); clear HB; obtain ⟨HO198, HB⟩ := n_; clear hb ho4))
 go_loopg [5, 6] k (fun kq v5 v6 w' => ∃ (x5_1 : List Int) (x6_1 : Int), v6 = .int .i64 x6_1 ∧ Aside0 (spec_l28All.l0 kq a0 l1 x5_1 x6_1 = some r) ∧ Aside0 (kq ≤ k) ∧ Aside0 (Kd.R (Kd.int .i64) 2 w' w.heap.size (fun _ => True) v5 x5_1) ∧ Aside0 (Below w.heap.size w w'))
 case atStart => exact ⟨(y196), (0), (by first | rfl | (simp; done) | (simp [*]; done)), H', ⟨Nat.le_refl _⟩, ⟨by (with_reducible repeat (first | apply Kd.R_alloc | apply Kd.R_drewN | apply Kd.R_drew)); exact HO198.out⟩, ⟨bl0 HB.out⟩⟩
 case round =>
  clear H'
  try clear c1
  try clear p2
  try clear c3
  obtain ⟨x5_1, x6_1, rfl, HA, HK1, HO_5, HB⟩ := hrel
  cases gk with
  | zero => exact absurd HA.out (by simp [spec_l28All.l0])
  | succ k1 =>
   have H := HA.out
   clear HA
   simp only [spec_l28All.l0] at H
   by_cases c5 : x6_1 < (l1.length : Int)
   ·rw [if_pos c5] at H
    have c5b0 : decide (x6_1 < (l1.length : Int)) = true := decide_eq_true c5
    clear c5
    by_cases c6 : 0 ≤ x6_1
    ·rw [if_pos c6] at H
     have c6b0 : decide (0 ≤ x6_1) = true := decide_eq_true c6
     clear c6
     replace H := Option.bind_eq_some_iff.mp H
     obtain ⟨t200, A70, H⟩ := H
     replace H : (if x5_1.length + t200.length < 17592186044416 then (spec_l28All.l0 k1 a0 l1 (x5_1 ++ t200) (wrap64 (x6_1 + 1))) else (none)) = some r := H
     have A7 := Aside0.mk A70
     clear A70
     by_cases c8 : x5_1.length + t200.length < 17592186044416
     ·rw [if_pos c8] at H
      have LMc8 := Aside0.mk c8
      clear c8
      obtain ⟨y203, hy203⟩ : ∃ y_ : List Int, y_ = (x5_1 ++ t200) := ⟨_, rfl⟩
      replace H : (spec_l28All.l0 k1 a0 l1 y203 (wrap64 (x6_1 + 1))) = some r := by first | (rw [hy203]; with_reducible exact H) | (have H2_ := (Option.bind_some _ _).symm.trans H; rw [hy203]; with_reducible exact H2_) | (have H2_ := (Option.bind_some _ _).symm.trans H; with_reducible exact H2_) | with_reducible exact H | (rw [hy203]; exact H) | exact H
      have Ny203 := Aside0.mk hy203
      clear hy203
      have H' := Aside0.mk H
      clear H
      have p199 : 0 ≤ (x6_1 : Int) := of_decide_eq_true (by first | (with_reducible assumption) | assumption)
      have q199 : x6_1 < (l1.length : Int) := of_decide_eq_true (by first | (with_reducible assumption) | assumption)
      obtain ⟨ad199, e199, hx199_0⟩ := Kd.at_int HR1.out x6_1 p199 q199
      cases e199
      replace hx199_0 := (HB.out.cell (World.block_lt_of_cell? w _ hx199_0)).trans hx199_0
      replace p199 := eq_true p199
      replace q199 := eq_true q199
      go_wp2_with (first | ((with_reducible refine gate_callee (f := 56) rfl ?_); refine goesL_ (some 20) rfl rfl Tryd.func56 (by kernel_rfl) rfl #[.int .i64 a0, .int .i64 (rd l1 x6_1)] rfl lnp ?_; (with_reducible refine (spec_l28Pages.calls k1 a0 (rd l1 x6_1) t200 _ A7.out).mono ?_); rintro e w9 ⟨v201, rfl, ho0, hb⟩; refine ⟨_, rfl, ?_⟩; have n_ := (⟨am (Kd.R_elder' (rqR HO_5.out) (Kd.R_base ho0) hb), am (Kd.R_lower (Kd.R_new' ho0 (Kd.R_lt (rqR HO_5.out))) (below_size (bl0 HB.out))), am (below_step (bl0 HB.out) hb)⟩ : _ ∧ _ ∧ _); clear HO_5 HB; obtain ⟨HO_5, HO202, HB⟩ := n_; (try clear hb); (try clear hb2); (try clear hk); (try clear hi); (try clear ho0); obtain ⟨Ao11, co11, eo11⟩ := Kd.R_slice HO202.out; subst eo11) | ((with_reducible refine gate_builtin (b := .append) (xs := #[.tmp 14, .tmp 20]) rfl ?_); at_builtin; refine Kd.R_append_rows (Kd.int .i64) (w0 := w) w.heap.size rfl (.tmp 14) (.tmp 20) 24 2 (.int .i64 0) 8 rfl Tryd.underlying24 info2 rfl (by decide) (by omega) u5 x5_1 t200 _ _ _ (fun k_ => some k_ ≠ (.slice Ao11 t200.length co11 : Value).ownBlock) (fun _ => False) rfl rfl ?aO ?aR (fun _ _ h => h) (fun _ h => h.elim) ?aF ?aB ?aS ?aL ?_; (case aR => repeat (first | exact (Kd.R_reads' HO202.out).2.2 | (with_reducible refine Kd.C_alloc ?_ _) | (with_reducible refine Kd.C_drewN ?_ _) | (with_reducible refine Kd.C_drew ?_))); (case aB => exact (bl0 HB.out)); (case aF => exact (fun k_ hk => Kd.fresh' (Kd.R_lt (rqR HO202.out)) k_ hk)); (case aO => exact (by (with_reducible repeat (first | apply Kd.R_alloc | apply Kd.R_drewN | apply Kd.R_drew)); exact Kd.R_mono HO_5.out (fun _ hk => hk.2))); (case aS => exact (below_size (bl0 HB.out))); (case aL => have := LMc8.out; omega); intro v204 w10 ho hb hg hat; rw [← Ny203.out] at ho; have n_ := (⟨am (Kd.R_after (ok := (fun _ => True)) (rqR HO202.out) hg hat), am (hb), am (ho)⟩ : _ ∧ _ ∧ _); clear HO202 HB HO_5; obtain ⟨HO202, HB, HO205⟩ := n_; clear ho hb hg hat))
      go_roundg k1
      case measure => have := HK1.out; omega
      case rel => exact ⟨(y203), (wrap64 (x6_1 + 1)), (by first | rfl | (simp; done) | (simp [*]; done)), H', ⟨by have := HK1.out; omega⟩, ⟨by (with_reducible repeat (first | apply Kd.R_alloc | apply Kd.R_drewN | apply Kd.R_drew)); exact Kd.R_mono HO205.out (fun _ hk => trivial)⟩, ⟨bl0 HB.out⟩⟩
     ·rw [if_neg c8] at H
      exact absurd H (by simp)
    ·rw [if_neg c6] at H
     exact absurd H (by simp)
   ·rw [if_neg c5] at H
    have c5b0 : decide (x6_1 < (l1.length : Int)) = false := decide_eq_false c5
    clear c5
    obtain rfl := Option.some.inj H
    go_wp2
    go_ret
    exact ⟨_, by first | rfl | (simp [errW_none, errW_some] <;> rfl) | (simp [*, errW_none, errW_some] <;> rfl), by (with_reducible repeat (first | apply Kd.R_alloc | apply Kd.R_drewN | apply Kd.R_drew)); exact HO_5.out, bl0 HB.out⟩

/-! ### spec_l28DrawPages: function 17 -/
def spec_l28DrawPages.j0 : Nat → Int → Int → List Int → List Int → Int → Int → Option (Int × Int × List Int × Int × Int)
 | 0, _, _, _, _, _, _ => none
 | k + 1, x5, x6, x8, x1000, x1001, x1002 => if (x8.length : Int) > 0 then ((spec_l01Next.f x1000 x1001 x1002 (x8.length : Int)).bind fun bt220 => ((spec_l01Next.f x1000 bt220.2.1 bt220.2.2 16).bind fun bt223 => (if bt223.1 = 0 then (if 0 ≤ bt220.1 then (if bt220.1 < (x8.length : Int) then ((spec_l01Pick.f x1000 bt223.2.1 bt223.2.2 (([0, wrap64 (-(rd x8 bt220.1)), wrap64 ((rd x8 bt220.1) + 1)] : List Int))).bind fun bt231 => (some (x5, x6, (x8.set (bt220.1 : Int).toNat bt231.1), bt231.2.1, bt231.2.2))) else (none)) else (none)) else (if bt223.1 = 1 then (if 0 ≤ bt220.1 then (if bt220.1 ≤ (x8.length : Int) then (some (x5, x6, (x8.take (bt220.1 : Int).toNat), bt223.2.1, bt223.2.2)) else (none)) else (none)) else (some (x5, x6, x8, bt223.2.1, bt223.2.2)))))) else (some (x5, x6, x8, x1001, x1002))
def spec_l28DrawPages.f (k : Nat) (s0_0 : List Int) (s0_1 : Int) (s0_2 : Int) : Option (Int × Int × List Int × Int × Int) := (spec_l28DrawBlock.f k s0_0 s0_1 s0_2).bind fun bt206 => ((spec_IsUnit.f k bt206.2.1).bind fun t216 => (if t216 = true then ((spec_l28All.f k bt206.2.1 bt206.2.2.1).bind fun t217 => (spec_l28DrawPages.j0 k bt206.1 bt206.2.1 t217 s0_0 bt206.2.2.2.1 bt206.2.2.2.2)) else (spec_l28DrawPages.j0 k bt206.1 bt206.2.1 (([] : List Int)) s0_0 bt206.2.2.2.1 bt206.2.2.2.2)))
theorem spec_l28DrawPages.mono_l : ∀ k, (∀ y0 y1 y2 y3 y4 y5, LeO (spec_l28DrawPages.j0 k y0 y1 y2 y3 y4 y5) (spec_l28DrawPages.j0 (k + 1) y0 y1 y2 y3 y4 y5))
 | 0 => fun _ _ _ _ _ _ r h => by simp [spec_l28DrawPages.j0] at h
 | k + 1 => by
  have ih0 := spec_l28DrawPages.mono_l k
  ·intro y0 y1 y2 y3 y4 y5
   unfold spec_l28DrawPages.j0
   repeat' first | (with_reducible first | exact ih0 _ _ _ _ _ _ | exact spec_IsUnit.mono _ _ | exact spec_l28All.mono _ _ _ | exact spec_l28DrawBlock.mono _ _ _ _ | exact LeO.refl _ | exact LeO.none _ | refine LeO.ite ?_ ?_ | refine LeO.bind ?_ (fun _ => ?_)) | exact ih0 _ _ _ _ _ _ | exact spec_IsUnit.mono _ _ | exact spec_l28All.mono _ _ _ | exact spec_l28DrawBlock.mono _ _ _ _ | exact LeO.none _ | refine LeO.ite ?_ ?_ | refine LeO.bind ?_ (fun _ => ?_)
theorem spec_l28DrawPages.mono : ∀ a0 a1 a2 k, LeO (spec_l28DrawPages.f k a0 a1 a2) (spec_l28DrawPages.f (k + 1) a0 a1 a2) := by
 intro a0 a1 a2 k
 have ih0 := spec_l28DrawPages.mono_l k
 unfold spec_l28DrawPages.f
 repeat' first | (with_reducible first | exact ih0 _ _ _ _ _ _ | exact spec_IsUnit.mono _ _ | exact spec_l28All.mono _ _ _ | exact spec_l28DrawBlock.mono _ _ _ _ | exact LeO.refl _ | exact LeO.none _ | refine LeO.ite ?_ ?_ | refine LeO.bind ?_ (fun _ => ?_)) | exact ih0 _ _ _ _ _ _ | exact spec_IsUnit.mono _ _ | exact spec_l28All.mono _ _ _ | exact spec_l28DrawBlock.mono _ _ _ _ | exact LeO.none _ | refine LeO.ite ?_ ?_ | refine LeO.bind ?_ (fun _ => ?_)
def spec_l28DrawPages.T9 : Bool × List (List Nat × List Nat) := (true, [([], []), ([], []), ([], []), ([], []), ([], []), ([3, 4], [3, 4]), ([5], [5]), ([6], [6]), ([], []), ([], []), ([8, 9], [8, 9]), ([10], [10]), ([11], [11]), ([7, 12], [7, 12]), ([2, 13], [2, 13]), ([0, 1, 0, 1, 2, 3, 4, 5, 6, 7, 8, 9, 10, 11, 12, 13, 14], [0, 1]), ([15, 14, 14, 0, 1, 2, 3, 4, 5, 6, 7, 8, 9, 10, 11, 12, 13, 14], [14, 15])])
def spec_l28DrawPages.B9 : List Nat := [0, 0, 0, 0, 0, 24, 56, 120, 0, 0, 768, 1792, 3840, 8184, 16380, 32767, 65535]
theorem spec_l28DrawPages.tab9 : rtab .any (opsOf Tryd.f17 9) = spec_l28DrawPages.T9 := by kernel_rfl
theorem spec_l28DrawPages.bits9 : waitsOk spec_l28DrawPages.T9.2 spec_l28DrawPages.B9 = true := by kernel_rfl
theorem spec_l28DrawPages.calls (k : Nat) (g : Nat) (s0_0 : List Int) (s0_1 : Int) (s0_2 : Int) (r1 : Int) (r2 : Int) (r3 : List Int) (r4 : Int) (r5 : Int) (w0 w : World) (hI : IsS58 w0 w g s0_0 s0_1 s0_2) (hB : Below w0.heap.size w0 w) (h : spec_l28DrawPages.f k s0_0 s0_1 s0_2 = some (r1, r2, r3, r4, r5)) :
  Calls Tryd.prog 17 #[.pointer (some ⟨g, 0, none⟩)] w fun e w' => ∃ v2_ : Value, e = .returned (.tuple #[.int .i64 r1, .int .i64 r2, v2_]) ∧ Kd.R (Kd.int .i64) 2 w' w.heap.size (fun _ => True) v2_ r3 ∧ IsS58 w0 w' g s0_0 r4 r5 ∧ Below w0.heap.size w0 w' ∧ KeepBut w w' g none := by
 have HI0 := Aside0.mk hI
 have HK := am (KeepBut.refl w g none)
 have HL := Aside0.mk hB.size
 clear hI
 have HW0 := Aside0.mk hB.size
 have HB := Aside0.mk hB
 clear hB
 have H : ((spec_l28DrawBlock.f k s0_0 s0_1 s0_2).bind fun bt206 => ((spec_IsUnit.f k bt206.2.1).bind fun t216 => (if t216 = true then ((spec_l28All.f k bt206.2.1 bt206.2.2.1).bind fun t217 => (spec_l28DrawPages.j0 k bt206.1 bt206.2.1 t217 s0_0 bt206.2.2.2.1 bt206.2.2.2.2)) else (spec_l28DrawPages.j0 k bt206.1 bt206.2.1 (([] : List Int)) s0_0 bt206.2.2.2.1 bt206.2.2.2.2)))) = some (r1, r2, r3, r4, r5) := h
 clear h
 replace H := Option.bind_eq_some_iff.mp H
 obtain ⟨⟨t206, t207, t208, t211, t212⟩, A20, H⟩ := H
 replace H : ((spec_IsUnit.f k t207).bind fun t216 => (if t216 = true then ((spec_l28All.f k t207 t208).bind fun t217 => (spec_l28DrawPages.j0 k t206 t207 t217 s0_0 t211 t212)) else (spec_l28DrawPages.j0 k t206 t207 (([] : List Int)) s0_0 t211 t212))) = some (r1, r2, r3, r4, r5) := H
 have A2 := Aside0.mk A20
 clear A20
 obtain ⟨y213, hy213⟩ : ∃ y_ : List Int, y_ = (([] : List Int)) := ⟨_, rfl⟩
 replace H : ((spec_IsUnit.f k t207).bind fun t216 => (if t216 = true then ((spec_l28All.f k t207 t208).bind fun t217 => (spec_l28DrawPages.j0 k t206 t207 t217 s0_0 t211 t212)) else (spec_l28DrawPages.j0 k t206 t207 y213 s0_0 t211 t212))) = some (r1, r2, r3, r4, r5) := by first | (rw [hy213]; with_reducible exact H) | (have H2_ := (Option.bind_some _ _).symm.trans H; rw [hy213]; with_reducible exact H2_) | (have H2_ := (Option.bind_some _ _).symm.trans H; with_reducible exact H2_) | with_reducible exact H | (rw [hy213]; exact H) | exact H
 have Ny213 := Aside0.mk hy213
 clear hy213
 replace H := Option.bind_eq_some_iff.mp H
 obtain ⟨t216, A30, H⟩ := H
 replace H : (if t216 = true then ((spec_l28All.f k t207 t208).bind fun t217 => (spec_l28DrawPages.j0 k t206 t207 t217 s0_0 t211 t212)) else (spec_l28DrawPages.j0 k t206 t207 y213 s0_0 t211 t212)) = some (r1, r2, r3, r4, r5) := H
 have A3 := Aside0.mk A30
 clear A30
 have HC4 := Aside0.mk H
 clear H
 go_enter Tryd.func17, Tryd.ntmps17
 go_upto_if 18 with (first | ((with_reducible refine gate_callee (f := 35) rfl ?_); refine goesL_ (some 12) rfl rfl Tryd.func35 (by kernel_rfl) rfl #[.pointer (some ⟨g, 0, none⟩)] rfl lnp ?_; (with_reducible refine (spec_l28DrawBlock.calls k g s0_0 s0_1 s0_2 t206 t207 t208 t211 t212 w0 _ ?side1 ?side2 A2.out).mono ?_); (case side1 => exact st58_0 HI0.out); (case side2 => exact bl1 HB.out (IsS58.ge HI0.out)); rintro e w5 ⟨v209, rfl, ho0, hi, hb, hk⟩; refine ⟨_, rfl, ?_⟩; have n_ := (⟨am (Kd.R_lower ho0 (keep_size (w := w) (g := g) (row := none) (kb0 HK.out))), am (KeepBut.trans (kb0 HK.out) hk (.inl rfl)), am (hb), am (hi)⟩ : _ ∧ _ ∧ _ ∧ _); clear HK HB HI0; obtain ⟨HO210, HK, HB, HI0⟩ := n_; (try clear hb); (try clear hb2); (try clear hk); (try clear hi); (try clear ho0)) | ((with_reducible refine gate_dst (N := 16) rfl ?_); refine Kd.R_lit (Kd.int .i64) _ 2 ?hg (N := 16) ?hd (xs := ([] : List Int)) (inner := []) (ok := fun _ => True) (okp := fun _ => True) ?hr ?hp (fun _ hk => hk) trivial (Below.refl _ _) (Nat.le_refl _) (by simp) ?_; (case hd => rfl); (case hg => rfl); (case hr => first | (go_simp; done) | (go_simp; rfl)); (case hp => exact (Reps.none _ _)); intro v214 w6 ho7 hb hg_ hnew_; clear hg_ hnew_; (first | rw [← Ny213.out] at ho7 | (simp only [Int.reduceToNat] at ho7; rw [← Ny213.out] at ho7)); have n_ := (⟨am (Kd.R_elder' (rqR HO210.out) (Kd.R_base ho7) hb), am (Kd.R_lower (Kd.R_new' ho7 (Kd.R_lt (rqR HO210.out))) (keep_size (w := w) (g := g) (row := none) (kb0 HK.out))), am (IsS58.below (st58_0 HI0.out) hb), am (KeepBut.trans (kb0 HK.out) (KeepBut.of_below hb g none) (.inl rfl)), am (below_step (bl1 HB.out (IsS58.ge HI0.out)) hb)⟩ : _ ∧ _ ∧ _ ∧ _ ∧ _); clear HO210 HI0 HK HB; obtain ⟨HO210, HO215, HI0, HK, HB⟩ := n_; clear hb ho7) | ((with_reducible refine gate_callee (f := 36) rfl ?_); refine goesL_ (some 18) rfl rfl Tryd.func36 (by kernel_rfl) rfl #[.int .i64 t207] rfl lnp ?_; (with_reducible refine (spec_IsUnit.calls k t207 t216 _ A3.out).mono ?_); rintro e w8 ⟨rfl, hb⟩; refine ⟨_, rfl, ?_⟩; have n_ := (⟨am (Kd.R_below (rqR HO210.out) hb), am (Kd.R_below (rqR HO215.out) hb), am (IsS58.below (st58_0 HI0.out) hb), am (KeepBut.trans (kb0 HK.out) (KeepBut.of_below hb g none) (.inl rfl)), am (below_step (bl1 HB.out (IsS58.ge HI0.out)) hb)⟩ : _ ∧ _ ∧ _ ∧ _ ∧ _); clear HO210 HO215 HI0 HK HB; obtain ⟨HO210, HO215, HI0, HK, HB⟩ := n_; (try clear hb); (try clear hb2); (try clear hk); (try clear hi)))
 (try simp only [Act.put, List.setIfInBounds_toArray, List.set_cons_zero, List.set_cons_succ])
 go_cut [8] (fun v8 wc => ∃ (kq : Nat) (x8_3 : List Int), Aside0 (spec_l28DrawPages.j0 kq t206 t207 x8_3 s0_0 t211 t212 = some (r1, r2, r3, r4, r5)) ∧ Aside0 (kq ≤ k) ∧ Aside0 (Kd.R (Kd.int .i64) 2 wc w.heap.size (fun _ => True) v8 x8_3) ∧ Aside0 (IsS58 w0 wc g s0_0 t211 t212) ∧ Aside0 (KeepBut w wc g none) ∧ Aside0 (Below w0.heap.size w0 wc))
 case first =>
  have H := HC4.out
  clear HC4
  by_cases c9 : t216 = true
  ·subst c9
   have H1 : ((spec_l28All.f k t207 t208).bind fun t217 => (spec_l28DrawPages.j0 k t206 t207 t217 s0_0 t211 t212)) = some (r1, r2, r3, r4, r5) := by rw [if_pos rfl] at H; exact H
   clear H
   have H := H1
   clear H1
   replace H := Option.bind_eq_some_iff.mp H
   obtain ⟨t217, A100, H⟩ := H
   replace H : (spec_l28DrawPages.j0 k t206 t207 t217 s0_0 t211 t212) = some (r1, r2, r3, r4, r5) := H
   have A10 := Aside0.mk A100
   clear A100
   have H' := Aside0.mk H
   clear H
   obtain ⟨Ao11, co11, eo11⟩ := Kd.R_slice HO210.out
   subst eo11
   go_wp2_with (first | ((with_reducible refine gate_callee (f := 37) rfl ?_); refine goesL_ (some 21) rfl rfl Tryd.func37 (by kernel_rfl) rfl #[.int .i64 t207, .slice Ao11 t208.length co11] rfl lnp ?_; (with_reducible refine (spec_l28All.calls k t207 _ _ t208 t217 _ ?side1 ?side2 A10.out).mono ?_); (case side1 => repeat (first | exact (Kd.R_reads' HO210.out).2.2 | (with_reducible refine Kd.C_alloc ?_ _) | (with_reducible refine Kd.C_drewN ?_ _) | (with_reducible refine Kd.C_drew ?_))); (case side2 => exact (Kd.R_reads' HO210.out).2.1); rintro e w12 ⟨v218, rfl, ho0, hb⟩; refine ⟨_, rfl, ?_⟩; have n_ := (⟨am (Kd.R_elder' (rqR HO210.out) (Kd.R_base ho0) hb), am (Kd.R_elder' (rqR HO215.out) (Kd.R_base ho0) hb), am (Kd.R_lower (Kd.R_new' (Kd.R_new' ho0 (Kd.R_lt (rqR HO210.out))) (Kd.R_lt (rqR HO215.out))) (keep_size (w := w) (g := g) (row := none) (kb0 HK.out))), am (IsS58.below (st58_0 HI0.out) hb), am (KeepBut.trans (kb0 HK.out) (KeepBut.of_below hb g none) (.inl rfl)), am (below_step (bl1 HB.out (IsS58.ge HI0.out)) hb)⟩ : _ ∧ _ ∧ _ ∧ _ ∧ _ ∧ _); clear HO210 HO215 HI0 HK HB; obtain ⟨HO210, HO215, HO219, HI0, HK, HB⟩ := n_; (try clear hb); (try clear hb2); (try clear hk); (try clear hi); (try clear ho0)))
   go_meet
   case rel => exact ⟨_, (t217), H', ⟨by first | omega | exact Nat.le_refl _⟩, ⟨by (with_reducible repeat (first | apply Kd.R_alloc | apply Kd.R_drewN | apply Kd.R_drew)); exact Kd.R_mono HO219.out (fun _ hk => trivial)⟩, ⟨st58_0 HI0.out⟩, ⟨kb0 HK.out⟩, ⟨bl1 HB.out (IsS58.ge HI0.out)⟩⟩
  ·replace c9 := Bool.eq_false_iff.mpr c9
   subst c9
   have H1 : (spec_l28DrawPages.j0 k t206 t207 y213 s0_0 t211 t212) = some (r1, r2, r3, r4, r5) := by rw [if_neg (show ¬ (false = true) by decide)] at H; exact H
   clear H
   have H := H1
   clear H1
   have H' := Aside0.mk H
   clear H
   go_wp2
   go_meet
   case rel => exact ⟨_, (y213), H', ⟨by first | omega | exact Nat.le_refl _⟩, ⟨by (with_reducible repeat (first | apply Kd.R_alloc | apply Kd.R_drewN | apply Kd.R_drew)); exact Kd.R_mono HO215.out (fun _ hk => trivial)⟩, ⟨st58_0 HI0.out⟩, ⟨kb0 HK.out⟩, ⟨bl1 HB.out (IsS58.ge HI0.out)⟩⟩
 case rest =>
  clear HC4
  try clear c1
  try clear p2
  try clear c3
  try clear c9
  obtain ⟨kq, x8_3, HA, HJ3, HO_8, HI0, HK, HB⟩ := hcut
  cases kq with
  | zero => exact absurd HA.out (by simp [spec_l28DrawPages.j0])
  | succ kj3 =>
   have H := HA.out
   clear HA
   simp only [spec_l28DrawPages.j0] at H
   by_cases c13 : (x8_3.length : Int) > 0
   ·rw [if_pos c13] at H
    have c13b0 : decide (0 < (x8_3.length : Int)) = true := decide_eq_true c13
    have c13b1 : decide (0 < x8_3.length) = true := decide_eq_true (by omega)
    clear c13
    replace H := Option.bind_eq_some_iff.mp H
    obtain ⟨⟨t220, t221, t222⟩, A140, H⟩ := H
    replace H : ((spec_l01Next.f s0_0 t221 t222 16).bind fun bt223 => (if bt223.1 = 0 then (if 0 ≤ t220 then (if t220 < (x8_3.length : Int) then ((spec_l01Pick.f s0_0 bt223.2.1 bt223.2.2 (([0, wrap64 (-(rd x8_3 t220)), wrap64 ((rd x8_3 t220) + 1)] : List Int))).bind fun bt231 => (some (t206, t207, (x8_3.set (t220 : Int).toNat bt231.1), bt231.2.1, bt231.2.2))) else (none)) else (none)) else (if bt223.1 = 1 then (if 0 ≤ t220 then (if t220 ≤ (x8_3.length : Int) then (some (t206, t207, (x8_3.take (t220 : Int).toNat), bt223.2.1, bt223.2.2)) else (none)) else (none)) else (some (t206, t207, x8_3, bt223.2.1, bt223.2.2))))) = some (r1, r2, r3, r4, r5) := H
    have A14 := Aside0.mk A140
    clear A140
    replace H := Option.bind_eq_some_iff.mp H
    obtain ⟨⟨t223, t224, t225⟩, A150, H⟩ := H
    replace H : (if t223 = 0 then (if 0 ≤ t220 then (if t220 < (x8_3.length : Int) then ((spec_l01Pick.f s0_0 t224 t225 (([0, wrap64 (-(rd x8_3 t220)), wrap64 ((rd x8_3 t220) + 1)] : List Int))).bind fun bt231 => (some (t206, t207, (x8_3.set (t220 : Int).toNat bt231.1), bt231.2.1, bt231.2.2))) else (none)) else (none)) else (if t223 = 1 then (if 0 ≤ t220 then (if t220 ≤ (x8_3.length : Int) then (some (t206, t207, (x8_3.take (t220 : Int).toNat), t224, t225)) else (none)) else (none)) else (some (t206, t207, x8_3, t224, t225)))) = some (r1, r2, r3, r4, r5) := H
    have A15 := Aside0.mk A150
    clear A150
    by_cases c16 : t223 = 0
    ·rw [if_pos c16] at H
     have c16b0 : (t223 == 0) = true := beq_iff_eq.mpr c16
     have c16b1 : (t223 != 0) = false := bne_eq_false_iff_eq.mpr c16
     clear c16
     by_cases c17 : 0 ≤ t220
     ·rw [if_pos c17] at H
      have c17b0 : decide (0 ≤ t220) = true := decide_eq_true c17
      clear c17
      by_cases c18 : t220 < (x8_3.length : Int)
      ·rw [if_pos c18] at H
       have c18b0 : decide (t220 < (x8_3.length : Int)) = true := decide_eq_true c18
       clear c18
       obtain ⟨y228, hy228⟩ : ∃ y_ : List Int, y_ = (([0, wrap64 (-(rd x8_3 t220)), wrap64 ((rd x8_3 t220) + 1)] : List Int)) := ⟨_, rfl⟩
       replace H : ((spec_l01Pick.f s0_0 t224 t225 y228).bind fun bt231 => (some (t206, t207, (x8_3.set (t220 : Int).toNat bt231.1), bt231.2.1, bt231.2.2))) = some (r1, r2, r3, r4, r5) := by first | (rw [hy228]; with_reducible exact H) | (have H2_ := (Option.bind_some _ _).symm.trans H; rw [hy228]; with_reducible exact H2_) | (have H2_ := (Option.bind_some _ _).symm.trans H; with_reducible exact H2_) | with_reducible exact H | (rw [hy228]; exact H) | exact H
       have Ny228 := Aside0.mk hy228
       clear hy228
       replace H := Option.bind_eq_some_iff.mp H
       obtain ⟨⟨t231, t232, t233⟩, A190, H⟩ := H
       replace H : (some (t206, t207, (x8_3.set (t220 : Int).toNat t231), t232, t233)) = some (r1, r2, r3, r4, r5) := H
       have A19 := Aside0.mk A190
       clear A190
       obtain ⟨y234, hy234⟩ : ∃ y_ : List Int, y_ = (x8_3.set (t220 : Int).toNat t231) := ⟨_, rfl⟩
       replace H : (some (t206, t207, y234, t232, t233)) = some (r1, r2, r3, r4, r5) := by first | (rw [hy234]; with_reducible exact H) | (have H2_ := (Option.bind_some _ _).symm.trans H; rw [hy234]; with_reducible exact H2_) | (have H2_ := (Option.bind_some _ _).symm.trans H; with_reducible exact H2_) | with_reducible exact H | (rw [hy234]; exact H) | exact H
       have Ny234 := Aside0.mk hy234
       clear hy234
       simp only [Option.some.injEq, Prod.mk.injEq] at H
       obtain ⟨rfl, rfl, rfl, rfl, rfl⟩ := H
       obtain ⟨Ao21, co21, eo21⟩ := Kd.R_slice HO_8.out
       subst eo21
       try go_wp2_with (first | ((with_reducible refine gate_callee (f := 24) rfl ?_); refine goesL_ (some 28) rfl rfl Tryd.func24 (by kernel_rfl) rfl #[.pointer (some ⟨g, 0, none⟩), .int .i64 (x8_3.length : Int)] rfl lnp ?_; (with_reducible refine (spec_l01Next.calls g s0_0 t211 t212 (x8_3.length : Int) t220 t221 t222 w0 _ ?side1 ?side2 A14.out).mono ?_); (case side1 => exact st58_0 HI0.out); (case side2 => exact bl1 HB.out (IsS58.ge HI0.out)); rintro e w22 ⟨rfl, hi, hb, hk⟩; refine ⟨_, rfl, ?_⟩; have n_ := (⟨am (Kd.R_mono (Kd.R_keep (IsS58.apart (show IsS58 w0 _ g s0_0 t211 t212 from st58_0 HI0.out) (rqR HO_8.out) (by decide)) hk (fun _ h => h.2)) (fun _ h => h.1)), am (KeepBut.trans (kb0 HK.out) hk (.inl rfl)), am (hb), am (hi)⟩ : _ ∧ _ ∧ _ ∧ _); clear HO_8 HK HB HI0; obtain ⟨HO_8, HK, HB, HI0⟩ := n_; (try clear hb); (try clear hb2); (try clear hk); (try clear hi)) | ((with_reducible refine gate_callee (f := 24) rfl ?_); refine goesL_ (some 30) rfl rfl Tryd.func24 (by kernel_rfl) rfl #[.pointer (some ⟨g, 0, none⟩), .int .i64 16] rfl lnp ?_; (with_reducible refine (spec_l01Next.calls g s0_0 t221 t222 16 t223 t224 t225 w0 _ ?side1 ?side2 A15.out).mono ?_); (case side1 => exact st58_0 HI0.out); (case side2 => exact bl1 HB.out (IsS58.ge HI0.out)); rintro e w23 ⟨rfl, hi, hb, hk⟩; refine ⟨_, rfl, ?_⟩; have n_ := (⟨am (Kd.R_mono (Kd.R_keep (IsS58.apart (show IsS58 w0 _ g s0_0 t221 t222 from st58_0 HI0.out) (rqR HO_8.out) (by decide)) hk (fun _ h => h.2)) (fun _ h => h.1)), am (KeepBut.trans (kb0 HK.out) hk (.inl rfl)), am (hb), am (hi)⟩ : _ ∧ _ ∧ _ ∧ _); clear HO_8 HK HB HI0; obtain ⟨HO_8, HK, HB, HI0⟩ := n_; (try clear hb); (try clear hb2); (try clear hk); (try clear hi)))
       have n_ := (⟨am (Kd.R_drew HO_8.out), am (IsS58.drew HI0.out), am (keep_drew HK.out), am (below_drew1 HB.out)⟩ : _ ∧ _ ∧ _ ∧ _)
       clear HO_8
       clear HI0
       clear HK
       clear HB
       obtain ⟨HO_8, HI0, HK, HB⟩ := n_
       have p226 : 0 ≤ (t220 : Int) := of_decide_eq_true (by first | (with_reducible assumption) | assumption)
       have q226 : t220 < (x8_3.length : Int) := of_decide_eq_true (by first | (with_reducible assumption) | assumption)
       obtain ⟨ad226, e226, hx226_0⟩ := Kd.at_int (Kd.R_reads' HO_8.out).2.2 t220 p226 q226
       cases e226
       replace p226 := eq_true p226
       replace q226 := eq_true q226
       have p227 : 0 ≤ (t220 : Int) := of_decide_eq_true (by first | (with_reducible assumption) | assumption)
       have q227 : t220 < (x8_3.length : Int) := of_decide_eq_true (by first | (with_reducible assumption) | assumption)
       obtain ⟨ad227, e227, hx227_0⟩ := Kd.at_int (Kd.R_reads' HO_8.out).2.2 t220 p227 q227
       obtain rfl : ad226 = ad227 := (by injection e227)
       replace p227 := eq_true p227
       replace q227 := eq_true q227
       refine start_ (n := 17) (S := fun w' => w'.cell? (ad226.add (t220).toNat) = some (.int .i64 (rd x8_3 t220)) ∧ w'.cell? (ad226.add (t220).toNat) = some (.int .i64 (rd x8_3 t220))) (ds := [16]) #[false, false, false, false, false, false, false, false, false, false, false, false, false, false, false, false, false] (by kernel_rfl) rfl rfl ⟨hx226_0, hx227_0⟩ (fun hHeld => ?_); refine with_tabW spec_l28DrawPages.tab9 spec_l28DrawPages.bits9 (fun HT_ HW_ => ?_)
       generalize w23.drew = w24 at HO_8 HI0 HK HB hx226_0 hx227_0 hHeld ⊢
       refine pure_ (i := 0) (N := some 33) (v := ?_) (a' := ?_) #[true, false, false, false, false, false, false, false, false, false, false, false, false, false, false, false, false] rfl rfl (any_of HT_.out (by kernel_rfl)) (fun _ _ _ h => h) (Or.inl ⟨by rfl, ?_⟩) ?_ ?_
       rotate_left; (focus exact gs); rotate_left; (focus exact pt)
       refine pure_ (i := 1) (N := some 34) (v := ?_) (a' := ?_) #[true, true, false, false, false, false, false, false, false, false, false, false, false, false, false, false, false] rfl rfl (any_of HT_.out (by kernel_rfl)) (fun _ _ _ h => h) (Or.inl ⟨by rfl, ?_⟩) ?_ ?_
       rotate_left; (focus exact gs); rotate_left; (focus exact pt)
       refine pure_ (i := 2) (N := some 35) (v := ?_) (a' := ?_) #[true, true, true, false, false, false, false, false, false, false, false, false, false, false, false, false, false] rfl rfl (any_of HT_.out (by kernel_rfl)) (fun _ _ _ h => h) (Or.inl ⟨by rfl, ?_⟩) ?_ ?_
       rotate_left; (focus exact gs); rotate_left; (focus exact pt)
       refine pure_ (i := 3) (N := some 36) (v := ?_) (a' := ?_) #[true, true, true, true, false, false, false, false, false, false, false, false, false, false, false, false, false] rfl rfl (any_of HT_.out (by kernel_rfl)) (fun _ _ _ h => h) (Or.inl ⟨by rfl, ?_⟩) ?_ ?_
       rotate_left; (focus exact gs); rotate_left; (focus exact pt)
       refine pure_ (i := 4) (N := some 37) (v := ?_) (a' := ?_) #[true, true, true, true, true, false, false, false, false, false, false, false, false, false, false, false, false] rfl rfl (any_of HT_.out (by kernel_rfl)) (fun _ _ _ h => h) (Or.inl ⟨by rfl, ?_⟩) ?_ ?_
       rotate_left; (focus exact gs); rotate_left; (focus exact pt)
       refine pure_ (i := 5) (N := some 38) (v := ?_) (a' := ?_) #[true, true, true, true, true, true, false, false, false, false, false, false, false, false, false, false, false] rfl rfl (any_of HT_.out (by kernel_rfl)) (fun _ _ _ h => h) (Or.inl ⟨by rfl, ?_⟩) ?_ ?_
       rotate_left; (focus exact gs); rotate_left; (focus exact pt)
       refine pure_ (i := 8) (N := some 41) (v := ?_) (a' := ?_) #[true, true, true, true, true, true, false, false, true, false, false, false, false, false, false, false, false] rfl rfl (any_of HT_.out (by kernel_rfl)) (fun _ _ _ h => h) (Or.inl ⟨by rfl, ?_⟩) ?_ ?_
       rotate_left; (focus exact gs); rotate_left; (focus exact pt)
       refine pure_ (i := 9) (N := some 42) (v := ?_) (a' := ?_) #[true, true, true, true, true, true, false, false, true, true, false, false, false, false, false, false, false] rfl rfl (any_of HT_.out (by kernel_rfl)) (fun _ _ _ h => h) (Or.inl ⟨by rfl, ?_⟩) ?_ ?_
       rotate_left; (focus exact gs); rotate_left; (focus exact pt)
       refine pure_ (i := 10) (N := some 43) (v := ?_) (a' := ?_) #[true, true, true, true, true, true, false, false, true, true, true, false, false, false, false, false, false] rfl rfl (any_of HT_.out (by kernel_rfl)) (fun _ _ _ h => h) (Or.inl ⟨by rfl, ?_⟩) ?_ ?_
       rotate_left; (focus exact gs); rotate_left; (focus exact pt)
       refine take_ (i := 6) (N := some 39) (v := ?_) (a' := ?_) #[true, true, true, true, true, true, true, false, true, true, true, false, false, false, false, false, false] rfl rfl (take_ofW HT_.out HW_.out (by kernel_rfl)) (fun _ _ _ h => h) (Or.inl ⟨by rfl, ?_⟩) hHeld ?_ ?_
       rotate_left
       ·rintro w' ⟨s0, s1⟩
        go_simp
        with_reducible rfl
       rotate_left
       ·exact pt
       refine pure_ (i := 7) (N := some 40) (v := ?_) (a' := ?_) #[true, true, true, true, true, true, true, true, true, true, true, false, false, false, false, false, false] rfl rfl (any_of HT_.out (by kernel_rfl)) (fun _ _ _ h => h) (Or.inl ⟨by rfl, ?_⟩) ?_ ?_
       rotate_left; (focus exact gs); rotate_left; (focus exact pt)
       refine take_ (i := 11) (N := some 44) (v := ?_) (a' := ?_) #[true, true, true, true, true, true, true, true, true, true, true, true, false, false, false, false, false] rfl rfl (take_ofW HT_.out HW_.out (by kernel_rfl)) (fun _ _ _ h => h) (Or.inl ⟨by rfl, ?_⟩) hHeld ?_ ?_
       rotate_left
       ·rintro w' ⟨s0, s1⟩
        go_simp
        with_reducible rfl
       rotate_left
       ·exact pt
       refine pure_ (i := 12) (N := some 45) (v := ?_) (a' := ?_) #[true, true, true, true, true, true, true, true, true, true, true, true, true, false, false, false, false] rfl rfl (any_of HT_.out (by kernel_rfl)) (fun _ _ _ h => h) (Or.inl ⟨by rfl, ?_⟩) ?_ ?_
       rotate_left; (focus exact gs); rotate_left; (focus exact pt)
       refine one_ (i := 13) (N := some 46) #[true, true, true, true, true, true, true, true, true, true, true, true, true, true, false, false, false] rfl rfl (one_of HT_.out (by kernel_rfl)) (by decide) (fun K hK => ?_)
       refine Kd.R_lit_step (Kd.int .i64) _ 2 ?hg (N := 46) ?hd (xs := ([0, wrap64 (-(rd x8_3 t220)), wrap64 ((rd x8_3 t220) + 1)] : List Int)) (inner := [.int .i64 0, .int .i64 (wrap64 (-(rd x8_3 t220))), .int .i64 (wrap64 ((rd x8_3 t220) + 1))]) (ok := fun _ => True) (okp := fun _ => True) ?hr ?hp (fun _ hk => hk) trivial (Below.refl _ _) (Nat.le_refl _) (by simp) ?_; (case hd => rfl); (case hg => rfl); (case hr => first | (go_simp; done) | (go_simp; rfl)); (case hp => exact (Reps.one (show Kd.M (Kd.int .i64) _ _ _ 0 [.int .i64 0] from rfl) (Reps.one (show Kd.M (Kd.int .i64) _ _ _ (wrap64 (-(rd x8_3 t220))) [.int .i64 (wrap64 (-(rd x8_3 t220)))] from rfl) (Reps.one (show Kd.M (Kd.int .i64) _ _ _ (wrap64 ((rd x8_3 t220) + 1)) [.int .i64 (wrap64 ((rd x8_3 t220) + 1))] from rfl) (Reps.none _ _)))))
       intro v229 w25 ho26 hb hg_ hnew_
       have HS0_ := (hb.cell (World.block_lt_of_cell? _ _ (hHeld.1))).trans (hHeld.1)
       have HS1_ := (hb.cell (World.block_lt_of_cell? _ _ (hHeld.2))).trans (hHeld.2)
       clear hg_ hnew_
       (first | rw [← Ny228.out] at ho26 | (simp only [Int.reduceToNat] at ho26; rw [← Ny228.out] at ho26))
       have n_ := (⟨am (Kd.R_elder' (rqR HO_8.out) (Kd.R_base ho26) hb), am (Kd.R_lower (Kd.R_new' ho26 (Kd.R_lt (rqR HO_8.out))) (keep_size (w := w) (g := g) (row := none) (kb0 HK.out))), am (IsS58.below (st58_0 HI0.out) hb), am (KeepBut.trans (kb0 HK.out) (KeepBut.of_below hb g none) (.inl rfl)), am (below_step (bl1 HB.out (IsS58.ge HI0.out)) hb)⟩ : _ ∧ _ ∧ _ ∧ _ ∧ _)
       clear HO_8
       clear HI0
       clear HK
       clear HB
       obtain ⟨HO_8, HO230, HI0, HK, HB⟩ := n_
       clear hb ho26
       obtain ⟨Ao27, co27, eo27⟩ := Kd.R_slice HO230.out
       (first | subst eo27 | (injection eo27 with f1_ f2_ f3_; have f4_ := f1_.symm; have f5_ := f3_.symm; clear f1_ f2_ f3_; subst f4_; subst f5_))
       refine hK.out _ _ ⟨HS0_, HS1_⟩ (fun hHeld => ?_)
       clear hK K
       refine norm_ (a' := ?_) ?_ ?_
       rotate_left
       ·show Act.put _ (some 46) _ = _
        simp only [Act.put, List.setIfInBounds_toArray, List.set_cons_zero, List.set_cons_succ, i64_w, i32_w]
        rfl
       refine one_ (i := 14) (N := some 47) #[true, true, true, true, true, true, true, true, true, true, true, true, true, true, true, false, false] rfl rfl (one_of HT_.out (by kernel_rfl)) (by decide) (fun K hK => ?_)
       refine goes_ Tryd.func25 (by kernel_rfl) rfl #[.pointer (some ⟨g, 0, none⟩), .slice Ao27 y228.length co27] (by rfl) rfl rfl lnp ?_
       with_reducible refine (spec_l01Pick.calls g s0_0 t224 t225 _ _ y228 t231 t232 t233 w0 _ ?side1 ?side2 ?side3 ?side4 ?side5 A19.out).mono ?_
       (case side1 => exact st58_0 HI0.out)
       (case side2 => exact bl1 HB.out (IsS58.ge HI0.out))
       (case side3 => repeat (first | exact (Kd.R_reads' HO230.out).2.2 | (with_reducible refine Kd.C_alloc ?_ _) | (with_reducible refine Kd.C_drewN ?_ _) | (with_reducible refine Kd.C_drew ?_)))
       (case side4 => exact (Kd.R_reads' HO230.out).2.1)
       (case side5 => exact far_slice (IsS58.own_ne HI0.out HO230.out (by decide)))
       rintro e w28 ⟨rfl, hi, hb, hk⟩
       have HS0_ := keep_cell hk (hHeld.1) (by first | (rw [add_block]; exact Kd.own_blk (IsS58.own_ne HI0.out HO_8.out (by decide))) | (show (Addr.add _ _).block ≠ _; rw [add_block]; exact Kd.own_blk (IsS58.own_ne HI0.out HO_8.out (by decide))) | exact Kd.own_blk (IsS58.own_ne HI0.out HO_8.out (by decide)))
       have HS1_ := keep_cell hk (hHeld.2) (by first | (rw [add_block]; exact Kd.own_blk (IsS58.own_ne HI0.out HO_8.out (by decide))) | (show (Addr.add _ _).block ≠ _; rw [add_block]; exact Kd.own_blk (IsS58.own_ne HI0.out HO_8.out (by decide))) | exact Kd.own_blk (IsS58.own_ne HI0.out HO_8.out (by decide)))
       refine ⟨_, rfl, ?_⟩
       have n_ := (⟨am (Kd.R_mono (Kd.R_keep (IsS58.apart (show IsS58 w0 _ g s0_0 t224 t225 from st58_0 HI0.out) (rqR HO_8.out) (by decide)) hk (fun _ h => h.2)) (fun _ h => h.1)), am (Kd.R_mono (Kd.R_keep (IsS58.apart (show IsS58 w0 _ g s0_0 t224 t225 from st58_0 HI0.out) (rqR HO230.out) (by decide)) hk (fun _ h => h.2)) (fun _ h => h.1)), am (KeepBut.trans (kb0 HK.out) hk (.inl rfl)), am (hb), am (hi)⟩ : _ ∧ _ ∧ _ ∧ _ ∧ _)
       clear HO_8
       clear HO230
       clear HK
       clear HB
       clear HI0
       obtain ⟨HO_8, HO230, HK, HB, HI0⟩ := n_
       (try clear hb)
       (try clear hb2)
       (try clear hk)
       (try clear hi)
       have p20 : 0 ≤ (t220 : Int) := of_decide_eq_true (by first | (with_reducible assumption) | assumption)
       have q20 : (t220 : Int) < ((x8_3.length : Int) : Int) := of_decide_eq_true (by first | (with_reducible assumption) | assumption)
       obtain ⟨go20, co20, eo20, gb20, gl20, cl20, HG20⟩ := Kd.R_form HO_8.out (by omega)
       (first | cases eo20 | (injection eo20 with ea_ en_ ec_; (first | subst ea_ | (injection ea_ with ea_; subst ea_)); subst ec_; clear en_))
       have GB20 := Aside0.mk gb20
       have GG20 := Aside0.mk HG20
       clear gb20 gl20 HG20
       (first | simp only [add_plain] at hx226_0 | skip)
       (first | simp only [add_plain] at hx227_0 | skip)
       obtain ⟨hx20_0, hf20_0⟩ := Kd.R_celln 0 HO_8.out (t220 : Int) p20 q20
       replace p20 := eq_true p20
       replace q20 := eq_true q20
       have HN0_go20 := am (show g ≠ go20 from by have h_ := IsS58.own_ne HI0.out HO_8.out (by decide); intro e_; exact h_ (by rw [e_]; rfl))
       have HP29 := Kd.R_putn HO_8.out (t220 : Int) t231
       rw [← Ny234.out] at HP29
       have HQ29 := Aside0.mk HP29
       clear HP29
       refine hK.out _ _ ⟨HS0_, HS1_⟩ (fun hHeld => ?_)
       clear hK K
       refine norm_ (a' := ?_) ?_ ?_
       rotate_left
       ·show Act.put _ (some 47) _ = _
        simp only [Act.put, List.setIfInBounds_toArray, List.set_cons_zero, List.set_cons_succ, i64_w, i32_w]
        rfl
       refine pure_ (i := 15) (N := some 48) (v := ?_) (a' := ?_) #[true, true, true, true, true, true, true, true, true, true, true, true, true, true, true, true, false] rfl rfl (any_of HT_.out (by kernel_rfl)) (fun _ _ _ h => h) (Or.inl ⟨by rfl, ?_⟩) ?_ ?_
       rotate_left; (focus exact gs); rotate_left; (focus exact pt)
       refine last_ (i := 16) (N := none) #[true, true, true, true, true, true, true, true, true, true, true, true, true, true, true, true, true] rfl rfl (one_of HT_.out (by kernel_rfl)) (by decide) (fun K hK => ?_)
       refine skip_ (w1 := ?_) (by rfl) rfl ?_ ?_
       rotate_left
       ·go_simp
        rfl
       refine hK.out _ _ ?_
       clear hK K
       refine done_ (done_of HT_.out (by kernel_rfl)) ?_
       try go_wp2
       go_ret3
       exact ⟨_, by first | rfl | (simp [errW_none, errW_some] <;> rfl) | (simp [*, errW_none, errW_some] <;> rfl), by (with_reducible repeat (first | apply Kd.R_alloc | apply Kd.R_drewN | apply Kd.R_drew)); exact Kd.R_mono HQ29.out (fun _ hk => trivial), st58_1 HI0.out HN0_go20.out, bl2 HB.out (Nat.le_trans HL.out GB20.out) (IsS58.ge HI0.out), kb1 HK.out GB20.out⟩
      ·rw [if_neg c18] at H
       exact absurd H (by simp)
     ·rw [if_neg c17] at H
      exact absurd H (by simp)
    ·rw [if_neg c16] at H
     have c16b0 : (t223 == 0) = false := beq_eq_false_iff_ne.mpr c16
     have c16b1 : (t223 != 0) = true := bne_iff_ne.mpr c16
     by_cases c30 : t223 = 1
     ·rw [if_pos c30] at H
      have c30b0 : (t223 == 1) = true := beq_iff_eq.mpr c30
      have c30b1 : (t223 != 1) = false := bne_eq_false_iff_eq.mpr c30
      clear c30
      by_cases c31 : 0 ≤ t220
      ·rw [if_pos c31] at H
       have c31b0 := eq_true c31
       have c31b1 : decide (0 ≤ t220) = true := decide_eq_true c31
       clear c31
       by_cases c32 : t220 ≤ (x8_3.length : Int)
       ·rw [if_pos c32] at H
        have c32b0 := eq_true c32
        have c32b1 : decide (t220 ≤ (x8_3.length : Int)) = true := decide_eq_true c32
        clear c32
        obtain ⟨y235, hy235⟩ : ∃ y_ : List Int, y_ = (x8_3.take (t220 : Int).toNat) := ⟨_, rfl⟩
        replace H : (some (t206, t207, y235, t224, t225)) = some (r1, r2, r3, r4, r5) := by first | (rw [hy235]; with_reducible exact H) | (have H2_ := (Option.bind_some _ _).symm.trans H; rw [hy235]; with_reducible exact H2_) | (have H2_ := (Option.bind_some _ _).symm.trans H; with_reducible exact H2_) | with_reducible exact H | (rw [hy235]; exact H) | exact H
        have Ny235 := Aside0.mk hy235
        clear hy235
        simp only [Option.some.injEq, Prod.mk.injEq] at H
        obtain ⟨rfl, rfl, rfl, rfl, rfl⟩ := H
        obtain ⟨Ao33, co33, eo33⟩ := Kd.R_slice HO_8.out
        subst eo33
        go_wp2_with (first | ((with_reducible refine gate_callee (f := 24) rfl ?_); refine goesL_ (some 28) rfl rfl Tryd.func24 (by kernel_rfl) rfl #[.pointer (some ⟨g, 0, none⟩), .int .i64 (x8_3.length : Int)] rfl lnp ?_; (with_reducible refine (spec_l01Next.calls g s0_0 t211 t212 (x8_3.length : Int) t220 t221 t222 w0 _ ?side1 ?side2 A14.out).mono ?_); (case side1 => exact st58_0 HI0.out); (case side2 => exact bl1 HB.out (IsS58.ge HI0.out)); rintro e w34 ⟨rfl, hi, hb, hk⟩; refine ⟨_, rfl, ?_⟩; have n_ := (⟨am (Kd.R_mono (Kd.R_keep (IsS58.apart (show IsS58 w0 _ g s0_0 t211 t212 from st58_0 HI0.out) (rqR HO_8.out) (by decide)) hk (fun _ h => h.2)) (fun _ h => h.1)), am (KeepBut.trans (kb0 HK.out) hk (.inl rfl)), am (hb), am (hi)⟩ : _ ∧ _ ∧ _ ∧ _); clear HO_8 HK HB HI0; obtain ⟨HO_8, HK, HB, HI0⟩ := n_; (try clear hb); (try clear hb2); (try clear hk); (try clear hi)) | ((with_reducible refine gate_callee (f := 24) rfl ?_); refine goesL_ (some 30) rfl rfl Tryd.func24 (by kernel_rfl) rfl #[.pointer (some ⟨g, 0, none⟩), .int .i64 16] rfl lnp ?_; (with_reducible refine (spec_l01Next.calls g s0_0 t221 t222 16 t223 t224 t225 w0 _ ?side1 ?side2 A15.out).mono ?_); (case side1 => exact st58_0 HI0.out); (case side2 => exact bl1 HB.out (IsS58.ge HI0.out)); rintro e w35 ⟨rfl, hi, hb, hk⟩; refine ⟨_, rfl, ?_⟩; have n_ := (⟨am (Kd.R_mono (Kd.R_keep (IsS58.apart (show IsS58 w0 _ g s0_0 t221 t222 from st58_0 HI0.out) (rqR HO_8.out) (by decide)) hk (fun _ h => h.2)) (fun _ h => h.1)), am (KeepBut.trans (kb0 HK.out) hk (.inl rfl)), am (hb), am (hi)⟩ : _ ∧ _ ∧ _ ∧ _); clear HO_8 HK HB HI0; obtain ⟨HO_8, HK, HB, HI0⟩ := n_; (try clear hb); (try clear hb2); (try clear hk); (try clear hi); have q36 : (t220 : Int) ≤ ((x8_3.length : Int) : Int) := of_decide_eq_true (by first | (with_reducible assumption) | assumption); obtain ⟨i036, hi036, _, hsz36, _⟩ := info_parts info2; have hcut36 := cut_to (P := Tryd.prog) 24 2 .i64 Tryd.underlying24 hi036 Ao33 x8_3.length co33 t220 (of_decide_eq_true (by first | (with_reducible assumption) | assumption)) q36 (Kd.R_reads' HO_8.out).2.1; have hr36 := Kd.R_take (m := (t220 : Int).toNat) HO_8.out (by omega); have hy36 : y235.length = (t220 : Int).toNat := (by rw [Ny235.out, List.length_take]; omega); rw [← Ny235.out] at hr36; rw [← hy36] at hr36 hcut36; clear hy36 hi036 hsz36 HO_8; have HO237 := Aside0.mk hr36; clear hr36; replace q36 := eq_true q36))
        go_ret3
        exact ⟨_, by first | rfl | (simp [errW_none, errW_some] <;> rfl) | (simp [*, errW_none, errW_some] <;> rfl), by (with_reducible repeat (first | apply Kd.R_alloc | apply Kd.R_drewN | apply Kd.R_drew)); exact HO237.out, st58_0 HI0.out, bl1 HB.out (IsS58.ge HI0.out), kb0 HK.out⟩
       ·rw [if_neg c32] at H
        exact absurd H (by simp)
      ·rw [if_neg c31] at H
       exact absurd H (by simp)
     ·rw [if_neg c30] at H
      have c30b0 : (t223 == 1) = false := beq_eq_false_iff_ne.mpr c30
      have c30b1 : (t223 != 1) = true := bne_iff_ne.mpr c30
      simp only [Option.some.injEq, Prod.mk.injEq] at H
      obtain ⟨rfl, rfl, rfl, rfl, rfl⟩ := H
      obtain ⟨Ao37, co37, eo37⟩ := Kd.R_slice HO_8.out
      subst eo37
      go_wp2_with (first | ((with_reducible refine gate_callee (f := 24) rfl ?_); refine goesL_ (some 28) rfl rfl Tryd.func24 (by kernel_rfl) rfl #[.pointer (some ⟨g, 0, none⟩), .int .i64 (x8_3.length : Int)] rfl lnp ?_; (with_reducible refine (spec_l01Next.calls g s0_0 t211 t212 (x8_3.length : Int) t220 t221 t222 w0 _ ?side1 ?side2 A14.out).mono ?_); (case side1 => exact st58_0 HI0.out); (case side2 => exact bl1 HB.out (IsS58.ge HI0.out)); rintro e w38 ⟨rfl, hi, hb, hk⟩; refine ⟨_, rfl, ?_⟩; have n_ := (⟨am (Kd.R_mono (Kd.R_keep (IsS58.apart (show IsS58 w0 _ g s0_0 t211 t212 from st58_0 HI0.out) (rqR HO_8.out) (by decide)) hk (fun _ h => h.2)) (fun _ h => h.1)), am (KeepBut.trans (kb0 HK.out) hk (.inl rfl)), am (hb), am (hi)⟩ : _ ∧ _ ∧ _ ∧ _); clear HO_8 HK HB HI0; obtain ⟨HO_8, HK, HB, HI0⟩ := n_; (try clear hb); (try clear hb2); (try clear hk); (try clear hi)) | ((with_reducible refine gate_callee (f := 24) rfl ?_); refine goesL_ (some 30) rfl rfl Tryd.func24 (by kernel_rfl) rfl #[.pointer (some ⟨g, 0, none⟩), .int .i64 16] rfl lnp ?_; (with_reducible refine (spec_l01Next.calls g s0_0 t221 t222 16 t223 t224 t225 w0 _ ?side1 ?side2 A15.out).mono ?_); (case side1 => exact st58_0 HI0.out); (case side2 => exact bl1 HB.out (IsS58.ge HI0.out)); rintro e w39 ⟨rfl, hi, hb, hk⟩; refine ⟨_, rfl, ?_⟩; have n_ := (⟨am (Kd.R_mono (Kd.R_keep (IsS58.apart (show IsS58 w0 _ g s0_0 t221 t222 from st58_0 HI0.out) (rqR HO_8.out) (by decide)) hk (fun _ h => h.2)) (fun _ h => h.1)), am (KeepBut.trans (kb0 HK.out) hk (.inl rfl)), am (hb), am (hi)⟩ : _ ∧ _ ∧ _ ∧ _); clear HO_8 HK HB HI0; obtain ⟨HO_8, HK, HB, HI0⟩ := n_; (try clear hb); (try clear hb2); (try clear hk); (try clear hi)))
      go_ret3
      exact ⟨_, by first | rfl | (simp [errW_none, errW_some] <;> rfl) | (simp [*, errW_none, errW_some] <;> rfl), by (with_reducible repeat (first | apply Kd.R_alloc | apply Kd.R_drewN | apply Kd.R_drew)); exact HO_8.out, st58_0 HI0.out, bl1 HB.out (IsS58.ge HI0.out), kb0 HK.out⟩
   ·rw [if_neg c13] at H
    have c13b0 : decide (0 < (x8_3.length : Int)) = false := decide_eq_false c13
    have c13b1 : decide (0 < x8_3.length) = false := decide_eq_false (by omega)
    clear c13
    simp only [Option.some.injEq, Prod.mk.injEq] at H
    obtain ⟨rfl, rfl, rfl, rfl, rfl⟩ := H
    obtain ⟨Ao40, co40, eo40⟩ := Kd.R_slice HO_8.out
    subst eo40
    go_wp2
    go_ret3
    exact ⟨_, by first | rfl | (simp [errW_none, errW_some] <;> rfl) | (simp [*, errW_none, errW_some] <;> rfl), by (with_reducible repeat (first | apply Kd.R_alloc | apply Kd.R_drewN | apply Kd.R_drew)); exact HO_8.out, st58_0 HI0.out, bl1 HB.out (IsS58.ge HI0.out), kb0 HK.out⟩

end Go.Proofs.YtfijcffhkobhbaaDoor.PFnDiagnosed
