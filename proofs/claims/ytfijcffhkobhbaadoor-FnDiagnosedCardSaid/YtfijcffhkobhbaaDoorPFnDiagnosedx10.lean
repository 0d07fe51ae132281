-- Laid by wip/mk/mk.py out of the translation. Not trusted: Lean checks it.
import Derived.Test.YtfijcffhkobhbaaDoorPFnDiagnosedx0
import Derived.Test.YtfijcffhkobhbaaDoorPFnDiagnosedx1
import Derived.Test.YtfijcffhkobhbaaDoorPFnDiagnosedx3
import Derived.Test.YtfijcffhkobhbaaDoorPFnDiagnosedx7
import Derived.Test.YtfijcffhkobhbaaDoorPFnDiagnosedx8
import Derived.Test.YtfijcffhkobhbaaDoorPFnDiagnosedx9
namespace Go.Proofs.YtfijcffhkobhbaaDoor.PFnDiagnosed
open Go.RowKit Go.Proofs.YtfijcffhkobhbaaDoorW.PrintWords Go.Proofs.YtfijcffhkobhbaaDoorW.PrintLast Go.Proofs.YtfijcffhkobhbaaDoorW.PrintMore
attribute [local go_sem] max2_int min2_int max_two min_two max_three min_three max_four min_four   -- for this text's walks alone
set_option linter.unusedVariables false
set_option maxHeartbeats 8000000
set_option maxRecDepth 100000
set_option linter.unusedSimpArgs false

/-! ### spec_DiagnosePages: function 7 -/
def spec_DiagnosePages.f (k : Nat) (a0 : Int) (a1 : Int) (l2 : List Int) : Option (List Int × Int) := (spec_l28Block.f k a0 a1 l2).bind fun bt400 => (if bt400.2 = 0 then ((spec_ExplainBlock.f k a0 bt400.1).bind fun bt404 => (if bt404.2 = 0 then (some (bt404.1, 0)) else (some (([] : List Int), 5)))) else (some (([] : List Int), bt400.2)))
theorem spec_DiagnosePages.mono : ∀ a0 a1 a2 k, LeO (spec_DiagnosePages.f k a0 a1 a2) (spec_DiagnosePages.f (k + 1) a0 a1 a2) := by
 intro a0 a1 a2 k
 unfold spec_DiagnosePages.f
 repeat' first | (with_reducible first | exact spec_ExplainBlock.mono _ _ _ | exact spec_l28Block.mono _ _ _ _ | exact LeO.refl _ | exact LeO.none _ | refine LeO.ite ?_ ?_ | refine LeO.bind ?_ (fun _ => ?_)) | exact spec_ExplainBlock.mono _ _ _ | exact spec_l28Block.mono _ _ _ _ | exact LeO.none _ | refine LeO.ite ?_ ?_ | refine LeO.bind ?_ (fun _ => ?_)
theorem spec_DiagnosePages.calls (k : Nat) (a0 : Int) (a1 : Int) (A2 : Option Addr) (c2 : Nat) (l2 : List Int) (r1 : List Int) (r2 : Int) (w : World) (hr2 : Kd.C (Kd.int .i64) w A2 l2.length l2) (hc2 : l2.length ≤ c2) (h : spec_DiagnosePages.f k a0 a1 l2 = some (r1, r2)) :
  Calls Tryd.prog 7 #[.int .i64 a0, .int .i64 a1, .slice A2 l2.length c2] w fun e w' => ∃ v0_ : Value, e = .returned (.tuple #[v0_, .int .i64 r2]) ∧ Kd.R (Kd.int .i64) 2 w' w.heap.size (fun _ => True) v0_ r1 ∧ Below w.heap.size w w' := by
 have HR2 := Aside0.mk hr2
 have HC2 := Aside0.mk hc2
 clear hr2 hc2
 have HB := am (Below.refl w.heap.size w)
 have H : ((spec_l28Block.f k a0 a1 l2).bind fun bt400 => (if bt400.2 = 0 then ((spec_ExplainBlock.f k a0 bt400.1).bind fun bt404 => (if bt404.2 = 0 then (some (bt404.1, 0)) else (some (([] : List Int), 5)))) else (some (([] : List Int), bt400.2)))) = some (r1, r2) := h
 clear h
 replace H := Option.bind_eq_some_iff.mp H
 obtain ⟨⟨t400, t401⟩, A40, H⟩ := H
 replace H : (if t401 = 0 then ((spec_ExplainBlock.f k a0 t400).bind fun bt404 => (if bt404.2 = 0 then (some (bt404.1, 0)) else (some (([] : List Int), 5)))) else (some (([] : List Int), t401))) = some (r1, r2) := H
 have A4 := Aside0.mk A40
 clear A40
 by_cases c5 : t401 = 0
 ·rw [if_pos c5] at H
  have c5b0 : (t401 == 0) = true := beq_iff_eq.mpr c5
  have c5b1 : (t401 != 0) = false := bne_eq_false_iff_eq.mpr c5
  clear c5
  replace H := Option.bind_eq_some_iff.mp H
  obtain ⟨⟨t404, t405⟩, A60, H⟩ := H
  replace H : (if t405 = 0 then (some (t404, 0)) else (some (([] : List Int), 5))) = some (r1, r2) := H
  have A6 := Aside0.mk A60
  clear A60
  by_cases c7 : t405 = 0
  ·rw [if_pos c7] at H
   have c7b0 : (t405 == 0) = true := beq_iff_eq.mpr c7
   have c7b1 : (t405 != 0) = false := bne_eq_false_iff_eq.mpr c7
   clear c7
   simp only [Option.some.injEq, Prod.mk.injEq] at H
   obtain ⟨rfl, rfl⟩ := H
   go_enter Tryd.func7, Tryd.ntmps7
   go_wp2_with (first | ((with_reducible refine gate_callee (f := 20) rfl ?_); refine goesL_ (some 16) rfl rfl Tryd.func20 (by kernel_rfl) rfl #[.int .i64 a0, .int .i64 a1, .slice A2 l2.length c2] rfl lnp ?_; (with_reducible refine (spec_l28Block.calls k a0 a1 _ _ l2 t400 t401 _ ?side1 ?side2 A4.out).mono ?_); (case side1 => repeat (first | exact HR2.out | (with_reducible refine Kd.C_alloc ?_ _) | (with_reducible refine Kd.C_drewN ?_ _) | (with_reducible refine Kd.C_drew ?_))); (case side2 => exact HC2.out); rintro e w8 ⟨v402, rfl, ho0, hb⟩; refine ⟨_, rfl, ?_⟩; have n_ := (⟨am (Kd.R_lower ho0 (below_size (bl0 HB.out))), am (below_step (bl0 HB.out) hb)⟩ : _ ∧ _); clear HB; obtain ⟨HO403, HB⟩ := n_; (try clear hb); (try clear hb2); (try clear hk); (try clear hi); (try clear ho0); obtain ⟨Ao9, co9, eo9⟩ := Kd.R_slice HO403.out; subst eo9) | ((with_reducible refine gate_callee (f := 21) rfl ?_); refine goesL_ (some 25) rfl rfl Tryd.func21 (by kernel_rfl) rfl #[.int .i64 a0, .slice Ao9 t400.length co9] rfl lnp ?_; (with_reducible refine (spec_ExplainBlock.calls k a0 _ _ t400 t404 t405 _ ?side1 ?side2 A6.out).mono ?_); (case side1 => repeat (first | exact (Kd.R_reads' HO403.out).2.2 | (with_reducible refine Kd.C_alloc ?_ _) | (with_reducible refine Kd.C_drewN ?_ _) | (with_reducible refine Kd.C_drew ?_))); (case side2 => exact (Kd.R_reads' HO403.out).2.1); rintro e w10 ⟨v406, rfl, ho0, hb⟩; refine ⟨_, rfl, ?_⟩; have n_ := (⟨am (Kd.R_elder' (rqR HO403.out) (Kd.R_base ho0) hb), am (Kd.R_lower (Kd.R_new' ho0 (Kd.R_lt (rqR HO403.out))) (below_size (bl0 HB.out))), am (below_step (bl0 HB.out) hb)⟩ : _ ∧ _ ∧ _); clear HO403 HB; obtain ⟨HO403, HO407, HB⟩ := n_; (try clear hb); (try clear hb2); (try clear hk); (try clear hi); (try clear ho0)))
   go_ret2
   exact ⟨_, by first | rfl | (simp [errW_none, errW_some] <;> rfl) | (simp [*, errW_none, errW_some] <;> rfl), by (with_reducible repeat (first | apply Kd.R_alloc | apply Kd.R_drewN | apply Kd.R_drew)); exact Kd.R_mono HO407.out (fun _ hk => trivial), bl0 HB.out⟩
  ·rw [if_neg c7] at H
   have c7b0 : (t405 == 0) = false := beq_eq_false_iff_ne.mpr c7
   have c7b1 : (t405 != 0) = true := bne_iff_ne.mpr c7
   simp only [Option.some.injEq, Prod.mk.injEq] at H
   obtain ⟨rfl, rfl⟩ := H
   go_enter Tryd.func7, Tryd.ntmps7
   go_wp2_with (first | ((with_reducible refine gate_callee (f := 20) rfl ?_); refine goesL_ (some 16) rfl rfl Tryd.func20 (by kernel_rfl) rfl #[.int .i64 a0, .int .i64 a1, .slice A2 l2.length c2] rfl lnp ?_; (with_reducible refine (spec_l28Block.calls k a0 a1 _ _ l2 t400 t401 _ ?side1 ?side2 A4.out).mono ?_); (case side1 => repeat (first | exact HR2.out | (with_reducible refine Kd.C_alloc ?_ _) | (with_reducible refine Kd.C_drewN ?_ _) | (with_reducible refine Kd.C_drew ?_))); (case side2 => exact HC2.out); rintro e w11 ⟨v402, rfl, ho0, hb⟩; refine ⟨_, rfl, ?_⟩; have n_ := (⟨am (Kd.R_lower ho0 (below_size (bl0 HB.out))), am (below_step (bl0 HB.out) hb)⟩ : _ ∧ _); clear HB; obtain ⟨HO403, HB⟩ := n_; (try clear hb); (try clear hb2); (try clear hk); (try clear hi); (try clear ho0); obtain ⟨Ao12, co12, eo12⟩ := Kd.R_slice HO403.out; subst eo12) | ((with_reducible refine gate_callee (f := 21) rfl ?_); refine goesL_ (some 25) rfl rfl Tryd.func21 (by kernel_rfl) rfl #[.int .i64 a0, .slice Ao12 t400.length co12] rfl lnp ?_; (with_reducible refine (spec_ExplainBlock.calls k a0 _ _ t400 t404 t405 _ ?side1 ?side2 A6.out).mono ?_); (case side1 => repeat (first | exact (Kd.R_reads' HO403.out).2.2 | (with_reducible refine Kd.C_alloc ?_ _) | (with_reducible refine Kd.C_drewN ?_ _) | (with_reducible refine Kd.C_drew ?_))); (case side2 => exact (Kd.R_reads' HO403.out).2.1); rintro e w13 ⟨v406, rfl, ho0, hb⟩; refine ⟨_, rfl, ?_⟩; have n_ := (⟨am (Kd.R_elder' (rqR HO403.out) (Kd.R_base ho0) hb), am (Kd.R_lower (Kd.R_new' ho0 (Kd.R_lt (rqR HO403.out))) (below_size (bl0 HB.out))), am (below_step (bl0 HB.out) hb)⟩ : _ ∧ _ ∧ _); clear HO403 HB; obtain ⟨HO403, HO407, HB⟩ := n_; (try clear hb); (try clear hb2); (try clear hk); (try clear hi); (try clear ho0)))
   go_ret2
   exact ⟨_, by first | rfl | (simp [errW_none, errW_some] <;> rfl) | (simp [*, errW_none, errW_some] <;> rfl), by first | exact Kd.R_nil _ _ _ _ _ | exact Kd.N_nil _ _ _ _ _ | exact Kd.V_nil _ _ _ _ _ | exact Kd.Q_nil _ _ _ _ _ | exact Kd.S_nil _ _ _ _ _, bl0 HB.out⟩
 ·rw [if_neg c5] at H
  have c5b0 : (t401 == 0) = false := beq_eq_false_iff_ne.mpr c5
  have c5b1 : (t401 != 0) = true := bne_iff_ne.mpr c5
  simp only [Option.some.injEq, Prod.mk.injEq] at H
  obtain ⟨rfl, rfl⟩ := H
  go_enter Tryd.func7, Tryd.ntmps7
  go_wp2_with (first | ((with_reducible refine gate_callee (f := 20) rfl ?_); refine goesL_ (some 16) rfl rfl Tryd.func20 (by kernel_rfl) rfl #[.int .i64 a0, .int .i64 a1, .slice A2 l2.length c2] rfl lnp ?_; (with_reducible refine (spec_l28Block.calls k a0 a1 _ _ l2 t400 t401 _ ?side1 ?side2 A4.out).mono ?_); (case side1 => repeat (first | exact HR2.out | (with_reducible refine Kd.C_alloc ?_ _) | (with_reducible refine Kd.C_drewN ?_ _) | (with_reducible refine Kd.C_drew ?_))); (case side2 => exact HC2.out); rintro e w14 ⟨v402, rfl, ho0, hb⟩; refine ⟨_, rfl, ?_⟩; have n_ := (⟨am (Kd.R_lower ho0 (below_size (bl0 HB.out))), am (below_step (bl0 HB.out) hb)⟩ : _ ∧ _); clear HB; obtain ⟨HO403, HB⟩ := n_; (try clear hb); (try clear hb2); (try clear hk); (try clear hi); (try clear ho0)))
  go_ret2
  exact ⟨_, by first | rfl | (simp [errW_none, errW_some] <;> rfl) | (simp [*, errW_none, errW_some] <;> rfl), by first | exact Kd.R_nil _ _ _ _ _ | exact Kd.N_nil _ _ _ _ _ | exact Kd.V_nil _ _ _ _ _ | exact Kd.Q_nil _ _ _ _ _ | exact Kd.S_nil _ _ _ _ _, bl0 HB.out⟩

/-! ### impl_rightBlock: function 23 -/
def impl_rightBlock.l0 : Nat → List Int → Int → Int → Option (List Int)
 | 0, _, _, _ => none
 | k + 1, x3, x6, x7 => if x7 < x6 then (if x3.length < 17592186044416 then (impl_rightBlock.l0 k (x3 ++ [wrap64 (x7 + 1)]) x6 (wrap64 (x7 + 1))) else (none)) else (some x3)
def impl_rightBlock.f (k : Nat) (a0 : Int) : Option (List Int) := impl_rightBlock.l0 k (([] : List Int)) a0 0
theorem impl_rightBlock.mono_l : ∀ k, (∀ y0 y1 y2, LeO (impl_rightBlock.l0 k y0 y1 y2) (impl_rightBlock.l0 (k + 1) y0 y1 y2))
 | 0 => fun _ _ _ r h => by simp [impl_rightBlock.l0] at h
 | k + 1 => by
  have ih0 := impl_rightBlock.mono_l k
  ·intro y0 y1 y2
   unfold impl_rightBlock.l0
   repeat' first | (with_reducible first | exact ih0 _ _ _ | exact LeO.refl _ | exact LeO.none _ | refine LeO.ite ?_ ?_ | refine LeO.bind ?_ (fun _ => ?_)) | exact ih0 _ _ _ | exact LeO.none _ | refine LeO.ite ?_ ?_ | refine LeO.bind ?_ (fun _ => ?_)
theorem impl_rightBlock.mono : ∀ a0 k, LeO (impl_rightBlock.f k a0) (impl_rightBlock.f (k + 1) a0) := by
 intro a0 k
 have ih0 := impl_rightBlock.mono_l k
 unfold impl_rightBlock.f
 repeat' first | (with_reducible first | exact ih0 _ _ _ | exact LeO.refl _ | exact LeO.none _ | refine LeO.ite ?_ ?_ | refine LeO.bind ?_ (fun _ => ?_)) | exact ih0 _ _ _ | exact LeO.none _ | refine LeO.ite ?_ ?_ | refine LeO.bind ?_ (fun _ => ?_)
theorem impl_rightBlock.calls (k : Nat) (a0 : Int) (r : List Int) (w : World) (h : impl_rightBlock.f k a0 = some r) :
  Calls Tryd.prog 23 #[.int .i64 a0] w fun e w' => ∃ v0_ : Value, e = .returned (v0_) ∧ Kd.R (Kd.int .i64) 2 w' w.heap.size (fun _ => True) v0_ r ∧ Below w.heap.size w w' := by
 have HB := am (Below.refl w.heap.size w)
 have H : (impl_rightBlock.l0 k (([] : List Int)) a0 0) = some r := h
 clear h
 obtain ⟨y408, hy408⟩ : ∃ y_ : List Int, y_ = (([] : List Int)) := ⟨_, rfl⟩
 replace H : (impl_rightBlock.l0 k y408 a0 0) = some r := by first | (rw [hy408]; with_reducible exact H) | (have H2_ := (Option.bind_some _ _).symm.trans H; rw [hy408]; with_reducible exact H2_) | (have H2_ := (Option.bind_some _ _).symm.trans H; with_reducible exact H2_) | with_reducible exact H | (rw [hy408]; exact H) | exact H
 have Ny408 := Aside0.mk hy408
 clear hy408
 have H' := Aside0.mk H
 clear H
 go_enter Tryd.func23, Tryd.ntmps23
 go_wp2_with (first | ((with_reducible refine gate_dst (N := 5) rfl ?_); refine Kd.R_lit (Kd.int .i64) _ 2 ?hg (N := 5) ?hd (xs := ([] : List Int)) (inner := []) (ok := fun _ => True) (okp := fun _ => True) ?hr ?hp (fun _ hk => hk) trivial (Below.refl _ _) (Nat.le_refl _) (by simp) ?_; (case hd => rfl); (case hg => rfl); (case hr => first | (go_simp; done) | (go_simp; rfl)); (case hp => exact (Reps.none _ _)); intro v409 w2 ho3 hb hg_ hnew_; clear hg_ hnew_; (first | rw [← Ny408.out] at ho3 | (simp only [Int.reduceToNat] at ho3; rw [← Ny408.out] at ho3)); have n_ := (⟨am (Kd.R_lower ho3 (below_size (bl0 HB.out))), am (below_step (bl0 HB.out) hb)⟩ : _ ∧ _); clear HB; obtain ⟨HO410, HB⟩ := n_; clear hb ho3))
 go_loopg [3, 7] k (fun kq v3 v7 w' => ∃ (x3_1 : List Int) (x7_1 : Int), v7 = .int .i64 x7_1 ∧ Aside0 (impl_rightBlock.l0 kq x3_1 a0 x7_1 = some r) ∧ Aside0 (kq ≤ k) ∧ Aside0 (Kd.R (Kd.int .i64) 2 w' w.heap.size (fun _ => True) v3 x3_1) ∧ Aside0 (Below w.heap.size w w'))
 case atStart => exact ⟨(y408), (0), (by first | rfl | (simp; done) | (simp [*]; done)), H', ⟨Nat.le_refl _⟩, ⟨by (with_reducible repeat (first | apply Kd.R_alloc | apply Kd.R_drewN | apply Kd.R_drew)); exact HO410.out⟩, ⟨bl0 HB.out⟩⟩
 case round =>
  clear H'
  try clear c2
  try clear p2
  obtain ⟨x3_1, x7_1, rfl, HA, HK1, HO_3, HB⟩ := hrel
  cases gk with
  | zero => exact absurd HA.out (by simp [impl_rightBlock.l0])
  | succ k1 =>
   have H := HA.out
   clear HA
   simp only [impl_rightBlock.l0] at H
   by_cases c4 : x7_1 < a0
   ·rw [if_pos c4] at H
    have c4b0 : decide (x7_1 < a0) = true := decide_eq_true c4
    clear c4
    by_cases c5 : x3_1.length < 17592186044416
    ·rw [if_pos c5] at H
     have LMc5 := Aside0.mk c5
     clear c5
     obtain ⟨y411, hy411⟩ : ∃ y_ : List Int, y_ = (x3_1 ++ [wrap64 (x7_1 + 1)]) := ⟨_, rfl⟩
     replace H : (impl_rightBlock.l0 k1 y411 a0 (wrap64 (x7_1 + 1))) = some r := by first | (rw [hy411]; with_reducible exact H) | (have H2_ := (Option.bind_some _ _).symm.trans H; rw [hy411]; with_reducible exact H2_) | (have H2_ := (Option.bind_some _ _).symm.trans H; with_reducible exact H2_) | with_reducible exact H | (rw [hy411]; exact H) | exact H
     have Ny411 := Aside0.mk hy411
     clear hy411
     have H' := Aside0.mk H
     clear H
     go_wp2_with (first | ((with_reducible refine gate_builtin (b := .append) (xs := #[.tmp 10, .tmp 13]) rfl ?_); at_builtin; refine Kd.R_append (Kd.int .i64) (w0 := w) w.heap.size rfl (.tmp 10) (.tmp 13) 24 2 (.int .i64 0) 8 rfl Tryd.underlying24 info2 rfl (by decide) (by omega) u3 x3_1 (wrap64 (x7_1 + 1)) [.int .i64 (wrap64 (x7_1 + 1))] (fun _ => True) (fun _ => False) rfl rfl ?aP (fun _ hk => hk.elim) ?aF ?aO ?aB ?aS ?aL ?_; (case aP => exact rfl); (case aB => exact (bl0 HB.out)); (case aF => exact (fun _ _ => trivial)); (case aO => exact (rqR HO_3.out)); (case aS => exact (below_size (bl0 HB.out))); (case aL => have := LMc5.out; omega); intro v412 w6 ho hb hg hat; rw [← Ny411.out] at ho; have n_ := (⟨am (hb), am (ho)⟩ : _ ∧ _); clear HB HO_3; obtain ⟨HB, HO413⟩ := n_; clear ho hb hg hat))
     go_roundg k1
     case measure => have := HK1.out; omega
     case rel => exact ⟨(y411), (wrap64 (x7_1 + 1)), (by first | rfl | (simp; done) | (simp [*]; done)), H', ⟨by have := HK1.out; omega⟩, ⟨by (with_reducible repeat (first | apply Kd.R_alloc | apply Kd.R_drewN | apply Kd.R_drew)); exact HO413.out⟩, ⟨bl0 HB.out⟩⟩
    ·rw [if_neg c5] at H
     exact absurd H (by simp)
   ·rw [if_neg c4] at H
    have c4b0 : decide (x7_1 < a0) = false := decide_eq_false c4
    clear c4
    obtain rfl := Option.some.inj H
    go_wp2
    go_ret
    exact ⟨_, by first | rfl | (simp [errW_none, errW_some] <;> rfl) | (simp [*, errW_none, errW_some] <;> rfl), by (with_reducible repeat (first | apply Kd.R_alloc | apply Kd.R_drewN | apply Kd.R_drew)); exact HO_3.out, bl0 HB.out⟩

/-! ### impl_FirstBadPage: function 8 -/
def impl_FirstBadPage.l0 : Nat → List Int → List Int → Int → Int → Option (Int × Int)
 | 0, _, _, _, _ => none
 | k + 1, x2, x10, x30, x31 => if x31 < x30 then (if x31 ≥ (x2.length : Int) then (some (x31, 0)) else (if x31 ≥ (x10.length : Int) then (some (x31, 0)) else (if 0 ≤ x31 then (if x31 < (x2.length : Int) then (if x31 < (x10.length : Int) then (if (rd x2 x31) = (rd x10 x31) then (impl_FirstBadPage.l0 k x2 x10 x30 (wrap64 (x31 + 1))) else (some (x31, 0))) else (none)) else (none)) else (none)))) else (some (0, 5))
def impl_FirstBadPage.f (k : Nat) (a0 : Int) (a1 : Int) (l2 : List Int) : Option (Int × Int) := (impl_blockOfPages.f k a0 a1 l2).bind fun bt414 => (if bt414.2 = 0 then ((impl_rightBlock.f k a0).bind fun t418 => ((impl_pagesOfBlock.f k a1 t418).bind fun t421 => (impl_FirstBadPage.l0 k l2 t421 (mx (l2.length : Int) (t421.length : Int)) 0))) else (some (0, bt414.2)))
theorem impl_FirstBadPage.mono_l : ∀ k, (∀ y0 y1 y2 y3, LeO (impl_FirstBadPage.l0 k y0 y1 y2 y3) (impl_FirstBadPage.l0 (k + 1) y0 y1 y2 y3))
 | 0 => fun _ _ _ _ r h => by simp [impl_FirstBadPage.l0] at h
 | k + 1 => by
  have ih0 := impl_FirstBadPage.mono_l k
  ·intro y0 y1 y2 y3
   unfold impl_FirstBadPage.l0
   repeat' first | (with_reducible first | exact ih0 _ _ _ _ | exact impl_blockOfPages.mono _ _ _ _ | exact impl_pagesOfBlock.mono _ _ _ | exact impl_rightBlock.mono _ _ | exact LeO.refl _ | exact LeO.none _ | refine LeO.ite ?_ ?_ | refine LeO.bind ?_ (fun _ => ?_)) | exact ih0 _ _ _ _ | exact impl_blockOfPages.mono _ _ _ _ | exact impl_pagesOfBlock.mono _ _ _ | exact impl_rightBlock.mono _ _ | exact LeO.none _ | refine LeO.ite ?_ ?_ | refine LeO.bind ?_ (fun _ => ?_)
theorem impl_FirstBadPage.mono : ∀ a0 a1 a2 k, LeO (impl_FirstBadPage.f k a0 a1 a2) (impl_FirstBadPage.f (k + 1) a0 a1 a2) := by
 intro a0 a1 a2 k
 have ih0 := impl_FirstBadPage.mono_l k
 unfold impl_FirstBadPage.f
 repeat' first | (with_reducible first | exact ih0 _ _ _ _ | exact impl_blockOfPages.mono _ _ _ _ | exact impl_pagesOfBlock.mono _ _ _ | exact impl_rightBlock.mono _ _ | exact LeO.refl _ | exact LeO.none _ | refine LeO.ite ?_ ?_ | refine LeO.bind ?_ (fun _ => ?_)) | exact ih0 _ _ _ _ | exact impl_blockOfPages.mono _ _ _ _ | exact impl_pagesOfBlock.mono _ _ _ | exact impl_rightBlock.mono _ _ | exact LeO.none _ | refine LeO.ite ?_ ?_ | refine LeO.bind ?_ (fun _ => ?_)
theorem impl_FirstBadPage.calls (k : Nat) (a0 : Int) (a1 : Int) (A2 : Option Addr) (c2 : Nat) (l2 : List Int) (r1 : Int) (r2 : Int) (w : World) (hr2 : Kd.C (Kd.int .i64) w A2 l2.length l2) (hc2 : l2.length ≤ c2) (h : impl_FirstBadPage.f k a0 a1 l2 = some (r1, r2)) :
  Calls Tryd.prog 8 #[.int .i64 a0, .int .i64 a1, .slice A2 l2.length c2] w fun e w' => e = .returned (.tuple #[.int .i64 r1, .int .i64 r2]) ∧ Below w.heap.size w w' := by
 have HR2 := Aside0.mk hr2
 have HC2 := Aside0.mk hc2
 clear hr2 hc2
 have HB := am (Below.refl w.heap.size w)
 have H : ((impl_blockOfPages.f k a0 a1 l2).bind fun bt414 => (if bt414.2 = 0 then ((impl_rightBlock.f k a0).bind fun t418 => ((impl_pagesOfBlock.f k a1 t418).bind fun t421 => (impl_FirstBadPage.l0 k l2 t421 (mx (l2.length : Int) (t421.length : Int)) 0))) else (some (0, bt414.2)))) = some (r1, r2) := h
 clear h
 replace H := Option.bind_eq_some_iff.mp H
 obtain ⟨⟨t414, t415⟩, A40, H⟩ := H
 replace H : (if t415 = 0 then ((impl_rightBlock.f k a0).bind fun t418 => ((impl_pagesOfBlock.f k a1 t418).bind fun t421 => (impl_FirstBadPage.l0 k l2 t421 (mx (l2.length : Int) (t421.length : Int)) 0))) else (some (0, t415))) = some (r1, r2) := H
 have A4 := Aside0.mk A40
 clear A40
 by_cases c5 : t415 = 0
 ·rw [if_pos c5] at H
  have c5b0 : (t415 == 0) = true := beq_iff_eq.mpr c5
  have c5b1 : (t415 != 0) = false := bne_eq_false_iff_eq.mpr c5
  clear c5
  replace H := Option.bind_eq_some_iff.mp H
  obtain ⟨t418, A60, H⟩ := H
  replace H : ((impl_pagesOfBlock.f k a1 t418).bind fun t421 => (impl_FirstBadPage.l0 k l2 t421 (mx (l2.length : Int) (t421.length : Int)) 0)) = some (r1, r2) := H
  have A6 := Aside0.mk A60
  clear A60
  replace H := Option.bind_eq_some_iff.mp H
  obtain ⟨t421, A70, H⟩ := H
  replace H : (impl_FirstBadPage.l0 k l2 t421 (mx (l2.length : Int) (t421.length : Int)) 0) = some (r1, r2) := H
  have A7 := Aside0.mk A70
  clear A70
  obtain ⟨ji8, hji8⟩ : ∃ j_ : Int, (mx (l2.length : Int) (t421.length : Int)) = j_ := ⟨_, rfl⟩
  replace H : (impl_FirstBadPage.l0 k l2 t421 ji8 0) = some (r1, r2) := by first | (rw [hji8] at H; exact H) | (simp only [hji8] at H ⊢; exact H)
  (try rw [hji8] at A4)
  (try rw [hji8] at A6)
  (try rw [hji8] at A7)
  (try (have hji8l : 0 ≤ ji8 := by (rw [← hji8]; unfold mx; (repeat' split) <;> omega)))
  (try (have hji8m : 0 ≤ ji8 := by omega))
  have hji8_ : (if (l2.length : Int) < (t421.length : Int) then (t421.length : Int) else (l2.length : Int)) = ji8 := hji8
  have hji8n : (if l2.length < t421.length then (t421.length : Int) else (l2.length : Int)) = ji8 := by rw [← hji8]; unfold mx; (repeat' split) <;> omega
  have H' := Aside0.mk H
  clear H
  go_enter Tryd.func8, Tryd.ntmps8
  go_wp2_with (first | (go_at_call 19; (with_reducible refine (impl_blockOfPages.calls k a0 a1 _ _ l2 t414 t415 _ ?side1 ?side2 A4.out).mono ?_); (case side1 => repeat (first | exact HR2.out | (with_reducible refine Kd.C_alloc ?_ _) | (with_reducible refine Kd.C_drewN ?_ _) | (with_reducible refine Kd.C_drew ?_))); (case side2 => exact HC2.out); rintro e w9 ⟨v416, rfl, ho0, hb⟩; have n_ := (⟨am (Kd.R_lower ho0 (below_size (bl0 HB.out))), am (below_step (bl0 HB.out) hb)⟩ : _ ∧ _); clear HB; obtain ⟨HO417, HB⟩ := n_; (try clear hb); (try clear hb2); (try clear hk); (try clear hi); (try clear ho0)) | (go_at_call 23; (with_reducible refine (impl_rightBlock.calls k a0 t418 _ A6.out).mono ?_); rintro e w10 ⟨v419, rfl, ho0, hb⟩; have n_ := (⟨am (Kd.R_elder' (rqR HO417.out) (Kd.R_base ho0) hb), am (Kd.R_lower (Kd.R_new' ho0 (Kd.R_lt (rqR HO417.out))) (below_size (bl0 HB.out))), am (below_step (bl0 HB.out) hb)⟩ : _ ∧ _ ∧ _); clear HO417 HB; obtain ⟨HO417, HO420, HB⟩ := n_; (try clear hb); (try clear hb2); (try clear hk); (try clear hi); (try clear ho0); obtain ⟨Ao11, co11, eo11⟩ := Kd.R_slice HO420.out; subst eo11) | (go_at_call 22; (with_reducible refine (impl_pagesOfBlock.calls k a1 _ _ t418 t421 _ ?side1 ?side2 A7.out).mono ?_); (case side1 => repeat (first | exact (Kd.R_reads' HO420.out).2.2 | (with_reducible refine Kd.C_alloc ?_ _) | (with_reducible refine Kd.C_drewN ?_ _) | (with_reducible refine Kd.C_drew ?_))); (case side2 => exact (Kd.R_reads' HO420.out).2.1); rintro e w12 ⟨v422, rfl, ho0, hb⟩; have n_ := (⟨am (Kd.R_elder' (rqR HO417.out) (Kd.R_base ho0) hb), am (Kd.R_elder' (rqR HO420.out) (Kd.R_base ho0) hb), am (Kd.R_lower (Kd.R_new' (Kd.R_new' ho0 (Kd.R_lt (rqR HO417.out))) (Kd.R_lt (rqR HO420.out))) (below_size (bl0 HB.out))), am (below_step (bl0 HB.out) hb)⟩ : _ ∧ _ ∧ _ ∧ _); clear HO417 HO420 HB; obtain ⟨HO417, HO420, HO423, HB⟩ := n_; (try clear hb); (try clear hb2); (try clear hk); (try clear hi); (try clear ho0); obtain ⟨Ao13, co13, eo13⟩ := Kd.R_slice HO423.out; subst eo13))
  repeat (go_quiet (first | (go_at_call 19; (with_reducible refine (impl_blockOfPages.calls k a0 a1 _ _ l2 t414 t415 _ ?side1 ?side2 A4.out).mono ?_); (case side1 => repeat (first | exact HR2.out | (with_reducible refine Kd.C_alloc ?_ _) | (with_reducible refine Kd.C_drewN ?_ _) | (with_reducible refine Kd.C_drew ?_))); (case side2 => exact HC2.out); rintro e w9 ⟨v416, rfl, ho0, hb⟩; have n_ := (⟨am (Kd.R_lower ho0 (below_size (bl0 HB.out))), am (below_step (bl0 HB.out) hb)⟩ : _ ∧ _); clear HB; obtain ⟨HO417, HB⟩ := n_; (try clear hb); (try clear hb2); (try clear hk); (try clear hi); (try clear ho0)) | (go_at_call 23; (with_reducible refine (impl_rightBlock.calls k a0 t418 _ A6.out).mono ?_); rintro e w10 ⟨v419, rfl, ho0, hb⟩; have n_ := (⟨am (Kd.R_elder' (rqR HO417.out) (Kd.R_base ho0) hb), am (Kd.R_lower (Kd.R_new' ho0 (Kd.R_lt (rqR HO417.out))) (below_size (bl0 HB.out))), am (below_step (bl0 HB.out) hb)⟩ : _ ∧ _ ∧ _); clear HO417 HB; obtain ⟨HO417, HO420, HB⟩ := n_; (try clear hb); (try clear hb2); (try clear hk); (try clear hi); (try clear ho0); obtain ⟨Ao11, co11, eo11⟩ := Kd.R_slice HO420.out; subst eo11) | (go_at_call 22; (with_reducible refine (impl_pagesOfBlock.calls k a1 _ _ t418 t421 _ ?side1 ?side2 A7.out).mono ?_); (case side1 => repeat (first | exact (Kd.R_reads' HO420.out).2.2 | (with_reducible refine Kd.C_alloc ?_ _) | (with_reducible refine Kd.C_drewN ?_ _) | (with_reducible refine Kd.C_drew ?_))); (case side2 => exact (Kd.R_reads' HO420.out).2.1); rintro e w12 ⟨v422, rfl, ho0, hb⟩; have n_ := (⟨am (Kd.R_elder' (rqR HO417.out) (Kd.R_base ho0) hb), am (Kd.R_elder' (rqR HO420.out) (Kd.R_base ho0) hb), am (Kd.R_lower (Kd.R_new' (Kd.R_new' ho0 (Kd.R_lt (rqR HO417.out))) (Kd.R_lt (rqR HO420.out))) (below_size (bl0 HB.out))), am (below_step (bl0 HB.out) hb)⟩ : _ ∧ _ ∧ _ ∧ _); clear HO417 HO420 HB; obtain ⟨HO417, HO420, HO423, HB⟩ := n_; (try clear hb); (try clear hb2); (try clear hk); (try clear hi); (try clear ho0); obtain ⟨Ao13, co13, eo13⟩ := Kd.R_slice HO423.out; subst eo13)); try go_wp2_with (first | (go_at_call 19; (with_reducible refine (impl_blockOfPages.calls k a0 a1 _ _ l2 t414 t415 _ ?side1 ?side2 A4.out).mono ?_); (case side1 => repeat (first | exact HR2.out | (with_reducible refine Kd.C_alloc ?_ _) | (with_reducible refine Kd.C_drewN ?_ _) | (with_reducible refine Kd.C_drew ?_))); (case side2 => exact HC2.out); rintro e w9 ⟨v416, rfl, ho0, hb⟩; have n_ := (⟨am (Kd.R_lower ho0 (below_size (bl0 HB.out))), am (below_step (bl0 HB.out) hb)⟩ : _ ∧ _); clear HB; obtain ⟨HO417, HB⟩ := n_; (try clear hb); (try clear hb2); (try clear hk); (try clear hi); (try clear ho0)) | (go_at_call 23; (with_reducible refine (impl_rightBlock.calls k a0 t418 _ A6.out).mono ?_); rintro e w10 ⟨v419, rfl, ho0, hb⟩; have n_ := (⟨am (Kd.R_elder' (rqR HO417.out) (Kd.R_base ho0) hb), am (Kd.R_lower (Kd.R_new' ho0 (Kd.R_lt (rqR HO417.out))) (below_size (bl0 HB.out))), am (below_step (bl0 HB.out) hb)⟩ : _ ∧ _ ∧ _); clear HO417 HB; obtain ⟨HO417, HO420, HB⟩ := n_; (try clear hb); (try clear hb2); (try clear hk); (try clear hi); (try clear ho0); obtain ⟨Ao11, co11, eo11⟩ := Kd.R_slice HO420.out; subst eo11) | (go_at_call 22; (with_reducible refine (impl_pagesOfBlock.calls k a1 _ _ t418 t421 _ ?side1 ?side2 A7.out).mono ?_); (case side1 => repeat (first | exact (Kd.R_reads' HO420.out).2.2 | (with_reducible refine Kd.C_alloc ?_ _) | (with_reducible refine Kd.C_drewN ?_ _) | (with_reducible refine Kd.C_drew ?_))); (case side2 => exact (Kd.R_reads' HO420.out).2.1); rintro e w12 ⟨v422, rfl, ho0, hb⟩; have n_ := (⟨am (Kd.R_elder' (rqR HO417.out) (Kd.R_base ho0) hb), am (Kd.R_elder' (rqR HO420.out) (Kd.R_base ho0) hb), am (Kd.R_lower (Kd.R_new' (Kd.R_new' ho0 (Kd.R_lt (rqR HO417.out))) (Kd.R_lt (rqR HO420.out))) (below_size (bl0 HB.out))), am (below_step (bl0 HB.out) hb)⟩ : _ ∧ _ ∧ _ ∧ _); clear HO417 HO420 HB; obtain ⟨HO417, HO420, HO423, HB⟩ := n_; (try clear hb); (try clear hb2); (try clear hk); (try clear hi); (try clear ho0); obtain ⟨Ao13, co13, eo13⟩ := Kd.R_slice HO423.out; subst eo13)))
  go_loopg [31] k (fun kq v31 w' => ∃ (x31_1 : Int), v31 = .int .i64 x31_1 ∧ Aside0 (impl_FirstBadPage.l0 kq l2 t421 ji8 x31_1 = some (r1, r2)) ∧ Aside0 (kq ≤ k) ∧ Aside0 (Kd.R (Kd.int .i64) 2 w' w.heap.size (fun _ => True) (.slice Ao13 t421.length co13) t421) ∧ Aside0 (Below w.heap.size w w'))
  case atStart => exact ⟨(0), (by first | rfl | (simp; done) | (simp [*]; done)), H', ⟨Nat.le_refl _⟩, ⟨by (with_reducible repeat (first | apply Kd.R_alloc | apply Kd.R_drewN | apply Kd.R_drew)); exact Kd.R_mono HO423.out (fun _ hk => trivial)⟩, ⟨bl0 HB.out⟩⟩
  case round =>
   clear H'
   try clear c2
   try clear p2
   try clear c5
   try clear c5b0
   try clear c5b1
   try clear c8
   obtain ⟨x31_1, rfl, HA, HK1, HO_10, HB⟩ := hrel
   cases gk with
   | zero => exact absurd HA.out (by simp [impl_FirstBadPage.l0])
   | succ k1 =>
    have H := HA.out
    clear HA
    simp only [impl_FirstBadPage.l0] at H
    by_cases c14 : x31_1 < ji8
    ·rw [if_pos c14] at H
     have c14b0 : decide (x31_1 < ji8) = true := decide_eq_true c14
     clear c14
     by_cases c15 : x31_1 ≥ (l2.length : Int)
     ·rw [if_pos c15] at H
      have c15b0 : decide ((l2.length : Int) ≤ x31_1) = true := decide_eq_true c15
      clear c15
      simp only [Option.some.injEq, Prod.mk.injEq] at H
      obtain ⟨rfl, rfl⟩ := H
      go_wp2
      repeat (go_quiet (fail); try go_wp2)
      go_ret2
      exact ⟨by first | rfl | (simp [errW_none, errW_some] <;> rfl) | (simp only [← hji8]; first | rfl | (simp [errW_none, errW_some] <;> rfl)) | (simp [*, errW_none, errW_some] <;> rfl), bl0 HB.out⟩
     ·rw [if_neg c15] at H
      have c15b0 : decide ((l2.length : Int) ≤ x31_1) = false := decide_eq_false c15
      clear c15
      by_cases c16 : x31_1 ≥ (t421.length : Int)
      ·rw [if_pos c16] at H
       have c16b0 : decide ((t421.length : Int) ≤ x31_1) = true := decide_eq_true c16
       clear c16
       simp only [Option.some.injEq, Prod.mk.injEq] at H
       obtain ⟨rfl, rfl⟩ := H
       go_wp2
       repeat (go_quiet (fail); try go_wp2)
       go_ret2
       exact ⟨by first | rfl | (simp [errW_none, errW_some] <;> rfl) | (simp only [← hji8]; first | rfl | (simp [errW_none, errW_some] <;> rfl)) | (simp [*, errW_none, errW_some] <;> rfl), bl0 HB.out⟩
      ·rw [if_neg c16] at H
       have c16b0 : decide ((t421.length : Int) ≤ x31_1) = false := decide_eq_false c16
       clear c16
       by_cases c17 : 0 ≤ x31_1
       ·rw [if_pos c17] at H
        have c17b0 : decide (0 ≤ x31_1) = true := decide_eq_true c17
        clear c17
        by_cases c18 : x31_1 < (l2.length : Int)
        ·rw [if_pos c18] at H
         have c18b0 : decide (x31_1 < (l2.length : Int)) = true := decide_eq_true c18
         clear c18
         by_cases c19 : x31_1 < (t421.length : Int)
         ·rw [if_pos c19] at H
          have c19b0 : decide (x31_1 < (t421.length : Int)) = true := decide_eq_true c19
          clear c19
          by_cases c20 : (rd l2 x31_1) = (rd t421 x31_1)
          ·rw [if_pos c20] at H
           have c20b0 : ((rd l2 x31_1) == (rd t421 x31_1)) = true := beq_iff_eq.mpr c20
           have c20b1 : ((rd l2 x31_1) != (rd t421 x31_1)) = false := bne_eq_false_iff_eq.mpr c20
           clear c20
           have H' := Aside0.mk H
           clear H
           have p424 : 0 ≤ (x31_1 : Int) := of_decide_eq_true (by first | (with_reducible assumption) | assumption)
           have q424 : x31_1 < (l2.length : Int) := of_decide_eq_true (by first | (with_reducible assumption) | assumption)
           obtain ⟨ad424, e424, hx424_0⟩ := Kd.at_int HR2.out x31_1 p424 q424
           cases e424
           replace hx424_0 := (HB.out.cell (World.block_lt_of_cell? w _ hx424_0)).trans hx424_0
           replace p424 := eq_true p424
           replace q424 := eq_true q424
           have p425 : 0 ≤ (x31_1 : Int) := of_decide_eq_true (by first | (with_reducible assumption) | assumption)
           have q425 : x31_1 < (t421.length : Int) := of_decide_eq_true (by first | (with_reducible assumption) | assumption)
           obtain ⟨ad425, e425, hx425_0⟩ := Kd.at_int (Kd.R_reads' HO_10.out).2.2 x31_1 p425 q425
           cases e425
           replace p425 := eq_true p425
           replace q425 := eq_true q425
           go_wp2
           repeat (go_quiet (fail); try go_wp2)
           go_roundg k1
           case measure => have := HK1.out; omega
           case rel => exact ⟨(wrap64 (x31_1 + 1)), (by first | rfl | (simp; done) | (simp [*]; done)), H', ⟨by have := HK1.out; omega⟩, ⟨by (with_reducible repeat (first | apply Kd.R_alloc | apply Kd.R_drewN | apply Kd.R_drew)); exact HO_10.out⟩, ⟨bl0 HB.out⟩⟩
          ·rw [if_neg c20] at H
           have c20b0 : ((rd l2 x31_1) == (rd t421 x31_1)) = false := beq_eq_false_iff_ne.mpr c20
           have c20b1 : ((rd l2 x31_1) != (rd t421 x31_1)) = true := bne_iff_ne.mpr c20
           simp only [Option.some.injEq, Prod.mk.injEq] at H
           obtain ⟨rfl, rfl⟩ := H
           have p424 : 0 ≤ (x31_1 : Int) := of_decide_eq_true (by first | (with_reducible assumption) | assumption)
           have q424 : x31_1 < (l2.length : Int) := of_decide_eq_true (by first | (with_reducible assumption) | assumption)
           obtain ⟨ad424, e424, hx424_0⟩ := Kd.at_int HR2.out x31_1 p424 q424
           cases e424
           replace hx424_0 := (HB.out.cell (World.block_lt_of_cell? w _ hx424_0)).trans hx424_0
           replace p424 := eq_true p424
           replace q424 := eq_true q424
           have p425 : 0 ≤ (x31_1 : Int) := of_decide_eq_true (by first | (with_reducible assumption) | assumption)
           have q425 : x31_1 < (t421.length : Int) := of_decide_eq_true (by first | (with_reducible assumption) | assumption)
           obtain ⟨ad425, e425, hx425_0⟩ := Kd.at_int (Kd.R_reads' HO_10.out).2.2 x31_1 p425 q425
           cases e425
           replace p425 := eq_true p425
           replace q425 := eq_true q425
           go_wp2
           repeat (go_quiet (fail); try go_wp2)
           go_ret2
           exact ⟨by first | rfl | (simp [errW_none, errW_some] <;> rfl) | (simp only [← hji8]; first | rfl | (simp [errW_none, errW_some] <;> rfl)) | (simp [*, errW_none, errW_some] <;> rfl), bl0 HB.out⟩
         ·rw [if_neg c19] at H
          exact absurd H (by simp)
        ·rw [if_neg c18] at H
         exact absurd H (by simp)
       ·rw [if_neg c17] at H
        exact absurd H (by simp)
    ·rw [if_neg c14] at H
     have c14b0 : decide (x31_1 < ji8) = false := decide_eq_false c14
     clear c14
     simp only [Option.some.injEq, Prod.mk.injEq] at H
     obtain ⟨rfl, rfl⟩ := H
     go_wp2
     repeat (go_quiet (fail); try go_wp2)
     go_ret2
     exact ⟨by first | rfl | (simp [errW_none, errW_some] <;> rfl) | (simp only [← hji8]; first | rfl | (simp [errW_none, errW_some] <;> rfl)) | (simp [*, errW_none, errW_some] <;> rfl), bl0 HB.out⟩
 ·rw [if_neg c5] at H
  have c5b0 : (t415 == 0) = false := beq_eq_false_iff_ne.mpr c5
  have c5b1 : (t415 != 0) = true := bne_iff_ne.mpr c5
  simp only [Option.some.injEq, Prod.mk.injEq] at H
  obtain ⟨rfl, rfl⟩ := H
  go_enter Tryd.func8, Tryd.ntmps8
  go_wp2_with (first | (go_at_call 19; (with_reducible refine (impl_blockOfPages.calls k a0 a1 _ _ l2 t414 t415 _ ?side1 ?side2 A4.out).mono ?_); (case side1 => repeat (first | exact HR2.out | (with_reducible refine Kd.C_alloc ?_ _) | (with_reducible refine Kd.C_drewN ?_ _) | (with_reducible refine Kd.C_drew ?_))); (case side2 => exact HC2.out); rintro e w21 ⟨v416, rfl, ho0, hb⟩; have n_ := (⟨am (Kd.R_lower ho0 (below_size (bl0 HB.out))), am (below_step (bl0 HB.out) hb)⟩ : _ ∧ _); clear HB; obtain ⟨HO417, HB⟩ := n_; (try clear hb); (try clear hb2); (try clear hk); (try clear hi); (try clear ho0)))
  repeat (go_quiet (first | (go_at_call 19; (with_reducible refine (impl_blockOfPages.calls k a0 a1 _ _ l2 t414 t415 _ ?side1 ?side2 A4.out).mono ?_); (case side1 => repeat (first | exact HR2.out | (with_reducible refine Kd.C_alloc ?_ _) | (with_reducible refine Kd.C_drewN ?_ _) | (with_reducible refine Kd.C_drew ?_))); (case side2 => exact HC2.out); rintro e w21 ⟨v416, rfl, ho0, hb⟩; have n_ := (⟨am (Kd.R_lower ho0 (below_size (bl0 HB.out))), am (below_step (bl0 HB.out) hb)⟩ : _ ∧ _); clear HB; obtain ⟨HO417, HB⟩ := n_; (try clear hb); (try clear hb2); (try clear hk); (try clear hi); (try clear ho0))); try go_wp2_with (first | (go_at_call 19; (with_reducible refine (impl_blockOfPages.calls k a0 a1 _ _ l2 t414 t415 _ ?side1 ?side2 A4.out).mono ?_); (case side1 => repeat (first | exact HR2.out | (with_reducible refine Kd.C_alloc ?_ _) | (with_reducible refine Kd.C_drewN ?_ _) | (with_reducible refine Kd.C_drew ?_))); (case side2 => exact HC2.out); rintro e w21 ⟨v416, rfl, ho0, hb⟩; have n_ := (⟨am (Kd.R_lower ho0 (below_size (bl0 HB.out))), am (below_step (bl0 HB.out) hb)⟩ : _ ∧ _); clear HB; obtain ⟨HO417, HB⟩ := n_; (try clear hb); (try clear hb2); (try clear hk); (try clear hi); (try clear ho0))))
  go_ret2
  exact ⟨er, bl0 HB.out⟩

/-! ### spec_FirstBadPage: function 9 -/
def spec_FirstBadPage.l0 : Nat → Int → Int → List Int → Int → Option (Int × Int)
 | 0, _, _, _, _ => none
 | k + 1, x0, x1, x2, x10 => if x10 < (mx (wrap64 (x0 * x1)) (x2.length : Int)) then (if x10 ≥ (wrap64 (x0 * x1)) then (some (x10, 0)) else (if x10 ≥ (x2.length : Int) then (some (x10, 0)) else (if 0 ≤ x10 then (if x10 < (x2.length : Int) then (if (rd x2 x10) = (wrap64 (x10 + 1)) then (spec_FirstBadPage.l0 k x0 x1 x2 (wrap64 (x10 + 1))) else (some (x10, 0))) else (none)) else (none)))) else (some (0, 5))
def spec_FirstBadPage.f (k : Nat) (a0 : Int) (a1 : Int) (l2 : List Int) : Option (Int × Int) := (spec_l28Block.f k a0 a1 l2).bind fun bt426 => (if bt426.2 = 0 then (spec_FirstBadPage.l0 k a0 a1 l2 0) else (some (0, bt426.2)))
theorem spec_FirstBadPage.mono_l : ∀ k, (∀ y0 y1 y2 y3, LeO (spec_FirstBadPage.l0 k y0 y1 y2 y3) (spec_FirstBadPage.l0 (k + 1) y0 y1 y2 y3))
 | 0 => fun _ _ _ _ r h => by simp [spec_FirstBadPage.l0] at h
 | k + 1 => by
  have ih0 := spec_FirstBadPage.mono_l k
  ·intro y0 y1 y2 y3
   unfold spec_FirstBadPage.l0
   repeat' first | (with_reducible first | exact ih0 _ _ _ _ | exact spec_l28Block.mono _ _ _ _ | exact LeO.refl _ | exact LeO.none _ | refine LeO.ite ?_ ?_ | refine LeO.bind ?_ (fun _ => ?_)) | exact ih0 _ _ _ _ | exact spec_l28Block.mono _ _ _ _ | exact LeO.none _ | refine LeO.ite ?_ ?_ | refine LeO.bind ?_ (fun _ => ?_)
theorem spec_FirstBadPage.mono : ∀ a0 a1 a2 k, LeO (spec_FirstBadPage.f k a0 a1 a2) (spec_FirstBadPage.f (k + 1) a0 a1 a2) := by
 intro a0 a1 a2 k
 have ih0 := spec_FirstBadPage.mono_l k
 unfold spec_FirstBadPage.f
 repeat' first | (with_reducible first | exact ih0 _ _ _ _ | exact spec_l28Block.mono _ _ _ _ | exact LeO.refl _ | exact LeO.none _ | refine LeO.ite ?_ ?_ | refine LeO.bind ?_ (fun _ => ?_)) | exact ih0 _ _ _ _ | exact spec_l28Block.mono _ _ _ _ | exact LeO.none _ | refine LeO.ite ?_ ?_ | refine LeO.bind ?_ (fun _ => ?_)
theorem spec_FirstBadPage.calls (k : Nat) (a0 : Int) (a1 : Int) (A2 : Option Addr) (c2 : Nat) (l2 : List Int) (r1 : Int) (r2 : Int) (w : World) (hr2 : Kd.C (Kd.int .i64) w A2 l2.length l2) (hc2 : l2.length ≤ c2) (h : spec_FirstBadPage.f k a0 a1 l2 = some (r1, r2)) :
  Calls Tryd.prog 9 #[.int .i64 a0, .int .i64 a1, .slice A2 l2.length c2] w fun e w' => e = .returned (.tuple #[.int .i64 r1, .int .i64 r2]) ∧ Below w.heap.size w w' := by
 have HR2 := Aside0.mk hr2
 have HC2 := Aside0.mk hc2
 clear hr2 hc2
 have HB := am (Below.refl w.heap.size w)
 have H : ((spec_l28Block.f k a0 a1 l2).bind fun bt426 => (if bt426.2 = 0 then (spec_FirstBadPage.l0 k a0 a1 l2 0) else (some (0, bt426.2)))) = some (r1, r2) := h
 clear h
 replace H := Option.bind_eq_some_iff.mp H
 obtain ⟨⟨t426, t427⟩, A40, H⟩ := H
 replace H : (if t427 = 0 then (spec_FirstBadPage.l0 k a0 a1 l2 0) else (some (0, t427))) = some (r1, r2) := H
 have A4 := Aside0.mk A40
 clear A40
 by_cases c5 : t427 = 0
 ·rw [if_pos c5] at H
  have c5b0 : (t427 == 0) = true := beq_iff_eq.mpr c5
  have c5b1 : (t427 != 0) = false := bne_eq_false_iff_eq.mpr c5
  clear c5
  have H' := Aside0.mk H
  clear H
  go_enter Tryd.func9, Tryd.ntmps9
  go_wp2_with (first | ((with_reducible refine gate_callee (f := 20) rfl ?_); refine goesL_ (some 15) rfl rfl Tryd.func20 (by kernel_rfl) rfl #[.int .i64 a0, .int .i64 a1, .slice A2 l2.length c2] rfl lnp ?_; (with_reducible refine (spec_l28Block.calls k a0 a1 _ _ l2 t426 t427 _ ?side1 ?side2 A4.out).mono ?_); (case side1 => repeat (first | exact HR2.out | (with_reducible refine Kd.C_alloc ?_ _) | (with_reducible refine Kd.C_drewN ?_ _) | (with_reducible refine Kd.C_drew ?_))); (case side2 => exact HC2.out); rintro e w6 ⟨v428, rfl, ho0, hb⟩; refine ⟨_, rfl, ?_⟩; have n_ := (⟨am (Kd.R_lower ho0 (below_size (bl0 HB.out))), am (below_step (bl0 HB.out) hb)⟩ : _ ∧ _); clear HB; obtain ⟨HO429, HB⟩ := n_; (try clear hb); (try clear hb2); (try clear hk); (try clear hi); (try clear ho0)))
  go_loopg [10] k (fun kq v10 w' => ∃ (x10_1 : Int), v10 = .int .i64 x10_1 ∧ Aside0 (spec_FirstBadPage.l0 kq a0 a1 l2 x10_1 = some (r1, r2)) ∧ Aside0 (kq ≤ k) ∧ Aside0 (Below w.heap.size w w'))
  case atStart => exact ⟨(0), (by first | rfl | (simp; done) | (simp [*]; done)), H', ⟨Nat.le_refl _⟩, ⟨bl0 HB.out⟩⟩
  case round =>
   clear H'
   try clear c2
   try clear p2
   try clear c5
   try clear c5b0
   try clear c5b1
   obtain ⟨x10_1, rfl, HA, HK1, HB⟩ := hrel
   cases gk with
   | zero => exact absurd HA.out (by simp [spec_FirstBadPage.l0])
   | succ k1 =>
    have H := HA.out
    clear HA
    simp only [spec_FirstBadPage.l0] at H
    obtain ⟨ji7, hji7⟩ : ∃ j_ : Int, (mx (wrap64 (a0 * a1)) (l2.length : Int)) = j_ := ⟨_, rfl⟩
    replace H : (if x10_1 < (ji7) then (if x10_1 ≥ (wrap64 (a0 * a1)) then (some (x10_1, 0)) else (if x10_1 ≥ (l2.length : Int) then (some (x10_1, 0)) else (if 0 ≤ x10_1 then (if x10_1 < (l2.length : Int) then (if (rd l2 x10_1) = (wrap64 (x10_1 + 1)) then (spec_FirstBadPage.l0 k1 a0 a1 l2 (wrap64 (x10_1 + 1))) else (some (x10_1, 0))) else (none)) else (none)))) else (some (0, 5))) = some (r1, r2) := by first | (rw [hji7] at H; exact H) | (simp only [hji7] at H ⊢; exact H)
    have hji7_ : (if (wrap64 (a0 * a1)) < (l2.length : Int) then (l2.length : Int) else (wrap64 (a0 * a1))) = ji7 := hji7
    by_cases c8 : x10_1 < (ji7)
    ·rw [if_pos c8] at H
     have c8b0 : decide (x10_1 < (ji7)) = true := decide_eq_true c8
     clear c8
     by_cases c9 : x10_1 ≥ (wrap64 (a0 * a1))
     ·rw [if_pos c9] at H
      have c9b0 : decide ((wrap64 (a0 * a1)) ≤ x10_1) = true := decide_eq_true c9
      clear c9
      simp only [Option.some.injEq, Prod.mk.injEq] at H
      obtain ⟨rfl, rfl⟩ := H
      go_wp2
      go_ret2
      exact ⟨by first | rfl | (simp [errW_none, errW_some] <;> rfl) | (simp only [← hji7]; first | rfl | (simp [errW_none, errW_some] <;> rfl)) | (simp [*, errW_none, errW_some] <;> rfl), bl0 HB.out⟩
     ·rw [if_neg c9] at H
      have c9b0 : decide ((wrap64 (a0 * a1)) ≤ x10_1) = false := decide_eq_false c9
      clear c9
      by_cases c10 : x10_1 ≥ (l2.length : Int)
      ·rw [if_pos c10] at H
       have c10b0 : decide ((l2.length : Int) ≤ x10_1) = true := decide_eq_true c10
       clear c10
       simp only [Option.some.injEq, Prod.mk.injEq] at H
       obtain ⟨rfl, rfl⟩ := H
       go_wp2
       go_ret2
       exact ⟨by first | rfl | (simp [errW_none, errW_some] <;> rfl) | (simp only [← hji7]; first | rfl | (simp [errW_none, errW_some] <;> rfl)) | (simp [*, errW_none, errW_some] <;> rfl), bl0 HB.out⟩
      ·rw [if_neg c10] at H
       have c10b0 : decide ((l2.length : Int) ≤ x10_1) = false := decide_eq_false c10
       clear c10
       by_cases c11 : 0 ≤ x10_1
       ·rw [if_pos c11] at H
        have c11b0 : decide (0 ≤ x10_1) = true := decide_eq_true c11
        clear c11
        by_cases c12 : x10_1 < (l2.length : Int)
        ·rw [if_pos c12] at H
         have c12b0 : decide (x10_1 < (l2.length : Int)) = true := decide_eq_true c12
         clear c12
         by_cases c13 : (rd l2 x10_1) = (wrap64 (x10_1 + 1))
         ·rw [if_pos c13] at H
          have c13b0 : ((rd l2 x10_1) == (wrap64 (x10_1 + 1))) = true := beq_iff_eq.mpr c13
          have c13b1 : ((rd l2 x10_1) != (wrap64 (x10_1 + 1))) = false := bne_eq_false_iff_eq.mpr c13
          clear c13
          have H' := Aside0.mk H
          clear H
          have p430 : 0 ≤ (x10_1 : Int) := of_decide_eq_true (by first | (with_reducible assumption) | assumption)
          have q430 : x10_1 < (l2.length : Int) := of_decide_eq_true (by first | (with_reducible assumption) | assumption)
          obtain ⟨ad430, e430, hx430_0⟩ := Kd.at_int HR2.out x10_1 p430 q430
          cases e430
          replace hx430_0 := (HB.out.cell (World.block_lt_of_cell? w _ hx430_0)).trans hx430_0
          replace p430 := eq_true p430
          replace q430 := eq_true q430
          go_wp2
          go_roundg k1
          case measure => have := HK1.out; omega
          case rel => exact ⟨(wrap64 (x10_1 + 1)), (by first | rfl | (simp; done) | (simp [*]; done)), H', ⟨by have := HK1.out; omega⟩, ⟨bl0 HB.out⟩⟩
         ·rw [if_neg c13] at H
          have c13b0 : ((rd l2 x10_1) == (wrap64 (x10_1 + 1))) = false := beq_eq_false_iff_ne.mpr c13
          have c13b1 : ((rd l2 x10_1) != (wrap64 (x10_1 + 1))) = true := bne_iff_ne.mpr c13
          simp only [Option.some.injEq, Prod.mk.injEq] at H
          obtain ⟨rfl, rfl⟩ := H
          have p430 : 0 ≤ (x10_1 : Int) := of_decide_eq_true (by first | (with_reducible assumption) | assumption)
          have q430 : x10_1 < (l2.length : Int) := of_decide_eq_true (by first | (with_reducible assumption) | assumption)
          obtain ⟨ad430, e430, hx430_0⟩ := Kd.at_int HR2.out x10_1 p430 q430
          cases e430
          replace hx430_0 := (HB.out.cell (World.block_lt_of_cell? w _ hx430_0)).trans hx430_0
          replace p430 := eq_true p430
          replace q430 := eq_true q430
          go_wp2
          go_ret2
          exact ⟨by first | rfl | (simp [errW_none, errW_some] <;> rfl) | (simp only [← hji7]; first | rfl | (simp [errW_none, errW_some] <;> rfl)) | (simp [*, errW_none, errW_some] <;> rfl), bl0 HB.out⟩
        ·rw [if_neg c12] at H
         exact absurd H (by simp)
       ·rw [if_neg c11] at H
        exact absurd H (by simp)
    ·rw [if_neg c8] at H
     have c8b0 : decide (x10_1 < (ji7)) = false := decide_eq_false c8
     clear c8
     simp only [Option.some.injEq, Prod.mk.injEq] at H
     obtain ⟨rfl, rfl⟩ := H
     go_wp2
     go_ret2
     exact ⟨by first | rfl | (simp [errW_none, errW_some] <;> rfl) | (simp only [← hji7]; first | rfl | (simp [errW_none, errW_some] <;> rfl)) | (simp [*, errW_none, errW_some] <;> rfl), bl0 HB.out⟩
 ·rw [if_neg c5] at H
  have c5b0 : (t427 == 0) = false := beq_eq_false_iff_ne.mpr c5
  have c5b1 : (t427 != 0) = true := bne_iff_ne.mpr c5
  simp only [Option.some.injEq, Prod.mk.injEq] at H
  obtain ⟨rfl, rfl⟩ := H
  go_enter Tryd.func9, Tryd.ntmps9
  go_wp2_with (first | ((with_reducible refine gate_callee (f := 20) rfl ?_); refine goesL_ (some 15) rfl rfl Tryd.func20 (by kernel_rfl) rfl #[.int .i64 a0, .int .i64 a1, .slice A2 l2.length c2] rfl lnp ?_; (with_reducible refine (spec_l28Block.calls k a0 a1 _ _ l2 t426 t427 _ ?side1 ?side2 A4.out).mono ?_); (case side1 => repeat (first | exact HR2.out | (with_reducible refine Kd.C_alloc ?_ _) | (with_reducible refine Kd.C_drewN ?_ _) | (with_reducible refine Kd.C_drew ?_))); (case side2 => exact HC2.out); rintro e w14 ⟨v428, rfl, ho0, hb⟩; refine ⟨_, rfl, ?_⟩; have n_ := (⟨am (Kd.R_lower ho0 (below_size (bl0 HB.out))), am (below_step (bl0 HB.out) hb)⟩ : _ ∧ _); clear HB; obtain ⟨HO429, HB⟩ := n_; (try clear hb); (try clear hb2); (try clear hk); (try clear hi); (try clear ho0)))
  go_ret2
  exact ⟨er, bl0 HB.out⟩

/-! ### spec_DrawKindsText: function 10 -/
def spec_DrawKindsText.l0 : Nat → List Int → Int → List Int → Int → Int → Option (List Int)
 | 0, _, _, _, _, _ => none
 | k + 1, x4, x5, x435000, x435001, x435002 => if x5 > 0 then ((spec_l01Next.f x435000 x435001 x435002 9).bind fun bt441 => (if x4.length < 17592186044416 then (spec_DrawKindsText.l0 k (x4 ++ [mx 0 (wrap64 (bt441.1 - 4))]) (wrap64 (x5 - 1)) x435000 bt441.2.1 bt441.2.2) else (none))) else ((spec_l01Next.f x435000 x435001 x435002 24).bind fun bt447 => (if bt447.1 = 0 then ((spec_l01Pick.f x435000 bt447.2.1 bt447.2.2 (([(-1), 5] : List Int))).bind fun bt453 => (if x4.length < 17592186044416 then (some (x4 ++ [bt453.1])) else (none))) else (if bt447.1 = 1 then ((spec_l01Next.f x435000 bt447.2.1 bt447.2.2 2).bind fun bt459 => (if 0 ≤ (wrap64 (12 + bt459.1)) then (if (wrap64 (12 + bt459.1) : Int).toNat ≤ 35184372088832 then (some (List.replicate (wrap64 (12 + bt459.1) : Int).toNat 0)) else (none)) else (none))) else (some x4))))
def spec_DrawKindsText.f (k : Nat) (l0 : List Int) : Option (List Int) := (spec_l01From.f k l0).bind fun bt431 => ((spec_l01Next.f bt431.1 bt431.2.1 bt431.2.2 8).bind fun bt438 => (spec_DrawKindsText.l0 k (([] : List Int)) bt438.1 bt431.1 bt438.2.1 bt438.2.2))
theorem spec_DrawKindsText.mono_l : ∀ k, (∀ y0 y1 y2 y3 y4, LeO (spec_DrawKindsText.l0 k y0 y1 y2 y3 y4) (spec_DrawKindsText.l0 (k + 1) y0 y1 y2 y3 y4))
 | 0 => fun _ _ _ _ _ r h => by simp [spec_DrawKindsText.l0] at h
 | k + 1 => by
  have ih0 := spec_DrawKindsText.mono_l k
  ·intro y0 y1 y2 y3 y4
   unfold spec_DrawKindsText.l0
   repeat' first | (with_reducible first | exact ih0 _ _ _ _ _ | exact spec_l01From.mono _ _ | exact LeO.refl _ | exact LeO.none _ | refine LeO.ite ?_ ?_ | refine LeO.bind ?_ (fun _ => ?_)) | exact ih0 _ _ _ _ _ | exact spec_l01From.mono _ _ | exact LeO.none _ | refine LeO.ite ?_ ?_ | refine LeO.bind ?_ (fun _ => ?_)
theorem spec_DrawKindsText.mono : ∀ a0 k, LeO (spec_DrawKindsText.f k a0) (spec_DrawKindsText.f (k + 1) a0) := by
 intro a0 k
 have ih0 := spec_DrawKindsText.mono_l k
 unfold spec_DrawKindsText.f
 repeat' first | (with_reducible first | exact ih0 _ _ _ _ _ | exact spec_l01From.mono _ _ | exact LeO.refl _ | exact LeO.none _ | refine LeO.ite ?_ ?_ | refine LeO.bind ?_ (fun _ => ?_)) | exact ih0 _ _ _ _ _ | exact spec_l01From.mono _ _ | exact LeO.none _ | refine LeO.ite ?_ ?_ | refine LeO.bind ?_ (fun _ => ?_)
theorem spec_DrawKindsText.calls (k : Nat) (A0 : Option Addr) (c0 : Nat) (l0 : List Int) (r : List Int) (w : World) (hr0 : Kd.C (Kd.int .u8) w A0 l0.length l0) (hc0 : l0.length ≤ c0) (h : spec_DrawKindsText.f k l0 = some r) :
  Calls Tryd.prog 10 #[.slice A0 l0.length c0] w fun e w' => ∃ v0_ : Value, e = .returned (v0_) ∧ Kd.R (Kd.int .i64) 2 w' w.heap.size (fun _ => True) v0_ r ∧ Below w.heap.size w w' := by
 have HR0 := Aside0.mk hr0
 have HC0 := Aside0.mk hc0
 clear hr0 hc0
 have HB := am (Below.refl w.heap.size w)
 have H : ((spec_l01From.f k l0).bind fun bt431 => ((spec_l01Next.f bt431.1 bt431.2.1 bt431.2.2 8).bind fun bt438 => (spec_DrawKindsText.l0 k (([] : List Int)) bt438.1 bt431.1 bt438.2.1 bt438.2.2))) = some r := h
 clear h
 replace H := Option.bind_eq_some_iff.mp H
 obtain ⟨⟨t431, t432, t433⟩, A20, H⟩ := H
 replace H : ((spec_l01Next.f t431 t432 t433 8).bind fun bt438 => (spec_DrawKindsText.l0 k (([] : List Int)) bt438.1 t431 bt438.2.1 bt438.2.2)) = some r := H
 have A2 := Aside0.mk A20
 clear A20
 obtain ⟨y435, hy435⟩ : ∃ y_ : List Int, y_ = (([] : List Int)) := ⟨_, rfl⟩
 replace H : ((spec_l01Next.f t431 t432 t433 8).bind fun bt438 => (spec_DrawKindsText.l0 k y435 bt438.1 t431 bt438.2.1 bt438.2.2)) = some r := by first | (rw [hy435]; with_reducible exact H) | (have H2_ := (Option.bind_some _ _).symm.trans H; rw [hy435]; with_reducible exact H2_) | (have H2_ := (Option.bind_some _ _).symm.trans H; with_reducible exact H2_) | with_reducible exact H | (rw [hy435]; exact H) | exact H
 have Ny435 := Aside0.mk hy435
 clear hy435
 replace H := Option.bind_eq_some_iff.mp H
 obtain ⟨⟨t438, t439, t440⟩, A30, H⟩ := H
 replace H : (spec_DrawKindsText.l0 k y435 t438 t431 t439 t440) = some r := H
 have A3 := Aside0.mk A30
 clear A30
 have H' := Aside0.mk H
 clear H
 go_enter Tryd.func10, Tryd.ntmps10
 go_wp2_with (first | ((with_reducible refine gate_callee (f := 18) rfl ?_); refine goesL_ (some 7) rfl rfl Tryd.func18 (by kernel_rfl) rfl #[.slice A0 l0.length c0] rfl lnp ?_; (with_reducible refine (spec_l01From.calls k _ _ l0 t431 t432 t433 w _ ?side1 ?side2 ?side3 A2.out).mono ?_); (case side1 => exact bl0 HB.out); (case side2 => exact HR0.out); (case side3 => exact HC0.out); rintro e w4 ⟨g434, rfl, hi, hb, hb2⟩; refine ⟨_, rfl, ?_⟩; have n_ := (⟨am (hb), am (hi)⟩ : _ ∧ _); clear HB; obtain ⟨HB, HI434⟩ := n_; (try clear hb); (try clear hb2); (try clear hk); (try clear hi)) | ((with_reducible refine gate_dst (N := 8) rfl ?_); refine Kd.R_lit (Kd.int .i64) _ 2 ?hg (N := 8) ?hd (xs := ([] : List Int)) (inner := []) (ok := fun _ => True) (okp := fun _ => True) ?hr ?hp (fun _ hk => hk) trivial (Below.refl _ _) (Nat.le_refl _) (by simp) ?_; (case hd => rfl); (case hg => rfl); (case hr => first | (go_simp; done) | (go_simp; rfl)); (case hp => exact (Reps.none _ _)); intro v436 w5 ho6 hb hg_ hnew_; clear hg_ hnew_; (first | rw [← Ny435.out] at ho6 | (simp only [Int.reduceToNat] at ho6; rw [← Ny435.out] at ho6)); have n_ := (⟨am (Kd.R_lower ho6 (below_size (bl1 HB.out (IsS58.ge HI434.out)))), am (IsS58.below (st58_0 HI434.out) hb), am (below_step (bl1 HB.out (IsS58.ge HI434.out)) hb)⟩ : _ ∧ _ ∧ _); clear HI434 HB; obtain ⟨HO437, HI434, HB⟩ := n_; clear hb ho6) | ((with_reducible refine gate_callee (f := 24) rfl ?_); refine goesL_ (some 10) rfl rfl Tryd.func24 (by kernel_rfl) rfl #[.pointer (some ⟨g434, 0, none⟩), .int .i64 8] rfl lnp ?_; (with_reducible refine (spec_l01Next.calls g434 t431 t432 t433 8 t438 t439 t440 w _ ?side1 ?side2 A3.out).mono ?_); (case side1 => exact st58_0 HI434.out); (case side2 => exact bl1 HB.out (IsS58.ge HI434.out)); rintro e w7 ⟨rfl, hi, hb, hk⟩; refine ⟨_, rfl, ?_⟩; have n_ := (⟨am (Kd.R_mono (Kd.R_keep (IsS58.apart (show IsS58 w _ g434 t431 t432 t433 from st58_0 HI434.out) (rqR HO437.out) (by decide)) hk (fun _ h => h.2)) (fun _ h => h.1)), am (hb), am (hi)⟩ : _ ∧ _ ∧ _); clear HO437 HB HI434; obtain ⟨HO437, HB, HI434⟩ := n_; (try clear hb); (try clear hb2); (try clear hk); (try clear hi)))
 go_loopg [4, 5] k (fun kq v4 v5 w' => ∃ (x4_1 : List Int) (x5_1 : Int) (x435001_1 : Int) (x435002_1 : Int), v5 = .int .i64 x5_1 ∧ Aside0 (spec_DrawKindsText.l0 kq x4_1 x5_1 t431 x435001_1 x435002_1 = some r) ∧ Aside0 (kq ≤ k) ∧ Aside0 (Kd.R (Kd.int .i64) 2 w' w.heap.size (fun _ => True) v4 x4_1) ∧ Aside0 (IsS58 w w' g434 t431 x435001_1 x435002_1) ∧ Aside0 (Below w.heap.size w w'))
 case atStart => exact ⟨(y435), (t438), (t439), (t440), (by first | rfl | (simp; done) | (simp [*]; done)), H', ⟨Nat.le_refl _⟩, ⟨by (with_reducible repeat (first | apply Kd.R_alloc | apply Kd.R_drewN | apply Kd.R_drew)); exact HO437.out⟩, ⟨st58_0 HI434.out⟩, ⟨bl1 HB.out (IsS58.ge HI434.out)⟩⟩
 case round =>
  clear H'
  try clear c1
  try clear c2
  try clear p2
  obtain ⟨x4_1, x5_1, x435001_1, x435002_1, rfl, HA, HK1, HO_4, HI434, HB⟩ := hrel
  cases gk with
  | zero => exact absurd HA.out (by simp [spec_DrawKindsText.l0])
  | succ k1 =>
   have H := HA.out
   clear HA
   simp only [spec_DrawKindsText.l0] at H
   by_cases c8 : x5_1 > 0
   ·rw [if_pos c8] at H
    have c8b0 : decide (0 < x5_1) = true := decide_eq_true c8
    clear c8
    replace H := Option.bind_eq_some_iff.mp H
    obtain ⟨⟨t441, t442, t443⟩, A90, H⟩ := H
    replace H : (if x4_1.length < 17592186044416 then (spec_DrawKindsText.l0 k1 (x4_1 ++ [mx 0 (wrap64 (t441 - 4))]) (wrap64 (x5_1 - 1)) t431 t442 t443) else (none)) = some r := H
    have A9 := Aside0.mk A90
    clear A90
    obtain ⟨ji10, hji10⟩ : ∃ j_ : Int, (mx 0 (wrap64 (t441 - 4))) = j_ := ⟨_, rfl⟩
    replace H : (if x4_1.length < 17592186044416 then (spec_DrawKindsText.l0 k1 (x4_1 ++ [ji10]) (wrap64 (x5_1 - 1)) t431 t442 t443) else (none)) = some r := by first | (rw [hji10] at H; exact H) | (simp only [hji10] at H ⊢; exact H)
    (try rw [hji10] at A9)
    (try (have hji10l : 0 ≤ ji10 := by (rw [← hji10]; unfold mx; (repeat' split) <;> omega)))
    (try (have hji10m : 0 ≤ ji10 := by omega))
    have hji10_ : (if 0 < (wrap64 (t441 - 4)) then (wrap64 (t441 - 4)) else 0) = ji10 := hji10
    by_cases c11 : x4_1.length < 17592186044416
    ·rw [if_pos c11] at H
     have LMc11 := Aside0.mk c11
     clear c11
     obtain ⟨y444, hy444⟩ : ∃ y_ : List Int, y_ = (x4_1 ++ [ji10]) := ⟨_, rfl⟩
     replace H : (spec_DrawKindsText.l0 k1 y444 (wrap64 (x5_1 - 1)) t431 t442 t443) = some r := by first | (rw [hy444]; with_reducible exact H) | (have H2_ := (Option.bind_some _ _).symm.trans H; rw [hy444]; with_reducible exact H2_) | (have H2_ := (Option.bind_some _ _).symm.trans H; with_reducible exact H2_) | with_reducible exact H | (rw [hy444]; exact H) | exact H
     have Ny444 := Aside0.mk hy444
     clear hy444
     have H' := Aside0.mk H
     clear H
     go_wp2_with (first | ((with_reducible refine gate_callee (f := 24) rfl ?_); refine goesL_ (some 17) rfl rfl Tryd.func24 (by kernel_rfl) rfl #[.pointer (some ⟨g434, 0, none⟩), .int .i64 9] rfl lnp ?_; (with_reducible refine (spec_l01Next.calls g434 t431 x435001_1 x435002_1 9 t441 t442 t443 w _ ?side1 ?side2 A9.out).mono ?_); (case side1 => exact st58_0 HI434.out); (case side2 => exact bl1 HB.out (IsS58.ge HI434.out)); rintro e w12 ⟨rfl, hi, hb, hk⟩; refine ⟨_, rfl, ?_⟩; have n_ := (⟨am (Kd.R_mono (Kd.R_keep (IsS58.apart (show IsS58 w _ g434 t431 x435001_1 x435002_1 from st58_0 HI434.out) (rqR HO_4.out) (by decide)) hk (fun _ h => h.2)) (fun _ h => h.1)), am (hb), am (hi)⟩ : _ ∧ _ ∧ _); clear HO_4 HB HI434; obtain ⟨HO_4, HB, HI434⟩ := n_; (try clear hb); (try clear hb2); (try clear hk); (try clear hi)) | ((with_reducible refine gate_builtin (b := .append) (xs := #[.tmp 15, .tmp 20]) rfl ?_); at_builtin; refine Kd.R_append (Kd.int .i64) (w0 := w) w.heap.size rfl (.tmp 15) (.tmp 20) 24 2 (.int .i64 0) 8 rfl Tryd.underlying24 info2 rfl (by decide) (by omega) u4 x4_1 ji10 [.int .i64 ji10] (fun _ => True) (fun _ => False) rfl rfl ?aP (fun _ hk => hk.elim) ?aF ?aO ?aB ?aS ?aL ?_; (case aP => exact rfl); (case aB => exact (bl1 HB.out (IsS58.ge HI434.out))); (case aF => exact (fun _ _ => trivial)); (case aO => exact (rqR HO_4.out)); (case aS => exact (below_size (bl1 HB.out (IsS58.ge HI434.out)))); (case aL => have := LMc11.out; omega); intro v445 w13 ho hb hg hat; rw [← Ny444.out] at ho; have n_ := (⟨am (IsS58.grown (show IsS58 w _ g434 t431 t442 t443 from st58_0 HI434.out) hg (IsS58.own_ne HI434.out HO_4.out (by decide))), am (hb), am (ho)⟩ : _ ∧ _ ∧ _); clear HI434 HB HO_4; obtain ⟨HI434, HB, HO446⟩ := n_; clear ho hb hg hat))
     go_roundg k1
     case measure => have := HK1.out; omega
     case rel => exact ⟨(y444), (wrap64 (x5_1 - 1)), (t442), (t443), (by first | rfl | (simp; done) | (simp [*]; done)), H', ⟨by have := HK1.out; omega⟩, ⟨by (with_reducible repeat (first | apply Kd.R_alloc | apply Kd.R_drewN | apply Kd.R_drew)); exact HO446.out⟩, ⟨st58_0 HI434.out⟩, ⟨bl1 HB.out (IsS58.ge HI434.out)⟩⟩
    ·rw [if_neg c11] at H
     exact absurd H (by simp)
   ·rw [if_neg c8] at H
    have c8b0 : decide (0 < x5_1) = false := decide_eq_false c8
    clear c8
    replace H := Option.bind_eq_some_iff.mp H
    obtain ⟨⟨t447, t448, t449⟩, A140, H⟩ := H
    replace H : (if t447 = 0 then ((spec_l01Pick.f t431 t448 t449 (([(-1), 5] : List Int))).bind fun bt453 => (if x4_1.length < 17592186044416 then (some (x4_1 ++ [bt453.1])) else (none))) else (if t447 = 1 then ((spec_l01Next.f t431 t448 t449 2).bind fun bt459 => (if 0 ≤ (wrap64 (12 + bt459.1)) then (if (wrap64 (12 + bt459.1) : Int).toNat ≤ 35184372088832 then (some (List.replicate (wrap64 (12 + bt459.1) : Int).toNat 0)) else (none)) else (none))) else (some x4_1))) = some r := H
    have A14 := Aside0.mk A140
    clear A140
    by_cases c15 : t447 = 0
    ·rw [if_pos c15] at H
     have c15b0 : (t447 == 0) = true := beq_iff_eq.mpr c15
     have c15b1 : (t447 != 0) = false := bne_eq_false_iff_eq.mpr c15
     clear c15
     obtain ⟨y450, hy450⟩ : ∃ y_ : List Int, y_ = (([(-1), 5] : List Int)) := ⟨_, rfl⟩
     replace H : ((spec_l01Pick.f t431 t448 t449 y450).bind fun bt453 => (if x4_1.length < 17592186044416 then (some (x4_1 ++ [bt453.1])) else (none))) = some r := by first | (rw [hy450]; with_reducible exact H) | (have H2_ := (Option.bind_some _ _).symm.trans H; rw [hy450]; with_reducible exact H2_) | (have H2_ := (Option.bind_some _ _).symm.trans H; with_reducible exact H2_) | with_reducible exact H | (rw [hy450]; exact H) | exact H
     have Ny450 := Aside0.mk hy450
     clear hy450
     replace H := Option.bind_eq_some_iff.mp H
     obtain ⟨⟨t453, t454, t455⟩, A160, H⟩ := H
     replace H : (if x4_1.length < 17592186044416 then (some (x4_1 ++ [t453])) else (none)) = some r := H
     have A16 := Aside0.mk A160
     clear A160
     by_cases c17 : x4_1.length < 17592186044416
     ·rw [if_pos c17] at H
      have LMc17 := Aside0.mk c17
      clear c17
      obtain ⟨y456, hy456⟩ : ∃ y_ : List Int, y_ = (x4_1 ++ [t453]) := ⟨_, rfl⟩
      replace H : (some y456) = some r := by first | (rw [hy456]; with_reducible exact H) | (have H2_ := (Option.bind_some _ _).symm.trans H; rw [hy456]; with_reducible exact H2_) | (have H2_ := (Option.bind_some _ _).symm.trans H; with_reducible exact H2_) | with_reducible exact H | (rw [hy456]; exact H) | exact H
      have Ny456 := Aside0.mk hy456
      clear hy456
      obtain rfl := Option.some.inj H
      go_wp2_with (first | ((with_reducible refine gate_callee (f := 24) rfl ?_); refine goesL_ (some 23) rfl rfl Tryd.func24 (by kernel_rfl) rfl #[.pointer (some ⟨g434, 0, none⟩), .int .i64 24] rfl lnp ?_; (with_reducible refine (spec_l01Next.calls g434 t431 x435001_1 x435002_1 24 t447 t448 t449 w _ ?side1 ?side2 A14.out).mono ?_); (case side1 => exact st58_0 HI434.out); (case side2 => exact bl1 HB.out (IsS58.ge HI434.out)); rintro e w18 ⟨rfl, hi, hb, hk⟩; refine ⟨_, rfl, ?_⟩; have n_ := (⟨am (Kd.R_mono (Kd.R_keep (IsS58.apart (show IsS58 w _ g434 t431 x435001_1 x435002_1 from st58_0 HI434.out) (rqR HO_4.out) (by decide)) hk (fun _ h => h.2)) (fun _ h => h.1)), am (hb), am (hi)⟩ : _ ∧ _ ∧ _); clear HO_4 HB HI434; obtain ⟨HO_4, HB, HI434⟩ := n_; (try clear hb); (try clear hb2); (try clear hk); (try clear hi)) | ((with_reducible refine gate_dst (N := 28) rfl ?_); refine Kd.R_lit (Kd.int .i64) _ 2 ?hg (N := 28) ?hd (xs := ([(-1), 5] : List Int)) (inner := [.int .i64 (-1), .int .i64 5]) (ok := fun _ => True) (okp := fun _ => True) ?hr ?hp (fun _ hk => hk) trivial (Below.refl _ _) (Nat.le_refl _) (by simp) ?_; (case hd => rfl); (case hg => rfl); (case hr => first | (go_simp; done) | (go_simp; rfl)); (case hp => exact (Reps.one (show Kd.M (Kd.int .i64) _ _ _ (-1) [.int .i64 (-1)] from rfl) (Reps.one (show Kd.M (Kd.int .i64) _ _ _ 5 [.int .i64 5] from rfl) (Reps.none _ _)))); intro v451 w19 ho20 hb hg_ hnew_; clear hg_ hnew_; (first | rw [← Ny450.out] at ho20 | (simp only [Int.reduceToNat] at ho20; rw [← Ny450.out] at ho20)); have n_ := (⟨am (Kd.R_elder' (rqR HO_4.out) (Kd.R_base ho20) hb), am (Kd.R_lower (Kd.R_new' ho20 (Kd.R_lt (rqR HO_4.out))) (below_size (bl1 HB.out (IsS58.ge HI434.out)))), am (IsS58.below (st58_0 HI434.out) hb), am (below_step (bl1 HB.out (IsS58.ge HI434.out)) hb)⟩ : _ ∧ _ ∧ _ ∧ _); clear HO_4 HI434 HB; obtain ⟨HO_4, HO452, HI434, HB⟩ := n_; clear hb ho20; obtain ⟨Ao21, co21, eo21⟩ := Kd.R_slice HO452.out; subst eo21) | ((with_reducible refine gate_callee (f := 25) rfl ?_); refine goesL_ (some 29) rfl rfl Tryd.func25 (by kernel_rfl) rfl #[.pointer (some ⟨g434, 0, none⟩), .slice Ao21 y450.length co21] rfl lnp ?_; (with_reducible refine (spec_l01Pick.calls g434 t431 t448 t449 _ _ y450 t453 t454 t455 w _ ?side1 ?side2 ?side3 ?side4 ?side5 A16.out).mono ?_); (case side1 => exact st58_0 HI434.out); (case side2 => exact bl1 HB.out (IsS58.ge HI434.out)); (case side3 => repeat (first | exact (Kd.R_reads' HO452.out).2.2 | (with_reducible refine Kd.C_alloc ?_ _) | (with_reducible refine Kd.C_drewN ?_ _) | (with_reducible refine Kd.C_drew ?_))); (case side4 => exact (Kd.R_reads' HO452.out).2.1); (case side5 => exact far_slice (IsS58.own_ne HI434.out HO452.out (by decide))); rintro e w22 ⟨rfl, hi, hb, hk⟩; refine ⟨_, rfl, ?_⟩; have n_ := (⟨am (Kd.R_mono (Kd.R_keep (IsS58.apart (show IsS58 w _ g434 t431 t448 t449 from st58_0 HI434.out) (rqR HO_4.out) (by decide)) hk (fun _ h => h.2)) (fun _ h => h.1)), am (Kd.R_mono (Kd.R_keep (IsS58.apart (show IsS58 w _ g434 t431 t448 t449 from st58_0 HI434.out) (rqR HO452.out) (by decide)) hk (fun _ h => h.2)) (fun _ h => h.1)), am (hb), am (hi)⟩ : _ ∧ _ ∧ _ ∧ _); clear HO_4 HO452 HB HI434; obtain ⟨HO_4, HO452, HB, HI434⟩ := n_; (try clear hb); (try clear hb2); (try clear hk); (try clear hi)) | ((with_reducible refine gate_builtin (b := .append) (xs := #[.tmp 26, .tmp 30]) rfl ?_); at_builtin; refine Kd.R_append (Kd.int .i64) (w0 := w) w.heap.size rfl (.tmp 26) (.tmp 30) 24 2 (.int .i64 0) 8 rfl Tryd.underlying24 info2 rfl (by decide) (by omega) u4 x4_1 t453 [.int .i64 t453] (fun k_ => some k_ ≠ (.slice Ao21 y450.length co21 : Value).ownBlock) (fun _ => False) rfl rfl ?aP (fun _ hk => hk.elim) ?aF ?aO ?aB ?aS ?aL ?_; (case aP => exact rfl); (case aB => exact (bl1 HB.out (IsS58.ge HI434.out))); (case aF => exact (fun k_ hk => Kd.fresh' (Kd.R_lt (rqR HO452.out)) k_ hk)); (case aO => exact (by (with_reducible repeat (first | apply Kd.R_alloc | apply Kd.R_drewN | apply Kd.R_drew)); exact Kd.R_mono HO_4.out (fun _ hk => hk.2))); (case aS => exact (below_size (bl1 HB.out (IsS58.ge HI434.out)))); (case aL => have := LMc17.out; omega); intro v457 w23 ho hb hg hat; rw [← Ny456.out] at ho; have n_ := (⟨am (IsS58.grown (show IsS58 w _ g434 t431 t454 t455 from st58_0 HI434.out) hg (IsS58.own_ne HI434.out HO_4.out (by decide))), am (Kd.R_after (ok := (fun _ => True)) (rqR HO452.out) hg hat), am (hb), am (ho)⟩ : _ ∧ _ ∧ _ ∧ _); clear HI434 HO452 HB HO_4; obtain ⟨HI434, HO452, HB, HO458⟩ := n_; clear ho hb hg hat))
      go_ret
      exact ⟨_, by first | rfl | (simp [errW_none, errW_some] <;> rfl) | (simp [*, errW_none, errW_some] <;> rfl), by (with_reducible repeat (first | apply Kd.R_alloc | apply Kd.R_drewN | apply Kd.R_drew)); exact Kd.R_mono HO458.out (fun _ hk => trivial), bl1 HB.out (IsS58.ge HI434.out)⟩
     ·rw [if_neg c17] at H
      exact absurd H (by simp)
    ·rw [if_neg c15] at H
     have c15b0 : (t447 == 0) = false := beq_eq_false_iff_ne.mpr c15
     have c15b1 : (t447 != 0) = true := bne_iff_ne.mpr c15
     by_cases c24 : t447 = 1
     ·rw [if_pos c24] at H
      have c24b0 : (t447 == 1) = true := beq_iff_eq.mpr c24
      have c24b1 : (t447 != 1) = false := bne_eq_false_iff_eq.mpr c24
      clear c24
      replace H := Option.bind_eq_some_iff.mp H
      obtain ⟨⟨t459, t460, t461⟩, A250, H⟩ := H
      replace H : (if 0 ≤ (wrap64 (12 + t459)) then (if (wrap64 (12 + t459) : Int).toNat ≤ 35184372088832 then (some (List.replicate (wrap64 (12 + t459) : Int).toNat 0)) else (none)) else (none)) = some r := H
      have A25 := Aside0.mk A250
      clear A250
      obtain ⟨ji26, hji26⟩ : ∃ j_ : Int, (wrap64 (12 + t459)) = j_ := ⟨_, rfl⟩
      replace H : (if 0 ≤ (ji26) then (if (ji26 : Int).toNat ≤ 35184372088832 then (some (List.replicate (ji26 : Int).toNat 0)) else (none)) else (none)) = some r := by first | (rw [hji26] at H; exact H) | (simp only [hji26] at H ⊢; exact H)
      (try rw [hji26] at A14)
      (try rw [hji26] at A25)
      have hji26w : (IntKind.i64.wrap (12 + t459)) = ji26 := (i64_w _).trans hji26
      by_cases c27 : 0 ≤ (ji26)
      ·rw [if_pos c27] at H
       have c27b0 := eq_true c27
       have c27b1 : decide (0 ≤ (ji26)) = true := decide_eq_true c27
       clear c27
       by_cases c28 : (ji26 : Int).toNat ≤ 35184372088832
       ·rw [if_pos c28] at H
        have c28b0 := eq_true c28
        have c28b1 : decide ((ji26 : Int).toNat ≤ 35184372088832) = true := decide_eq_true c28
        clear c28
        obtain ⟨y462, hy462⟩ : ∃ y_ : List Int, y_ = (List.replicate (ji26 : Int).toNat 0) := ⟨_, rfl⟩
        replace H : (some y462) = some r := by first | (rw [hy462]; with_reducible exact H) | (have H2_ := (Option.bind_some _ _).symm.trans H; rw [hy462]; with_reducible exact H2_) | (have H2_ := (Option.bind_some _ _).symm.trans H; with_reducible exact H2_) | with_reducible exact H | (rw [hy462]; exact H) | exact H
        have Ny462 := Aside0.mk hy462
        clear hy462
        obtain rfl := Option.some.inj H
        go_wp2_with (first | ((with_reducible refine gate_callee (f := 24) rfl ?_); refine goesL_ (some 23) rfl rfl Tryd.func24 (by kernel_rfl) rfl #[.pointer (some ⟨g434, 0, none⟩), .int .i64 24] rfl lnp ?_; (with_reducible refine (spec_l01Next.calls g434 t431 x435001_1 x435002_1 24 t447 t448 t449 w _ ?side1 ?side2 A14.out).mono ?_); (case side1 => exact st58_0 HI434.out); (case side2 => exact bl1 HB.out (IsS58.ge HI434.out)); rintro e w29 ⟨rfl, hi, hb, hk⟩; refine ⟨_, rfl, ?_⟩; have n_ := (⟨am (Kd.R_mono (Kd.R_keep (IsS58.apart (show IsS58 w _ g434 t431 x435001_1 x435002_1 from st58_0 HI434.out) (rqR HO_4.out) (by decide)) hk (fun _ h => h.2)) (fun _ h => h.1)), am (hb), am (hi)⟩ : _ ∧ _ ∧ _); clear HO_4 HB HI434; obtain ⟨HO_4, HB, HI434⟩ := n_; (try clear hb); (try clear hb2); (try clear hk); (try clear hi)) | ((with_reducible refine gate_callee (f := 24) rfl ?_); refine goesL_ (some 35) rfl rfl Tryd.func24 (by kernel_rfl) rfl #[.pointer (some ⟨g434, 0, none⟩), .int .i64 2] rfl lnp ?_; (with_reducible refine (spec_l01Next.calls g434 t431 t448 t449 2 t459 t460 t461 w _ ?side1 ?side2 A25.out).mono ?_); (case side1 => exact st58_0 HI434.out); (case side2 => exact bl1 HB.out (IsS58.ge HI434.out)); rintro e w30 ⟨rfl, hi, hb, hk⟩; refine ⟨_, rfl, ?_⟩; have n_ := (⟨am (Kd.R_mono (Kd.R_keep (IsS58.apart (show IsS58 w _ g434 t431 t448 t449 from st58_0 HI434.out) (rqR HO_4.out) (by decide)) hk (fun _ h => h.2)) (fun _ h => h.1)), am (hb), am (hi)⟩ : _ ∧ _ ∧ _); clear HO_4 HB HI434; obtain ⟨HO_4, HB, HI434⟩ := n_; (try clear hb); (try clear hb2); (try clear hk); (try clear hi)) | ((with_reducible refine gate_dst (N := 37) rfl ?_); refine Kd.R_make (Kd.int .i64) _ 2 rfl (N := 37) rfl 24 _ _ rfl ji26 rfl rfl Tryd.underlying24 (.int .i64 0) 8 info2 rfl (by decide) (by omega) 0 (ok := fun _ => True) (okp := fun _ => True) rfl (fun _ hk => hk) trivial (of_decide_eq_true (by first | (with_reducible assumption) | assumption)) (Nat.le_trans (Nat.mul_le_mul_right _ (of_decide_eq_true (by first | (with_reducible assumption) | assumption) : ji26.toNat ≤ 35184372088832)) (by omega)) (Below.refl _ _) (Nat.le_refl _) ?_; intro v463 w31 ho32 hb hg_ hnew_; clear hg_ hnew_; (first | rw [← Ny462.out] at ho32 | (simp only [Int.reduceToNat] at ho32; rw [← Ny462.out] at ho32)); have n_ := (⟨am (Kd.R_elder' (rqR HO_4.out) (Kd.R_base ho32) hb), am (Kd.R_lower (Kd.R_new' ho32 (Kd.R_lt (rqR HO_4.out))) (below_size (bl1 HB.out (IsS58.ge HI434.out)))), am (IsS58.below (st58_0 HI434.out) hb), am (below_step (bl1 HB.out (IsS58.ge HI434.out)) hb)⟩ : _ ∧ _ ∧ _ ∧ _); clear HO_4 HI434 HB; obtain ⟨HO_4, HO464, HI434, HB⟩ := n_; clear hb ho32))
        go_ret
        exact ⟨_, by first | rfl | (simp [errW_none, errW_some] <;> rfl) | (simp only [← hji26]; first | rfl | (simp [errW_none, errW_some] <;> rfl)) | (simp [*, errW_none, errW_some] <;> rfl), by (with_reducible repeat (first | apply Kd.R_alloc | apply Kd.R_drewN | apply Kd.R_drew)); exact Kd.R_mono HO464.out (fun _ hk => trivial), bl1 HB.out (IsS58.ge HI434.out)⟩
       ·rw [if_neg c28] at H
        exact absurd H (by simp)
      ·rw [if_neg c27] at H
       exact absurd H (by simp)
     ·rw [if_neg c24] at H
      have c24b0 : (t447 == 1) = false := beq_eq_false_iff_ne.mpr c24
      have c24b1 : (t447 != 1) = true := bne_iff_ne.mpr c24
      obtain rfl := Option.some.inj H
      go_wp2_with (first | ((with_reducible refine gate_callee (f := 24) rfl ?_); refine goesL_ (some 23) rfl rfl Tryd.func24 (by kernel_rfl) rfl #[.pointer (some ⟨g434, 0, none⟩), .int .i64 24] rfl lnp ?_; (with_reducible refine (spec_l01Next.calls g434 t431 x435001_1 x435002_1 24 t447 t448 t449 w _ ?side1 ?side2 A14.out).mono ?_); (case side1 => exact st58_0 HI434.out); (case side2 => exact bl1 HB.out (IsS58.ge HI434.out)); rintro e w33 ⟨rfl, hi, hb, hk⟩; refine ⟨_, rfl, ?_⟩; have n_ := (⟨am (Kd.R_mono (Kd.R_keep (IsS58.apart (show IsS58 w _ g434 t431 x435001_1 x435002_1 from st58_0 HI434.out) (rqR HO_4.out) (by decide)) hk (fun _ h => h.2)) (fun _ h => h.1)), am (hb), am (hi)⟩ : _ ∧ _ ∧ _); clear HO_4 HB HI434; obtain ⟨HO_4, HB, HI434⟩ := n_; (try clear hb); (try clear hb2); (try clear hk); (try clear hi)))
      go_ret
      exact ⟨_, by first | rfl | (simp [errW_none, errW_some] <;> rfl) | (simp [*, errW_none, errW_some] <;> rfl), by (with_reducible repeat (first | apply Kd.R_alloc | apply Kd.R_drewN | apply Kd.R_drew)); exact HO_4.out, bl1 HB.out (IsS58.ge HI434.out)⟩

end Go.Proofs.YtfijcffhkobhbaaDoor.PFnDiagnosed
