-- Laid by wip/mk/mk.py out of the translation. Not trusted: Lean checks it.
import Derived.Test.YthfmhfgckhkgjaaDoorPFnResumedx0
import Derived.Test.YthfmhfgckhkgjaaDoorPFnResumedx1
import Derived.Test.YthfmhfgckhkgjaaDoorPFnResumedx2
import Derived.Test.YthfmhfgckhkgjaaDoorPFnResumedx7
import Derived.Test.YthfmhfgckhkgjaaDoorPFnResumedx14
import Derived.Test.YthfmhfgckhkgjaaDoorPFnResumedx16
import Derived.Test.YthfmhfgckhkgjaaDoorPFnResumedx17
namespace Go.Proofs.YthfmhfgckhkgjaaDoor.PFnResumed
open Go.RowKit Go.Proofs.YthfmhfgckhkgjaaDoorW.PrintWords Go.Proofs.YthfmhfgckhkgjaaDoorW.PrintLast Go.Proofs.YthfmhfgckhkgjaaDoorW.PrintMore
attribute [local go_sem] max2_int min2_int max_two min_two max_three min_three max_four min_four   -- for this text's walks alone
set_option linter.unusedVariables false
set_option linter.unusedSimpArgs false

attribute [local go_sem high] eqA29
/-! ### laws_FnResumed: function 3 -/
mutual
def laws_FnResumed.j0 : Nat → ByteArray → Int → Int → Int → Int → Int → Bool → Int → Int → Int → Int → Int → Int → Int → Int → Option (Bool)
 | 0, _, _, _, _, _, _, _, _, _, _, _, _, _, _, _ => none
 | k + 1, x3, x4, x5, x6, x7, x14, x88, x519000, x519001, x519002, x519003, x526000, x526001, x526002, x526003 => if x88 = true then (some false) else (if x14 = 0 then ((impl_IsMachine.f x526000 x526001 x526002 x526003).bind fun t534 => (if t534 = true then (laws_FnResumed.j1 k x3 x4 x5 x6 x7 (decide (x526003 < x519003))) else (none))) else (laws_FnResumed.j1 k x3 x4 x5 x6 x7 false))
def laws_FnResumed.j1 : Nat → ByteArray → Int → Int → Int → Int → Bool → Option (Bool)
 | 0, _, _, _, _, _, _ => none
 | k + 1, x3, x4, x5, x6, x7, x102 => if x102 = true then (some false) else (if x7 = 0 then ((impl_RecoverJournal.f k x3).bind fun bt535 => ((impl_RunJournal.f k bt535.1).bind fun bt539 => (if bt535.2 = 0 then (if bt539.2.2.2.2 = 0 then (if bt539.1 = x5 then (some (x6 == (mx 0 (wrap64 (x4 - bt539.2.1))))) else (some false)) else (some false)) else (some false)))) else (some true))
end
def laws_FnResumed.f (k : Nat) (l0 : List Int) : Option (Bool) := (laws_big.f l0).bind fun t503 => (if t503 = true then (some true) else ((spec_DrawResumeJob.f k l0).bind fun bt504 => ((impl_ResumeJob.f k bt504.1 bt504.2).bind fun bt506 => ((spec_ResumeJob.f k bt504.1 bt504.2).bind fun bt509 => ((spec_DrawMakeEntry.f k l0).bind fun bt512 => ((impl_MakeEntry.f k bt512.1 bt512.2.1 bt512.2.2.1 bt512.2.2.2.1 bt512.2.2.2.2.1 bt512.2.2.2.2.2).bind fun bt520 => ((spec_MakeEntry.f bt512.1 bt512.2.1 bt512.2.2.1 bt512.2.2.2.1 bt512.2.2.2.2.1 bt512.2.2.2.2.2).bind fun bt526 => (if bt506.2.2 = bt509.2.2 then (if bt506.1 = bt509.1 then (if bt506.2.1 = bt509.2.1 then (if bt520.2.2.2.2 = bt526.2.2.2.2 then (if (!(bt520.1 == bt526.1) || (!(bt520.2.1 == bt526.2.1) || (!(bt520.2.2.1 == bt526.2.2.1) || (!(bt520.2.2.2.1 == bt526.2.2.2.1))))) = true then (none) else ((impl_IsMachine.f bt512.1 bt512.2.1 bt512.2.2.1 bt512.2.2.2.1).bind fun t532 => ((spec_IsMachine.f bt512.1 bt512.2.1 bt512.2.2.1 bt512.2.2.2.1).bind fun t533 => (laws_FnResumed.j0 k bt504.1 bt504.2 bt506.1 bt506.2.1 bt506.2.2 bt520.2.2.2.2 (t532 != t533) bt512.1 bt512.2.1 bt512.2.2.1 bt512.2.2.2.1 bt520.1 bt520.2.1 bt520.2.2.1 bt520.2.2.2.1)))) else (none)) else (none)) else (none)) else (none)))))))))
theorem laws_FnResumed.mono_l : ∀ k, (∀ y0 y1 y2 y3 y4 y5 y6 y7 y8 y9 y10 y11 y12 y13 y14, LeO (laws_FnResumed.j0 k y0 y1 y2 y3 y4 y5 y6 y7 y8 y9 y10 y11 y12 y13 y14) (laws_FnResumed.j0 (k + 1) y0 y1 y2 y3 y4 y5 y6 y7 y8 y9 y10 y11 y12 y13 y14)) ∧ (∀ y0 y1 y2 y3 y4 y5, LeO (laws_FnResumed.j1 k y0 y1 y2 y3 y4 y5) (laws_FnResumed.j1 (k + 1) y0 y1 y2 y3 y4 y5))
 | 0 => ⟨fun _ _ _ _ _ _ _ _ _ _ _ _ _ _ _ r h => by simp [laws_FnResumed.j0] at h, fun _ _ _ _ _ _ r h => by simp [laws_FnResumed.j1] at h⟩
 | k + 1 => by
  obtain ⟨ih0, ih1⟩ := laws_FnResumed.mono_l k
  refine ⟨?_, ?_⟩
  ·intro y0 y1 y2 y3 y4 y5 y6 y7 y8 y9 y10 y11 y12 y13 y14
   unfold laws_FnResumed.j0
   repeat' first | (with_reducible first | exact ih0 _ _ _ _ _ _ _ _ _ _ _ _ _ _ _ | exact ih1 _ _ _ _ _ _ | exact impl_MakeEntry.mono _ _ _ _ _ _ _ | exact impl_RecoverJournal.mono _ _ | exact impl_ResumeJob.mono _ _ _ | exact impl_RunJournal.mono _ _ | exact spec_DrawMakeEntry.mono _ _ | exact spec_DrawResumeJob.mono _ _ | exact spec_ResumeJob.mono _ _ _ | exact LeO.refl _ | exact LeO.none _ | refine LeO.ite ?_ ?_ | refine LeO.bind ?_ (fun _ => ?_)) | exact ih0 _ _ _ _ _ _ _ _ _ _ _ _ _ _ _ | exact ih1 _ _ _ _ _ _ | exact impl_MakeEntry.mono _ _ _ _ _ _ _ | exact impl_RecoverJournal.mono _ _ | exact impl_ResumeJob.mono _ _ _ | exact impl_RunJournal.mono _ _ | exact spec_DrawMakeEntry.mono _ _ | exact spec_DrawResumeJob.mono _ _ | exact spec_ResumeJob.mono _ _ _ | exact LeO.none _ | refine LeO.ite ?_ ?_ | refine LeO.bind ?_ (fun _ => ?_)
  ·intro y0 y1 y2 y3 y4 y5
   unfold laws_FnResumed.j1
   repeat' first | (with_reducible first | exact ih0 _ _ _ _ _ _ _ _ _ _ _ _ _ _ _ | exact ih1 _ _ _ _ _ _ | exact impl_MakeEntry.mono _ _ _ _ _ _ _ | exact impl_RecoverJournal.mono _ _ | exact impl_ResumeJob.mono _ _ _ | exact impl_RunJournal.mono _ _ | exact spec_DrawMakeEntry.mono _ _ | exact spec_DrawResumeJob.mono _ _ | exact spec_ResumeJob.mono _ _ _ | exact LeO.refl _ | exact LeO.none _ | refine LeO.ite ?_ ?_ | refine LeO.bind ?_ (fun _ => ?_)) | exact ih0 _ _ _ _ _ _ _ _ _ _ _ _ _ _ _ | exact ih1 _ _ _ _ _ _ | exact impl_MakeEntry.mono _ _ _ _ _ _ _ | exact impl_RecoverJournal.mono _ _ | exact impl_ResumeJob.mono _ _ _ | exact impl_RunJournal.mono _ _ | exact spec_DrawMakeEntry.mono _ _ | exact spec_DrawResumeJob.mono _ _ | exact spec_ResumeJob.mono _ _ _ | exact LeO.none _ | refine LeO.ite ?_ ?_ | refine LeO.bind ?_ (fun _ => ?_)
theorem laws_FnResumed.mono : ∀ a0 k, LeO (laws_FnResumed.f k a0) (laws_FnResumed.f (k + 1) a0) := by
 intro a0 k
 obtain ⟨ih0, ih1⟩ := laws_FnResumed.mono_l k
 unfold laws_FnResumed.f
 repeat' first | (with_reducible first | exact ih0 _ _ _ _ _ _ _ _ _ _ _ _ _ _ _ | exact ih1 _ _ _ _ _ _ | exact impl_MakeEntry.mono _ _ _ _ _ _ _ | exact impl_RecoverJournal.mono _ _ | exact impl_ResumeJob.mono _ _ _ | exact impl_RunJournal.mono _ _ | exact spec_DrawMakeEntry.mono _ _ | exact spec_DrawResumeJob.mono _ _ | exact spec_ResumeJob.mono _ _ _ | exact LeO.refl _ | exact LeO.none _ | refine LeO.ite ?_ ?_ | refine LeO.bind ?_ (fun _ => ?_)) | exact ih0 _ _ _ _ _ _ _ _ _ _ _ _ _ _ _ | exact ih1 _ _ _ _ _ _ | exact impl_MakeEntry.mono _ _ _ _ _ _ _ | exact impl_RecoverJournal.mono _ _ | exact impl_ResumeJob.mono _ _ _ | exact impl_RunJournal.mono _ _ | exact spec_DrawMakeEntry.mono _ _ | exact spec_DrawResumeJob.mono _ _ | exact spec_ResumeJob.mono _ _ _ | exact LeO.none _ | refine LeO.ite ?_ ?_ | refine LeO.bind ?_ (fun _ => ?_)
def laws_FnResumed.T9 : Bool × List (List Nat × List Nat) := (true, [([], []), ([], []), ([0, 1], [0, 1]), ([2], [2]), ([3], [3]), ([3], [3]), ([4, 5, 3], [3, 4, 5]), ([3, 6], [3, 6]), ([7, 3], [7]), ([8], [8]), ([8], [8]), ([9, 10, 8], [8, 9, 10]), ([8, 11], [8, 11]), ([12, 8], [12]), ([13], [13]), ([13], [13]), ([14, 15, 13], [13, 14, 15]), ([13, 16], [13, 16]), ([17, 13], [17]), ([18], [18]), ([18], [18]), ([19, 20, 18], [18, 19, 20]), ([18, 21], [18, 21]), ([22, 18], [22]), ([23], [23]), ([24, 23, 23], [23, 24]), ([23], [23]), ([26, 25, 23], [23, 26]), ([25, 27, 23], [23, 25, 27]), ([23, 28], [23, 28])])
def laws_FnResumed.B9 : List Nat := [0, 0, 3, 7, 15, 15, 63, 127, 255, 511, 511, 2047, 4095, 8191, 16383, 16383, 65535, 131071, 262143, 524287, 524287, 2097151, 4194303, 8388607, 16777215, 33554431, 16777215, 134217727, 268435455, 536870911]
theorem laws_FnResumed.tab9 : rtab .any (opsOf Tryd.f3 9) = laws_FnResumed.T9 := by kernel_rfl
theorem laws_FnResumed.bits9 : waitsOk laws_FnResumed.T9.2 laws_FnResumed.B9 = true := by kernel_rfl
set_option maxHeartbeats 8000000 in
set_option maxRecDepth 100000 in
theorem laws_FnResumed.calls (k : Nat) (A0 : Option Addr) (c0 : Nat) (l0 : List Int) (r : Bool) (w : World) (hr0 : Kd.C (Kd.int .u8) w A0 l0.length l0) (hc0 : l0.length ≤ c0) (h : laws_FnResumed.f k l0 = some r) (hG : Gl w) :
  Calls Tryd.prog 3 #[.slice A0 l0.length c0] w fun e w' => e = .returned (.bool r) ∧ Below w.heap.size w w' := by
 have HG := Aside0.mk hG
 clear hG
 have hu29 := Tryd.underlying29
 have hu31 := Tryd.underlying31
 have HR0 := Aside0.mk hr0
 have HC0 := Aside0.mk hc0
 clear hr0 hc0
 have HB := am (Below.refl w.heap.size w)
 have H : ((laws_big.f l0).bind fun t503 => (if t503 = true then (some true) else ((spec_DrawResumeJob.f k l0).bind fun bt504 => ((impl_ResumeJob.f k bt504.1 bt504.2).bind fun bt506 => ((spec_ResumeJob.f k bt504.1 bt504.2).bind fun bt509 => ((spec_DrawMakeEntry.f k l0).bind fun bt512 => ((impl_MakeEntry.f k bt512.1 bt512.2.1 bt512.2.2.1 bt512.2.2.2.1 bt512.2.2.2.2.1 bt512.2.2.2.2.2).bind fun bt520 => ((spec_MakeEntry.f bt512.1 bt512.2.1 bt512.2.2.1 bt512.2.2.2.1 bt512.2.2.2.2.1 bt512.2.2.2.2.2).bind fun bt526 => (if bt506.2.2 = bt509.2.2 then (if bt506.1 = bt509.1 then (if bt506.2.1 = bt509.2.1 then (if bt520.2.2.2.2 = bt526.2.2.2.2 then (if (!(bt520.1 == bt526.1) || (!(bt520.2.1 == bt526.2.1) || (!(bt520.2.2.1 == bt526.2.2.1) || (!(bt520.2.2.2.1 == bt526.2.2.2.1))))) = true then (none) else ((impl_IsMachine.f bt512.1 bt512.2.1 bt512.2.2.1 bt512.2.2.2.1).bind fun t532 => ((spec_IsMachine.f bt512.1 bt512.2.1 bt512.2.2.1 bt512.2.2.2.1).bind fun t533 => (laws_FnResumed.j0 k bt504.1 bt504.2 bt506.1 bt506.2.1 bt506.2.2 bt520.2.2.2.2 (t532 != t533) bt512.1 bt512.2.1 bt512.2.2.1 bt512.2.2.2.1 bt520.1 bt520.2.1 bt520.2.2.1 bt520.2.2.2.1)))) else (none)) else (none)) else (none)) else (none)))))))))) = some r := h
 clear h
 replace H := Option.bind_eq_some_iff.mp H
 obtain ⟨t503, A20, H⟩ := H
 replace H : (if t503 = true then (some true) else ((spec_DrawResumeJob.f k l0).bind fun bt504 => ((impl_ResumeJob.f k bt504.1 bt504.2).bind fun bt506 => ((spec_ResumeJob.f k bt504.1 bt504.2).bind fun bt509 => ((spec_DrawMakeEntry.f k l0).bind fun bt512 => ((impl_MakeEntry.f k bt512.1 bt512.2.1 bt512.2.2.1 bt512.2.2.2.1 bt512.2.2.2.2.1 bt512.2.2.2.2.2).bind fun bt520 => ((spec_MakeEntry.f bt512.1 bt512.2.1 bt512.2.2.1 bt512.2.2.2.1 bt512.2.2.2.2.1 bt512.2.2.2.2.2).bind fun bt526 => (if bt506.2.2 = bt509.2.2 then (if bt506.1 = bt509.1 then (if bt506.2.1 = bt509.2.1 then (if bt520.2.2.2.2 = bt526.2.2.2.2 then (if (!(bt520.1 == bt526.1) || (!(bt520.2.1 == bt526.2.1) || (!(bt520.2.2.1 == bt526.2.2.1) || (!(bt520.2.2.2.1 == bt526.2.2.2.1))))) = true then (none) else ((impl_IsMachine.f bt512.1 bt512.2.1 bt512.2.2.1 bt512.2.2.2.1).bind fun t532 => ((spec_IsMachine.f bt512.1 bt512.2.1 bt512.2.2.1 bt512.2.2.2.1).bind fun t533 => (laws_FnResumed.j0 k bt504.1 bt504.2 bt506.1 bt506.2.1 bt506.2.2 bt520.2.2.2.2 (t532 != t533) bt512.1 bt512.2.1 bt512.2.2.1 bt512.2.2.2.1 bt520.1 bt520.2.1 bt520.2.2.1 bt520.2.2.2.1)))) else (none)) else (none)) else (none)) else (none))))))))) = some r := H
 have A2 := Aside0.mk A20
 clear A20
 by_cases c3 : t503 = true
 ·subst c3
  have H1 : (some true) = some r := by rw [if_pos rfl] at H; exact H
  clear H
  have H := H1
  clear H1
  obtain rfl := Option.some.inj H
  go_enter Tryd.func3, Tryd.ntmps3
  go_wp2_with (first | ((with_reducible refine gate_callee (f := 4) rfl ?_); refine goesL_ (some 22) rfl rfl Tryd.func4 (by kernel_rfl) rfl #[.slice A0 l0.length c0] rfl lnp ?_; (with_reducible refine (laws_big.calls _ _ l0 true _ ?side1 ?side2 A2.out).mono ?_); (case side1 => repeat (first | exact HR0.out | (with_reducible refine Kd.C_alloc ?_ _) | (with_reducible refine Kd.C_drewN ?_ _) | (with_reducible refine Kd.C_drew ?_))); (case side2 => exact HC0.out); rintro e w' ⟨rfl, ⟨nd, rfl⟩⟩; refine ⟨_, rfl, ?_⟩))
  go_ret
  exact ⟨er, bl0 HB.out⟩
 ·replace c3 := Bool.eq_false_iff.mpr c3
  subst c3
  have H1 : ((spec_DrawResumeJob.f k l0).bind fun bt504 => ((impl_ResumeJob.f k bt504.1 bt504.2).bind fun bt506 => ((spec_ResumeJob.f k bt504.1 bt504.2).bind fun bt509 => ((spec_DrawMakeEntry.f k l0).bind fun bt512 => ((impl_MakeEntry.f k bt512.1 bt512.2.1 bt512.2.2.1 bt512.2.2.2.1 bt512.2.2.2.2.1 bt512.2.2.2.2.2).bind fun bt520 => ((spec_MakeEntry.f bt512.1 bt512.2.1 bt512.2.2.1 bt512.2.2.2.1 bt512.2.2.2.2.1 bt512.2.2.2.2.2).bind fun bt526 => (if bt506.2.2 = bt509.2.2 then (if bt506.1 = bt509.1 then (if bt506.2.1 = bt509.2.1 then (if bt520.2.2.2.2 = bt526.2.2.2.2 then (if (!(bt520.1 == bt526.1) || (!(bt520.2.1 == bt526.2.1) || (!(bt520.2.2.1 == bt526.2.2.1) || (!(bt520.2.2.2.1 == bt526.2.2.2.1))))) = true then (none) else ((impl_IsMachine.f bt512.1 bt512.2.1 bt512.2.2.1 bt512.2.2.2.1).bind fun t532 => ((spec_IsMachine.f bt512.1 bt512.2.1 bt512.2.2.1 bt512.2.2.2.1).bind fun t533 => (laws_FnResumed.j0 k bt504.1 bt504.2 bt506.1 bt506.2.1 bt506.2.2 bt520.2.2.2.2 (t532 != t533) bt512.1 bt512.2.1 bt512.2.2.1 bt512.2.2.2.1 bt520.1 bt520.2.1 bt520.2.2.1 bt520.2.2.2.1)))) else (none)) else (none)) else (none)) else (none)))))))) = some r := by rw [if_neg (show ¬ (false = true) by decide)] at H; exact H
  clear H
  have H := H1
  clear H1
  replace H := Option.bind_eq_some_iff.mp H
  obtain ⟨⟨t504, t505⟩, A40, H⟩ := H
  replace H : ((impl_ResumeJob.f k t504 t505).bind fun bt506 => ((spec_ResumeJob.f k t504 t505).bind fun bt509 => ((spec_DrawMakeEntry.f k l0).bind fun bt512 => ((impl_MakeEntry.f k bt512.1 bt512.2.1 bt512.2.2.1 bt512.2.2.2.1 bt512.2.2.2.2.1 bt512.2.2.2.2.2).bind fun bt520 => ((spec_MakeEntry.f bt512.1 bt512.2.1 bt512.2.2.1 bt512.2.2.2.1 bt512.2.2.2.2.1 bt512.2.2.2.2.2).bind fun bt526 => (if bt506.2.2 = bt509.2.2 then (if bt506.1 = bt509.1 then (if bt506.2.1 = bt509.2.1 then (if bt520.2.2.2.2 = bt526.2.2.2.2 then (if (!(bt520.1 == bt526.1) || (!(bt520.2.1 == bt526.2.1) || (!(bt520.2.2.1 == bt526.2.2.1) || (!(bt520.2.2.2.1 == bt526.2.2.2.1))))) = true then (none) else ((impl_IsMachine.f bt512.1 bt512.2.1 bt512.2.2.1 bt512.2.2.2.1).bind fun t532 => ((spec_IsMachine.f bt512.1 bt512.2.1 bt512.2.2.1 bt512.2.2.2.1).bind fun t533 => (laws_FnResumed.j0 k t504 t505 bt506.1 bt506.2.1 bt506.2.2 bt520.2.2.2.2 (t532 != t533) bt512.1 bt512.2.1 bt512.2.2.1 bt512.2.2.2.1 bt520.1 bt520.2.1 bt520.2.2.1 bt520.2.2.2.1)))) else (none)) else (none)) else (none)) else (none))))))) = some r := H
  have A4 := Aside0.mk A40
  clear A40
  replace H := Option.bind_eq_some_iff.mp H
  obtain ⟨⟨t506, t507, t508⟩, A50, H⟩ := H
  replace H : ((spec_ResumeJob.f k t504 t505).bind fun bt509 => ((spec_DrawMakeEntry.f k l0).bind fun bt512 => ((impl_MakeEntry.f k bt512.1 bt512.2.1 bt512.2.2.1 bt512.2.2.2.1 bt512.2.2.2.2.1 bt512.2.2.2.2.2).bind fun bt520 => ((spec_MakeEntry.f bt512.1 bt512.2.1 bt512.2.2.1 bt512.2.2.2.1 bt512.2.2.2.2.1 bt512.2.2.2.2.2).bind fun bt526 => (if t508 = bt509.2.2 then (if t506 = bt509.1 then (if t507 = bt509.2.1 then (if bt520.2.2.2.2 = bt526.2.2.2.2 then (if (!(bt520.1 == bt526.1) || (!(bt520.2.1 == bt526.2.1) || (!(bt520.2.2.1 == bt526.2.2.1) || (!(bt520.2.2.2.1 == bt526.2.2.2.1))))) = true then (none) else ((impl_IsMachine.f bt512.1 bt512.2.1 bt512.2.2.1 bt512.2.2.2.1).bind fun t532 => ((spec_IsMachine.f bt512.1 bt512.2.1 bt512.2.2.1 bt512.2.2.2.1).bind fun t533 => (laws_FnResumed.j0 k t504 t505 t506 t507 t508 bt520.2.2.2.2 (t532 != t533) bt512.1 bt512.2.1 bt512.2.2.1 bt512.2.2.2.1 bt520.1 bt520.2.1 bt520.2.2.1 bt520.2.2.2.1)))) else (none)) else (none)) else (none)) else (none)))))) = some r := H
  have A5 := Aside0.mk A50
  clear A50
  replace H := Option.bind_eq_some_iff.mp H
  obtain ⟨⟨t509, t510, t511⟩, A60, H⟩ := H
  replace H : ((spec_DrawMakeEntry.f k l0).bind fun bt512 => ((impl_MakeEntry.f k bt512.1 bt512.2.1 bt512.2.2.1 bt512.2.2.2.1 bt512.2.2.2.2.1 bt512.2.2.2.2.2).bind fun bt520 => ((spec_MakeEntry.f bt512.1 bt512.2.1 bt512.2.2.1 bt512.2.2.2.1 bt512.2.2.2.2.1 bt512.2.2.2.2.2).bind fun bt526 => (if t508 = t511 then (if t506 = t509 then (if t507 = t510 then (if bt520.2.2.2.2 = bt526.2.2.2.2 then (if (!(bt520.1 == bt526.1) || (!(bt520.2.1 == bt526.2.1) || (!(bt520.2.2.1 == bt526.2.2.1) || (!(bt520.2.2.2.1 == bt526.2.2.2.1))))) = true then (none) else ((impl_IsMachine.f bt512.1 bt512.2.1 bt512.2.2.1 bt512.2.2.2.1).bind fun t532 => ((spec_IsMachine.f bt512.1 bt512.2.1 bt512.2.2.1 bt512.2.2.2.1).bind fun t533 => (laws_FnResumed.j0 k t504 t505 t506 t507 t508 bt520.2.2.2.2 (t532 != t533) bt512.1 bt512.2.1 bt512.2.2.1 bt512.2.2.2.1 bt520.1 bt520.2.1 bt520.2.2.1 bt520.2.2.2.1)))) else (none)) else (none)) else (none)) else (none))))) = some r := H
  have A6 := Aside0.mk A60
  clear A60
  replace H := Option.bind_eq_some_iff.mp H
  obtain ⟨⟨t512, t513, t514, t515, t516, t517⟩, A70, H⟩ := H
  replace H : ((impl_MakeEntry.f k t512 t513 t514 t515 t516 t517).bind fun bt520 => ((spec_MakeEntry.f t512 t513 t514 t515 t516 t517).bind fun bt526 => (if t508 = t511 then (if t506 = t509 then (if t507 = t510 then (if bt520.2.2.2.2 = bt526.2.2.2.2 then (if (!(bt520.1 == bt526.1) || (!(bt520.2.1 == bt526.2.1) || (!(bt520.2.2.1 == bt526.2.2.1) || (!(bt520.2.2.2.1 == bt526.2.2.2.1))))) = true then (none) else ((impl_IsMachine.f t512 t513 t514 t515).bind fun t532 => ((spec_IsMachine.f t512 t513 t514 t515).bind fun t533 => (laws_FnResumed.j0 k t504 t505 t506 t507 t508 bt520.2.2.2.2 (t532 != t533) t512 t513 t514 t515 bt520.1 bt520.2.1 bt520.2.2.1 bt520.2.2.2.1)))) else (none)) else (none)) else (none)) else (none)))) = some r := H
  have A7 := Aside0.mk A70
  clear A70
  replace H := Option.bind_eq_some_iff.mp H
  obtain ⟨⟨t520, t521, t522, t523, t524⟩, A80, H⟩ := H
  replace H : ((spec_MakeEntry.f t512 t513 t514 t515 t516 t517).bind fun bt526 => (if t508 = t511 then (if t506 = t509 then (if t507 = t510 then (if t524 = bt526.2.2.2.2 then (if (!(t520 == bt526.1) || (!(t521 == bt526.2.1) || (!(t522 == bt526.2.2.1) || (!(t523 == bt526.2.2.2.1))))) = true then (none) else ((impl_IsMachine.f t512 t513 t514 t515).bind fun t532 => ((spec_IsMachine.f t512 t513 t514 t515).bind fun t533 => (laws_FnResumed.j0 k t504 t505 t506 t507 t508 t524 (t532 != t533) t512 t513 t514 t515 t520 t521 t522 t523)))) else (none)) else (none)) else (none)) else (none))) = some r := H
  have A8 := Aside0.mk A80
  clear A80
  replace H := Option.bind_eq_some_iff.mp H
  obtain ⟨⟨t526, t527, t528, t529, t530⟩, A90, H⟩ := H
  replace H : (if t508 = t511 then (if t506 = t509 then (if t507 = t510 then (if t524 = t530 then (if (!(t520 == t526) || (!(t521 == t527) || (!(t522 == t528) || (!(t523 == t529))))) = true then (none) else ((impl_IsMachine.f t512 t513 t514 t515).bind fun t532 => ((spec_IsMachine.f t512 t513 t514 t515).bind fun t533 => (laws_FnResumed.j0 k t504 t505 t506 t507 t508 t524 (t532 != t533) t512 t513 t514 t515 t520 t521 t522 t523)))) else (none)) else (none)) else (none)) else (none)) = some r := H
  have A9 := Aside0.mk A90
  clear A90
  have HC10 := Aside0.mk H
  clear H
  go_enter Tryd.func3, Tryd.ntmps3
  go_upto_region 9 with (first | ((with_reducible refine gate_callee (f := 4) rfl ?_); refine goesL_ (some 22) rfl rfl Tryd.func4 (by kernel_rfl) rfl #[.slice A0 l0.length c0] rfl lnp ?_; (with_reducible refine (laws_big.calls _ _ l0 false _ ?side1 ?side2 A2.out).mono ?_); (case side1 => repeat (first | exact HR0.out | (with_reducible refine Kd.C_alloc ?_ _) | (with_reducible refine Kd.C_drewN ?_ _) | (with_reducible refine Kd.C_drew ?_))); (case side2 => exact HC0.out); rintro e w' ⟨rfl, ⟨nd, rfl⟩⟩; refine ⟨_, rfl, ?_⟩) | ((with_reducible refine gate_callee (f := 5) rfl ?_); refine goesL_ (some 25) rfl rfl Tryd.func5 (by kernel_rfl) rfl #[.slice A0 l0.length c0] rfl lnp ?_; (with_reducible refine (spec_DrawResumeJob.calls k _ _ l0 t504 t505 _ ?side1 ?side2 A4.out).mono ?_); (case side1 => repeat (first | exact HR0.out | (with_reducible refine Kd.C_alloc ?_ _) | (with_reducible refine Kd.C_drewN ?_ _) | (with_reducible refine Kd.C_drew ?_))); (case side2 => exact HC0.out); rintro e w11 ⟨rfl, hb⟩; refine ⟨_, rfl, ?_⟩; have n0_ := am (below_step (bl0 HB.out) hb); clear HB; have HB := n0_; clear n0_; (try clear hb); (try clear hb2); (try clear hk); (try clear hi)) | ((with_reducible refine gate_callee (f := 6) rfl ?_); refine goesL_ (some 31) rfl rfl Tryd.func6 (by kernel_rfl) rfl #[.string t504, .int .i64 t505] rfl lnp ?_; (with_reducible refine (impl_ResumeJob.calls k t504 t505 t506 t507 t508 _ A5.out ?gl_).mono ?_); (case gl_ => exact Gl.below HG.out (bl0 HB.out)); rintro e w12 ⟨rfl, hb⟩; refine ⟨_, rfl, ?_⟩; have n0_ := am (below_step (bl0 HB.out) hb); clear HB; have HB := n0_; clear n0_; (try clear hb); (try clear hb2); (try clear hk); (try clear hi)) | ((with_reducible refine gate_callee (f := 7) rfl ?_); refine goesL_ (some 38) rfl rfl Tryd.func7 (by kernel_rfl) rfl #[.string t504, .int .i64 t505] rfl lnp ?_; (with_reducible refine (spec_ResumeJob.calls k t504 t505 t509 t510 t511 _ A6.out).mono ?_); rintro e w13 ⟨rfl, hb⟩; refine ⟨_, rfl, ?_⟩; have n0_ := am (below_step (bl0 HB.out) hb); clear HB; have HB := n0_; clear n0_; (try clear hb); (try clear hb2); (try clear hk); (try clear hi)) | ((with_reducible refine gate_callee (f := 8) rfl ?_); refine goesL_ (some 44) rfl rfl Tryd.func8 (by kernel_rfl) rfl #[.slice A0 l0.length c0] rfl lnp ?_; (with_reducible refine (spec_DrawMakeEntry.calls k _ _ l0 t512 t513 t514 t515 t516 t517 _ ?side1 ?side2 A7.out).mono ?_); (case side1 => repeat (first | exact (Kd.C_below HR0.out HB.out) | (with_reducible refine Kd.C_alloc ?_ _) | (with_reducible refine Kd.C_drewN ?_ _) | (with_reducible refine Kd.C_drew ?_))); (case side2 => exact HC0.out); rintro e w14 ⟨rfl, hb⟩; refine ⟨_, rfl, ?_⟩; have n0_ := am (below_step (bl0 HB.out) hb); clear HB; have HB := n0_; clear n0_; (try clear hb); (try clear hb2); (try clear hk); (try clear hi)) | ((with_reducible refine gate_dst (N := 11) rfl ?_); (try (refine gate_guard (by rfl) ?_; dsimp only)); refine box_event ?hg (N := 11) ?hd (cs := #[.int .i64 0, .int .i64 0, .int .i64 0, .int .i64 0]) (t := 29) ?hr ?_; (case hd => rfl); (case hg => rfl); (case hr => first | (go_simp; done) | (go_simp; rfl)); intro gb518 hg w15 hbox hb; have n_ := (⟨am (below_step (bl0 HB.out) hb), am (hbox), am ((gw hg (bl0 HB.out) : w.heap.size ≤ gb518)), am ((gw hg (bl0 HB.out) : w.heap.size ≤ gb518))⟩ : _ ∧ _ ∧ _ ∧ _); clear HB; obtain ⟨HB, BK518, GW518, GE518⟩ := n_; clear hb hbox hg) | ((with_reducible refine gate_dst (N := 12) rfl ?_); (try (refine gate_guard (by rfl) ?_; dsimp only)); refine box_event ?hg (N := 12) ?hd (cs := #[.int .i64 0, .int .i64 0]) (t := 31) ?hr ?_; (case hd => rfl); (case hg => rfl); (case hr => first | (go_simp; done) | (go_simp; rfl)); intro gb519 hg w16 hbox hb; have n_ := (⟨am (blk_below (bf0 BK518.out) hb), am (below_step (bl1 HB.out GE518.out) hb), am (hbox), am ((gw hg (bl1 HB.out GE518.out) : w.heap.size ≤ gb519)), am ((gw hg (bl1 HB.out GE518.out) : w.heap.size ≤ gb519)), am ((nl hg (bf0 BK518.out) : gb518 ≠ gb519)), am ((ng hg (bf0 BK518.out) : gb519 ≠ gb518))⟩ : _ ∧ _ ∧ _ ∧ _ ∧ _ ∧ _ ∧ _); clear BK518 HB; obtain ⟨BK518, HB, BK519, GW519, GE519, NB518_519, NB519_518⟩ := n_; clear hb hbox hg; have hnb17 := NB518_519.out; have hnc17 := NB519_518.out; obtain ⟨hcz18_0, hcz18_1, hcz18_2, hcz18_3, hfz18_0, hfz18_1, hfz18_2, hfz18_3⟩ := cs4 BK518.out; obtain ⟨hcz19_0, hcz19_1, hfz19_0, hfz19_1⟩ := cs2 BK519.out) | ((with_reducible refine gate_callee (f := 9) rfl ?_); refine goesL_ (some 50) rfl rfl Tryd.func9 (by kernel_rfl) rfl #[.agg #[.int .i64 t512, .int .i64 t513, .int .i64 t514, .int .i64 t515], .agg #[.int .i64 t516, .int .i64 t517]] rfl lnp ?_; (with_reducible refine (impl_MakeEntry.calls k t512 t513 t514 t515 t516 t517 t520 t521 t522 t523 t524 _ A8.out).mono ?_); rintro e w20 ⟨rfl, hb⟩; refine ⟨_, rfl, ?_⟩; have n_ := (⟨am (blk_below (g := gb518) (o := .cells #[.int .i64 t512, .int .i64 t513, .int .i64 t514, .int .i64 t515] 29 (0, 0)) (bp1 BK518.out NB518_519.out) hb), am (blk_below (g := gb519) (o := .cells #[.int .i64 t516, .int .i64 t517] 31 (0, 0)) (bp1 BK519.out NB519_518.out) hb), am (below_step (bl2 HB.out GE518.out GE519.out) hb)⟩ : _ ∧ _ ∧ _); clear BK518 BK519 HB; obtain ⟨BK518, BK519, HB⟩ := n_; (try clear hb); (try clear hb2); (try clear hk); (try clear hi)) | ((with_reducible refine gate_dst (N := 13) rfl ?_); (try (refine gate_guard (by rfl) ?_; dsimp only)); refine box_event ?hg (N := 13) ?hd (cs := #[.int .i64 0, .int .i64 0, .int .i64 0, .int .i64 0]) (t := 29) ?hr ?_; (case hd => rfl); (case hg => rfl); (case hr => first | (go_simp; done) | (go_simp; rfl)); intro gb525 hg w21 hbox hb; have n_ := (⟨am (blk_below (bf0 BK518.out) hb), am (blk_below (bf0 BK519.out) hb), am (below_step (bl2 HB.out GE518.out GE519.out) hb), am (hbox), am ((gw hg (bl2 HB.out GE518.out GE519.out) : w.heap.size ≤ gb525)), am ((gw hg (bl2 HB.out GE518.out GE519.out) : w.heap.size ≤ gb525)), am ((nl hg (bf0 BK518.out) : gb518 ≠ gb525)), am ((ng hg (bf0 BK518.out) : gb525 ≠ gb518)), am ((nl hg (bf0 BK519.out) : gb519 ≠ gb525)), am ((ng hg (bf0 BK519.out) : gb525 ≠ gb519))⟩ : _ ∧ _ ∧ _ ∧ _ ∧ _ ∧ _ ∧ _ ∧ _ ∧ _ ∧ _); clear BK518 BK519 HB; obtain ⟨BK518, BK519, HB, BK525, GW525, GE525, NB518_525, NB525_518, NB519_525, NB525_519⟩ := n_; clear hb hbox hg; have hnb22 := NB525_518.out; have hnc22 := NB518_525.out; have hnb23 := NB525_519.out; have hnc23 := NB519_525.out; obtain ⟨hcz24_0, hcz24_1, hcz24_2, hcz24_3, hfz24_0, hfz24_1, hfz24_2, hfz24_3⟩ := cs4 BK525.out; obtain ⟨hcz25_0, hcz25_1, hcz25_2, hcz25_3, hfz25_0, hfz25_1, hfz25_2, hfz25_3⟩ := cs4 BK518.out; obtain ⟨hcz26_0, hcz26_1, hfz26_0, hfz26_1⟩ := cs2 BK519.out) | ((with_reducible refine gate_callee (f := 10) rfl ?_); refine goesL_ (some 56) rfl rfl Tryd.func10 (by kernel_rfl) rfl #[.agg #[.int .i64 t512, .int .i64 t513, .int .i64 t514, .int .i64 t515], .agg #[.int .i64 t516, .int .i64 t517]] rfl lnp ?_; (with_reducible refine (spec_MakeEntry.calls t512 t513 t514 t515 t516 t517 t526 t527 t528 t529 t530 _ A9.out).mono ?_); rintro e w27 ⟨rfl, hb⟩; refine ⟨_, rfl, ?_⟩; have n_ := (⟨am (blk_below (bf1 BK518.out NB518_525.out) hb), am (blk_below (bf1 BK519.out NB519_525.out) hb), am (blk_below (g := gb525) (o := .cells #[.int .i64 t520, .int .i64 t521, .int .i64 t522, .int .i64 t523] 29 (0, 0)) (bp0 BK525.out) hb), am (below_step (bl3 HB.out GE518.out GE519.out GE525.out) hb)⟩ : _ ∧ _ ∧ _ ∧ _); clear BK518 BK519 BK525 HB; obtain ⟨BK518, BK519, BK525, HB⟩ := n_; (try clear hb); (try clear hb2); (try clear hk); (try clear hi)) | ((with_reducible refine gate_dst (N := 15) rfl ?_); (try (refine gate_guard (by rfl) ?_; dsimp only)); refine box_event ?hg (N := 15) ?hd (cs := #[.int .i64 0, .int .i64 0, .int .i64 0, .int .i64 0]) (t := 29) ?hr ?_; (case hd => rfl); (case hg => rfl); (case hr => first | (go_simp; done) | (go_simp; rfl)); intro gb531 hg w28 hbox hb; have n_ := (⟨am (blk_below (bf0 BK518.out) hb), am (blk_below (bf0 BK519.out) hb), am (blk_below (bf0 BK525.out) hb), am (below_step (bl3 HB.out GE518.out GE519.out GE525.out) hb), am (hbox), am ((gw hg (bl3 HB.out GE518.out GE519.out GE525.out) : w.heap.size ≤ gb531)), am ((gw hg (bl3 HB.out GE518.out GE519.out GE525.out) : w.heap.size ≤ gb531)), am ((nl hg (bf0 BK518.out) : gb518 ≠ gb531)), am ((ng hg (bf0 BK518.out) : gb531 ≠ gb518)), am ((nl hg (bf0 BK519.out) : gb519 ≠ gb531)), am ((ng hg (bf0 BK519.out) : gb531 ≠ gb519)), am ((nl hg (bf0 BK525.out) : gb525 ≠ gb531)), am ((ng hg (bf0 BK525.out) : gb531 ≠ gb525))⟩ : _ ∧ _ ∧ _ ∧ _ ∧ _ ∧ _ ∧ _ ∧ _ ∧ _ ∧ _ ∧ _ ∧ _ ∧ _); clear BK518 BK519 BK525 HB; obtain ⟨BK518, BK519, BK525, HB, BK531, GW531, GE531, NB518_531, NB531_518, NB519_531, NB531_519, NB525_531, NB531_525⟩ := n_; clear hb hbox hg; have hnb29 := NB531_518.out; have hnc29 := NB518_531.out; have hnb30 := NB531_519.out; have hnc30 := NB519_531.out; have hnb31 := NB531_525.out; have hnc31 := NB525_531.out; obtain ⟨hcz32_0, hcz32_1, hcz32_2, hcz32_3, hfz32_0, hfz32_1, hfz32_2, hfz32_3⟩ := cs4 BK531.out))
  (try simp only [Act.put, List.setIfInBounds_toArray, List.set_cons_zero, List.set_cons_succ])
  go_cut [88] (fun v88 wc => ∃ (kq : Nat) (x88_9 : Bool), v88 = .bool x88_9 ∧ Aside0 (laws_FnResumed.j0 kq t504 t505 t506 t507 t508 t524 x88_9 t512 t513 t514 t515 t520 t521 t522 t523 = some r) ∧ Aside0 (kq ≤ k) ∧ Aside0 (wc.heap[gb518]? = some (.cells #[.int .i64 t512, .int .i64 t513, .int .i64 t514, .int .i64 t515] 29 (0, 0))) ∧ Aside0 (wc.heap[gb519]? = some (.cells #[.int .i64 t516, .int .i64 t517] 31 (0, 0))) ∧ Aside0 (wc.heap[gb525]? = some (.cells #[.int .i64 t520, .int .i64 t521, .int .i64 t522, .int .i64 t523] 29 (0, 0))) ∧ Aside0 (wc.heap[gb531]? = some (.cells #[.int .i64 t526, .int .i64 t527, .int .i64 t528, .int .i64 t529] 29 (0, 0))) ∧ Aside0 (Below w.heap.size w wc))
  case first =>
   have H := HC10.out
   clear HC10
   by_cases c33 : t508 = t511
   ·rw [if_pos c33] at H
    have c33b0 : (t508 == t511) = true := beq_iff_eq.mpr c33
    have c33b1 : (t508 != t511) = false := bne_eq_false_iff_eq.mpr c33
    clear c33
    (first | rw [c33b0] | (simp only [i64_w, i32_w]; rw [c33b0]) | skip)
    by_cases c34 : t506 = t509
    ·rw [if_pos c34] at H
     have c34b0 : (t506 == t509) = true := beq_iff_eq.mpr c34
     have c34b1 : (t506 != t509) = false := bne_eq_false_iff_eq.mpr c34
     clear c34
     by_cases c35 : t507 = t510
     ·rw [if_pos c35] at H
      have c35b0 : (t507 == t510) = true := beq_iff_eq.mpr c35
      have c35b1 : (t507 != t510) = false := bne_eq_false_iff_eq.mpr c35
      clear c35
      by_cases c36 : t524 = t530
      ·rw [if_pos c36] at H
       have c36b0 : (t524 == t530) = true := beq_iff_eq.mpr c36
       have c36b1 : (t524 != t530) = false := bne_eq_false_iff_eq.mpr c36
       clear c36
       by_cases c37 : (!(t520 == t526) || (!(t521 == t527) || (!(t522 == t528) || (!(t523 == t529))))) = true
       ·rw [if_pos c37] at H
        exact absurd H (by simp)
       ·rw [if_neg c37] at H
        have c37b0 : (!(t520 == t526) || (!(t521 == t527) || (!(t522 == t528) || (!(t523 == t529))))) = false := by simpa using c37
        clear c37
        replace H := Option.bind_eq_some_iff.mp H
        obtain ⟨t532, A400, H⟩ := H
        replace H : ((spec_IsMachine.f t512 t513 t514 t515).bind fun t533 => (laws_FnResumed.j0 k t504 t505 t506 t507 t508 t524 (t532 != t533) t512 t513 t514 t515 t520 t521 t522 t523)) = some r := H
        have A40 := Aside0.mk A400
        clear A400
        replace H := Option.bind_eq_some_iff.mp H
        obtain ⟨t533, A410, H⟩ := H
        replace H : (laws_FnResumed.j0 k t504 t505 t506 t507 t508 t524 (t532 != t533) t512 t513 t514 t515 t520 t521 t522 t523) = some r := H
        have A41 := Aside0.mk A410
        clear A410
        have H' := Aside0.mk H
        clear H
        try go_wp2
        have n0_ : Aside0 (((((w28.setCell ⟨gb531, 0, none⟩ (.int .i64 t526)).setCell ⟨gb531, 1, none⟩ (.int .i64 t527)).setCell ⟨gb531, 2, none⟩ (.int .i64 t528)).setCell ⟨gb531, 3, none⟩ (.int .i64 t529)).heap[gb518]? = some (.cells #[.int .i64 t512, .int .i64 t513, .int .i64 t514, .int .i64 t515] 29 (0, 0))) := ⟨bf1 BK518.out NB518_531.out⟩
        have n1_ : Aside0 (((((w28.setCell ⟨gb531, 0, none⟩ (.int .i64 t526)).setCell ⟨gb531, 1, none⟩ (.int .i64 t527)).setCell ⟨gb531, 2, none⟩ (.int .i64 t528)).setCell ⟨gb531, 3, none⟩ (.int .i64 t529)).heap[gb519]? = some (.cells #[.int .i64 t516, .int .i64 t517] 31 (0, 0))) := ⟨bf1 BK519.out NB519_531.out⟩
        have n2_ : Aside0 (((((w28.setCell ⟨gb531, 0, none⟩ (.int .i64 t526)).setCell ⟨gb531, 1, none⟩ (.int .i64 t527)).setCell ⟨gb531, 2, none⟩ (.int .i64 t528)).setCell ⟨gb531, 3, none⟩ (.int .i64 t529)).heap[gb525]? = some (.cells #[.int .i64 t520, .int .i64 t521, .int .i64 t522, .int .i64 t523] 29 (0, 0))) := ⟨bf1 BK525.out NB525_531.out⟩
        have n3_ : Aside0 (((((w28.setCell ⟨gb531, 0, none⟩ (.int .i64 t526)).setCell ⟨gb531, 1, none⟩ (.int .i64 t527)).setCell ⟨gb531, 2, none⟩ (.int .i64 t528)).setCell ⟨gb531, 3, none⟩ (.int .i64 t529)).heap[gb531]? = some (.cells #[.int .i64 t526, .int .i64 t527, .int .i64 t528, .int .i64 t529] 29 (0, 0))) := ⟨by (with_reducible repeat (first | refine blk_drewN ?_ _ | refine blk_drew ?_ | refine blk_alloc ?_ _)); refine blk_put (cs := #[.int .i64 t526, .int .i64 t527, .int .i64 t528, .int .i64 0]) ?_ 3 _ rfl; (with_reducible repeat (first | refine blk_drewN ?_ _ | refine blk_drew ?_ | refine blk_alloc ?_ _)); refine blk_put (cs := #[.int .i64 t526, .int .i64 t527, .int .i64 0, .int .i64 0]) ?_ 2 _ rfl; (with_reducible repeat (first | refine blk_drewN ?_ _ | refine blk_drew ?_ | refine blk_alloc ?_ _)); refine blk_put (cs := #[.int .i64 t526, .int .i64 0, .int .i64 0, .int .i64 0]) ?_ 1 _ rfl; (with_reducible repeat (first | refine blk_drewN ?_ _ | refine blk_drew ?_ | refine blk_alloc ?_ _)); refine blk_put (cs := #[.int .i64 0, .int .i64 0, .int .i64 0, .int .i64 0]) ?_ 0 _ rfl; exact bf0 BK531.out⟩
        have n4_ : Aside0 (Below w.heap.size w ((((w28.setCell ⟨gb531, 0, none⟩ (.int .i64 t526)).setCell ⟨gb531, 1, none⟩ (.int .i64 t527)).setCell ⟨gb531, 2, none⟩ (.int .i64 t528)).setCell ⟨gb531, 3, none⟩ (.int .i64 t529))) := ⟨bl4 HB.out GE518.out GE519.out GE525.out GE531.out⟩
        (try clear BK518)
        (try clear BK519)
        (try clear BK525)
        (try clear BK531)
        (try clear HB)
        generalize ((((w28.setCell ⟨gb531, 0, none⟩ (.int .i64 t526)).setCell ⟨gb531, 1, none⟩ (.int .i64 t527)).setCell ⟨gb531, 2, none⟩ (.int .i64 t528)).setCell ⟨gb531, 3, none⟩ (.int .i64 t529)) = w42 at n0_ n1_ n2_ n3_ n4_ ⊢
        have BK518 := n0_
        have BK519 := n1_
        have BK525 := n2_
        have BK531 := n3_
        have HB := n4_
        clear n0_ n1_ n2_ n3_ n4_
        have n_ := (⟨am (blk_drew BK518.out), am (blk_drew BK519.out), am (blk_drew BK525.out), am (blk_drew BK531.out), am (below_drew1 HB.out)⟩ : _ ∧ _ ∧ _ ∧ _ ∧ _)
        clear BK518
        clear BK519
        clear BK525
        clear BK531
        clear HB
        obtain ⟨BK518, BK519, BK525, BK531, HB⟩ := n_
        refine start_ (n := 30) (S := fun w' => w'.cell? ⟨gb525, 0, none⟩ = some (.int .i64 t520) ∧ w'.cell? ⟨gb525, 1, none⟩ = some (.int .i64 t521) ∧ w'.cell? ⟨gb525, 2, none⟩ = some (.int .i64 t522) ∧ w'.cell? ⟨gb525, 3, none⟩ = some (.int .i64 t523) ∧ w'.cell? ⟨gb531, 0, none⟩ = some (.int .i64 t526) ∧ w'.cell? ⟨gb531, 1, none⟩ = some (.int .i64 t527) ∧ w'.cell? ⟨gb531, 2, none⟩ = some (.int .i64 t528) ∧ w'.cell? ⟨gb531, 3, none⟩ = some (.int .i64 t529) ∧ w'.cell? ⟨gb518, 0, none⟩ = some (.int .i64 t512) ∧ w'.cell? ⟨gb518, 1, none⟩ = some (.int .i64 t513) ∧ w'.cell? ⟨gb518, 2, none⟩ = some (.int .i64 t514) ∧ w'.cell? ⟨gb518, 3, none⟩ = some (.int .i64 t515)) (ds := []) #[false, false, false, false, false, false, false, false, false, false, false, false, false, false, false, false, false, false, false, false, false, false, false, false, false, false, false, false, false, false] (by kernel_rfl) rfl rfl ⟨(blk_cell BK525.out 0).trans rfl, (blk_cell BK525.out 1).trans rfl, (blk_cell BK525.out 2).trans rfl, (blk_cell BK525.out 3).trans rfl, (blk_cell BK531.out 0).trans rfl, (blk_cell BK531.out 1).trans rfl, (blk_cell BK531.out 2).trans rfl, (blk_cell BK531.out 3).trans rfl, (blk_cell BK518.out 0).trans rfl, (blk_cell BK518.out 1).trans rfl, (blk_cell BK518.out 2).trans rfl, (blk_cell BK518.out 3).trans rfl⟩ (fun hHeld => ?_); refine with_tabW laws_FnResumed.tab9 laws_FnResumed.bits9 (fun HT_ HW_ => ?_)
        generalize w42.drew = w43 at BK518 BK519 BK525 BK531 HB hHeld ⊢
        refine pure_ (i := 0) (N := some 59) (v := ?_) (a' := ?_) #[true, false, false, false, false, false, false, false, false, false, false, false, false, false, false, false, false, false, false, false, false, false, false, false, false, false, false, false, false, false] rfl rfl (any_of HT_.out (by kernel_rfl)) (fun _ _ _ h => h) (Or.inl ⟨by rfl, ?_⟩) ?_ ?_
        rotate_left; (focus exact gs); rotate_left; (focus exact pt)
        refine pure_ (i := 1) (N := some 60) (v := ?_) (a' := ?_) #[true, true, false, false, false, false, false, false, false, false, false, false, false, false, false, false, false, false, false, false, false, false, false, false, false, false, false, false, false, false] rfl rfl (any_of HT_.out (by kernel_rfl)) (fun _ _ _ h => h) (Or.inl ⟨by rfl, ?_⟩) ?_ ?_
        rotate_left; (focus exact gs); rotate_left; (focus exact pt)
        refine pure_ (i := 2) (N := some 61) (v := ?_) (a' := ?_) #[true, true, true, false, false, false, false, false, false, false, false, false, false, false, false, false, false, false, false, false, false, false, false, false, false, false, false, false, false, false] rfl rfl (any_of HT_.out (by kernel_rfl)) (fun _ _ _ h => h) (Or.inl ⟨by rfl, ?_⟩) ?_ ?_
        rotate_left; (focus exact gs); rotate_left; (focus exact pt)
        refine pure_ (i := 3) (N := some 62) (v := ?_) (a' := ?_) #[true, true, true, true, false, false, false, false, false, false, false, false, false, false, false, false, false, false, false, false, false, false, false, false, false, false, false, false, false, false] rfl rfl (any_of HT_.out (by kernel_rfl)) (fun _ _ _ h => h) (Or.inl ⟨by rfl, ?_⟩) ?_ ?_
        rotate_left; (focus exact gs); rotate_left; (focus exact pt)
        refine pure_ (i := 4) (N := some 63) (v := ?_) (a' := ?_) #[true, true, true, true, true, false, false, false, false, false, false, false, false, false, false, false, false, false, false, false, false, false, false, false, false, false, false, false, false, false] rfl rfl (any_of HT_.out (by kernel_rfl)) (fun _ _ _ h => h) (Or.inl ⟨by rfl, ?_⟩) ?_ ?_
        rotate_left; (focus exact gs); rotate_left; (focus exact pt)
        refine pure_ (i := 5) (N := some 64) (v := ?_) (a' := ?_) #[true, true, true, true, true, true, false, false, false, false, false, false, false, false, false, false, false, false, false, false, false, false, false, false, false, false, false, false, false, false] rfl rfl (any_of HT_.out (by kernel_rfl)) (fun _ _ _ h => h) (Or.inl ⟨by rfl, ?_⟩) ?_ ?_
        rotate_left; (focus exact gs); rotate_left; (focus exact pt)
        refine pure_ (i := 6) (N := some 65) (v := ?_) (a' := ?_) #[true, true, true, true, true, true, true, false, false, false, false, false, false, false, false, false, false, false, false, false, false, false, false, false, false, false, false, false, false, false] rfl rfl (any_of HT_.out (by kernel_rfl)) (fun _ _ _ h => h) (Or.inl ⟨by rfl, ?_⟩) ?_ ?_
        rotate_left; (focus exact gs); rotate_left; (focus exact pt)
        refine pure_ (i := 7) (N := some 66) (v := ?_) (a' := ?_) #[true, true, true, true, true, true, true, true, false, false, false, false, false, false, false, false, false, false, false, false, false, false, false, false, false, false, false, false, false, false] rfl rfl (any_of HT_.out (by kernel_rfl)) (fun _ _ _ h => h) (Or.inl ⟨by rfl, ?_⟩) ?_ ?_
        rotate_left; (focus exact gs); rotate_left; (focus exact pt)
        refine pure_ (i := 8) (N := some 67) (v := ?_) (a' := ?_) #[true, true, true, true, true, true, true, true, true, false, false, false, false, false, false, false, false, false, false, false, false, false, false, false, false, false, false, false, false, false] rfl rfl (any_of HT_.out (by kernel_rfl)) (fun _ _ _ h => h) (Or.inl ⟨by rfl, ?_⟩) ?_ ?_
        rotate_left; (focus exact gs); rotate_left; (focus exact pt)
        refine pure_ (i := 9) (N := some 68) (v := ?_) (a' := ?_) #[true, true, true, true, true, true, true, true, true, true, false, false, false, false, false, false, false, false, false, false, false, false, false, false, false, false, false, false, false, false] rfl rfl (any_of HT_.out (by kernel_rfl)) (fun _ _ _ h => h) (Or.inl ⟨by rfl, ?_⟩) ?_ ?_
        rotate_left; (focus exact gs); rotate_left; (focus exact pt)
        refine pure_ (i := 10) (N := some 69) (v := ?_) (a' := ?_) #[true, true, true, true, true, true, true, true, true, true, true, false, false, false, false, false, false, false, false, false, false, false, false, false, false, false, false, false, false, false] rfl rfl (any_of HT_.out (by kernel_rfl)) (fun _ _ _ h => h) (Or.inl ⟨by rfl, ?_⟩) ?_ ?_
        rotate_left; (focus exact gs); rotate_left; (focus exact pt)
        refine pure_ (i := 11) (N := some 70) (v := ?_) (a' := ?_) #[true, true, true, true, true, true, true, true, true, true, true, true, false, false, false, false, false, false, false, false, false, false, false, false, false, false, false, false, false, false] rfl rfl (any_of HT_.out (by kernel_rfl)) (fun _ _ _ h => h) (Or.inl ⟨by rfl, ?_⟩) ?_ ?_
        rotate_left; (focus exact gs); rotate_left; (focus exact pt)
        refine pure_ (i := 12) (N := some 71) (v := ?_) (a' := ?_) #[true, true, true, true, true, true, true, true, true, true, true, true, true, false, false, false, false, false, false, false, false, false, false, false, false, false, false, false, false, false] rfl rfl (any_of HT_.out (by kernel_rfl)) (fun _ _ _ h => h) (Or.inl ⟨by rfl, ?_⟩) ?_ ?_
        rotate_left; (focus exact gs); rotate_left; (focus exact pt)
        refine pure_ (i := 13) (N := some 72) (v := ?_) (a' := ?_) #[true, true, true, true, true, true, true, true, true, true, true, true, true, true, false, false, false, false, false, false, false, false, false, false, false, false, false, false, false, false] rfl rfl (any_of HT_.out (by kernel_rfl)) (fun _ _ _ h => h) (Or.inl ⟨by rfl, ?_⟩) ?_ ?_
        rotate_left; (focus exact gs); rotate_left; (focus exact pt)
        refine pure_ (i := 14) (N := some 73) (v := ?_) (a' := ?_) #[true, true, true, true, true, true, true, true, true, true, true, true, true, true, true, false, false, false, false, false, false, false, false, false, false, false, false, false, false, false] rfl rfl (any_of HT_.out (by kernel_rfl)) (fun _ _ _ h => h) (Or.inl ⟨by rfl, ?_⟩) ?_ ?_
        rotate_left; (focus exact gs); rotate_left; (focus exact pt)
        refine pure_ (i := 15) (N := some 74) (v := ?_) (a' := ?_) #[true, true, true, true, true, true, true, true, true, true, true, true, true, true, true, true, false, false, false, false, false, false, false, false, false, false, false, false, false, false] rfl rfl (any_of HT_.out (by kernel_rfl)) (fun _ _ _ h => h) (Or.inl ⟨by rfl, ?_⟩) ?_ ?_
        rotate_left; (focus exact gs); rotate_left; (focus exact pt)
        refine pure_ (i := 16) (N := some 75) (v := ?_) (a' := ?_) #[true, true, true, true, true, true, true, true, true, true, true, true, true, true, true, true, true, false, false, false, false, false, false, false, false, false, false, false, false, false] rfl rfl (any_of HT_.out (by kernel_rfl)) (fun _ _ _ h => h) (Or.inl ⟨by rfl, ?_⟩) ?_ ?_
        rotate_left; (focus exact gs); rotate_left; (focus exact pt)
        refine pure_ (i := 17) (N := some 76) (v := ?_) (a' := ?_) #[true, true, true, true, true, true, true, true, true, true, true, true, true, true, true, true, true, true, false, false, false, false, false, false, false, false, false, false, false, false] rfl rfl (any_of HT_.out (by kernel_rfl)) (fun _ _ _ h => h) (Or.inl ⟨by rfl, ?_⟩) ?_ ?_
        rotate_left; (focus exact gs); rotate_left; (focus exact pt)
        refine pure_ (i := 18) (N := some 77) (v := ?_) (a' := ?_) #[true, true, true, true, true, true, true, true, true, true, true, true, true, true, true, true, true, true, true, false, false, false, false, false, false, false, false, false, false, false] rfl rfl (any_of HT_.out (by kernel_rfl)) (fun _ _ _ h => h) (Or.inl ⟨by rfl, ?_⟩) ?_ ?_
        rotate_left; (focus exact gs); rotate_left; (focus exact pt)
        refine take_ (i := 19) (N := some 78) (v := ?_) (a' := ?_) #[true, true, true, true, true, true, true, true, true, true, true, true, true, true, true, true, true, true, true, true, false, false, false, false, false, false, false, false, false, false] rfl rfl (take_ofW HT_.out HW_.out (by kernel_rfl)) (fun _ _ _ h => h) (Or.inl ⟨by rfl, ?_⟩) hHeld ?_ ?_
        rotate_left
        ·rintro w' ⟨s0, s1, s2, s3, s4, s5, s6, s7, s8, s9, s10, s11⟩
         go_simp
         with_reducible rfl
        rotate_left
        ·exact pt
        refine take_ (i := 20) (N := some 79) (v := ?_) (a' := ?_) #[true, true, true, true, true, true, true, true, true, true, true, true, true, true, true, true, true, true, true, true, true, false, false, false, false, false, false, false, false, false] rfl rfl (take_ofW HT_.out HW_.out (by kernel_rfl)) (fun _ _ _ h => h) (Or.inl ⟨by rfl, ?_⟩) hHeld ?_ ?_
        rotate_left
        ·rintro w' ⟨s0, s1, s2, s3, s4, s5, s6, s7, s8, s9, s10, s11⟩
         go_simp
         with_reducible rfl
        rotate_left
        ·exact pt
        refine pure_ (i := 21) (N := some 80) (v := ?_) (a' := ?_) #[true, true, true, true, true, true, true, true, true, true, true, true, true, true, true, true, true, true, true, true, true, true, false, false, false, false, false, false, false, false] rfl rfl (any_of HT_.out (by kernel_rfl)) (fun _ _ _ h => h) (Or.inl ⟨by rfl, ?_⟩) ?_ ?_
        rotate_left; (focus exact gs); rotate_left; (focus exact pt)
        refine pure_ (i := 22) (N := some 81) (v := ?_) (a' := ?_) #[true, true, true, true, true, true, true, true, true, true, true, true, true, true, true, true, true, true, true, true, true, true, true, false, false, false, false, false, false, false] rfl rfl (any_of HT_.out (by kernel_rfl)) (fun _ _ _ h => h) (Or.inl ⟨by rfl, ?_⟩) ?_ ?_
        rotate_left; (focus exact gs); rotate_left; (focus exact pt)
        refine pure_ (i := 23) (N := some 82) (v := ?_) (a' := ?_) #[true, true, true, true, true, true, true, true, true, true, true, true, true, true, true, true, true, true, true, true, true, true, true, true, false, false, false, false, false, false] rfl rfl (any_of HT_.out (by kernel_rfl)) (fun _ _ _ h => h) (Or.inl ⟨by rfl, ?_⟩) ?_ ?_
        rotate_left; (focus exact gs); rotate_left; (focus exact pt)
        refine take_ (i := 24) (N := some 83) (v := ?_) (a' := ?_) #[true, true, true, true, true, true, true, true, true, true, true, true, true, true, true, true, true, true, true, true, true, true, true, true, true, false, false, false, false, false] rfl rfl (take_ofW HT_.out HW_.out (by kernel_rfl)) (fun _ _ _ h => h) (Or.inl ⟨by rfl, ?_⟩) hHeld ?_ ?_
        rotate_left
        ·rintro w' ⟨s0, s1, s2, s3, s4, s5, s6, s7, s8, s9, s10, s11⟩
         go_simp
         with_reducible rfl
        rotate_left
        ·exact pt
        refine take_ (i := 26) (N := some 85) (v := ?_) (a' := ?_) #[true, true, true, true, true, true, true, true, true, true, true, true, true, true, true, true, true, true, true, true, true, true, true, true, true, false, true, false, false, false] rfl rfl (take_ofW HT_.out HW_.out (by kernel_rfl)) (fun _ _ _ h => h) (Or.inl ⟨by rfl, ?_⟩) hHeld ?_ ?_
        rotate_left
        ·rintro w' ⟨s0, s1, s2, s3, s4, s5, s6, s7, s8, s9, s10, s11⟩
         go_simp
         with_reducible rfl
        rotate_left
        ·exact pt
        refine one_ (i := 25) (N := some 84) #[true, true, true, true, true, true, true, true, true, true, true, true, true, true, true, true, true, true, true, true, true, true, true, true, true, true, true, false, false, false] rfl rfl (one_of HT_.out (by kernel_rfl)) (by decide) (fun K hK => ?_)
        refine goes_ Tryd.func11 (by kernel_rfl) rfl #[.agg #[.int .i64 t512, .int .i64 t513, .int .i64 t514, .int .i64 t515]] (by rfl) rfl rfl lnp ?_
        with_reducible refine (impl_IsMachine.calls t512 t513 t514 t515 t532 _ A40.out).mono ?_
        rintro e w44 ⟨rfl, hb⟩
        refine ⟨_, rfl, ?_⟩
        have n_ := (⟨am (blk_below (bf0 BK518.out) hb), am (blk_below (bf0 BK519.out) hb), am (blk_below (bf0 BK525.out) hb), am (blk_below (bf0 BK531.out) hb), am (below_step (bl4 HB.out GE518.out GE519.out GE525.out GE531.out) hb)⟩ : _ ∧ _ ∧ _ ∧ _ ∧ _)
        clear BK518
        clear BK519
        clear BK525
        clear BK531
        clear HB
        obtain ⟨BK518, BK519, BK525, BK531, HB⟩ := n_
        (try clear hb)
        (try clear hb2)
        (try clear hk)
        (try clear hi)
        refine hK.out _ _ ⟨(blk_cell BK525.out 0).trans rfl, (blk_cell BK525.out 1).trans rfl, (blk_cell BK525.out 2).trans rfl, (blk_cell BK525.out 3).trans rfl, (blk_cell BK531.out 0).trans rfl, (blk_cell BK531.out 1).trans rfl, (blk_cell BK531.out 2).trans rfl, (blk_cell BK531.out 3).trans rfl, (blk_cell BK518.out 0).trans rfl, (blk_cell BK518.out 1).trans rfl, (blk_cell BK518.out 2).trans rfl, (blk_cell BK518.out 3).trans rfl⟩ (fun hHeld => ?_)
        clear hK K
        refine norm_ (a' := ?_) ?_ ?_
        rotate_left
        ·show Act.put _ (some 84) _ = _
         simp only [Act.put, List.setIfInBounds_toArray, List.set_cons_zero, List.set_cons_succ, i64_w, i32_w]
         rfl
        refine one_ (i := 27) (N := some 86) #[true, true, true, true, true, true, true, true, true, true, true, true, true, true, true, true, true, true, true, true, true, true, true, true, true, true, true, true, false, false] rfl rfl (one_of HT_.out (by kernel_rfl)) (by decide) (fun K hK => ?_)
        refine goes_ Tryd.func12 (by kernel_rfl) rfl #[.agg #[.int .i64 t512, .int .i64 t513, .int .i64 t514, .int .i64 t515]] (by rfl) rfl rfl lnp ?_
        with_reducible refine (spec_IsMachine.calls t512 t513 t514 t515 t533 _ A41.out).mono ?_
        rintro e w45 ⟨rfl, hb⟩
        refine ⟨_, rfl, ?_⟩
        have n_ := (⟨am (blk_below (bf0 BK518.out) hb), am (blk_below (bf0 BK519.out) hb), am (blk_below (bf0 BK525.out) hb), am (blk_below (bf0 BK531.out) hb), am (below_step (bl4 HB.out GE518.out GE519.out GE525.out GE531.out) hb)⟩ : _ ∧ _ ∧ _ ∧ _ ∧ _)
        clear BK518
        clear BK519
        clear BK525
        clear BK531
        clear HB
        obtain ⟨BK518, BK519, BK525, BK531, HB⟩ := n_
        (try clear hb)
        (try clear hb2)
        (try clear hk)
        (try clear hi)
        refine hK.out _ _ ⟨(blk_cell BK525.out 0).trans rfl, (blk_cell BK525.out 1).trans rfl, (blk_cell BK525.out 2).trans rfl, (blk_cell BK525.out 3).trans rfl, (blk_cell BK531.out 0).trans rfl, (blk_cell BK531.out 1).trans rfl, (blk_cell BK531.out 2).trans rfl, (blk_cell BK531.out 3).trans rfl, (blk_cell BK518.out 0).trans rfl, (blk_cell BK518.out 1).trans rfl, (blk_cell BK518.out 2).trans rfl, (blk_cell BK518.out 3).trans rfl⟩ (fun hHeld => ?_)
        clear hK K
        refine norm_ (a' := ?_) ?_ ?_
        rotate_left
        ·show Act.put _ (some 86) _ = _
         simp only [Act.put, List.setIfInBounds_toArray, List.set_cons_zero, List.set_cons_succ, i64_w, i32_w]
         rfl
        refine pure_ (i := 28) (N := some 87) (v := ?_) (a' := ?_) #[true, true, true, true, true, true, true, true, true, true, true, true, true, true, true, true, true, true, true, true, true, true, true, true, true, true, true, true, true, false] rfl rfl (any_of HT_.out (by kernel_rfl)) (fun _ _ _ h => h) (Or.inl ⟨by rfl, ?_⟩) ?_ ?_
        rotate_left; (focus exact gs); rotate_left; (focus exact pt)
        refine pure_ (i := 29) (N := some 88) (v := ?_) (a' := ?_) #[true, true, true, true, true, true, true, true, true, true, true, true, true, true, true, true, true, true, true, true, true, true, true, true, true, true, true, true, true, true] rfl rfl (any_of HT_.out (by kernel_rfl)) (fun _ _ _ h => h) (Or.inl ⟨by rfl, ?_⟩) ?_ ?_
        rotate_left; (focus exact gs); rotate_left; (focus exact pt)
        refine done_ (done_of HT_.out (by kernel_rfl)) ?_
        try go_wp2
        go_meet
        case rel => exact ⟨_, ((t532 != t533)), (by first | rfl | (simp; done) | (simp [*]; done)), H', ⟨by first | omega | exact Nat.le_refl _⟩, ⟨bf0 BK518.out⟩, ⟨bf0 BK519.out⟩, ⟨bf0 BK525.out⟩, ⟨bf0 BK531.out⟩, ⟨bl4 HB.out GE518.out GE519.out GE525.out GE531.out⟩⟩
      ·rw [if_neg c36] at H
       exact absurd H (by simp)
     ·rw [if_neg c35] at H
      exact absurd H (by simp)
    ·rw [if_neg c34] at H
     exact absurd H (by simp)
   ·rw [if_neg c33] at H
    exact absurd H (by simp)
  case rest =>
   clear HC10
   try clear p2
   try clear c3
   try clear c33
   try clear c33b0
   try clear c33b1
   try clear c34
   try clear c34b0
   try clear c34b1
   obtain ⟨kq, x88_9, rfl, HA, HJ9, BK518, BK519, BK525, BK531, HB⟩ := hcut
   cases kq with
   | zero => exact absurd HA.out (by simp [laws_FnResumed.j0])
   | succ kj9 =>
    have H := HA.out
    clear HA
    simp only [laws_FnResumed.j0] at H
    by_cases c54 : x88_9 = true
    ·subst c54
     have H1 : (some false) = some r := by rw [if_pos rfl] at H; exact H
     clear H
     have H := H1
     clear H1
     obtain rfl := Option.some.inj H
     go_wp2
     go_ret
     exact ⟨er, bl4 HB.out GE518.out GE519.out GE525.out GE531.out⟩
    ·replace c54 := Bool.eq_false_iff.mpr c54
     subst c54
     have H1 : (if t524 = 0 then ((impl_IsMachine.f t520 t521 t522 t523).bind fun t534 => (if t534 = true then (laws_FnResumed.j1 kj9 t504 t505 t506 t507 t508 (decide (t523 < t515))) else (none))) else (laws_FnResumed.j1 kj9 t504 t505 t506 t507 t508 false)) = some r := by rw [if_neg (show ¬ (false = true) by decide)] at H; exact H
     clear H
     have H := H1
     clear H1
     have HC55 := Aside0.mk H
     clear H
     go_upto_region 11 with (fail)
     go_cut [102] (fun v102 wc => ∃ (kq : Nat) (x102_54 : Bool), v102 = .bool x102_54 ∧ Aside0 (laws_FnResumed.j1 kq t504 t505 t506 t507 t508 x102_54 = some r) ∧ Aside0 (kq ≤ kj9) ∧ Aside0 (wc.heap[gb518]? = some (.cells #[.int .i64 t512, .int .i64 t513, .int .i64 t514, .int .i64 t515] 29 (0, 0))) ∧ Aside0 (wc.heap[gb519]? = some (.cells #[.int .i64 t516, .int .i64 t517] 31 (0, 0))) ∧ Aside0 (wc.heap[gb525]? = some (.cells #[.int .i64 t520, .int .i64 t521, .int .i64 t522, .int .i64 t523] 29 (0, 0))) ∧ Aside0 (wc.heap[gb531]? = some (.cells #[.int .i64 t526, .int .i64 t527, .int .i64 t528, .int .i64 t529] 29 (0, 0))) ∧ Aside0 (Below w.heap.size w wc))
     case first =>
      have H := HC55.out
      clear HC55
      by_cases c56 : t524 = 0
      ·rw [if_pos c56] at H
       have c56b0 : (t524 == 0) = true := beq_iff_eq.mpr c56
       have c56b1 : (t524 != 0) = false := bne_eq_false_iff_eq.mpr c56
       clear c56
       (first | rw [c56b0] | (simp only [i64_w, i32_w]; rw [c56b0]) | skip)
       replace H := Option.bind_eq_some_iff.mp H
       obtain ⟨t534, A570, H⟩ := H
       replace H : (if t534 = true then (laws_FnResumed.j1 kj9 t504 t505 t506 t507 t508 (decide (t523 < t515))) else (none)) = some r := H
       have A57 := Aside0.mk A570
       clear A570
       by_cases c58 : t534 = true
       ·subst c58
        have H1 : (laws_FnResumed.j1 kj9 t504 t505 t506 t507 t508 (decide (t523 < t515))) = some r := by rw [if_pos rfl] at H; exact H
        clear H
        have H := H1
        clear H1
        have H' := Aside0.mk H
        clear H
        have hnb59 := NB525_518.out
        have hnc59 := NB518_525.out
        have hnb60 := NB525_519.out
        have hnc60 := NB519_525.out
        have hnb61 := NB525_531.out
        have hnc61 := NB531_525.out
        obtain ⟨hcz62_0, hcz62_1, hcz62_2, hcz62_3, hfz62_0, hfz62_1, hfz62_2, hfz62_3⟩ := cs4 BK525.out
        go_wp2_with (first | (go_at_call 11; (with_reducible refine (impl_IsMachine.calls t520 t521 t522 t523 true _ A57.out).mono ?_); rintro e w63 ⟨rfl, hb⟩; have n_ := (⟨am (blk_below (bf0 BK518.out) hb), am (blk_below (bf0 BK519.out) hb), am (blk_below (bf0 BK525.out) hb), am (blk_below (bf0 BK531.out) hb), am (below_step (bl4 HB.out GE518.out GE519.out GE525.out GE531.out) hb)⟩ : _ ∧ _ ∧ _ ∧ _ ∧ _); clear BK518 BK519 BK525 BK531 HB; obtain ⟨BK518, BK519, BK525, BK531, HB⟩ := n_; (try clear hb); (try clear hb2); (try clear hk); (try clear hi); obtain ⟨hcz64_0, hcz64_1, hcz64_2, hcz64_3, hfz64_0, hfz64_1, hfz64_2, hfz64_3⟩ := cs4 BK525.out; have hnb65 := NB518_519.out; have hnc65 := NB519_518.out; have hnb66 := NB518_531.out; have hnc66 := NB531_518.out; obtain ⟨hcz67_0, hcz67_1, hcz67_2, hcz67_3, hfz67_0, hfz67_1, hfz67_2, hfz67_3⟩ := cs4 BK518.out))
        go_meet
        case rel => exact ⟨_, (decide (t523 < t515)), (by first | rfl | (simp; done) | (simp [*]; done)), H', ⟨by have := HJ9.out; first | omega | exact Nat.le_refl _⟩, ⟨bf0 BK518.out⟩, ⟨bf0 BK519.out⟩, ⟨bf0 BK525.out⟩, ⟨bf0 BK531.out⟩, ⟨bl4 HB.out GE518.out GE519.out GE525.out GE531.out⟩⟩
       ·replace c58 := Bool.eq_false_iff.mpr c58
        subst c58
        have H1 : (none) = some r := by rw [if_neg (show ¬ (false = true) by decide)] at H; exact H
        exact absurd H1 (by simp)
      ·rw [if_neg c56] at H
       have c56b0 : (t524 == 0) = false := beq_eq_false_iff_ne.mpr c56
       have c56b1 : (t524 != 0) = true := bne_iff_ne.mpr c56
       (first | rw [c56b0] | (simp only [i64_w, i32_w]; rw [c56b0]) | skip)
       have H' := Aside0.mk H
       clear H
       go_wp2
       go_meet
       case rel => exact ⟨_, (false), (by first | rfl | (simp; done) | (simp [*]; done)), H', ⟨by have := HJ9.out; first | omega | exact Nat.le_refl _⟩, ⟨bf0 BK518.out⟩, ⟨bf0 BK519.out⟩, ⟨bf0 BK525.out⟩, ⟨bf0 BK531.out⟩, ⟨bl4 HB.out GE518.out GE519.out GE525.out GE531.out⟩⟩
     case rest =>
      clear HC55
      try clear p2
      try clear c3
      try clear c5
      try clear c6
      try clear c7
      try clear c33
      try clear c33b0
      try clear c33b1
      try clear c34
      try clear c34b0
      try clear c34b1
      try clear c54
      try clear c56
      try clear c56b0
      try clear c56b1
      try clear c58
      try clear c59
      try clear c60
      try clear c61
      try clear c65
      try clear c66
      try clear c68
      try clear c69
      try clear c70
      try clear hcz62_0
      try clear hcz62_1
      try clear hcz62_2
      try clear hcz62_3
      try clear hcz64_0
      try clear hcz64_1
      try clear hcz64_2
      try clear hcz64_3
      try clear hcz67_0
      try clear hcz67_1
      try clear hcz67_2
      try clear hcz67_3
      try clear hcz71_0
      try clear hcz71_1
      try clear hcz71_2
      try clear hcz71_3
      try clear hfz62_0
      try clear hfz62_1
      try clear hfz62_2
      try clear hfz62_3
      try clear hfz64_0
      try clear hfz64_1
      try clear hfz64_2
      try clear hfz64_3
      try clear hfz67_0
      try clear hfz67_1
      try clear hfz67_2
      try clear hfz67_3
      try clear hfz71_0
      try clear hfz71_1
      try clear hfz71_2
      try clear hfz71_3
      try clear p2
      obtain ⟨kq, x102_54, rfl, HA, HJ54, BK518, BK519, BK525, BK531, HB⟩ := hcut
      cases kq with
      | zero => exact absurd HA.out (by simp [laws_FnResumed.j1])
      | succ kj54 =>
       have H := HA.out
       clear HA
       simp only [laws_FnResumed.j1] at H
       by_cases c73 : x102_54 = true
       ·subst c73
        have H1 : (some false) = some r := by rw [if_pos rfl] at H; exact H
        clear H
        have H := H1
        clear H1
        obtain rfl := Option.some.inj H
        go_wp2
        go_ret
        exact ⟨er, bl4 HB.out GE518.out GE519.out GE525.out GE531.out⟩
       ·replace c73 := Bool.eq_false_iff.mpr c73
        subst c73
        have H1 : (if t508 = 0 then ((impl_RecoverJournal.f kj54 t504).bind fun bt535 => ((impl_RunJournal.f kj54 bt535.1).bind fun bt539 => (if bt535.2 = 0 then (if bt539.2.2.2.2 = 0 then (if bt539.1 = t506 then (some (t507 == (mx 0 (wrap64 (t505 - bt539.2.1))))) else (some false)) else (some false)) else (some false)))) else (some true)) = some r := by rw [if_neg (show ¬ (false = true) by decide)] at H; exact H
        clear H
        have H := H1
        clear H1
        by_cases c74 : t508 = 0
        ·rw [if_pos c74] at H
         have c74b0 : (t508 == 0) = true := beq_iff_eq.mpr c74
         have c74b1 : (t508 != 0) = false := bne_eq_false_iff_eq.mpr c74
         clear c74
         replace H := Option.bind_eq_some_iff.mp H
         obtain ⟨⟨t535, t536⟩, A750, H⟩ := H
         replace H : ((impl_RunJournal.f kj54 t535).bind fun bt539 => (if t536 = 0 then (if bt539.2.2.2.2 = 0 then (if bt539.1 = t506 then (some (t507 == (mx 0 (wrap64 (t505 - bt539.2.1))))) else (some false)) else (some false)) else (some false))) = some r := H
         have A75 := Aside0.mk A750
         clear A750
         replace H := Option.bind_eq_some_iff.mp H
         obtain ⟨⟨t539, t540, t541, t542, t543⟩, A760, H⟩ := H
         replace H : (if t536 = 0 then (if t543 = 0 then (if t539 = t506 then (some (t507 == (mx 0 (wrap64 (t505 - t540))))) else (some false)) else (some false)) else (some false)) = some r := H
         have A76 := Aside0.mk A760
         clear A760
         by_cases c77 : t536 = 0
         ·rw [if_pos c77] at H
          have c77b0 : (t536 == 0) = true := beq_iff_eq.mpr c77
          have c77b1 : (t536 != 0) = false := bne_eq_false_iff_eq.mpr c77
          clear c77
          by_cases c78 : t543 = 0
          ·rw [if_pos c78] at H
           have c78b0 : (t543 == 0) = true := beq_iff_eq.mpr c78
           have c78b1 : (t543 != 0) = false := bne_eq_false_iff_eq.mpr c78
           clear c78
           by_cases c79 : t539 = t506
           ·rw [if_pos c79] at H
            have c79b0 : (t539 == t506) = true := beq_iff_eq.mpr c79
            have c79b1 : (t539 != t506) = false := bne_eq_false_iff_eq.mpr c79
            clear c79
            obtain ⟨ji80, hji80⟩ : ∃ j_ : Int, (mx 0 (wrap64 (t505 - t540))) = j_ := ⟨_, rfl⟩
            replace H : (some (t507 == (ji80))) = some r := by first | (rw [hji80] at H; exact H) | (simp only [hji80] at H ⊢; exact H)
            (try rw [hji80] at A75)
            (try rw [hji80] at A76)
            have hji80_ : (if 0 < (wrap64 (t505 - t540)) then (wrap64 (t505 - t540)) else 0) = ji80 := hji80
            obtain rfl := Option.some.inj H
            go_wp2_with (first | ((with_reducible refine gate_callee (f := 13) rfl ?_); refine goesL_ (some 107) rfl rfl Tryd.func13 (by kernel_rfl) rfl #[.string t504] rfl lnp ?_; (with_reducible refine (impl_RecoverJournal.calls kj54 t504 t535 t536 _ A75.out ?gl_).mono ?_); (case gl_ => exact Gl.below HG.out (bl4 HB.out GE518.out GE519.out GE525.out GE531.out)); rintro e w81 ⟨v537, rfl, ho0, hb⟩; refine ⟨_, rfl, ?_⟩; have n_ := (⟨am (Kd.R_lower (Kd.R_newB ho0 (g := gb519) (o := .cells #[.int .i64 t516, .int .i64 t517] 31 (0, 0)) (bf0 BK519.out)) (below_size (bl4 HB.out GE518.out GE519.out GE525.out GE531.out))), am (blk_below (bf0 BK518.out) hb), am (blk_below (bf0 BK519.out) hb), am (blk_below (bf0 BK525.out) hb), am (blk_below (bf0 BK531.out) hb), am (below_step (bl4 HB.out GE518.out GE519.out GE525.out GE531.out) hb)⟩ : _ ∧ _ ∧ _ ∧ _ ∧ _ ∧ _); clear BK518 BK519 BK525 BK531 HB; obtain ⟨HO538, BK518, BK519, BK525, BK531, HB⟩ := n_; (try clear hb); (try clear hb2); (try clear hk); (try clear hi); (try clear ho0); obtain ⟨Ao82, co82, eo82⟩ := Kd.R_slice HO538.out; subst eo82) | ((with_reducible refine gate_callee (f := 14) rfl ?_); refine goesL_ (some 112) rfl rfl Tryd.func14 (by kernel_rfl) rfl #[.slice Ao82 t535.length co82] rfl lnp ?_; (with_reducible refine (impl_RunJournal.calls kj54 _ _ t535 t539 t540 t541 t542 t543 _ ?side1 ?side2 A76.out).mono ?_); (case side1 => repeat (first | exact (Kd.R_reads' HO538.out).2.2 | (with_reducible refine Kd.C_alloc ?_ _) | (with_reducible refine Kd.C_drewN ?_ _) | (with_reducible refine Kd.C_drew ?_))); (case side2 => exact (Kd.R_reads' HO538.out).2.1); rintro e w83 ⟨rfl, hb⟩; refine ⟨_, rfl, ?_⟩; have n_ := (⟨am (Kd.R_below (rqR HO538.out) hb), am (blk_below (bf0 BK518.out) hb), am (blk_below (bf0 BK519.out) hb), am (blk_below (bf0 BK525.out) hb), am (blk_below (bf0 BK531.out) hb), am (below_step (bl4 HB.out GE518.out GE519.out GE525.out GE531.out) hb)⟩ : _ ∧ _ ∧ _ ∧ _ ∧ _ ∧ _); clear HO538 BK518 BK519 BK525 BK531 HB; obtain ⟨HO538, BK518, BK519, BK525, BK531, HB⟩ := n_; (try clear hb); (try clear hb2); (try clear hk); (try clear hi)) | ((with_reducible refine gate_dst (N := 19) rfl ?_); (try (refine gate_guard (by rfl) ?_; dsimp only)); refine box_event ?hg (N := 19) ?hd (cs := #[.int .i64 0, .int .i64 0, .int .i64 0, .int .i64 0]) (t := 29) ?hr ?_; (case hd => rfl); (case hg => rfl); (case hr => first | (go_simp; done) | (go_simp; rfl)); intro gb544 hg w84 hbox hb; have n_ := (⟨am (Kd.R_below (rqR HO538.out) hb), am (blk_below (bf0 BK518.out) hb), am (blk_below (bf0 BK519.out) hb), am (blk_below (bf0 BK525.out) hb), am (blk_below (bf0 BK531.out) hb), am (below_step (bl4 HB.out GE518.out GE519.out GE525.out GE531.out) hb), am (hbox), am ((gw hg (bl4 HB.out GE518.out GE519.out GE525.out GE531.out) : w.heap.size ≤ gb544)), am ((gw hg (bl4 HB.out GE518.out GE519.out GE525.out GE531.out) : w.heap.size ≤ gb544)), am ((nl hg (bf0 BK518.out) : gb518 ≠ gb544)), am ((ng hg (bf0 BK518.out) : gb544 ≠ gb518)), am ((nl hg (bf0 BK519.out) : gb519 ≠ gb544)), am ((ng hg (bf0 BK519.out) : gb544 ≠ gb519)), am ((nl hg (bf0 BK525.out) : gb525 ≠ gb544)), am ((ng hg (bf0 BK525.out) : gb544 ≠ gb525)), am ((nl hg (bf0 BK531.out) : gb531 ≠ gb544)), am ((ng hg (bf0 BK531.out) : gb544 ≠ gb531))⟩ : _ ∧ _ ∧ _ ∧ _ ∧ _ ∧ _ ∧ _ ∧ _ ∧ _ ∧ _ ∧ _ ∧ _ ∧ _ ∧ _ ∧ _ ∧ _ ∧ _); clear HO538 BK518 BK519 BK525 BK531 HB; obtain ⟨HO538, BK518, BK519, BK525, BK531, HB, BK544, GW544, GE544, NB518_544, NB544_518, NB519_544, NB544_519, NB525_544, NB544_525, NB531_544, NB544_531⟩ := n_; clear hb hbox hg; have hnb85 := NB544_518.out; have hnc85 := NB518_544.out; have hnb86 := NB544_519.out; have hnc86 := NB519_544.out; have hnb87 := NB544_525.out; have hnc87 := NB525_544.out; have hnb88 := NB544_531.out; have hnc88 := NB531_544.out; obtain ⟨hcz89_0, hcz89_1, hcz89_2, hcz89_3, hfz89_0, hfz89_1, hfz89_2, hfz89_3⟩ := cs4 BK544.out))
            go_ret
            exact ⟨by first | rfl | (simp [errW_none, errW_some] <;> rfl) | (simp only [← hji80]; first | rfl | (simp [errW_none, errW_some] <;> rfl)) | (simp [*, errW_none, errW_some] <;> rfl), bl5 HB.out GE518.out GE519.out GE525.out GE531.out GE544.out⟩
           ·rw [if_neg c79] at H
            have c79b0 : (t539 == t506) = false := beq_eq_false_iff_ne.mpr c79
            have c79b1 : (t539 != t506) = true := bne_iff_ne.mpr c79
            obtain rfl := Option.some.inj H
            go_wp2_with (first | ((with_reducible refine gate_callee (f := 13) rfl ?_); refine goesL_ (some 107) rfl rfl Tryd.func13 (by kernel_rfl) rfl #[.string t504] rfl lnp ?_; (with_reducible refine (impl_RecoverJournal.calls kj54 t504 t535 t536 _ A75.out ?gl_).mono ?_); (case gl_ => exact Gl.below HG.out (bl4 HB.out GE518.out GE519.out GE525.out GE531.out)); rintro e w90 ⟨v537, rfl, ho0, hb⟩; refine ⟨_, rfl, ?_⟩; have n_ := (⟨am (Kd.R_lower (Kd.R_newB ho0 (g := gb519) (o := .cells #[.int .i64 t516, .int .i64 t517] 31 (0, 0)) (bf0 BK519.out)) (below_size (bl4 HB.out GE518.out GE519.out GE525.out GE531.out))), am (blk_below (bf0 BK518.out) hb), am (blk_below (bf0 BK519.out) hb), am (blk_below (bf0 BK525.out) hb), am (blk_below (bf0 BK531.out) hb), am (below_step (bl4 HB.out GE518.out GE519.out GE525.out GE531.out) hb)⟩ : _ ∧ _ ∧ _ ∧ _ ∧ _ ∧ _); clear BK518 BK519 BK525 BK531 HB; obtain ⟨HO538, BK518, BK519, BK525, BK531, HB⟩ := n_; (try clear hb); (try clear hb2); (try clear hk); (try clear hi); (try clear ho0); obtain ⟨Ao91, co91, eo91⟩ := Kd.R_slice HO538.out; subst eo91) | ((with_reducible refine gate_callee (f := 14) rfl ?_); refine goesL_ (some 112) rfl rfl Tryd.func14 (by kernel_rfl) rfl #[.slice Ao91 t535.length co91] rfl lnp ?_; (with_reducible refine (impl_RunJournal.calls kj54 _ _ t535 t539 t540 t541 t542 t543 _ ?side1 ?side2 A76.out).mono ?_); (case side1 => repeat (first | exact (Kd.R_reads' HO538.out).2.2 | (with_reducible refine Kd.C_alloc ?_ _) | (with_reducible refine Kd.C_drewN ?_ _) | (with_reducible refine Kd.C_drew ?_))); (case side2 => exact (Kd.R_reads' HO538.out).2.1); rintro e w92 ⟨rfl, hb⟩; refine ⟨_, rfl, ?_⟩; have n_ := (⟨am (Kd.R_below (rqR HO538.out) hb), am (blk_below (bf0 BK518.out) hb), am (blk_below (bf0 BK519.out) hb), am (blk_below (bf0 BK525.out) hb), am (blk_below (bf0 BK531.out) hb), am (below_step (bl4 HB.out GE518.out GE519.out GE525.out GE531.out) hb)⟩ : _ ∧ _ ∧ _ ∧ _ ∧ _ ∧ _); clear HO538 BK518 BK519 BK525 BK531 HB; obtain ⟨HO538, BK518, BK519, BK525, BK531, HB⟩ := n_; (try clear hb); (try clear hb2); (try clear hk); (try clear hi)) | ((with_reducible refine gate_dst (N := 19) rfl ?_); (try (refine gate_guard (by rfl) ?_; dsimp only)); refine box_event ?hg (N := 19) ?hd (cs := #[.int .i64 0, .int .i64 0, .int .i64 0, .int .i64 0]) (t := 29) ?hr ?_; (case hd => rfl); (case hg => rfl); (case hr => first | (go_simp; done) | (go_simp; rfl)); intro gb544 hg w93 hbox hb; have n_ := (⟨am (Kd.R_below (rqR HO538.out) hb), am (blk_below (bf0 BK518.out) hb), am (blk_below (bf0 BK519.out) hb), am (blk_below (bf0 BK525.out) hb), am (blk_below (bf0 BK531.out) hb), am (below_step (bl4 HB.out GE518.out GE519.out GE525.out GE531.out) hb), am (hbox), am ((gw hg (bl4 HB.out GE518.out GE519.out GE525.out GE531.out) : w.heap.size ≤ gb544)), am ((gw hg (bl4 HB.out GE518.out GE519.out GE525.out GE531.out) : w.heap.size ≤ gb544)), am ((nl hg (bf0 BK518.out) : gb518 ≠ gb544)), am ((ng hg (bf0 BK518.out) : gb544 ≠ gb518)), am ((nl hg (bf0 BK519.out) : gb519 ≠ gb544)), am ((ng hg (bf0 BK519.out) : gb544 ≠ gb519)), am ((nl hg (bf0 BK525.out) : gb525 ≠ gb544)), am ((ng hg (bf0 BK525.out) : gb544 ≠ gb525)), am ((nl hg (bf0 BK531.out) : gb531 ≠ gb544)), am ((ng hg (bf0 BK531.out) : gb544 ≠ gb531))⟩ : _ ∧ _ ∧ _ ∧ _ ∧ _ ∧ _ ∧ _ ∧ _ ∧ _ ∧ _ ∧ _ ∧ _ ∧ _ ∧ _ ∧ _ ∧ _ ∧ _); clear HO538 BK518 BK519 BK525 BK531 HB; obtain ⟨HO538, BK518, BK519, BK525, BK531, HB, BK544, GW544, GE544, NB518_544, NB544_518, NB519_544, NB544_519, NB525_544, NB544_525, NB531_544, NB544_531⟩ := n_; clear hb hbox hg; have hnb94 := NB544_518.out; have hnc94 := NB518_544.out; have hnb95 := NB544_519.out; have hnc95 := NB519_544.out; have hnb96 := NB544_525.out; have hnc96 := NB525_544.out; have hnb97 := NB544_531.out; have hnc97 := NB531_544.out; obtain ⟨hcz98_0, hcz98_1, hcz98_2, hcz98_3, hfz98_0, hfz98_1, hfz98_2, hfz98_3⟩ := cs4 BK544.out))
            go_ret
            exact ⟨er, bl5 HB.out GE518.out GE519.out GE525.out GE531.out GE544.out⟩
          ·rw [if_neg c78] at H
           have c78b0 : (t543 == 0) = false := beq_eq_false_iff_ne.mpr c78
           have c78b1 : (t543 != 0) = true := bne_iff_ne.mpr c78
           obtain rfl := Option.some.inj H
           go_wp2_with (first | ((with_reducible refine gate_callee (f := 13) rfl ?_); refine goesL_ (some 107) rfl rfl Tryd.func13 (by kernel_rfl) rfl #[.string t504] rfl lnp ?_; (with_reducible refine (impl_RecoverJournal.calls kj54 t504 t535 t536 _ A75.out ?gl_).mono ?_); (case gl_ => exact Gl.below HG.out (bl4 HB.out GE518.out GE519.out GE525.out GE531.out)); rintro e w99 ⟨v537, rfl, ho0, hb⟩; refine ⟨_, rfl, ?_⟩; have n_ := (⟨am (Kd.R_lower (Kd.R_newB ho0 (g := gb519) (o := .cells #[.int .i64 t516, .int .i64 t517] 31 (0, 0)) (bf0 BK519.out)) (below_size (bl4 HB.out GE518.out GE519.out GE525.out GE531.out))), am (blk_below (bf0 BK518.out) hb), am (blk_below (bf0 BK519.out) hb), am (blk_below (bf0 BK525.out) hb), am (blk_below (bf0 BK531.out) hb), am (below_step (bl4 HB.out GE518.out GE519.out GE525.out GE531.out) hb)⟩ : _ ∧ _ ∧ _ ∧ _ ∧ _ ∧ _); clear BK518 BK519 BK525 BK531 HB; obtain ⟨HO538, BK518, BK519, BK525, BK531, HB⟩ := n_; (try clear hb); (try clear hb2); (try clear hk); (try clear hi); (try clear ho0); obtain ⟨Ao100, co100, eo100⟩ := Kd.R_slice HO538.out; subst eo100) | ((with_reducible refine gate_callee (f := 14) rfl ?_); refine goesL_ (some 112) rfl rfl Tryd.func14 (by kernel_rfl) rfl #[.slice Ao100 t535.length co100] rfl lnp ?_; (with_reducible refine (impl_RunJournal.calls kj54 _ _ t535 t539 t540 t541 t542 t543 _ ?side1 ?side2 A76.out).mono ?_); (case side1 => repeat (first | exact (Kd.R_reads' HO538.out).2.2 | (with_reducible refine Kd.C_alloc ?_ _) | (with_reducible refine Kd.C_drewN ?_ _) | (with_reducible refine Kd.C_drew ?_))); (case side2 => exact (Kd.R_reads' HO538.out).2.1); rintro e w101 ⟨rfl, hb⟩; refine ⟨_, rfl, ?_⟩; have n_ := (⟨am (Kd.R_below (rqR HO538.out) hb), am (blk_below (bf0 BK518.out) hb), am (blk_below (bf0 BK519.out) hb), am (blk_below (bf0 BK525.out) hb), am (blk_below (bf0 BK531.out) hb), am (below_step (bl4 HB.out GE518.out GE519.out GE525.out GE531.out) hb)⟩ : _ ∧ _ ∧ _ ∧ _ ∧ _ ∧ _); clear HO538 BK518 BK519 BK525 BK531 HB; obtain ⟨HO538, BK518, BK519, BK525, BK531, HB⟩ := n_; (try clear hb); (try clear hb2); (try clear hk); (try clear hi)) | ((with_reducible refine gate_dst (N := 19) rfl ?_); (try (refine gate_guard (by rfl) ?_; dsimp only)); refine box_event ?hg (N := 19) ?hd (cs := #[.int .i64 0, .int .i64 0, .int .i64 0, .int .i64 0]) (t := 29) ?hr ?_; (case hd => rfl); (case hg => rfl); (case hr => first | (go_simp; done) | (go_simp; rfl)); intro gb544 hg w102 hbox hb; have n_ := (⟨am (Kd.R_below (rqR HO538.out) hb), am (blk_below (bf0 BK518.out) hb), am (blk_below (bf0 BK519.out) hb), am (blk_below (bf0 BK525.out) hb), am (blk_below (bf0 BK531.out) hb), am (below_step (bl4 HB.out GE518.out GE519.out GE525.out GE531.out) hb), am (hbox), am ((gw hg (bl4 HB.out GE518.out GE519.out GE525.out GE531.out) : w.heap.size ≤ gb544)), am ((gw hg (bl4 HB.out GE518.out GE519.out GE525.out GE531.out) : w.heap.size ≤ gb544)), am ((nl hg (bf0 BK518.out) : gb518 ≠ gb544)), am ((ng hg (bf0 BK518.out) : gb544 ≠ gb518)), am ((nl hg (bf0 BK519.out) : gb519 ≠ gb544)), am ((ng hg (bf0 BK519.out) : gb544 ≠ gb519)), am ((nl hg (bf0 BK525.out) : gb525 ≠ gb544)), am ((ng hg (bf0 BK525.out) : gb544 ≠ gb525)), am ((nl hg (bf0 BK531.out) : gb531 ≠ gb544)), am ((ng hg (bf0 BK531.out) : gb544 ≠ gb531))⟩ : _ ∧ _ ∧ _ ∧ _ ∧ _ ∧ _ ∧ _ ∧ _ ∧ _ ∧ _ ∧ _ ∧ _ ∧ _ ∧ _ ∧ _ ∧ _ ∧ _); clear HO538 BK518 BK519 BK525 BK531 HB; obtain ⟨HO538, BK518, BK519, BK525, BK531, HB, BK544, GW544, GE544, NB518_544, NB544_518, NB519_544, NB544_519, NB525_544, NB544_525, NB531_544, NB544_531⟩ := n_; clear hb hbox hg; have hnb103 := NB544_518.out; have hnc103 := NB518_544.out; have hnb104 := NB544_519.out; have hnc104 := NB519_544.out; have hnb105 := NB544_525.out; have hnc105 := NB525_544.out; have hnb106 := NB544_531.out; have hnc106 := NB531_544.out; obtain ⟨hcz107_0, hcz107_1, hcz107_2, hcz107_3, hfz107_0, hfz107_1, hfz107_2, hfz107_3⟩ := cs4 BK544.out))
           go_ret
           exact ⟨er, bl5 HB.out GE518.out GE519.out GE525.out GE531.out GE544.out⟩
         ·rw [if_neg c77] at H
          have c77b0 : (t536 == 0) = false := beq_eq_false_iff_ne.mpr c77
          have c77b1 : (t536 != 0) = true := bne_iff_ne.mpr c77
          obtain rfl := Option.some.inj H
          go_wp2_with (first | ((with_reducible refine gate_callee (f := 13) rfl ?_); refine goesL_ (some 107) rfl rfl Tryd.func13 (by kernel_rfl) rfl #[.string t504] rfl lnp ?_; (with_reducible refine (impl_RecoverJournal.calls kj54 t504 t535 t536 _ A75.out ?gl_).mono ?_); (case gl_ => exact Gl.below HG.out (bl4 HB.out GE518.out GE519.out GE525.out GE531.out)); rintro e w108 ⟨v537, rfl, ho0, hb⟩; refine ⟨_, rfl, ?_⟩; have n_ := (⟨am (Kd.R_lower (Kd.R_newB ho0 (g := gb519) (o := .cells #[.int .i64 t516, .int .i64 t517] 31 (0, 0)) (bf0 BK519.out)) (below_size (bl4 HB.out GE518.out GE519.out GE525.out GE531.out))), am (blk_below (bf0 BK518.out) hb), am (blk_below (bf0 BK519.out) hb), am (blk_below (bf0 BK525.out) hb), am (blk_below (bf0 BK531.out) hb), am (below_step (bl4 HB.out GE518.out GE519.out GE525.out GE531.out) hb)⟩ : _ ∧ _ ∧ _ ∧ _ ∧ _ ∧ _); clear BK518 BK519 BK525 BK531 HB; obtain ⟨HO538, BK518, BK519, BK525, BK531, HB⟩ := n_; (try clear hb); (try clear hb2); (try clear hk); (try clear hi); (try clear ho0); obtain ⟨Ao109, co109, eo109⟩ := Kd.R_slice HO538.out; subst eo109) | ((with_reducible refine gate_callee (f := 14) rfl ?_); refine goesL_ (some 112) rfl rfl Tryd.func14 (by kernel_rfl) rfl #[.slice Ao109 t535.length co109] rfl lnp ?_; (with_reducible refine (impl_RunJournal.calls kj54 _ _ t535 t539 t540 t541 t542 t543 _ ?side1 ?side2 A76.out).mono ?_); (case side1 => repeat (first | exact (Kd.R_reads' HO538.out).2.2 | (with_reducible refine Kd.C_alloc ?_ _) | (with_reducible refine Kd.C_drewN ?_ _) | (with_reducible refine Kd.C_drew ?_))); (case side2 => exact (Kd.R_reads' HO538.out).2.1); rintro e w110 ⟨rfl, hb⟩; refine ⟨_, rfl, ?_⟩; have n_ := (⟨am (Kd.R_below (rqR HO538.out) hb), am (blk_below (bf0 BK518.out) hb), am (blk_below (bf0 BK519.out) hb), am (blk_below (bf0 BK525.out) hb), am (blk_below (bf0 BK531.out) hb), am (below_step (bl4 HB.out GE518.out GE519.out GE525.out GE531.out) hb)⟩ : _ ∧ _ ∧ _ ∧ _ ∧ _ ∧ _); clear HO538 BK518 BK519 BK525 BK531 HB; obtain ⟨HO538, BK518, BK519, BK525, BK531, HB⟩ := n_; (try clear hb); (try clear hb2); (try clear hk); (try clear hi)) | ((with_reducible refine gate_dst (N := 19) rfl ?_); (try (refine gate_guard (by rfl) ?_; dsimp only)); refine box_event ?hg (N := 19) ?hd (cs := #[.int .i64 0, .int .i64 0, .int .i64 0, .int .i64 0]) (t := 29) ?hr ?_; (case hd => rfl); (case hg => rfl); (case hr => first | (go_simp; done) | (go_simp; rfl)); intro gb544 hg w111 hbox hb; have n_ := (⟨am (Kd.R_below (rqR HO538.out) hb), am (blk_below (bf0 BK518.out) hb), am (blk_below (bf0 BK519.out) hb), am (blk_below (bf0 BK525.out) hb), am (blk_below (bf0 BK531.out) hb), am (below_step (bl4 HB.out GE518.out GE519.out GE525.out GE531.out) hb), am (hbox), am ((gw hg (bl4 HB.out GE518.out GE519.out GE525.out GE531.out) : w.heap.size ≤ gb544)), am ((gw hg (bl4 HB.out GE518.out GE519.out GE525.out GE531.out) : w.heap.size ≤ gb544)), am ((nl hg (bf0 BK518.out) : gb518 ≠ gb544)), am ((ng hg (bf0 BK518.out) : gb544 ≠ gb518)), am ((nl hg (bf0 BK519.out) : gb519 ≠ gb544)), am ((ng hg (bf0 BK519.out) : gb544 ≠ gb519)), am ((nl hg (bf0 BK525.out) : gb525 ≠ gb544)), am ((ng hg (bf0 BK525.out) : gb544 ≠ gb525)), am ((nl hg (bf0 BK531.out) : gb531 ≠ gb544)), am ((ng hg (bf0 BK531.out) : gb544 ≠ gb531))⟩ : _ ∧ _ ∧ _ ∧ _ ∧ _ ∧ _ ∧ _ ∧ _ ∧ _ ∧ _ ∧ _ ∧ _ ∧ _ ∧ _ ∧ _ ∧ _ ∧ _); clear HO538 BK518 BK519 BK525 BK531 HB; obtain ⟨HO538, BK518, BK519, BK525, BK531, HB, BK544, GW544, GE544, NB518_544, NB544_518, NB519_544, NB544_519, NB525_544, NB544_525, NB531_544, NB544_531⟩ := n_; clear hb hbox hg; have hnb112 := NB544_518.out; have hnc112 := NB518_544.out; have hnb113 := NB544_519.out; have hnc113 := NB519_544.out; have hnb114 := NB544_525.out; have hnc114 := NB525_544.out; have hnb115 := NB544_531.out; have hnc115 := NB531_544.out; obtain ⟨hcz116_0, hcz116_1, hcz116_2, hcz116_3, hfz116_0, hfz116_1, hfz116_2, hfz116_3⟩ := cs4 BK544.out))
          go_ret
          exact ⟨er, bl5 HB.out GE518.out GE519.out GE525.out GE531.out GE544.out⟩
        ·rw [if_neg c74] at H
         have c74b0 : (t508 == 0) = false := beq_eq_false_iff_ne.mpr c74
         have c74b1 : (t508 != 0) = true := bne_iff_ne.mpr c74
         obtain rfl := Option.some.inj H
         go_wp2
         go_ret
         exact ⟨er, bl4 HB.out GE518.out GE519.out GE525.out GE531.out⟩

/-- THE ONE PURE STATEMENT of laws_FnResumed: yours. -/
def laws_FnResumed.Pure : Prop := ∀ (l0 : List Int), l0.length ≤ maxLen → l0.length * 1 ≤ 140737488351232 → (∀ x ∈ l0, (Lit.int .u8 x).wf = true) → ∃ k, laws_FnResumed.f k l0 = some true
theorem laws_FnResumed.walk (P : laws_FnResumed.Pure) (a0 : Option Addr) (len0 cap0 : Nat) (z0 : List Int) (w : World) (w0 : (a0 = none ∧ len0 = 0 ∧ cap0 = 0 ∧ z0 = []) ∨ ∃ x, a0 = some x ∧ len0 ≤ cap0 ∧ cap0 ≤ maxLen ∧ z0.length = cap0 ∧ (∀ i, i < z0.length → w.cell? (x.add i) = some (.int .u8 (z0.getD i 0))) ∧ ∀ n ∈ z0, (Lit.int .u8 n).wf = true) (y0 : len0 * 1 ≤ 140737488351232) (hG : Gl w) :
  Calls Tryd.prog 3 #[.slice a0 len0 cap0] w fun e w' => e = .returned (.bool true) ∧ Below w.heap.size w w' := by
 obtain ⟨l0, rfl, hr0, hm0, hw0, hc0⟩ := ReadsInt.ofRowC w0
 obtain ⟨k, h⟩ := P l0 hm0 y0 hw0
 refine (laws_FnResumed.calls k _ _ l0 true w (Kd.C_of_reads (d := (0 : Int)) (h1 := fun _ => rfl) hr0) hc0 h hG).mono ?_
 rintro e w' ⟨rfl, hd⟩
 exact ⟨rfl, hd⟩

end Go.Proofs.YthfmhfgckhkgjaaDoor.PFnResumed
