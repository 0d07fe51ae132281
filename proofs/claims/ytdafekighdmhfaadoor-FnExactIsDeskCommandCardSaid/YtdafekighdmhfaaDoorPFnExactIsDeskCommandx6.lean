-- Laid by wip/mk/mk.py out of the translation. Not trusted: Lean checks it.
import Derived.Test.YtdafekighdmhfaaDoorPFnExactIsDeskCommandx0
namespace Go.Proofs.YtdafekighdmhfaaDoor.PFnExactIsDeskCommand
open Go.RowKit Go.Proofs.YtdafekighdmhfaaDoorW.PrintWords Go.Proofs.YtdafekighdmhfaaDoorW.PrintLast Go.Proofs.YtdafekighdmhfaaDoorW.PrintMore
attribute [local go_sem] max2_int min2_int max_two min_two max_three min_three max_four min_four   -- for this text's walks alone
set_option linter.unusedVariables false
set_option linter.unusedSimpArgs false

/-! ### strings_CutSuffix: function 13 -/
-- GIVEN
/-- strings.CutSuffix, by the library's contract. -/
def strings_CutSuffix.f (a b : ByteArray) : Option (ByteArray × Bool) := if a.size ≤ 9223372036854775807 then some (⟨(Lib.trimSuffix a.data.toList b.data.toList).toArray⟩, Lib.hasSuffix a.data.toList b.data.toList) else none
theorem strings_CutSuffix.calls (a b : ByteArray) (r1 : ByteArray) (r2 : Bool) (w : World) (h : strings_CutSuffix.f a b = some (r1, r2)) :
    Calls Tryd.prog 13 #[.string a, .string b] w fun e w' => e = .returned (.tuple #[.string r1, .bool r2]) ∧ Drawn0 w w' := by
  unfold strings_CutSuffix.f at h
  split at h
  · rename_i hh
    simp only [Option.some.injEq, Prod.mk.injEq] at h
    obtain ⟨rfl, rfl⟩ := h
    refine (Tryd.strings_CutSuffix a b w hh).mono ?_
    rintro e w' ⟨rfl, rfl⟩
    exact ⟨rfl, ⟨0, rfl⟩⟩
  · cases h

end Go.Proofs.YtdafekighdmhfaaDoor.PFnExactIsDeskCommand
