-- Laid by wip/mk/mk.py out of the translation. Not trusted: Lean checks it.
import Derived.Test.YtfijcffhkobhbaaDoorPFnDiagnosedx0
namespace Go.Proofs.YtfijcffhkobhbaaDoor.PFnDiagnosed
open Go.RowKit Go.Proofs.YtfijcffhkobhbaaDoorW.PrintWords Go.Proofs.YtfijcffhkobhbaaDoorW.PrintLast Go.Proofs.YtfijcffhkobhbaaDoorW.PrintMore
attribute [local go_sem] max2_int min2_int max_two min_two max_three min_three max_four min_four   -- for this text's walks alone
set_option linter.unusedVariables false
set_option linter.unusedSimpArgs false

/-! ### impl_decimal: function 27 -/
-- GIVEN
/-- The decimal text of an int64. -/
def impl_decimal.f (n : Int) : Option ByteArray := if -9223372036854775808 ≤ n ∧ n ≤ 9223372036854775807 then some ⟨(Lib.itoa n).toArray⟩ else none
theorem impl_decimal.calls (n : Int) (r : ByteArray) (w : World) (h : impl_decimal.f n = some r) (hG : Gl w) :
    Calls Tryd.prog 27 #[.int .i64 n] w fun e w' => e = .returned (.string r) ∧ Below w.heap.size w w' := by
  unfold impl_decimal.f at h
  split at h
  · rename_i hh
    obtain rfl := Option.some.inj h
    go_enter Tryd.func27, Tryd.ntmps27
    go_wp2_with (go_at_call 50; refine (Tryd.strconv_FormatInt_10 n hh.1 hh.2 _ hG.2.1).mono ?_; rintro e w' ⟨rfl, k, os, rfl⟩)
    go_ret
    exact ⟨rfl, Lib.below_grow _ _ (Nat.le_refl _) _ _⟩
  · cases h

end Go.Proofs.YtfijcffhkobhbaaDoor.PFnDiagnosed
