-- Laid by wip/mk/mk.py out of the translation. Not trusted: Lean checks it.
import Derived.Test.YthfmhfgckhkgjaaDoorPFnResumedx0
namespace Go.Proofs.YthfmhfgckhkgjaaDoor.PFnResumed
open Go.RowKit Go.Proofs.YthfmhfgckhkgjaaDoorW.PrintWords Go.Proofs.YthfmhfgckhkgjaaDoorW.PrintLast Go.Proofs.YthfmhfgckhkgjaaDoorW.PrintMore
attribute [local go_sem] max2_int min2_int max_two min_two max_three min_three max_four min_four   -- for this text's walks alone
set_option linter.unusedVariables false
set_option linter.unusedSimpArgs false

/-! ### strings_Split: function 33 -/
-- GIVEN
/-- strings.Split, by the library's contract. -/
def strings_Split.f (a b : ByteArray) : Option (List ByteArray) := if a.size < 4294967281 ∧ 1 ≤ b.size then some (Lib.splitB b 0 (Lib.countB a b) a) else none
theorem strings_Split.calls (a b : ByteArray) (r : List ByteArray) (w : World) (h : strings_Split.f a b = some r) (hG : Gl w) :
  Calls Tryd.prog 33 #[.string a, .string b] w fun e w' => ∃ v0_ : Value, e = .returned v0_ ∧ Kd.V Kd.string 9 w' w.heap.size (fun k_ => w.heap.size ≤ k_) v0_ r ∧ Below w.heap.size w w' := by
 unfold strings_Split.f at h
 split at h
 ·rename_i hh
  obtain rfl := Option.some.inj h
  obtain ⟨⟨m, hm⟩, _⟩ := hG
  have hl : (Lib.splitB b 0 (Lib.countB a b) a).length = Lib.countB a b + 1 := Lib.splitB_all b hh.2 0 _ a rfl
  have hle : Lib.countB a b ≤ a.size := Lib.countB_le b hh.2 _ a (Nat.le_refl _)
  refine (Tryd.strings_Split a b m w hh.1 hm hh.2).mono ?_
  rintro e w' ⟨rfl, rfl⟩
  refine ⟨_, rfl, ?_, below_alloc (Below.refl _ _) _⟩
  rw [← hl]
  refine Kd.R_V (base := w.heap.size) ⟨fun k hk => ?_, OwnRow.lit w w.heap.size ⟨?_, ?_⟩ (Nat.le_refl _) (by omega)⟩
  ·simp only [Value.ownBlock] at hk
   first | (cases hk; exact Nat.le_refl _) | (simp at hk; omega)
  ·simp [Kd.string, Kd.scalar]
  ·intro j p hp
   simp only [Kd.string, Kd.scalar, Nat.mul_one]
   have hj : ((Lib.splitB b 0 (Lib.countB a b) a).map Value.string)[j]? = some (.string p) := by simp [hp]
   rw [List.take_one, List.head?_drop, hj]
   rfl
 ·cases h

end Go.Proofs.YthfmhfgckhkgjaaDoor.PFnResumed
