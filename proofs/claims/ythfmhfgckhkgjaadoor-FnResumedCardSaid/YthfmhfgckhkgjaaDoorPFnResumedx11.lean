-- Laid by wip/mk/mk.py out of the translation. Not trusted: Lean checks it.
import Derived.Test.YthfmhfgckhkgjaaDoorPFnResumedx0
import Derived.Test.YthfmhfgckhkgjaaDoorPFnResumedx10
namespace Go.Proofs.YthfmhfgckhkgjaaDoor.PFnResumed
open Go.RowKit Go.Proofs.YthfmhfgckhkgjaaDoorW.PrintWords Go.Proofs.YthfmhfgckhkgjaaDoorW.PrintLast Go.Proofs.YthfmhfgckhkgjaaDoorW.PrintMore
attribute [local go_sem] max2_int min2_int max_two min_two max_three min_three max_four min_four   -- for this text's walks alone
set_option linter.unusedVariables false
set_option linter.unusedSimpArgs false

/-! ### impl_readDecimal: function 34 -/
-- GIVEN
/-- What readDecimal answers. -/
def impl_readDecimal.ans (s : ByteArray) : Int × Bool := match Lib.parseIntB 64 s.data.toList with
 | .ok v => if s.size ≤ 10 ∧ 0 ≤ v ∧ Lib.itoa v = s.data.toList then (v, true) else (0, false)
 | _ => (0, false)
def impl_readDecimal.f (s : ByteArray) : Option (Int × Bool) := if s.size ≤ 281474976710656 then some (impl_readDecimal.ans s) else none
theorem impl_readDecimal.bd (l : List UInt8) (v : Int) (h : Lib.parseIntB 64 l = .ok v) : -9223372036854775808 ≤ v ∧ v ≤ 9223372036854775807 := by
 unfold Lib.parseIntB at h
 split at h
 ·cases h
 ·simp only at h
  split at h
  ·cases h
  ·cases h
  ·rename_i u hu
   split at h
   ·cases h
   ·split at h
    ·cases h
    ·rename_i h1 h2
     have := Lib.NumEnd.ok.inj h
     subst this
     split <;> omega
theorem impl_readDecimal.calls (s : ByteArray) (r1 : Int) (r2 : Bool) (w : World) (h : impl_readDecimal.f s = some (r1, r2)) (hG : Gl w) :
  Calls Tryd.prog 34 #[.string s] w fun e w' => e = .returned (.tuple #[.int .i64 r1, .bool r2]) ∧ Below w.heap.size w w' := by
 have HG := Aside0.mk hG
 unfold impl_readDecimal.f at h
 split at h
 ·rename_i hh
  have h := Option.some.inj h
  unfold impl_readDecimal.ans at h
  obtain ⟨_, _, ⟨te, pe, hS⟩, ⟨tr, pr, hR⟩⟩ := hG
  have hS' := World.var?_cell (show Tryd.prog.globalNamed "strconv.ErrSyntax" = some 1 by kernel_rfl) hS 0
  have hR' := World.var?_cell (show Tryd.prog.globalNamed "strconv.ErrRange" = some 2 by kernel_rfl) hR 0
  replace hS' : w.cell? ⟨1, 0, none⟩ = some (.iface te pe) := by simpa using hS'
  replace hR' : w.cell? ⟨2, 0, none⟩ = some (.iface tr pr) := by simpa using hR'
  clear hS hR
  cases hp : Lib.parseIntB 64 s.data.toList with
  | ok v =>
   rw [hp] at h
   simp only at h
   have hv := impl_readDecimal.bd _ _ hp
   have hd : impl_decimal.f v = some ⟨(Lib.itoa v).toArray⟩ := by unfold impl_decimal.f; rw [if_pos hv]
   have hP : ∀ w : World, Calls Tryd.prog 40 #[.string s, .int .i64 10, .int .i64 64] w fun e w' => e = .returned (.tuple #[.int .i64 v, .nilIface]) ∧ Below w.heap.size w w' := fun w => (Tryd.strconv_ParseInt_10_at64_ok s (by omega) v hp w).mono (by
    rintro e w' ⟨rfl, rfl | ⟨t, rfl⟩⟩
    ·exact ⟨rfl, Below.refl _ _⟩
    ·exact ⟨rfl, Lib.bytesWorld_below _ _ _⟩)
   by_cases c1 : s.size ≤ 10
   ·have z1 : (decide (((s.size : Nat) : Int) > 10)) = false := decide_eq_false (by omega)
    have z1' : (decide (10 < ((s.size : Nat) : Int))) = false := decide_eq_false (by omega)
    by_cases c2 : 0 ≤ v
    ·have z2 : (decide (v < 0)) = false := decide_eq_false (by omega)
     by_cases c3 : Lib.itoa v = s.data.toList
     ·rw [if_pos ⟨c1, c2, c3⟩] at h
      cases h
      have c3' : (⟨(Lib.itoa r1).toArray⟩ : ByteArray) = s := by rw [c3]
      rw [c3'] at hd
      go_enter Tryd.func34, Tryd.ntmps34
      go_wp2_with (first | (go_at_call 40; refine (hP _).mono ?_; rintro e w' ⟨rfl, hb⟩) | (go_at_call 41; refine (impl_decimal.calls r1 _ _ hd (Gl.below HG.out hb)).mono ?_; rintro e w2 ⟨rfl, hb2⟩))
      go_ret2
      exact ⟨rfl, below_step hb hb2⟩
     ·rw [if_neg (fun x => c3 x.2.2)] at h
      cases h
      have z3 : (!(Lib.itoa v == s.toList)) = true := by
       rw [ByteArray.toList_eq]
       simpa using c3
      go_enter Tryd.func34, Tryd.ntmps34
      go_wp2_with (first | (go_at_call 40; refine (hP _).mono ?_; rintro e w' ⟨rfl, hb⟩) | (go_at_call 41; refine (impl_decimal.calls v _ _ hd (Gl.below HG.out hb)).mono ?_; rintro e w2 ⟨rfl, hb2⟩))
      go_ret2
      exact ⟨rfl, below_step hb hb2⟩
    ·have z2 : (decide (v < 0)) = true := decide_eq_true (by omega)
     rw [if_neg (fun x => c2 x.2.1)] at h
     cases h
     go_enter Tryd.func34, Tryd.ntmps34
     go_wp2_with (go_at_call 40; refine (hP _).mono ?_; rintro e w' ⟨rfl, hb⟩)
     go_ret2
     exact ⟨rfl, hb⟩
   ·have z1 : (decide (((s.size : Nat) : Int) > 10)) = true := decide_eq_true (by omega)
    have z1' : (decide (10 < ((s.size : Nat) : Int))) = true := decide_eq_true (by omega)
    rw [if_neg (fun x => c1 x.1)] at h
    cases h
    go_enter Tryd.func34, Tryd.ntmps34
    go_wp2_with (go_at_call 40; refine (hP _).mono ?_; rintro e w' ⟨rfl, hb⟩)
    go_ret2
    exact ⟨rfl, hb⟩
  | range =>
   rw [hp] at h
   cases h
   go_enter Tryd.func34, Tryd.ntmps34
   go_wp2_with (go_at_call 40; refine (Tryd.strconv_ParseInt_10_at64_range s hh hp _ _ hR' (Or.inr ⟨_, _, rfl⟩)).mono ?_; rintro e w' ⟨N, rfl, hN, hcell, hb⟩)
   go_ret2
   exact ⟨rfl, hb⟩
  | _ =>
   rw [hp] at h
   cases h
   go_enter Tryd.func34, Tryd.ntmps34
   go_wp2_with (go_at_call 40; refine (Any.strconv_ParseInt_10_at64_syntax Tryd.laysC174 s hh hp _ _ hS' (Or.inr ⟨_, _, rfl⟩)).mono ?_; rintro e w' ⟨N, rfl, hN, hcell, hb⟩)
   go_ret2
   exact ⟨rfl, hb⟩
 ·cases h

end Go.Proofs.YthfmhfgckhkgjaaDoor.PFnResumed
