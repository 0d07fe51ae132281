-- Laid by wip/mk/mk.py out of the translation. Not trusted: Lean checks it.
import Derived.Test.YthfmhfgckhkgjaaDoorPFnResumedx0
import Derived.Test.YthfmhfgckhkgjaaDoorPFnResumedx2
import Derived.Test.YthfmhfgckhkgjaaDoorPFnResumedx5
import Derived.Test.YthfmhfgckhkgjaaDoorPFnResumedx6
namespace Go.Proofs.YthfmhfgckhkgjaaDoor.PFnResumed
open Go.RowKit Go.Proofs.YthfmhfgckhkgjaaDoorW.PrintWords Go.Proofs.YthfmhfgckhkgjaaDoorW.PrintLast Go.Proofs.YthfmhfgckhkgjaaDoorW.PrintMore
attribute [local go_sem] max2_int min2_int max_two min_two max_three min_three max_four min_four   -- for this text's walks alone
set_option linter.unusedVariables false
set_option maxHeartbeats 8000000
set_option maxRecDepth 100000
set_option linter.unusedSimpArgs false

/-! ### spec_l01Damage: function 32 -/
def spec_l01Damage.f (s0_0 : List Int) (s0_1 : Int) (s0_2 : Int) (a1 : ByteArray) : Option (ByteArray × Int × Int) := (spec_l01Next.f s0_0 s0_1 s0_2 (wrap64 ((a1.size : Int) + 1))).bind fun bt219 => ((spec_l01Next.f s0_0 bt219.2.1 bt219.2.2 8).bind fun bt222 => (if bt222.1 = 0 then (if 0 ≤ bt219.1 then (if bt219.1 ≤ (a1.size : Int) then (some (a1.extract 0 (bt219.1 : Int).toNat, bt222.2.1, bt222.2.2)) else (none)) else (none)) else (if bt222.1 = 1 then (if 0 ≤ bt219.1 then (if bt219.1 ≤ (a1.size : Int) then ((some (([(⟨#[48]⟩ : ByteArray), (⟨#[49]⟩ : ByteArray), (⟨#[32]⟩ : ByteArray), (⟨#[45]⟩ : ByteArray), (⟨#[46]⟩ : ByteArray), (⟨#[44]⟩ : ByteArray), (⟨#[10]⟩ : ByteArray), (⟨#[120]⟩ : ByteArray)] : List ByteArray) : List ByteArray)).bind fun y225 => ((spec_l01Next.f s0_0 bt222.2.1 bt222.2.2 8).bind fun bt228 => (if 0 ≤ bt228.1 then (if bt228.1 < (y225.length : Int) then (if (a1.extract 0 (bt219.1 : Int).toNat).size + (rdOf ByteArray.empty y225 bt228.1).size ≤ 9223372036854775807 then (if ((a1.extract 0 (bt219.1 : Int).toNat) ++ (rdOf ByteArray.empty y225 bt228.1)).size + (a1.extract (bt219.1 : Int).toNat a1.size).size ≤ 9223372036854775807 then (some (((a1.extract 0 (bt219.1 : Int).toNat) ++ (rdOf ByteArray.empty y225 bt228.1)) ++ (a1.extract (bt219.1 : Int).toNat a1.size), bt228.2.1, bt228.2.2)) else (none)) else (none)) else (none)) else (none)))) else (none)) else (none)) else (if bt222.1 = 2 then (if bt219.1 < (a1.size : Int) then (if 0 ≤ bt219.1 then (if bt219.1 ≤ (a1.size : Int) then (if 0 ≤ (wrap64 (bt219.1 + 1)) then (if (wrap64 (bt219.1 + 1)) ≤ (a1.size : Int) then (if (a1.extract 0 (bt219.1 : Int).toNat).size + (a1.extract ((wrap64 (bt219.1 + 1)) : Int).toNat a1.size).size ≤ 9223372036854775807 then (some ((a1.extract 0 (bt219.1 : Int).toNat) ++ (a1.extract ((wrap64 (bt219.1 + 1)) : Int).toNat a1.size), bt222.2.1, bt222.2.2)) else (none)) else (none)) else (none)) else (none)) else (none)) else (some (a1, bt222.2.1, bt222.2.2))) else (some (a1, bt222.2.1, bt222.2.2))))))
def spec_l01Damage.T6 : Bool × List (List Nat × List Nat) := (true, [([], []), ([], []), ([0, 1], [0, 1]), ([], []), ([], []), ([4], [4]), ([3, 5], [3, 5]), ([6], [6]), ([2, 7], [2, 7]), ([], []), ([], []), ([9, 10], [9, 10]), ([8, 11], [8, 11]), ([12, 5, 0, 1, 2, 3, 4, 5, 6, 7, 8, 9, 10, 11, 12], [12])])
def spec_l01Damage.B6 : List Nat := [0, 0, 3, 0, 0, 16, 56, 120, 255, 0, 0, 1536, 4095, 8191]
theorem spec_l01Damage.tab6 : rtab .any (opsOf Tryd.f32 6) = spec_l01Damage.T6 := by kernel_rfl
theorem spec_l01Damage.bits6 : waitsOk spec_l01Damage.T6.2 spec_l01Damage.B6 = true := by kernel_rfl
def spec_l01Damage.T9 : Bool × List (List Nat × List Nat) := (true, [([], []), ([], []), ([0, 1], [0, 1]), ([], []), ([], []), ([4], [4]), ([3, 5], [3, 5]), ([2, 6], [2, 6]), ([7, 0, 1, 2, 3, 4, 5, 6, 7], [7])])
def spec_l01Damage.B9 : List Nat := [0, 0, 3, 0, 0, 16, 56, 127, 255]
theorem spec_l01Damage.tab9 : rtab .any (opsOf Tryd.f32 9) = spec_l01Damage.T9 := by kernel_rfl
theorem spec_l01Damage.bits9 : waitsOk spec_l01Damage.T9.2 spec_l01Damage.B9 = true := by kernel_rfl
theorem spec_l01Damage.calls (g : Nat) (s0_0 : List Int) (s0_1 : Int) (s0_2 : Int) (a1 : ByteArray) (r1 : ByteArray) (r2 : Int) (r3 : Int) (w0 w : World) (hI : IsS57 w0 w g s0_0 s0_1 s0_2) (hB : Below w0.heap.size w0 w) (h : spec_l01Damage.f s0_0 s0_1 s0_2 a1 = some (r1, r2, r3)) :
  Calls Tryd.prog 32 #[.pointer (some ⟨g, 0, none⟩), .string a1] w fun e w' => e = .returned (.string r1) ∧ IsS57 w0 w' g s0_0 r2 r3 ∧ Below w0.heap.size w0 w' ∧ KeepBut w w' g none := by
 have HI0 := Aside0.mk hI
 have HK := am (KeepBut.refl w g none)
 have HL := Aside0.mk hB.size
 clear hI
 have HW0 := Aside0.mk hB.size
 have HB := Aside0.mk hB
 clear hB
 have H : ((spec_l01Next.f s0_0 s0_1 s0_2 (wrap64 ((a1.size : Int) + 1))).bind fun bt219 => ((spec_l01Next.f s0_0 bt219.2.1 bt219.2.2 8).bind fun bt222 => (if bt222.1 = 0 then (if 0 ≤ bt219.1 then (if bt219.1 ≤ (a1.size : Int) then (some (a1.extract 0 (bt219.1 : Int).toNat, bt222.2.1, bt222.2.2)) else (none)) else (none)) else (if bt222.1 = 1 then (if 0 ≤ bt219.1 then (if bt219.1 ≤ (a1.size : Int) then ((some (([(⟨#[48]⟩ : ByteArray), (⟨#[49]⟩ : ByteArray), (⟨#[32]⟩ : ByteArray), (⟨#[45]⟩ : ByteArray), (⟨#[46]⟩ : ByteArray), (⟨#[44]⟩ : ByteArray), (⟨#[10]⟩ : ByteArray), (⟨#[120]⟩ : ByteArray)] : List ByteArray) : List ByteArray)).bind fun y225 => ((spec_l01Next.f s0_0 bt222.2.1 bt222.2.2 8).bind fun bt228 => (if 0 ≤ bt228.1 then (if bt228.1 < (y225.length : Int) then (if (a1.extract 0 (bt219.1 : Int).toNat).size + (rdOf ByteArray.empty y225 bt228.1).size ≤ 9223372036854775807 then (if ((a1.extract 0 (bt219.1 : Int).toNat) ++ (rdOf ByteArray.empty y225 bt228.1)).size + (a1.extract (bt219.1 : Int).toNat a1.size).size ≤ 9223372036854775807 then (some (((a1.extract 0 (bt219.1 : Int).toNat) ++ (rdOf ByteArray.empty y225 bt228.1)) ++ (a1.extract (bt219.1 : Int).toNat a1.size), bt228.2.1, bt228.2.2)) else (none)) else (none)) else (none)) else (none)))) else (none)) else (none)) else (if bt222.1 = 2 then (if bt219.1 < (a1.size : Int) then (if 0 ≤ bt219.1 then (if bt219.1 ≤ (a1.size : Int) then (if 0 ≤ (wrap64 (bt219.1 + 1)) then (if (wrap64 (bt219.1 + 1)) ≤ (a1.size : Int) then (if (a1.extract 0 (bt219.1 : Int).toNat).size + (a1.extract ((wrap64 (bt219.1 + 1)) : Int).toNat a1.size).size ≤ 9223372036854775807 then (some ((a1.extract 0 (bt219.1 : Int).toNat) ++ (a1.extract ((wrap64 (bt219.1 + 1)) : Int).toNat a1.size), bt222.2.1, bt222.2.2)) else (none)) else (none)) else (none)) else (none)) else (none)) else (some (a1, bt222.2.1, bt222.2.2))) else (some (a1, bt222.2.1, bt222.2.2))))))) = some (r1, r2, r3) := h
 clear h
 replace H := Option.bind_eq_some_iff.mp H
 obtain ⟨⟨t219, t220, t221⟩, A30, H⟩ := H
 replace H : ((spec_l01Next.f s0_0 t220 t221 8).bind fun bt222 => (if bt222.1 = 0 then (if 0 ≤ t219 then (if t219 ≤ (a1.size : Int) then (some (a1.extract 0 (t219 : Int).toNat, bt222.2.1, bt222.2.2)) else (none)) else (none)) else (if bt222.1 = 1 then (if 0 ≤ t219 then (if t219 ≤ (a1.size : Int) then ((some (([(⟨#[48]⟩ : ByteArray), (⟨#[49]⟩ : ByteArray), (⟨#[32]⟩ : ByteArray), (⟨#[45]⟩ : ByteArray), (⟨#[46]⟩ : ByteArray), (⟨#[44]⟩ : ByteArray), (⟨#[10]⟩ : ByteArray), (⟨#[120]⟩ : ByteArray)] : List ByteArray) : List ByteArray)).bind fun y225 => ((spec_l01Next.f s0_0 bt222.2.1 bt222.2.2 8).bind fun bt228 => (if 0 ≤ bt228.1 then (if bt228.1 < (y225.length : Int) then (if (a1.extract 0 (t219 : Int).toNat).size + (rdOf ByteArray.empty y225 bt228.1).size ≤ 9223372036854775807 then (if ((a1.extract 0 (t219 : Int).toNat) ++ (rdOf ByteArray.empty y225 bt228.1)).size + (a1.extract (t219 : Int).toNat a1.size).size ≤ 9223372036854775807 then (some (((a1.extract 0 (t219 : Int).toNat) ++ (rdOf ByteArray.empty y225 bt228.1)) ++ (a1.extract (t219 : Int).toNat a1.size), bt228.2.1, bt228.2.2)) else (none)) else (none)) else (none)) else (none)))) else (none)) else (none)) else (if bt222.1 = 2 then (if t219 < (a1.size : Int) then (if 0 ≤ t219 then (if t219 ≤ (a1.size : Int) then (if 0 ≤ (wrap64 (t219 + 1)) then (if (wrap64 (t219 + 1)) ≤ (a1.size : Int) then (if (a1.extract 0 (t219 : Int).toNat).size + (a1.extract ((wrap64 (t219 + 1)) : Int).toNat a1.size).size ≤ 9223372036854775807 then (some ((a1.extract 0 (t219 : Int).toNat) ++ (a1.extract ((wrap64 (t219 + 1)) : Int).toNat a1.size), bt222.2.1, bt222.2.2)) else (none)) else (none)) else (none)) else (none)) else (none)) else (some (a1, bt222.2.1, bt222.2.2))) else (some (a1, bt222.2.1, bt222.2.2)))))) = some (r1, r2, r3) := H
 have A3 := Aside0.mk A30
 clear A30
 replace H := Option.bind_eq_some_iff.mp H
 obtain ⟨⟨t222, t223, t224⟩, A40, H⟩ := H
 replace H : (if t222 = 0 then (if 0 ≤ t219 then (if t219 ≤ (a1.size : Int) then (some (a1.extract 0 (t219 : Int).toNat, t223, t224)) else (none)) else (none)) else (if t222 = 1 then (if 0 ≤ t219 then (if t219 ≤ (a1.size : Int) then ((some (([(⟨#[48]⟩ : ByteArray), (⟨#[49]⟩ : ByteArray), (⟨#[32]⟩ : ByteArray), (⟨#[45]⟩ : ByteArray), (⟨#[46]⟩ : ByteArray), (⟨#[44]⟩ : ByteArray), (⟨#[10]⟩ : ByteArray), (⟨#[120]⟩ : ByteArray)] : List ByteArray) : List ByteArray)).bind fun y225 => ((spec_l01Next.f s0_0 t223 t224 8).bind fun bt228 => (if 0 ≤ bt228.1 then (if bt228.1 < (y225.length : Int) then (if (a1.extract 0 (t219 : Int).toNat).size + (rdOf ByteArray.empty y225 bt228.1).size ≤ 9223372036854775807 then (if ((a1.extract 0 (t219 : Int).toNat) ++ (rdOf ByteArray.empty y225 bt228.1)).size + (a1.extract (t219 : Int).toNat a1.size).size ≤ 9223372036854775807 then (some (((a1.extract 0 (t219 : Int).toNat) ++ (rdOf ByteArray.empty y225 bt228.1)) ++ (a1.extract (t219 : Int).toNat a1.size), bt228.2.1, bt228.2.2)) else (none)) else (none)) else (none)) else (none)))) else (none)) else (none)) else (if t222 = 2 then (if t219 < (a1.size : Int) then (if 0 ≤ t219 then (if t219 ≤ (a1.size : Int) then (if 0 ≤ (wrap64 (t219 + 1)) then (if (wrap64 (t219 + 1)) ≤ (a1.size : Int) then (if (a1.extract 0 (t219 : Int).toNat).size + (a1.extract ((wrap64 (t219 + 1)) : Int).toNat a1.size).size ≤ 9223372036854775807 then (some ((a1.extract 0 (t219 : Int).toNat) ++ (a1.extract ((wrap64 (t219 + 1)) : Int).toNat a1.size), t223, t224)) else (none)) else (none)) else (none)) else (none)) else (none)) else (some (a1, t223, t224))) else (some (a1, t223, t224))))) = some (r1, r2, r3) := H
 have A4 := Aside0.mk A40
 clear A40
 by_cases c5 : t222 = 0
 ·rw [if_pos c5] at H
  have c5b0 : (t222 == 0) = true := beq_iff_eq.mpr c5
  have c5b1 : (t222 != 0) = false := bne_eq_false_iff_eq.mpr c5
  clear c5
  by_cases c6 : 0 ≤ t219
  ·rw [if_pos c6] at H
   have c6b0 := eq_true c6
   have c6b1 : decide (0 ≤ t219) = true := decide_eq_true c6
   clear c6
   by_cases c7 : t219 ≤ (a1.size : Int)
   ·rw [if_pos c7] at H
    have c7b0 := eq_true c7
    have c7b1 : decide (t219 ≤ (a1.size : Int)) = true := decide_eq_true c7
    clear c7
    simp only [Option.some.injEq, Prod.mk.injEq] at H
    obtain ⟨rfl, rfl, rfl⟩ := H
    go_enter Tryd.func32, Tryd.ntmps32
    go_wp2_with (first | ((with_reducible refine gate_callee (f := 18) rfl ?_); refine goesL_ (some 10) rfl rfl Tryd.func18 (by kernel_rfl) rfl #[.pointer (some ⟨g, 0, none⟩), .int .i64 (wrap64 ((a1.size : Int) + 1))] rfl lnp ?_; (with_reducible refine (spec_l01Next.calls g s0_0 s0_1 s0_2 (wrap64 ((a1.size : Int) + 1)) t219 t220 t221 w0 _ ?side1 ?side2 A3.out).mono ?_); (case side1 => exact st57_0 HI0.out); (case side2 => exact bl1 HB.out (IsS57.ge HI0.out)); rintro e w8 ⟨rfl, hi, hb, hk⟩; refine ⟨_, rfl, ?_⟩; have n_ := (⟨am (KeepBut.trans (kb0 HK.out) hk (.inl rfl)), am (hb), am (hi)⟩ : _ ∧ _ ∧ _); clear HK HB HI0; obtain ⟨HK, HB, HI0⟩ := n_; (try clear hb); (try clear hb2); (try clear hk); (try clear hi)) | ((with_reducible refine gate_callee (f := 18) rfl ?_); refine goesL_ (some 12) rfl rfl Tryd.func18 (by kernel_rfl) rfl #[.pointer (some ⟨g, 0, none⟩), .int .i64 8] rfl lnp ?_; (with_reducible refine (spec_l01Next.calls g s0_0 t220 t221 8 t222 t223 t224 w0 _ ?side1 ?side2 A4.out).mono ?_); (case side1 => exact st57_0 HI0.out); (case side2 => exact bl1 HB.out (IsS57.ge HI0.out)); rintro e w9 ⟨rfl, hi, hb, hk⟩; refine ⟨_, rfl, ?_⟩; have n_ := (⟨am (KeepBut.trans (kb0 HK.out) hk (.inl rfl)), am (hb), am (hi)⟩ : _ ∧ _ ∧ _); clear HK HB HI0; obtain ⟨HK, HB, HI0⟩ := n_; (try clear hb); (try clear hb2); (try clear hk); (try clear hi)))
    go_ret
    exact ⟨er, st57_0 HI0.out, bl1 HB.out (IsS57.ge HI0.out), kb0 HK.out⟩
   ·rw [if_neg c7] at H
    exact absurd H (by simp)
  ·rw [if_neg c6] at H
   exact absurd H (by simp)
 ·rw [if_neg c5] at H
  have c5b0 : (t222 == 0) = false := beq_eq_false_iff_ne.mpr c5
  have c5b1 : (t222 != 0) = true := bne_iff_ne.mpr c5
  by_cases c10 : t222 = 1
  ·rw [if_pos c10] at H
   have c10b0 : (t222 == 1) = true := beq_iff_eq.mpr c10
   have c10b1 : (t222 != 1) = false := bne_eq_false_iff_eq.mpr c10
   clear c10
   by_cases c11 : 0 ≤ t219
   ·rw [if_pos c11] at H
    have c11b0 := eq_true c11
    have c11b1 : decide (0 ≤ t219) = true := decide_eq_true c11
    clear c11
    by_cases c12 : t219 ≤ (a1.size : Int)
    ·rw [if_pos c12] at H
     have c12b0 := eq_true c12
     have c12b1 : decide (t219 ≤ (a1.size : Int)) = true := decide_eq_true c12
     clear c12
     obtain ⟨y225, hy225⟩ : ∃ y_ : List ByteArray, y_ = (([(⟨#[48]⟩ : ByteArray), (⟨#[49]⟩ : ByteArray), (⟨#[32]⟩ : ByteArray), (⟨#[45]⟩ : ByteArray), (⟨#[46]⟩ : ByteArray), (⟨#[44]⟩ : ByteArray), (⟨#[10]⟩ : ByteArray), (⟨#[120]⟩ : ByteArray)] : List ByteArray)) := ⟨_, rfl⟩
     replace H : ((spec_l01Next.f s0_0 t223 t224 8).bind fun bt228 => (if 0 ≤ bt228.1 then (if bt228.1 < (y225.length : Int) then (if (a1.extract 0 (t219 : Int).toNat).size + (rdOf ByteArray.empty y225 bt228.1).size ≤ 9223372036854775807 then (if ((a1.extract 0 (t219 : Int).toNat) ++ (rdOf ByteArray.empty y225 bt228.1)).size + (a1.extract (t219 : Int).toNat a1.size).size ≤ 9223372036854775807 then (some (((a1.extract 0 (t219 : Int).toNat) ++ (rdOf ByteArray.empty y225 bt228.1)) ++ (a1.extract (t219 : Int).toNat a1.size), bt228.2.1, bt228.2.2)) else (none)) else (none)) else (none)) else (none))) = some (r1, r2, r3) := by first | (rw [hy225]; with_reducible exact H) | (have H2_ := (Option.bind_some _ _).symm.trans H; rw [hy225]; with_reducible exact H2_) | (have H2_ := (Option.bind_some _ _).symm.trans H; with_reducible exact H2_) | with_reducible exact H | (rw [hy225]; exact H) | exact H
     have Ny225 := Aside0.mk hy225
     clear hy225
     replace H := Option.bind_eq_some_iff.mp H
     obtain ⟨⟨t228, t229, t230⟩, A130, H⟩ := H
     replace H : (if 0 ≤ t228 then (if t228 < (y225.length : Int) then (if (a1.extract 0 (t219 : Int).toNat).size + (rdOf ByteArray.empty y225 t228).size ≤ 9223372036854775807 then (if ((a1.extract 0 (t219 : Int).toNat) ++ (rdOf ByteArray.empty y225 t228)).size + (a1.extract (t219 : Int).toNat a1.size).size ≤ 9223372036854775807 then (some (((a1.extract 0 (t219 : Int).toNat) ++ (rdOf ByteArray.empty y225 t228)) ++ (a1.extract (t219 : Int).toNat a1.size), t229, t230)) else (none)) else (none)) else (none)) else (none)) = some (r1, r2, r3) := H
     have A13 := Aside0.mk A130
     clear A130
     by_cases c14 : 0 ≤ t228
     ·rw [if_pos c14] at H
      have c14b0 : decide (0 ≤ t228) = true := decide_eq_true c14
      clear c14
      by_cases c15 : t228 < (y225.length : Int)
      ·rw [if_pos c15] at H
       have c15b0 : decide (t228 < (y225.length : Int)) = true := decide_eq_true c15
       clear c15
       by_cases c16 : (a1.extract 0 (t219 : Int).toNat).size + (rdOf ByteArray.empty y225 t228).size ≤ 9223372036854775807
       ·rw [if_pos c16] at H
        have c16b0 := eq_true c16
        have c16b1 : decide ((a1.extract 0 (t219 : Int).toNat).size + (rdOf ByteArray.empty y225 t228).size ≤ 9223372036854775807) = true := decide_eq_true c16
        try have c16b2 : (9223372036854775807 < (a1.extract 0 (t219 : Int).toNat).size + (rdOf ByteArray.empty y225 t228).size) = False := eq_false (Nat.not_lt.2 c16)
        have c17b0 := eq_true (of_decide_eq_true (by first | (with_reducible assumption) | assumption) : 0 ≤ t219)
        have c18b0 := eq_true (of_decide_eq_true (by first | (with_reducible assumption) | assumption) : t219 ≤ (a1.size : Int))
        by_cases c19 : ((a1.extract 0 (t219 : Int).toNat) ++ (rdOf ByteArray.empty y225 t228)).size + (a1.extract (t219 : Int).toNat a1.size).size ≤ 9223372036854775807
        ·rw [if_pos c19] at H
         have c19b0 := eq_true c19
         have c19b1 : decide (((a1.extract 0 (t219 : Int).toNat) ++ (rdOf ByteArray.empty y225 t228)).size + (a1.extract (t219 : Int).toNat a1.size).size ≤ 9223372036854775807) = true := decide_eq_true c19
         try have c19b2 : (9223372036854775807 < ((a1.extract 0 (t219 : Int).toNat) ++ (rdOf ByteArray.empty y225 t228)).size + (a1.extract (t219 : Int).toNat a1.size).size) = False := eq_false (Nat.not_lt.2 c19)
         have c19b3 := c19b2
         (try simp only [ByteArray.size_append] at c19b3)
         simp only [Option.some.injEq, Prod.mk.injEq] at H
         obtain ⟨rfl, rfl, rfl⟩ := H
         go_enter Tryd.func32, Tryd.ntmps32
         try go_wp2_with (first | ((with_reducible refine gate_callee (f := 18) rfl ?_); refine goesL_ (some 10) rfl rfl Tryd.func18 (by kernel_rfl) rfl #[.pointer (some ⟨g, 0, none⟩), .int .i64 (wrap64 ((a1.size : Int) + 1))] rfl lnp ?_; (with_reducible refine (spec_l01Next.calls g s0_0 s0_1 s0_2 (wrap64 ((a1.size : Int) + 1)) t219 t220 t221 w0 _ ?side1 ?side2 A3.out).mono ?_); (case side1 => exact st57_0 HI0.out); (case side2 => exact bl1 HB.out (IsS57.ge HI0.out)); rintro e w20 ⟨rfl, hi, hb, hk⟩; refine ⟨_, rfl, ?_⟩; have n_ := (⟨am (KeepBut.trans (kb0 HK.out) hk (.inl rfl)), am (hb), am (hi)⟩ : _ ∧ _ ∧ _); clear HK HB HI0; obtain ⟨HK, HB, HI0⟩ := n_; (try clear hb); (try clear hb2); (try clear hk); (try clear hi)) | ((with_reducible refine gate_callee (f := 18) rfl ?_); refine goesL_ (some 12) rfl rfl Tryd.func18 (by kernel_rfl) rfl #[.pointer (some ⟨g, 0, none⟩), .int .i64 8] rfl lnp ?_; (with_reducible refine (spec_l01Next.calls g s0_0 t220 t221 8 t222 t223 t224 w0 _ ?side1 ?side2 A4.out).mono ?_); (case side1 => exact st57_0 HI0.out); (case side2 => exact bl1 HB.out (IsS57.ge HI0.out)); rintro e w21 ⟨rfl, hi, hb, hk⟩; refine ⟨_, rfl, ?_⟩; have n_ := (⟨am (KeepBut.trans (kb0 HK.out) hk (.inl rfl)), am (hb), am (hi)⟩ : _ ∧ _ ∧ _); clear HK HB HI0; obtain ⟨HK, HB, HI0⟩ := n_; (try clear hb); (try clear hb2); (try clear hk); (try clear hi)))
         have pi231 : (0 ≤ (t228 : Int)) = True := eq_true (of_decide_eq_true (by first | (with_reducible assumption) | assumption))
         have qi231 : (t228 < (y225.length : Int)) = True := eq_true (of_decide_eq_true (by first | (with_reducible assumption) | assumption))
         have n_ := (⟨am (IsS57.drew HI0.out), am (keep_drew HK.out), am (below_drew1 HB.out)⟩ : _ ∧ _ ∧ _)
         clear HI0
         clear HK
         clear HB
         obtain ⟨HI0, HK, HB⟩ := n_
         refine start_ (n := 14) (S := fun w' => True) (ds := []) #[false, false, false, false, false, false, false, false, false, false, false, false, false, false] (by kernel_rfl) rfl rfl trivial (fun hHeld => ?_); refine with_tabW spec_l01Damage.tab6 spec_l01Damage.bits6 (fun HT_ HW_ => ?_)
         generalize w21.drew = w22 at HI0 HK HB hHeld ⊢
         refine pure_ (i := 0) (N := some 20) (v := ?_) (a' := ?_) #[true, false, false, false, false, false, false, false, false, false, false, false, false, false] rfl rfl (any_of HT_.out (by kernel_rfl)) (fun _ _ _ h => h) (Or.inl ⟨by rfl, ?_⟩) ?_ ?_
         rotate_left
         ·intro w'
          go_simp
          first | (with_reducible rfl) | (rw [if_neg (by simp only [eq_iff_iff, iff_true, iff_false, ByteArray.size_append, ByteArray.size_extract] at *; omega)])
         rotate_left
         ·exact pt
         refine pure_ (i := 1) (N := some 21) (v := ?_) (a' := ?_) #[true, true, false, false, false, false, false, false, false, false, false, false, false, false] rfl rfl (any_of HT_.out (by kernel_rfl)) (fun _ _ _ h => h) (Or.inl ⟨by rfl, ?_⟩) ?_ ?_
         rotate_left
         ·intro w'
          go_simp
          first | (with_reducible rfl) | (rw [if_neg (by simp only [eq_iff_iff, iff_true, iff_false, ByteArray.size_append, ByteArray.size_extract] at *; omega)])
         rotate_left
         ·exact pt
         refine pure_ (i := 4) (N := some 24) (v := ?_) (a' := ?_) #[true, true, false, false, true, false, false, false, false, false, false, false, false, false] rfl rfl (any_of HT_.out (by kernel_rfl)) (fun _ _ _ h => h) (Or.inl ⟨by rfl, ?_⟩) ?_ ?_
         rotate_left
         ·intro w'
          go_simp
          first | (with_reducible rfl) | (rw [if_neg (by simp only [eq_iff_iff, iff_true, iff_false, ByteArray.size_append, ByteArray.size_extract] at *; omega)])
         rotate_left
         ·exact pt
         refine pure_ (i := 9) (N := some 29) (v := ?_) (a' := ?_) #[true, true, false, false, true, false, false, false, false, true, false, false, false, false] rfl rfl (any_of HT_.out (by kernel_rfl)) (fun _ _ _ h => h) (Or.inl ⟨by rfl, ?_⟩) ?_ ?_
         rotate_left
         ·intro w'
          go_simp
          first | (with_reducible rfl) | (rw [if_neg (by simp only [eq_iff_iff, iff_true, iff_false, ByteArray.size_append, ByteArray.size_extract] at *; omega)])
         rotate_left
         ·exact pt
         refine pure_ (i := 10) (N := some 30) (v := ?_) (a' := ?_) #[true, true, false, false, true, false, false, false, false, true, true, false, false, false] rfl rfl (any_of HT_.out (by kernel_rfl)) (fun _ _ _ h => h) (Or.inl ⟨by rfl, ?_⟩) ?_ ?_
         rotate_left
         ·intro w'
          go_simp
          first | (with_reducible rfl) | (rw [if_neg (by simp only [eq_iff_iff, iff_true, iff_false, ByteArray.size_append, ByteArray.size_extract] at *; omega)])
         rotate_left
         ·exact pt
         refine inv_at [2, 3, 5, 6, 7, 8, 11, 12, 13] (fun a0_ b a w' => ∃ (v226 : Value) (adz_v226 : Addr) (m6_ : Value), a = putSel a0_ b [(2, 22, .string (a1.extract 0 (t219 : Int).toNat)), (3, 23, v226), (5, 25, .int .i64 t228), (6, 26, m6_), (7, 27, .string (rdOf ByteArray.empty y225 t228)), (8, 28, .string ((a1.extract 0 (t219 : Int).toNat) ++ (rdOf ByteArray.empty y225 t228))), (11, 31, .string (a1.extract (t219 : Int).toNat a1.size)), (12, 32, .string (((a1.extract 0 (t219 : Int).toNat) ++ (rdOf ByteArray.empty y225 t228)) ++ (a1.extract (t219 : Int).toNat a1.size))), (13, 4, .string (((a1.extract 0 (t219 : Int).toNat) ++ (rdOf ByteArray.empty y225 t228)) ++ (a1.extract (t219 : Int).toNat a1.size)))] ∧ (b 5 = false → IsS57 w0 w' g s0_0 t223 t224) ∧ (KeepBut w w' g none) ∧ (Below w0.heap.size w0 w') ∧ (b 3 = true → Kd.R Kd.string 9 w' w.heap.size (fun _ => True) v226 y225) ∧ (b 3 = true → ∃ c_, (v226 : Value) = .slice (some adz_v226) y225.length c_) ∧ (b 5 = true → IsS57 w0 w' g s0_0 t229 t230) ∧ (b 6 = true → (m6_ : Value) = .pointer (some (adz_v226.add (t228).toNat)))) HT_.out HW_.out (by kernel_rfl) (by kernel_rfl) ?_ ?_ ?_
         ·exact ⟨.bool false, ⟨0, 0, none⟩, .bool false, by simp only [putSel, Bool.false_eq_true, if_false], fun _ => HI0.out, HK.out, HB.out, fun h_ => absurd h_ (by decide), fun h_ => absurd h_ (by decide), fun h_ => absurd h_ (by decide), fun h_ => absurd h_ (by decide)⟩
         ·skip
          clear HB HI0 HK
          refine steps_cons ?_ ?_
          ·rintro b a w' ⟨v226, adz_v226, m6_, ha, Q_HI0, Q_HK, Q_HB, Q_HO227, Q_HA_HO227, Q_HI0_e5, Q_X6_⟩ hb_ hon hoff
           refine ⟨_, rfl, fun K hK => ?_⟩
           have e20 : a.tmps[20]? = some (.string a1) := by rw [ha]; exact (putSel_off rfl).trans rfl
           have e21 : a.tmps[21]? = some (.int .i64 t219) := by rw [ha]; exact (putSel_off rfl).trans rfl
           replace ha := Aside0.mk ha
           have HK := Aside0.mk Q_HK
           have HB := Aside0.mk Q_HB
           refine value_ (w1 := w') (v := .string (a1.extract 0 (t219 : Int).toNat)) (by rfl) rfl ?_ ?_
           ·go_simp
            (try simp only [i64_w])
            try rfl
            all_goals (first | done | (simp only [eq_iff_iff, iff_true, iff_false, ByteArray.size_append, ByteArray.size_extract] at *; omega) | (rw [if_neg (by simp only [eq_iff_iff, iff_true, iff_false, ByteArray.size_append, ByteArray.size_extract] at *; omega)]))
           refine hK.out _ _ ⟨v226, adz_v226, m6_, (by rw [ha.out]; exact putSel_upk 0 hb_ rfl rfl rfl), Q_HI0, Q_HK, Q_HB, Q_HO227, Q_HA_HO227, Q_HI0_e5, Q_X6_⟩
          refine steps_cons ?_ ?_
          ·rintro b a w' ⟨v226, adz_v226, m6_, ha, Q_HI0, Q_HK, Q_HB, Q_HO227, Q_HA_HO227, Q_HI0_e5, Q_X6_⟩ hb_ hon hoff
           refine ⟨_, rfl, fun K hK => ?_⟩
           replace ha := Aside0.mk ha
           have HK := Aside0.mk Q_HK
           have HB := Aside0.mk Q_HB
           refine Kd.R_lit_step Kd.string _ 9 ?hg (N := 23) ?hd (xs := ([(⟨#[48]⟩ : ByteArray), (⟨#[49]⟩ : ByteArray), (⟨#[32]⟩ : ByteArray), (⟨#[45]⟩ : ByteArray), (⟨#[46]⟩ : ByteArray), (⟨#[44]⟩ : ByteArray), (⟨#[10]⟩ : ByteArray), (⟨#[120]⟩ : ByteArray)] : List ByteArray)) (inner := [.string (⟨#[48]⟩ : ByteArray), .string (⟨#[49]⟩ : ByteArray), .string (⟨#[32]⟩ : ByteArray), .string (⟨#[45]⟩ : ByteArray), .string (⟨#[46]⟩ : ByteArray), .string (⟨#[44]⟩ : ByteArray), .string (⟨#[10]⟩ : ByteArray), .string (⟨#[120]⟩ : ByteArray)]) (ok := fun _ => True) (okp := fun _ => True) ?hr ?hp (fun _ hk => hk) trivial (Below.refl _ _) (Nat.le_refl _) (by simp) ?_; (case hd => rfl); (case hg => rfl); (case hr => first | (go_simp; done) | (go_simp; rfl)); (case hp => exact (Reps.one (show Kd.M Kd.string _ _ _ (⟨#[48]⟩ : ByteArray) [.string (⟨#[48]⟩ : ByteArray)] from rfl) (Reps.one (show Kd.M Kd.string _ _ _ (⟨#[49]⟩ : ByteArray) [.string (⟨#[49]⟩ : ByteArray)] from rfl) (Reps.one (show Kd.M Kd.string _ _ _ (⟨#[32]⟩ : ByteArray) [.string (⟨#[32]⟩ : ByteArray)] from rfl) (Reps.one (show Kd.M Kd.string _ _ _ (⟨#[45]⟩ : ByteArray) [.string (⟨#[45]⟩ : ByteArray)] from rfl) (Reps.one (show Kd.M Kd.string _ _ _ (⟨#[46]⟩ : ByteArray) [.string (⟨#[46]⟩ : ByteArray)] from rfl) (Reps.one (show Kd.M Kd.string _ _ _ (⟨#[44]⟩ : ByteArray) [.string (⟨#[44]⟩ : ByteArray)] from rfl) (Reps.one (show Kd.M Kd.string _ _ _ (⟨#[10]⟩ : ByteArray) [.string (⟨#[10]⟩ : ByteArray)] from rfl) (Reps.one (show Kd.M Kd.string _ _ _ (⟨#[120]⟩ : ByteArray) [.string (⟨#[120]⟩ : ByteArray)] from rfl) (Reps.none _ _))))))))))
           intro v226 w23 ho24 hb hg_ hnew_
           clear hg_ hnew_
           (first | rw [← Ny225.out] at ho24 | (simp only [Int.reduceToNat] at ho24; rw [← Ny225.out] at ho24))
           have n0_ := am (Kd.R_lower ho24 (keep_size (w := w) (g := g) (row := none) (kb0 HK.out)))
           have n2_ := am (KeepBut.trans (kb0 HK.out) (KeepBut.of_below hb g none) (.inl rfl))
           have n3_ := am (below_step (bl0 HB.out) hb)
           have z_HI0 := fun (h0_ : b 5 = false) => (show IsS57 w0 w23 g s0_0 t223 t224 from by first | exact (IsS57.below (by repeat (first | (with_reducible first | exact (Q_HI0 h0_) | apply IsS57.alloc | apply IsS57.drewN | apply IsS57.drew | apply IsS57.set_1 | apply IsS57.set_2) | exact (Q_HI0 h0_))) hb))
           have z_HI0_e5 := fun (h0_ : b 5 = true) => (show IsS57 w0 w23 g s0_0 t229 t230 from by first | exact (IsS57.below (by repeat (first | (with_reducible first | exact (Q_HI0_e5 h0_) | apply IsS57.alloc | apply IsS57.drewN | apply IsS57.drew | apply IsS57.set_1 | apply IsS57.set_2) | exact (Q_HI0_e5 h0_))) hb))
           clear HK
           clear HB
           have HO227 := n0_
           have HK := n2_
           have HB := n3_
           clear n0_ n2_ n3_
           clear hb ho24
           obtain ⟨Ao25, co25, eo25⟩ := Kd.R_slice HO227.out
           subst eo25
           obtain ⟨ado25, fo25, _⟩ := Kd.at_string (Kd.R_reads' HO227.out).2.2 0 (by decide) (by rw [Ny225.out]; simp)
           cases fo25
           refine hK.out _ _ ⟨.slice (some ado25) y225.length co25, ado25, m6_, (by rw [ha.out]; exact putSel_upk 1 hb_ rfl rfl rfl), z_HI0, (kb0 HK.out), (bl0 HB.out), fun _ => (rqR HO227.out), fun _ => ⟨_, rfl⟩, z_HI0_e5, fun h0_ => absurd ((hoff 6 (by kernel_rfl)).symm.trans h0_) (by decide)⟩
          refine steps_cons ?_ ?_
          ·rintro b a w' ⟨v226, adz_v226, m6_, ha, Q_HI0, Q_HK, Q_HB, Q_HO227, Q_HA_HO227, Q_HI0_e5, Q_X6_⟩ hb_ hon hoff
           refine ⟨_, rfl, fun K hK => ?_⟩
           have e24 : a.tmps[24]? = some (.pointer (some ⟨g, 0, none⟩)) := by rw [ha]; exact (putSel_off rfl).trans rfl
           replace ha := Aside0.mk ha
           have HI0 := am (Q_HI0 hb_)
           have HK := Aside0.mk Q_HK
           have HB := Aside0.mk Q_HB
           refine goes_ Tryd.func18 (by kernel_rfl) rfl #[.pointer (some ⟨g, 0, none⟩), .int .i64 8] (by rfl) rfl rfl (by first | (simp only [List.map_toArray, List.map_cons, List.map_nil, Act.eval, Array.getD_eq_getD_getElem?, Option.getD_some, e24]; done) | (simp only [List.map_toArray, List.map_cons, List.map_nil, Act.eval, Array.getD_eq_getD_getElem?, Option.getD_some, e24]; rfl)) ?_
           with_reducible refine (spec_l01Next.calls g s0_0 t223 t224 8 t228 t229 t230 w0 _ ?side1 ?side2 A13.out).mono ?_
           (case side1 => exact st57_0 HI0.out)
           (case side2 => exact bl1 HB.out (IsS57.ge HI0.out))
           rintro e w23 ⟨rfl, hi, hb, hk⟩
           refine ⟨_, rfl, ?_⟩
           have n0_ := am (KeepBut.trans (kb0 HK.out) hk (.inl rfl))
           have n1_ := am (hb)
           have n2_ := am (hi)
           have z_HO227 := fun (h0_ : b 3 = true) => (show Kd.R Kd.string 9 w23 w.heap.size (fun _ => True) v226 y225 from by first | exact (Kd.R_mono (Kd.R_keep (IsS57.apart (show IsS57 w0 _ g s0_0 t223 t224 from st57_0 HI0.out) (by (with_reducible repeat (first | apply Kd.R_alloc | apply Kd.R_drewN | apply Kd.R_drew)); exact (Q_HO227 h0_)) (by decide)) hk (fun _ h => h.2)) (fun _ h => h.1)) | exact Kd.R_mono (Kd.R_mono (Kd.R_keep (IsS57.apart (show IsS57 w0 _ g s0_0 t223 t224 from st57_0 HI0.out) (by (with_reducible repeat (first | apply Kd.R_alloc | apply Kd.R_drewN | apply Kd.R_drew)); exact (Q_HO227 h0_)) (by decide)) hk (fun _ h => h.2)) (fun _ h => h.1)) (fun _ h_ => by first | trivial | exact h_ | exact h_.1))
           clear HK
           clear HB
           clear HI0
           have HK := n0_
           have HB := n1_
           have HI0 := n2_
           clear n0_ n1_ n2_
           (try clear hb)
           (try clear hb2)
           (try clear hk)
           (try clear hi)
           refine hK.out _ _ ⟨v226, adz_v226, m6_, (by rw [ha.out]; exact putSel_upk 2 hb_ rfl rfl rfl), fun h0_ => absurd ((up_self b 5).symm.trans h0_) (by decide), (kb0 HK.out), (bl1 HB.out (IsS57.ge HI0.out)), z_HO227, Q_HA_HO227, fun _ => (st57_0 HI0.out), fun h0_ => absurd ((hoff 6 (by kernel_rfl)).symm.trans h0_) (by decide)⟩
          refine steps_cons ?_ ?_
          ·rintro b a w' ⟨v226, adz_v226, m6_, ha, Q_HI0, Q_HK, Q_HB, Q_HO227, Q_HA_HO227, Q_HI0_e5, Q_X6_⟩ hb_ hon hoff
           refine ⟨_, rfl, fun K hK => ?_⟩
           have e23 : a.tmps[23]? = some (v226) := by rw [ha]; exact putSel_on (e := (3, 23, v226)) 1 rfl rfl (hon 3 (by kernel_rfl)) rfl
           have e25 : a.tmps[25]? = some (.int .i64 t228) := by rw [ha]; exact putSel_on (e := (5, 25, .int .i64 t228)) 2 rfl rfl (hon 5 (by kernel_rfl)) rfl
           replace ha := Aside0.mk ha
           have HK := Aside0.mk Q_HK
           have HB := Aside0.mk Q_HB
           have HO227 := am (Q_HO227 (hon 3 (by kernel_rfl)))
           have HA_HO227 := am (Q_HA_HO227 (hon 3 (by kernel_rfl)))
           have HI0 := am (Q_HI0_e5 (hon 5 (by kernel_rfl)))
           obtain ⟨c_, hv_⟩ := HA_HO227.out
           rw [hv_] at e23
           refine value_ (w1 := w') (v := .pointer (some (adz_v226.add (t228).toNat))) (by rfl) rfl ?_ ?_
           ·go_simp
            (try simp only [i64_w])
            try rfl
            all_goals (first | done | (simp only [eq_iff_iff, iff_true, iff_false, ByteArray.size_append, ByteArray.size_extract] at *; omega) | (rw [if_neg (by simp only [eq_iff_iff, iff_true, iff_false, ByteArray.size_append, ByteArray.size_extract] at *; omega)]))
           refine hK.out _ _ ⟨v226, adz_v226, (.pointer (some (adz_v226.add (t228).toNat))), (by rw [ha.out]; exact putSel_upk 3 hb_ rfl rfl rfl), fun h0_ => absurd ((hon 5 (by kernel_rfl)).symm.trans h0_) (by decide), Q_HK, Q_HB, Q_HO227, Q_HA_HO227, Q_HI0_e5, fun _ => rfl⟩
          refine steps_cons ?_ ?_
          ·rintro b a w' ⟨v226, adz_v226, m6_, ha, Q_HI0, Q_HK, Q_HB, Q_HO227, Q_HA_HO227, Q_HI0_e5, Q_X6_⟩ hb_ hon hoff
           refine ⟨_, rfl, fun K hK => ?_⟩
           have e26 : a.tmps[26]? = some (m6_) := by rw [ha]; exact putSel_on (e := (6, 26, m6_)) 3 rfl rfl (hon 6 (by kernel_rfl)) rfl
           rw [Q_X6_ (hon 6 (by kernel_rfl))] at e26
           replace ha := Aside0.mk ha
           have HK := Aside0.mk Q_HK
           have HB := Aside0.mk Q_HB
           have HO227 := am (Q_HO227 (hon 3 (by kernel_rfl)))
           have HA_HO227 := am (Q_HA_HO227 (hon 3 (by kernel_rfl)))
           have HI0 := am (Q_HI0_e5 (hon 5 (by kernel_rfl)))
           obtain ⟨c_, hv_⟩ := HA_HO227.out
           have hF_ := HO227.out
           rw [hv_] at hF_
           obtain ⟨ad_, ea_, hx_⟩ := Kd.at_string (Kd.R_reads' hF_).2.2 t228 (of_eq_true pi231) (of_eq_true qi231)
           cases ea_
           refine value_ (w1 := w') (v := .string (rdOf ByteArray.empty y225 t228)) (by rfl) rfl ?_ ?_
           ·go_simp
            (try simp only [i64_w])
            try rfl
            all_goals (first | done | (simp only [eq_iff_iff, iff_true, iff_false, ByteArray.size_append, ByteArray.size_extract] at *; omega) | (rw [if_neg (by simp only [eq_iff_iff, iff_true, iff_false, ByteArray.size_append, ByteArray.size_extract] at *; omega)]))
           refine hK.out _ _ ⟨v226, adz_v226, m6_, (by rw [ha.out]; exact putSel_upk 4 hb_ rfl rfl rfl), fun h0_ => absurd ((hon 5 (by kernel_rfl)).symm.trans h0_) (by decide), Q_HK, Q_HB, Q_HO227, Q_HA_HO227, Q_HI0_e5, Q_X6_⟩
          refine steps_cons ?_ ?_
          ·rintro b a w' ⟨v226, adz_v226, m6_, ha, Q_HI0, Q_HK, Q_HB, Q_HO227, Q_HA_HO227, Q_HI0_e5, Q_X6_⟩ hb_ hon hoff
           refine ⟨_, rfl, fun K hK => ?_⟩
           have e22 : a.tmps[22]? = some (.string (a1.extract 0 (t219 : Int).toNat)) := by rw [ha]; exact putSel_on (e := (2, 22, .string (a1.extract 0 (t219 : Int).toNat))) 0 rfl rfl (hon 2 (by kernel_rfl)) rfl
           have e27 : a.tmps[27]? = some (.string (rdOf ByteArray.empty y225 t228)) := by rw [ha]; exact putSel_on (e := (7, 27, .string (rdOf ByteArray.empty y225 t228))) 4 rfl rfl (hon 7 (by kernel_rfl)) rfl
           replace ha := Aside0.mk ha
           have HK := Aside0.mk Q_HK
           have HB := Aside0.mk Q_HB
           have HO227 := am (Q_HO227 (hon 3 (by kernel_rfl)))
           have HA_HO227 := am (Q_HA_HO227 (hon 3 (by kernel_rfl)))
           have HI0 := am (Q_HI0_e5 (hon 5 (by kernel_rfl)))
           refine value_ (w1 := w') (v := .string ((a1.extract 0 (t219 : Int).toNat) ++ (rdOf ByteArray.empty y225 t228))) (by rfl) rfl ?_ ?_
           ·go_simp
            (try simp only [i64_w])
            try rfl
            all_goals (first | done | (simp only [eq_iff_iff, iff_true, iff_false, ByteArray.size_append, ByteArray.size_extract] at *; omega) | (rw [if_neg (by simp only [eq_iff_iff, iff_true, iff_false, ByteArray.size_append, ByteArray.size_extract] at *; omega)]))
           refine hK.out _ _ ⟨v226, adz_v226, m6_, (by rw [ha.out]; exact putSel_upk 5 hb_ rfl rfl rfl), fun h0_ => absurd ((hon 5 (by kernel_rfl)).symm.trans h0_) (by decide), Q_HK, Q_HB, Q_HO227, Q_HA_HO227, Q_HI0_e5, Q_X6_⟩
          refine steps_cons ?_ ?_
          ·rintro b a w' ⟨v226, adz_v226, m6_, ha, Q_HI0, Q_HK, Q_HB, Q_HO227, Q_HA_HO227, Q_HI0_e5, Q_X6_⟩ hb_ hon hoff
           refine ⟨_, rfl, fun K hK => ?_⟩
           have e29 : a.tmps[29]? = some (.string a1) := by rw [ha]; exact (putSel_off rfl).trans rfl
           have e30 : a.tmps[30]? = some (.int .i64 t219) := by rw [ha]; exact (putSel_off rfl).trans rfl
           replace ha := Aside0.mk ha
           have HK := Aside0.mk Q_HK
           have HB := Aside0.mk Q_HB
           refine value_ (w1 := w') (v := .string (a1.extract (t219 : Int).toNat a1.size)) (by rfl) rfl ?_ ?_
           ·go_simp
            (try simp only [i64_w])
            try rfl
            all_goals (first | done | (simp only [eq_iff_iff, iff_true, iff_false, ByteArray.size_append, ByteArray.size_extract] at *; omega) | (rw [if_neg (by simp only [eq_iff_iff, iff_true, iff_false, ByteArray.size_append, ByteArray.size_extract] at *; omega)]))
           refine hK.out _ _ ⟨v226, adz_v226, m6_, (by rw [ha.out]; exact putSel_upk 6 hb_ rfl rfl rfl), Q_HI0, Q_HK, Q_HB, Q_HO227, Q_HA_HO227, Q_HI0_e5, Q_X6_⟩
          refine steps_cons ?_ ?_
          ·rintro b a w' ⟨v226, adz_v226, m6_, ha, Q_HI0, Q_HK, Q_HB, Q_HO227, Q_HA_HO227, Q_HI0_e5, Q_X6_⟩ hb_ hon hoff
           refine ⟨_, rfl, fun K hK => ?_⟩
           have e28 : a.tmps[28]? = some (.string ((a1.extract 0 (t219 : Int).toNat) ++ (rdOf ByteArray.empty y225 t228))) := by rw [ha]; exact putSel_on (e := (8, 28, .string ((a1.extract 0 (t219 : Int).toNat) ++ (rdOf ByteArray.empty y225 t228)))) 5 rfl rfl (hon 8 (by kernel_rfl)) rfl
           have e31 : a.tmps[31]? = some (.string (a1.extract (t219 : Int).toNat a1.size)) := by rw [ha]; exact putSel_on (e := (11, 31, .string (a1.extract (t219 : Int).toNat a1.size))) 6 rfl rfl (hon 11 (by kernel_rfl)) rfl
           replace ha := Aside0.mk ha
           have HK := Aside0.mk Q_HK
           have HB := Aside0.mk Q_HB
           have HO227 := am (Q_HO227 (hon 3 (by kernel_rfl)))
           have HA_HO227 := am (Q_HA_HO227 (hon 3 (by kernel_rfl)))
           have HI0 := am (Q_HI0_e5 (hon 5 (by kernel_rfl)))
           refine value_ (w1 := w') (v := .string (((a1.extract 0 (t219 : Int).toNat) ++ (rdOf ByteArray.empty y225 t228)) ++ (a1.extract (t219 : Int).toNat a1.size))) (by rfl) rfl ?_ ?_
           ·go_simp
            (try simp only [i64_w])
            try rfl
            all_goals (first | done | (simp only [eq_iff_iff, iff_true, iff_false, ByteArray.size_append, ByteArray.size_extract] at *; omega) | (rw [if_neg (by simp only [eq_iff_iff, iff_true, iff_false, ByteArray.size_append, ByteArray.size_extract] at *; omega)]))
           refine hK.out _ _ ⟨v226, adz_v226, m6_, (by rw [ha.out]; exact putSel_upk 7 hb_ rfl rfl rfl), fun h0_ => absurd ((hon 5 (by kernel_rfl)).symm.trans h0_) (by decide), Q_HK, Q_HB, Q_HO227, Q_HA_HO227, Q_HI0_e5, Q_X6_⟩
          refine steps_cons ?_ ?_
          ·rintro b a w' ⟨v226, adz_v226, m6_, ha, Q_HI0, Q_HK, Q_HB, Q_HO227, Q_HA_HO227, Q_HI0_e5, Q_X6_⟩ hb_ hon hoff
           refine ⟨_, rfl, fun K hK => ?_⟩
           have e32 : a.tmps[32]? = some (.string (((a1.extract 0 (t219 : Int).toNat) ++ (rdOf ByteArray.empty y225 t228)) ++ (a1.extract (t219 : Int).toNat a1.size))) := by rw [ha]; exact putSel_on (e := (12, 32, .string (((a1.extract 0 (t219 : Int).toNat) ++ (rdOf ByteArray.empty y225 t228)) ++ (a1.extract (t219 : Int).toNat a1.size)))) 7 rfl rfl (hon 12 (by kernel_rfl)) rfl
           replace ha := Aside0.mk ha
           have HK := Aside0.mk Q_HK
           have HB := Aside0.mk Q_HB
           have HO227 := am (Q_HO227 (hon 3 (by kernel_rfl)))
           have HA_HO227 := am (Q_HA_HO227 (hon 3 (by kernel_rfl)))
           have HI0 := am (Q_HI0_e5 (hon 5 (by kernel_rfl)))
           refine value_ (w1 := w') (v := .string (((a1.extract 0 (t219 : Int).toNat) ++ (rdOf ByteArray.empty y225 t228)) ++ (a1.extract (t219 : Int).toNat a1.size))) (by rfl) rfl ?_ ?_
           ·go_simp
            (try simp only [i64_w])
            try rfl
            all_goals (first | done | (simp only [eq_iff_iff, iff_true, iff_false, ByteArray.size_append, ByteArray.size_extract] at *; omega) | (rw [if_neg (by simp only [eq_iff_iff, iff_true, iff_false, ByteArray.size_append, ByteArray.size_extract] at *; omega)]))
           refine hK.out _ _ ⟨v226, adz_v226, m6_, (by rw [ha.out]; exact putSel_upk 8 hb_ rfl rfl rfl), fun h0_ => absurd ((hon 5 (by kernel_rfl)).symm.trans h0_) (by decide), Q_HK, Q_HB, Q_HO227, Q_HA_HO227, Q_HI0_e5, Q_X6_⟩
          exact steps_nil
         rintro b a w27 hall ⟨v226, adz_v226, m6_, ha, Q_HI0, Q_HK, Q_HB, Q_HO227, Q_HA_HO227, Q_HI0_e5, Q_X6_⟩
         clear HB HI0 HK
         have hb2_ := hall 2 (by kernel_rfl)
         have hb3_ := hall 3 (by kernel_rfl)
         have hb5_ := hall 5 (by kernel_rfl)
         have hb6_ := hall 6 (by kernel_rfl)
         have hb7_ := hall 7 (by kernel_rfl)
         have hb8_ := hall 8 (by kernel_rfl)
         have hb11_ := hall 11 (by kernel_rfl)
         have hb12_ := hall 12 (by kernel_rfl)
         have hb13_ := hall 13 (by kernel_rfl)
         subst ha
         obtain rfl := Q_X6_ hb6_
         simp only [putSel, hb2_, hb3_, hb5_, hb6_, hb7_, hb8_, hb11_, hb12_, hb13_, if_true, Act.put, List.setIfInBounds_toArray, List.set_cons_zero, List.set_cons_succ]
         clear Q_HI0
         have HK := Aside0.mk Q_HK
         clear Q_HK
         have HB := Aside0.mk Q_HB
         clear Q_HB
         have HO227 := am (Q_HO227 hb3_)
         clear Q_HO227
         have HA_HO227 := am (Q_HA_HO227 hb3_)
         clear Q_HA_HO227
         have HI0 := am (Q_HI0_e5 hb5_)
         clear Q_HI0_e5
         clear hall hb2_ hb3_ hb5_ hb6_ hb7_ hb8_ hb11_ hb12_ hb13_
         obtain ⟨co28, eo28⟩ := HA_HO227.out
         clear HA_HO227
         subst eo28
         try go_wp2
         go_ret
         exact ⟨er, st57_0 HI0.out, bl1 HB.out (IsS57.ge HI0.out), kb0 HK.out⟩
        ·rw [if_neg c19] at H
         exact absurd H (by simp)
       ·rw [if_neg c16] at H
        exact absurd H (by simp)
      ·rw [if_neg c15] at H
       exact absurd H (by simp)
     ·rw [if_neg c14] at H
      exact absurd H (by simp)
    ·rw [if_neg c12] at H
     exact absurd H (by simp)
   ·rw [if_neg c11] at H
    exact absurd H (by simp)
  ·rw [if_neg c10] at H
   have c10b0 : (t222 == 1) = false := beq_eq_false_iff_ne.mpr c10
   have c10b1 : (t222 != 1) = true := bne_iff_ne.mpr c10
   by_cases c29 : t222 = 2
   ·rw [if_pos c29] at H
    have c29b0 : (t222 == 2) = true := beq_iff_eq.mpr c29
    have c29b1 : (t222 != 2) = false := bne_eq_false_iff_eq.mpr c29
    clear c29
    by_cases c30 : t219 < (a1.size : Int)
    ·rw [if_pos c30] at H
     have c30b0 : decide (t219 < (a1.size : Int)) = true := decide_eq_true c30
     clear c30
     by_cases c31 : 0 ≤ t219
     ·rw [if_pos c31] at H
      have c31b0 := eq_true c31
      have c31b1 : decide (0 ≤ t219) = true := decide_eq_true c31
      clear c31
      by_cases c32 : t219 ≤ (a1.size : Int)
      ·rw [if_pos c32] at H
       have c32b0 := eq_true c32
       have c32b1 : decide (t219 ≤ (a1.size : Int)) = true := decide_eq_true c32
       clear c32
       obtain ⟨ji33, hji33⟩ : ∃ j_ : Int, (wrap64 (t219 + 1)) = j_ := ⟨_, rfl⟩
       replace H : (if 0 ≤ (ji33) then (if (ji33) ≤ (a1.size : Int) then (if (a1.extract 0 (t219 : Int).toNat).size + (a1.extract ((ji33) : Int).toNat a1.size).size ≤ 9223372036854775807 then (some ((a1.extract 0 (t219 : Int).toNat) ++ (a1.extract ((ji33) : Int).toNat a1.size), t223, t224)) else (none)) else (none)) else (none)) = some (r1, r2, r3) := by first | (rw [hji33] at H; exact H) | (simp only [hji33] at H ⊢; exact H)
       (try rw [hji33] at A3)
       (try rw [hji33] at A4)
       have hji33w : (IntKind.i64.wrap (t219 + 1)) = ji33 := (i64_w _).trans hji33
       by_cases c34 : 0 ≤ (ji33)
       ·rw [if_pos c34] at H
        have c34b0 := eq_true c34
        have c34b1 : decide (0 ≤ (ji33)) = true := decide_eq_true c34
        clear c34
        by_cases c35 : (ji33) ≤ (a1.size : Int)
        ·rw [if_pos c35] at H
         have c35b0 := eq_true c35
         have c35b1 : decide ((ji33) ≤ (a1.size : Int)) = true := decide_eq_true c35
         clear c35
         by_cases c36 : (a1.extract 0 (t219 : Int).toNat).size + (a1.extract ((ji33) : Int).toNat a1.size).size ≤ 9223372036854775807
         ·rw [if_pos c36] at H
          have c36b0 := eq_true c36
          have c36b1 : decide ((a1.extract 0 (t219 : Int).toNat).size + (a1.extract ((ji33) : Int).toNat a1.size).size ≤ 9223372036854775807) = true := decide_eq_true c36
          try have c36b2 : (9223372036854775807 < (a1.extract 0 (t219 : Int).toNat).size + (a1.extract ((ji33) : Int).toNat a1.size).size) = False := eq_false (Nat.not_lt.2 c36)
          simp only [Option.some.injEq, Prod.mk.injEq] at H
          obtain ⟨rfl, rfl, rfl⟩ := H
          go_enter Tryd.func32, Tryd.ntmps32
          try go_wp2_with (first | ((with_reducible refine gate_callee (f := 18) rfl ?_); refine goesL_ (some 10) rfl rfl Tryd.func18 (by kernel_rfl) rfl #[.pointer (some ⟨g, 0, none⟩), .int .i64 (wrap64 ((a1.size : Int) + 1))] rfl lnp ?_; (with_reducible refine (spec_l01Next.calls g s0_0 s0_1 s0_2 (wrap64 ((a1.size : Int) + 1)) t219 t220 t221 w0 _ ?side1 ?side2 A3.out).mono ?_); (case side1 => exact st57_0 HI0.out); (case side2 => exact bl1 HB.out (IsS57.ge HI0.out)); rintro e w37 ⟨rfl, hi, hb, hk⟩; refine ⟨_, rfl, ?_⟩; have n_ := (⟨am (KeepBut.trans (kb0 HK.out) hk (.inl rfl)), am (hb), am (hi)⟩ : _ ∧ _ ∧ _); clear HK HB HI0; obtain ⟨HK, HB, HI0⟩ := n_; (try clear hb); (try clear hb2); (try clear hk); (try clear hi)) | ((with_reducible refine gate_callee (f := 18) rfl ?_); refine goesL_ (some 12) rfl rfl Tryd.func18 (by kernel_rfl) rfl #[.pointer (some ⟨g, 0, none⟩), .int .i64 8] rfl lnp ?_; (with_reducible refine (spec_l01Next.calls g s0_0 t220 t221 8 t222 t223 t224 w0 _ ?side1 ?side2 A4.out).mono ?_); (case side1 => exact st57_0 HI0.out); (case side2 => exact bl1 HB.out (IsS57.ge HI0.out)); rintro e w38 ⟨rfl, hi, hb, hk⟩; refine ⟨_, rfl, ?_⟩; have n_ := (⟨am (KeepBut.trans (kb0 HK.out) hk (.inl rfl)), am (hb), am (hi)⟩ : _ ∧ _ ∧ _); clear HK HB HI0; obtain ⟨HK, HB, HI0⟩ := n_; (try clear hb); (try clear hb2); (try clear hk); (try clear hi)))
          have n_ := (⟨am (IsS57.drew HI0.out), am (keep_drew HK.out), am (below_drew1 HB.out)⟩ : _ ∧ _ ∧ _)
          clear HI0
          clear HK
          clear HB
          obtain ⟨HI0, HK, HB⟩ := n_
          refine start_ (n := 9) (S := fun w' => True) (ds := []) #[false, false, false, false, false, false, false, false, false] (by kernel_rfl) rfl rfl trivial (fun hHeld => ?_); refine with_tabW spec_l01Damage.tab9 spec_l01Damage.bits9 (fun HT_ HW_ => ?_)
          generalize w38.drew = w39 at HI0 HK HB hHeld ⊢
          refine pure_ (i := 0) (N := some 39) (v := ?_) (a' := ?_) #[true, false, false, false, false, false, false, false, false] rfl rfl (any_of HT_.out (by kernel_rfl)) (fun _ _ _ h => h) (Or.inl ⟨by rfl, ?_⟩) ?_ ?_
          rotate_left
          ·intro w'
           go_simp
           first | (with_reducible rfl) | (rw [if_neg (by simp only [eq_iff_iff, iff_true, iff_false, ByteArray.size_append, ByteArray.size_extract] at *; omega)])
          rotate_left
          ·exact pt
          refine pure_ (i := 1) (N := some 40) (v := ?_) (a' := ?_) #[true, true, false, false, false, false, false, false, false] rfl rfl (any_of HT_.out (by kernel_rfl)) (fun _ _ _ h => h) (Or.inl ⟨by rfl, ?_⟩) ?_ ?_
          rotate_left
          ·intro w'
           go_simp
           first | (with_reducible rfl) | (rw [if_neg (by simp only [eq_iff_iff, iff_true, iff_false, ByteArray.size_append, ByteArray.size_extract] at *; omega)])
          rotate_left
          ·exact pt
          refine pure_ (i := 2) (N := some 41) (v := ?_) (a' := ?_) #[true, true, true, false, false, false, false, false, false] rfl rfl (any_of HT_.out (by kernel_rfl)) (fun _ _ _ h => h) (Or.inl ⟨by rfl, ?_⟩) ?_ ?_
          rotate_left
          ·intro w'
           go_simp
           first | (with_reducible rfl) | (rw [if_neg (by simp only [eq_iff_iff, iff_true, iff_false, ByteArray.size_append, ByteArray.size_extract] at *; omega)])
          rotate_left
          ·exact pt
          refine pure_ (i := 3) (N := some 42) (v := ?_) (a' := ?_) #[true, true, true, true, false, false, false, false, false] rfl rfl (any_of HT_.out (by kernel_rfl)) (fun _ _ _ h => h) (Or.inl ⟨by rfl, ?_⟩) ?_ ?_
          rotate_left
          ·intro w'
           go_simp
           first | (with_reducible rfl) | (rw [if_neg (by simp only [eq_iff_iff, iff_true, iff_false, ByteArray.size_append, ByteArray.size_extract] at *; omega)])
          rotate_left
          ·exact pt
          refine pure_ (i := 4) (N := some 43) (v := ?_) (a' := ?_) #[true, true, true, true, true, false, false, false, false] rfl rfl (any_of HT_.out (by kernel_rfl)) (fun _ _ _ h => h) (Or.inl ⟨by rfl, ?_⟩) ?_ ?_
          rotate_left
          ·intro w'
           go_simp
           first | (with_reducible rfl) | (rw [if_neg (by simp only [eq_iff_iff, iff_true, iff_false, ByteArray.size_append, ByteArray.size_extract] at *; omega)])
          rotate_left
          ·exact pt
          refine pure_ (i := 5) (N := some 44) (v := ?_) (a' := ?_) #[true, true, true, true, true, true, false, false, false] rfl rfl (any_of HT_.out (by kernel_rfl)) (fun _ _ _ h => h) (Or.inl ⟨by rfl, ?_⟩) ?_ ?_
          rotate_left
          ·intro w'
           go_simp
           first | (with_reducible rfl) | (rw [if_neg (by simp only [eq_iff_iff, iff_true, iff_false, ByteArray.size_append, ByteArray.size_extract] at *; omega)])
          rotate_left
          ·exact pt
          refine pure_ (i := 6) (N := some 45) (v := ?_) (a' := ?_) #[true, true, true, true, true, true, true, false, false] rfl rfl (any_of HT_.out (by kernel_rfl)) (fun _ _ _ h => h) (Or.inl ⟨by rfl, ?_⟩) ?_ ?_
          rotate_left
          ·intro w'
           go_simp
           first | (with_reducible rfl) | (rw [if_neg (by simp only [eq_iff_iff, iff_true, iff_false, ByteArray.size_append, ByteArray.size_extract] at *; omega)])
          rotate_left
          ·exact pt
          refine pure_ (i := 7) (N := some 46) (v := ?_) (a' := ?_) #[true, true, true, true, true, true, true, true, false] rfl rfl (any_of HT_.out (by kernel_rfl)) (fun _ _ _ h => h) (Or.inl ⟨by rfl, ?_⟩) ?_ ?_
          rotate_left
          ·intro w'
           go_simp
           first | (with_reducible rfl) | (rw [if_neg (by simp only [eq_iff_iff, iff_true, iff_false, ByteArray.size_append, ByteArray.size_extract] at *; omega)])
          rotate_left
          ·exact pt
          refine pure_ (i := 8) (N := some 4) (v := ?_) (a' := ?_) #[true, true, true, true, true, true, true, true, true] rfl rfl (any_of HT_.out (by kernel_rfl)) (fun _ _ _ h => h) (Or.inl ⟨by rfl, ?_⟩) ?_ ?_
          rotate_left
          ·intro w'
           go_simp
           first | (with_reducible rfl) | (rw [if_neg (by simp only [eq_iff_iff, iff_true, iff_false, ByteArray.size_append, ByteArray.size_extract] at *; omega)])
          rotate_left
          ·exact pt
          refine done_ (done_of HT_.out (by kernel_rfl)) ?_
          try go_wp2
          go_ret
          exact ⟨by first | rfl | (simp [errW_none, errW_some] <;> rfl) | (simp only [← hji33]; first | rfl | (simp [errW_none, errW_some] <;> rfl)) | (simp [*, errW_none, errW_some] <;> rfl), st57_0 HI0.out, bl1 HB.out (IsS57.ge HI0.out), kb0 HK.out⟩
         ·rw [if_neg c36] at H
          exact absurd H (by simp)
        ·rw [if_neg c35] at H
         exact absurd H (by simp)
       ·rw [if_neg c34] at H
        exact absurd H (by simp)
      ·rw [if_neg c32] at H
       exact absurd H (by simp)
     ·rw [if_neg c31] at H
      exact absurd H (by simp)
    ·rw [if_neg c30] at H
     have c30b0 : decide (t219 < (a1.size : Int)) = false := decide_eq_false c30
     clear c30
     simp only [Option.some.injEq, Prod.mk.injEq] at H
     obtain ⟨rfl, rfl, rfl⟩ := H
     go_enter Tryd.func32, Tryd.ntmps32
     go_wp2_with (first | ((with_reducible refine gate_callee (f := 18) rfl ?_); refine goesL_ (some 10) rfl rfl Tryd.func18 (by kernel_rfl) rfl #[.pointer (some ⟨g, 0, none⟩), .int .i64 (wrap64 ((a1.size : Int) + 1))] rfl lnp ?_; (with_reducible refine (spec_l01Next.calls g s0_0 s0_1 s0_2 (wrap64 ((a1.size : Int) + 1)) t219 t220 t221 w0 _ ?side1 ?side2 A3.out).mono ?_); (case side1 => exact st57_0 HI0.out); (case side2 => exact bl1 HB.out (IsS57.ge HI0.out)); rintro e w40 ⟨rfl, hi, hb, hk⟩; refine ⟨_, rfl, ?_⟩; have n_ := (⟨am (KeepBut.trans (kb0 HK.out) hk (.inl rfl)), am (hb), am (hi)⟩ : _ ∧ _ ∧ _); clear HK HB HI0; obtain ⟨HK, HB, HI0⟩ := n_; (try clear hb); (try clear hb2); (try clear hk); (try clear hi)) | ((with_reducible refine gate_callee (f := 18) rfl ?_); refine goesL_ (some 12) rfl rfl Tryd.func18 (by kernel_rfl) rfl #[.pointer (some ⟨g, 0, none⟩), .int .i64 8] rfl lnp ?_; (with_reducible refine (spec_l01Next.calls g s0_0 t220 t221 8 t222 t223 t224 w0 _ ?side1 ?side2 A4.out).mono ?_); (case side1 => exact st57_0 HI0.out); (case side2 => exact bl1 HB.out (IsS57.ge HI0.out)); rintro e w41 ⟨rfl, hi, hb, hk⟩; refine ⟨_, rfl, ?_⟩; have n_ := (⟨am (KeepBut.trans (kb0 HK.out) hk (.inl rfl)), am (hb), am (hi)⟩ : _ ∧ _ ∧ _); clear HK HB HI0; obtain ⟨HK, HB, HI0⟩ := n_; (try clear hb); (try clear hb2); (try clear hk); (try clear hi)))
     go_ret
     exact ⟨er, st57_0 HI0.out, bl1 HB.out (IsS57.ge HI0.out), kb0 HK.out⟩
   ·rw [if_neg c29] at H
    have c29b0 : (t222 == 2) = false := beq_eq_false_iff_ne.mpr c29
    have c29b1 : (t222 != 2) = true := bne_iff_ne.mpr c29
    simp only [Option.some.injEq, Prod.mk.injEq] at H
    obtain ⟨rfl, rfl, rfl⟩ := H
    go_enter Tryd.func32, Tryd.ntmps32
    go_wp2_with (first | ((with_reducible refine gate_callee (f := 18) rfl ?_); refine goesL_ (some 10) rfl rfl Tryd.func18 (by kernel_rfl) rfl #[.pointer (some ⟨g, 0, none⟩), .int .i64 (wrap64 ((a1.size : Int) + 1))] rfl lnp ?_; (with_reducible refine (spec_l01Next.calls g s0_0 s0_1 s0_2 (wrap64 ((a1.size : Int) + 1)) t219 t220 t221 w0 _ ?side1 ?side2 A3.out).mono ?_); (case side1 => exact st57_0 HI0.out); (case side2 => exact bl1 HB.out (IsS57.ge HI0.out)); rintro e w42 ⟨rfl, hi, hb, hk⟩; refine ⟨_, rfl, ?_⟩; have n_ := (⟨am (KeepBut.trans (kb0 HK.out) hk (.inl rfl)), am (hb), am (hi)⟩ : _ ∧ _ ∧ _); clear HK HB HI0; obtain ⟨HK, HB, HI0⟩ := n_; (try clear hb); (try clear hb2); (try clear hk); (try clear hi)) | ((with_reducible refine gate_callee (f := 18) rfl ?_); refine goesL_ (some 12) rfl rfl Tryd.func18 (by kernel_rfl) rfl #[.pointer (some ⟨g, 0, none⟩), .int .i64 8] rfl lnp ?_; (with_reducible refine (spec_l01Next.calls g s0_0 t220 t221 8 t222 t223 t224 w0 _ ?side1 ?side2 A4.out).mono ?_); (case side1 => exact st57_0 HI0.out); (case side2 => exact bl1 HB.out (IsS57.ge HI0.out)); rintro e w43 ⟨rfl, hi, hb, hk⟩; refine ⟨_, rfl, ?_⟩; have n_ := (⟨am (KeepBut.trans (kb0 HK.out) hk (.inl rfl)), am (hb), am (hi)⟩ : _ ∧ _ ∧ _); clear HK HB HI0; obtain ⟨HK, HB, HI0⟩ := n_; (try clear hb); (try clear hb2); (try clear hk); (try clear hi)))
    go_ret
    exact ⟨er, st57_0 HI0.out, bl1 HB.out (IsS57.ge HI0.out), kb0 HK.out⟩

/-! ### spec_l29DrawText: function 16 -/
def spec_l29DrawText.f (k : Nat) (s0_0 : List Int) (s0_1 : Int) (s0_2 : Int) : Option (ByteArray × Int × Int) := (spec_l29Draw.f k s0_0 s0_1 s0_2).bind fun bt232 => ((spec_JournalText.f k bt232.1).bind fun bt237 => ((spec_l01Next.f s0_0 bt232.2.1 bt232.2.2 3).bind fun bt239 => (if bt239.1 = 0 then ((spec_l01Damage.f s0_0 bt239.2.1 bt239.2.2 bt237.1).bind fun bt242 => (some (bt242.1, bt242.2.1, bt242.2.2))) else ((spec_l01Next.f s0_0 bt239.2.1 bt239.2.2 50).bind fun bt245 => (if bt245.1 = 0 then ((spec_l01Next.f s0_0 bt245.2.1 bt245.2.2 2).bind fun bt248 => (if 0 ≤ (wrap64 (8000 + bt248.1)) then (if (wrap64 (8000 + bt248.1) : Int).toNat ≤ 281474976710656 then (some (strOfNums (List.replicate (wrap64 (8000 + bt248.1) : Int).toNat 0), bt248.2.1, bt248.2.2)) else (none)) else (none))) else (some (bt237.1, bt245.2.1, bt245.2.2)))))))
theorem spec_l29DrawText.mono : ∀ a0 a1 a2 k, LeO (spec_l29DrawText.f k a0 a1 a2) (spec_l29DrawText.f (k + 1) a0 a1 a2) := by
 intro a0 a1 a2 k
 unfold spec_l29DrawText.f
 repeat' first | (with_reducible first | exact spec_JournalText.mono _ _ | exact spec_l29Draw.mono _ _ _ _ | exact LeO.refl _ | exact LeO.none _ | refine LeO.ite ?_ ?_ | refine LeO.bind ?_ (fun _ => ?_)) | exact spec_JournalText.mono _ _ | exact spec_l29Draw.mono _ _ _ _ | exact LeO.none _ | refine LeO.ite ?_ ?_ | refine LeO.bind ?_ (fun _ => ?_)
theorem spec_l29DrawText.calls (k : Nat) (g : Nat) (s0_0 : List Int) (s0_1 : Int) (s0_2 : Int) (r1 : ByteArray) (r2 : Int) (r3 : Int) (w0 w : World) (hI : IsS57 w0 w g s0_0 s0_1 s0_2) (hB : Below w0.heap.size w0 w) (h : spec_l29DrawText.f k s0_0 s0_1 s0_2 = some (r1, r2, r3)) :
  Calls Tryd.prog 16 #[.pointer (some ⟨g, 0, none⟩)] w fun e w' => e = .returned (.string r1) ∧ IsS57 w0 w' g s0_0 r2 r3 ∧ Below w0.heap.size w0 w' ∧ KeepBut w w' g none := by
 have HI0 := Aside0.mk hI
 have HK := am (KeepBut.refl w g none)
 have HL := Aside0.mk hB.size
 clear hI
 have HW0 := Aside0.mk hB.size
 have HB := Aside0.mk hB
 clear hB
 have H : ((spec_l29Draw.f k s0_0 s0_1 s0_2).bind fun bt232 => ((spec_JournalText.f k bt232.1).bind fun bt237 => ((spec_l01Next.f s0_0 bt232.2.1 bt232.2.2 3).bind fun bt239 => (if bt239.1 = 0 then ((spec_l01Damage.f s0_0 bt239.2.1 bt239.2.2 bt237.1).bind fun bt242 => (some (bt242.1, bt242.2.1, bt242.2.2))) else ((spec_l01Next.f s0_0 bt239.2.1 bt239.2.2 50).bind fun bt245 => (if bt245.1 = 0 then ((spec_l01Next.f s0_0 bt245.2.1 bt245.2.2 2).bind fun bt248 => (if 0 ≤ (wrap64 (8000 + bt248.1)) then (if (wrap64 (8000 + bt248.1) : Int).toNat ≤ 281474976710656 then (some (strOfNums (List.replicate (wrap64 (8000 + bt248.1) : Int).toNat 0), bt248.2.1, bt248.2.2)) else (none)) else (none))) else (some (bt237.1, bt245.2.1, bt245.2.2)))))))) = some (r1, r2, r3) := h
 clear h
 replace H := Option.bind_eq_some_iff.mp H
 obtain ⟨⟨t232, t235, t236⟩, A20, H⟩ := H
 replace H : ((spec_JournalText.f k t232).bind fun bt237 => ((spec_l01Next.f s0_0 t235 t236 3).bind fun bt239 => (if bt239.1 = 0 then ((spec_l01Damage.f s0_0 bt239.2.1 bt239.2.2 bt237.1).bind fun bt242 => (some (bt242.1, bt242.2.1, bt242.2.2))) else ((spec_l01Next.f s0_0 bt239.2.1 bt239.2.2 50).bind fun bt245 => (if bt245.1 = 0 then ((spec_l01Next.f s0_0 bt245.2.1 bt245.2.2 2).bind fun bt248 => (if 0 ≤ (wrap64 (8000 + bt248.1)) then (if (wrap64 (8000 + bt248.1) : Int).toNat ≤ 281474976710656 then (some (strOfNums (List.replicate (wrap64 (8000 + bt248.1) : Int).toNat 0), bt248.2.1, bt248.2.2)) else (none)) else (none))) else (some (bt237.1, bt245.2.1, bt245.2.2))))))) = some (r1, r2, r3) := H
 have A2 := Aside0.mk A20
 clear A20
 replace H := Option.bind_eq_some_iff.mp H
 obtain ⟨⟨t237, t238⟩, A30, H⟩ := H
 replace H : ((spec_l01Next.f s0_0 t235 t236 3).bind fun bt239 => (if bt239.1 = 0 then ((spec_l01Damage.f s0_0 bt239.2.1 bt239.2.2 t237).bind fun bt242 => (some (bt242.1, bt242.2.1, bt242.2.2))) else ((spec_l01Next.f s0_0 bt239.2.1 bt239.2.2 50).bind fun bt245 => (if bt245.1 = 0 then ((spec_l01Next.f s0_0 bt245.2.1 bt245.2.2 2).bind fun bt248 => (if 0 ≤ (wrap64 (8000 + bt248.1)) then (if (wrap64 (8000 + bt248.1) : Int).toNat ≤ 281474976710656 then (some (strOfNums (List.replicate (wrap64 (8000 + bt248.1) : Int).toNat 0), bt248.2.1, bt248.2.2)) else (none)) else (none))) else (some (t237, bt245.2.1, bt245.2.2)))))) = some (r1, r2, r3) := H
 have A3 := Aside0.mk A30
 clear A30
 replace H := Option.bind_eq_some_iff.mp H
 obtain ⟨⟨t239, t240, t241⟩, A40, H⟩ := H
 replace H : (if t239 = 0 then ((spec_l01Damage.f s0_0 t240 t241 t237).bind fun bt242 => (some (bt242.1, bt242.2.1, bt242.2.2))) else ((spec_l01Next.f s0_0 t240 t241 50).bind fun bt245 => (if bt245.1 = 0 then ((spec_l01Next.f s0_0 bt245.2.1 bt245.2.2 2).bind fun bt248 => (if 0 ≤ (wrap64 (8000 + bt248.1)) then (if (wrap64 (8000 + bt248.1) : Int).toNat ≤ 281474976710656 then (some (strOfNums (List.replicate (wrap64 (8000 + bt248.1) : Int).toNat 0), bt248.2.1, bt248.2.2)) else (none)) else (none))) else (some (t237, bt245.2.1, bt245.2.2))))) = some (r1, r2, r3) := H
 have A4 := Aside0.mk A40
 clear A40
 by_cases c5 : t239 = 0
 ·rw [if_pos c5] at H
  have c5b0 : (t239 == 0) = true := beq_iff_eq.mpr c5
  have c5b1 : (t239 != 0) = false := bne_eq_false_iff_eq.mpr c5
  clear c5
  replace H := Option.bind_eq_some_iff.mp H
  obtain ⟨⟨t242, t243, t244⟩, A60, H⟩ := H
  replace H : (some (t242, t243, t244)) = some (r1, r2, r3) := H
  have A6 := Aside0.mk A60
  clear A60
  simp only [Option.some.injEq, Prod.mk.injEq] at H
  obtain ⟨rfl, rfl, rfl⟩ := H
  go_enter Tryd.func16, Tryd.ntmps16
  go_wp2_with (first | ((with_reducible refine gate_callee (f := 31) rfl ?_); refine goesL_ (some 7) rfl rfl Tryd.func31 (by kernel_rfl) rfl #[.pointer (some ⟨g, 0, none⟩)] rfl lnp ?_; (with_reducible refine (spec_l29Draw.calls k g s0_0 s0_1 s0_2 t232 t235 t236 w0 _ ?side1 ?side2 A2.out).mono ?_); (case side1 => exact st57_0 HI0.out); (case side2 => exact bl1 HB.out (IsS57.ge HI0.out)); rintro e w7 ⟨v233, rfl, ho0, hi, hb, hk⟩; refine ⟨_, rfl, ?_⟩; have n_ := (⟨am (Kd.R_lower ho0 (keep_size (w := w) (g := g) (row := none) (kb0 HK.out))), am (KeepBut.trans (kb0 HK.out) hk (.inl rfl)), am (hb), am (hi)⟩ : _ ∧ _ ∧ _ ∧ _); clear HK HB HI0; obtain ⟨HO234, HK, HB, HI0⟩ := n_; (try clear hb); (try clear hb2); (try clear hk); (try clear hi); (try clear ho0); obtain ⟨Ao8, co8, eo8⟩ := Kd.R_slice HO234.out; subst eo8) | ((with_reducible refine gate_callee (f := 30) rfl ?_); refine goesL_ (some 8) rfl rfl Tryd.func30 (by kernel_rfl) rfl #[.slice Ao8 t232.length co8] rfl lnp ?_; (with_reducible refine (spec_JournalText.calls k _ _ t232 t237 t238 _ ?side1 ?side2 A3.out).mono ?_); (case side1 => repeat (first | exact (Kd.R_reads' HO234.out).2.2 | (with_reducible refine Kd.C_alloc ?_ _) | (with_reducible refine Kd.C_drewN ?_ _) | (with_reducible refine Kd.C_drew ?_))); (case side2 => exact (Kd.R_reads' HO234.out).2.1); rintro e w9 ⟨rfl, hb⟩; refine ⟨_, rfl, ?_⟩; have n_ := (⟨am (Kd.R_below (rqR HO234.out) hb), am (IsS57.below (st57_0 HI0.out) hb), am (KeepBut.trans (kb0 HK.out) (KeepBut.of_below hb g none) (.inl rfl)), am (below_step (bl1 HB.out (IsS57.ge HI0.out)) hb)⟩ : _ ∧ _ ∧ _ ∧ _); clear HO234 HI0 HK HB; obtain ⟨HO234, HI0, HK, HB⟩ := n_; (try clear hb); (try clear hb2); (try clear hk); (try clear hi)) | ((with_reducible refine gate_callee (f := 18) rfl ?_); refine goesL_ (some 12) rfl rfl Tryd.func18 (by kernel_rfl) rfl #[.pointer (some ⟨g, 0, none⟩), .int .i64 3] rfl lnp ?_; (with_reducible refine (spec_l01Next.calls g s0_0 t235 t236 3 t239 t240 t241 w0 _ ?side1 ?side2 A4.out).mono ?_); (case side1 => exact st57_0 HI0.out); (case side2 => exact bl1 HB.out (IsS57.ge HI0.out)); rintro e w10 ⟨rfl, hi, hb, hk⟩; refine ⟨_, rfl, ?_⟩; have n_ := (⟨am (Kd.R_mono (Kd.R_keep (IsS57.apart (show IsS57 w0 _ g s0_0 t235 t236 from st57_0 HI0.out) (rqR HO234.out) (by decide)) hk (fun _ h => h.2)) (fun _ h => h.1)), am (KeepBut.trans (kb0 HK.out) hk (.inl rfl)), am (hb), am (hi)⟩ : _ ∧ _ ∧ _ ∧ _); clear HO234 HK HB HI0; obtain ⟨HO234, HK, HB, HI0⟩ := n_; (try clear hb); (try clear hb2); (try clear hk); (try clear hi)) | ((with_reducible refine gate_callee (f := 32) rfl ?_); refine goesL_ (some 16) rfl rfl Tryd.func32 (by kernel_rfl) rfl #[.pointer (some ⟨g, 0, none⟩), .string t237] rfl lnp ?_; (with_reducible refine (spec_l01Damage.calls g s0_0 t240 t241 t237 t242 t243 t244 w0 _ ?side1 ?side2 A6.out).mono ?_); (case side1 => exact st57_0 HI0.out); (case side2 => exact bl1 HB.out (IsS57.ge HI0.out)); rintro e w11 ⟨rfl, hi, hb, hk⟩; refine ⟨_, rfl, ?_⟩; have n_ := (⟨am (Kd.R_mono (Kd.R_keep (IsS57.apart (show IsS57 w0 _ g s0_0 t240 t241 from st57_0 HI0.out) (rqR HO234.out) (by decide)) hk (fun _ h => h.2)) (fun _ h => h.1)), am (KeepBut.trans (kb0 HK.out) hk (.inl rfl)), am (hb), am (hi)⟩ : _ ∧ _ ∧ _ ∧ _); clear HO234 HK HB HI0; obtain ⟨HO234, HK, HB, HI0⟩ := n_; (try clear hb); (try clear hb2); (try clear hk); (try clear hi)))
  go_ret
  exact ⟨er, st57_0 HI0.out, bl1 HB.out (IsS57.ge HI0.out), kb0 HK.out⟩
 ·rw [if_neg c5] at H
  have c5b0 : (t239 == 0) = false := beq_eq_false_iff_ne.mpr c5
  have c5b1 : (t239 != 0) = true := bne_iff_ne.mpr c5
  replace H := Option.bind_eq_some_iff.mp H
  obtain ⟨⟨t245, t246, t247⟩, A120, H⟩ := H
  replace H : (if t245 = 0 then ((spec_l01Next.f s0_0 t246 t247 2).bind fun bt248 => (if 0 ≤ (wrap64 (8000 + bt248.1)) then (if (wrap64 (8000 + bt248.1) : Int).toNat ≤ 281474976710656 then (some (strOfNums (List.replicate (wrap64 (8000 + bt248.1) : Int).toNat 0), bt248.2.1, bt248.2.2)) else (none)) else (none))) else (some (t237, t246, t247))) = some (r1, r2, r3) := H
  have A12 := Aside0.mk A120
  clear A120
  by_cases c13 : t245 = 0
  ·rw [if_pos c13] at H
   have c13b0 : (t245 == 0) = true := beq_iff_eq.mpr c13
   have c13b1 : (t245 != 0) = false := bne_eq_false_iff_eq.mpr c13
   clear c13
   replace H := Option.bind_eq_some_iff.mp H
   obtain ⟨⟨t248, t249, t250⟩, A140, H⟩ := H
   replace H : (if 0 ≤ (wrap64 (8000 + t248)) then (if (wrap64 (8000 + t248) : Int).toNat ≤ 281474976710656 then (some (strOfNums (List.replicate (wrap64 (8000 + t248) : Int).toNat 0), t249, t250)) else (none)) else (none)) = some (r1, r2, r3) := H
   have A14 := Aside0.mk A140
   clear A140
   obtain ⟨ji15, hji15⟩ : ∃ j_ : Int, (wrap64 (8000 + t248)) = j_ := ⟨_, rfl⟩
   replace H : (if 0 ≤ (ji15) then (if (ji15 : Int).toNat ≤ 281474976710656 then (some (strOfNums (List.replicate (ji15 : Int).toNat 0), t249, t250)) else (none)) else (none)) = some (r1, r2, r3) := by first | (rw [hji15] at H; exact H) | (simp only [hji15] at H ⊢; exact H)
   (try rw [hji15] at A2)
   (try rw [hji15] at A3)
   (try rw [hji15] at A4)
   (try rw [hji15] at A12)
   (try rw [hji15] at A14)
   have hji15w : (IntKind.i64.wrap (8000 + t248)) = ji15 := (i64_w _).trans hji15
   by_cases c16 : 0 ≤ (ji15)
   ·rw [if_pos c16] at H
    have c16b0 := eq_true c16
    have c16b1 : decide (0 ≤ (ji15)) = true := decide_eq_true c16
    clear c16
    by_cases c17 : (ji15 : Int).toNat ≤ 281474976710656
    ·rw [if_pos c17] at H
     have c17b0 := eq_true c17
     have c17b1 : decide ((ji15 : Int).toNat ≤ 281474976710656) = true := decide_eq_true c17
     clear c17
     obtain ⟨y251, hy251⟩ : ∃ y_ : List Int, y_ = (List.replicate (ji15 : Int).toNat 0) := ⟨_, rfl⟩
     replace H : (some (strOfNums y251, t249, t250)) = some (r1, r2, r3) := by first | (rw [hy251]; with_reducible exact H) | (have H2_ := (Option.bind_some _ _).symm.trans H; rw [hy251]; with_reducible exact H2_) | (have H2_ := (Option.bind_some _ _).symm.trans H; with_reducible exact H2_) | with_reducible exact H | (rw [hy251]; exact H) | exact H
     have Ny251 := Aside0.mk hy251
     clear hy251
     simp only [Option.some.injEq, Prod.mk.injEq] at H
     obtain ⟨rfl, rfl, rfl⟩ := H
     go_enter Tryd.func16, Tryd.ntmps16
     go_wp2_with (first | ((with_reducible refine gate_callee (f := 31) rfl ?_); refine goesL_ (some 7) rfl rfl Tryd.func31 (by kernel_rfl) rfl #[.pointer (some ⟨g, 0, none⟩)] rfl lnp ?_; (with_reducible refine (spec_l29Draw.calls k g s0_0 s0_1 s0_2 t232 t235 t236 w0 _ ?side1 ?side2 A2.out).mono ?_); (case side1 => exact st57_0 HI0.out); (case side2 => exact bl1 HB.out (IsS57.ge HI0.out)); rintro e w18 ⟨v233, rfl, ho0, hi, hb, hk⟩; refine ⟨_, rfl, ?_⟩; have n_ := (⟨am (Kd.R_lower ho0 (keep_size (w := w) (g := g) (row := none) (kb0 HK.out))), am (KeepBut.trans (kb0 HK.out) hk (.inl rfl)), am (hb), am (hi)⟩ : _ ∧ _ ∧ _ ∧ _); clear HK HB HI0; obtain ⟨HO234, HK, HB, HI0⟩ := n_; (try clear hb); (try clear hb2); (try clear hk); (try clear hi); (try clear ho0); obtain ⟨Ao19, co19, eo19⟩ := Kd.R_slice HO234.out; subst eo19) | ((with_reducible refine gate_callee (f := 30) rfl ?_); refine goesL_ (some 8) rfl rfl Tryd.func30 (by kernel_rfl) rfl #[.slice Ao19 t232.length co19] rfl lnp ?_; (with_reducible refine (spec_JournalText.calls k _ _ t232 t237 t238 _ ?side1 ?side2 A3.out).mono ?_); (case side1 => repeat (first | exact (Kd.R_reads' HO234.out).2.2 | (with_reducible refine Kd.C_alloc ?_ _) | (with_reducible refine Kd.C_drewN ?_ _) | (with_reducible refine Kd.C_drew ?_))); (case side2 => exact (Kd.R_reads' HO234.out).2.1); rintro e w20 ⟨rfl, hb⟩; refine ⟨_, rfl, ?_⟩; have n_ := (⟨am (Kd.R_below (rqR HO234.out) hb), am (IsS57.below (st57_0 HI0.out) hb), am (KeepBut.trans (kb0 HK.out) (KeepBut.of_below hb g none) (.inl rfl)), am (below_step (bl1 HB.out (IsS57.ge HI0.out)) hb)⟩ : _ ∧ _ ∧ _ ∧ _); clear HO234 HI0 HK HB; obtain ⟨HO234, HI0, HK, HB⟩ := n_; (try clear hb); (try clear hb2); (try clear hk); (try clear hi)) | ((with_reducible refine gate_callee (f := 18) rfl ?_); refine goesL_ (some 12) rfl rfl Tryd.func18 (by kernel_rfl) rfl #[.pointer (some ⟨g, 0, none⟩), .int .i64 3] rfl lnp ?_; (with_reducible refine (spec_l01Next.calls g s0_0 t235 t236 3 t239 t240 t241 w0 _ ?side1 ?side2 A4.out).mono ?_); (case side1 => exact st57_0 HI0.out); (case side2 => exact bl1 HB.out (IsS57.ge HI0.out)); rintro e w21 ⟨rfl, hi, hb, hk⟩; refine ⟨_, rfl, ?_⟩; have n_ := (⟨am (Kd.R_mono (Kd.R_keep (IsS57.apart (show IsS57 w0 _ g s0_0 t235 t236 from st57_0 HI0.out) (rqR HO234.out) (by decide)) hk (fun _ h => h.2)) (fun _ h => h.1)), am (KeepBut.trans (kb0 HK.out) hk (.inl rfl)), am (hb), am (hi)⟩ : _ ∧ _ ∧ _ ∧ _); clear HO234 HK HB HI0; obtain ⟨HO234, HK, HB, HI0⟩ := n_; (try clear hb); (try clear hb2); (try clear hk); (try clear hi)) | ((with_reducible refine gate_callee (f := 18) rfl ?_); refine goesL_ (some 18) rfl rfl Tryd.func18 (by kernel_rfl) rfl #[.pointer (some ⟨g, 0, none⟩), .int .i64 50] rfl lnp ?_; (with_reducible refine (spec_l01Next.calls g s0_0 t240 t241 50 t245 t246 t247 w0 _ ?side1 ?side2 A12.out).mono ?_); (case side1 => exact st57_0 HI0.out); (case side2 => exact bl1 HB.out (IsS57.ge HI0.out)); rintro e w22 ⟨rfl, hi, hb, hk⟩; refine ⟨_, rfl, ?_⟩; have n_ := (⟨am (Kd.R_mono (Kd.R_keep (IsS57.apart (show IsS57 w0 _ g s0_0 t240 t241 from st57_0 HI0.out) (rqR HO234.out) (by decide)) hk (fun _ h => h.2)) (fun _ h => h.1)), am (KeepBut.trans (kb0 HK.out) hk (.inl rfl)), am (hb), am (hi)⟩ : _ ∧ _ ∧ _ ∧ _); clear HO234 HK HB HI0; obtain ⟨HO234, HK, HB, HI0⟩ := n_; (try clear hb); (try clear hb2); (try clear hk); (try clear hi)) | ((with_reducible refine gate_callee (f := 18) rfl ?_); refine goesL_ (some 21) rfl rfl Tryd.func18 (by kernel_rfl) rfl #[.pointer (some ⟨g, 0, none⟩), .int .i64 2] rfl lnp ?_; (with_reducible refine (spec_l01Next.calls g s0_0 t246 t247 2 t248 t249 t250 w0 _ ?side1 ?side2 A14.out).mono ?_); (case side1 => exact st57_0 HI0.out); (case side2 => exact bl1 HB.out (IsS57.ge HI0.out)); rintro e w23 ⟨rfl, hi, hb, hk⟩; refine ⟨_, rfl, ?_⟩; have n_ := (⟨am (Kd.R_mono (Kd.R_keep (IsS57.apart (show IsS57 w0 _ g s0_0 t246 t247 from st57_0 HI0.out) (rqR HO234.out) (by decide)) hk (fun _ h => h.2)) (fun _ h => h.1)), am (KeepBut.trans (kb0 HK.out) hk (.inl rfl)), am (hb), am (hi)⟩ : _ ∧ _ ∧ _ ∧ _); clear HO234 HK HB HI0; obtain ⟨HO234, HK, HB, HI0⟩ := n_; (try clear hb); (try clear hb2); (try clear hk); (try clear hi)) | ((with_reducible refine gate_dst (N := 23) rfl ?_); refine Kd.R_make (Kd.int .u8) _ 5 rfl (N := 23) rfl 22 _ _ rfl ji15 rfl rfl Tryd.underlying22 (.int .u8 0) 1 info5 rfl (by decide) (by omega) 0 (ok := fun _ => True) (okp := fun _ => True) rfl (fun _ hk => hk) trivial (of_decide_eq_true (by first | (with_reducible assumption) | assumption)) (Nat.le_trans (Nat.mul_le_mul_right _ (of_decide_eq_true (by first | (with_reducible assumption) | assumption) : ji15.toNat ≤ 281474976710656)) (by omega)) (Below.refl _ _) (Nat.le_refl _) ?_; intro v252 w24 ho25 hb hg_ hnew_; clear hg_ hnew_; (first | rw [← Ny251.out] at ho25 | (simp only [Int.reduceToNat] at ho25; rw [← Ny251.out] at ho25)); have n_ := (⟨am (Kd.R_below (rqR HO234.out) hb), am (Kd.R_lower ho25 (keep_size (w := w) (g := g) (row := none) (kb0 HK.out))), am (IsS57.below (st57_0 HI0.out) hb), am (KeepBut.trans (kb0 HK.out) (KeepBut.of_below hb g none) (.inl rfl)), am (below_step (bl1 HB.out (IsS57.ge HI0.out)) hb)⟩ : _ ∧ _ ∧ _ ∧ _ ∧ _); clear HO234 HI0 HK HB; obtain ⟨HO234, HO253, HI0, HK, HB⟩ := n_; clear hb ho25; have hcv26 := own_string (P := Tryd.prog) Tryd.underlying22 Tryd.underlying5 Tryd.underlying9 (Kd.own_of_R HO253.out)))
     go_ret
     exact ⟨by first | rfl | (simp [errW_none, errW_some] <;> rfl) | (simp only [← hji15]; first | rfl | (simp [errW_none, errW_some] <;> rfl)) | (simp [*, errW_none, errW_some] <;> rfl), st57_0 HI0.out, bl1 HB.out (IsS57.ge HI0.out), kb0 HK.out⟩
    ·rw [if_neg c17] at H
     exact absurd H (by simp)
   ·rw [if_neg c16] at H
    exact absurd H (by simp)
  ·rw [if_neg c13] at H
   have c13b0 : (t245 == 0) = false := beq_eq_false_iff_ne.mpr c13
   have c13b1 : (t245 != 0) = true := bne_iff_ne.mpr c13
   simp only [Option.some.injEq, Prod.mk.injEq] at H
   obtain ⟨rfl, rfl, rfl⟩ := H
   go_enter Tryd.func16, Tryd.ntmps16
   go_wp2_with (first | ((with_reducible refine gate_callee (f := 31) rfl ?_); refine goesL_ (some 7) rfl rfl Tryd.func31 (by kernel_rfl) rfl #[.pointer (some ⟨g, 0, none⟩)] rfl lnp ?_; (with_reducible refine (spec_l29Draw.calls k g s0_0 s0_1 s0_2 t232 t235 t236 w0 _ ?side1 ?side2 A2.out).mono ?_); (case side1 => exact st57_0 HI0.out); (case side2 => exact bl1 HB.out (IsS57.ge HI0.out)); rintro e w27 ⟨v233, rfl, ho0, hi, hb, hk⟩; refine ⟨_, rfl, ?_⟩; have n_ := (⟨am (Kd.R_lower ho0 (keep_size (w := w) (g := g) (row := none) (kb0 HK.out))), am (KeepBut.trans (kb0 HK.out) hk (.inl rfl)), am (hb), am (hi)⟩ : _ ∧ _ ∧ _ ∧ _); clear HK HB HI0; obtain ⟨HO234, HK, HB, HI0⟩ := n_; (try clear hb); (try clear hb2); (try clear hk); (try clear hi); (try clear ho0); obtain ⟨Ao28, co28, eo28⟩ := Kd.R_slice HO234.out; subst eo28) | ((with_reducible refine gate_callee (f := 30) rfl ?_); refine goesL_ (some 8) rfl rfl Tryd.func30 (by kernel_rfl) rfl #[.slice Ao28 t232.length co28] rfl lnp ?_; (with_reducible refine (spec_JournalText.calls k _ _ t232 t237 t238 _ ?side1 ?side2 A3.out).mono ?_); (case side1 => repeat (first | exact (Kd.R_reads' HO234.out).2.2 | (with_reducible refine Kd.C_alloc ?_ _) | (with_reducible refine Kd.C_drewN ?_ _) | (with_reducible refine Kd.C_drew ?_))); (case side2 => exact (Kd.R_reads' HO234.out).2.1); rintro e w29 ⟨rfl, hb⟩; refine ⟨_, rfl, ?_⟩; have n_ := (⟨am (Kd.R_below (rqR HO234.out) hb), am (IsS57.below (st57_0 HI0.out) hb), am (KeepBut.trans (kb0 HK.out) (KeepBut.of_below hb g none) (.inl rfl)), am (below_step (bl1 HB.out (IsS57.ge HI0.out)) hb)⟩ : _ ∧ _ ∧ _ ∧ _); clear HO234 HI0 HK HB; obtain ⟨HO234, HI0, HK, HB⟩ := n_; (try clear hb); (try clear hb2); (try clear hk); (try clear hi)) | ((with_reducible refine gate_callee (f := 18) rfl ?_); refine goesL_ (some 12) rfl rfl Tryd.func18 (by kernel_rfl) rfl #[.pointer (some ⟨g, 0, none⟩), .int .i64 3] rfl lnp ?_; (with_reducible refine (spec_l01Next.calls g s0_0 t235 t236 3 t239 t240 t241 w0 _ ?side1 ?side2 A4.out).mono ?_); (case side1 => exact st57_0 HI0.out); (case side2 => exact bl1 HB.out (IsS57.ge HI0.out)); rintro e w30 ⟨rfl, hi, hb, hk⟩; refine ⟨_, rfl, ?_⟩; have n_ := (⟨am (Kd.R_mono (Kd.R_keep (IsS57.apart (show IsS57 w0 _ g s0_0 t235 t236 from st57_0 HI0.out) (rqR HO234.out) (by decide)) hk (fun _ h => h.2)) (fun _ h => h.1)), am (KeepBut.trans (kb0 HK.out) hk (.inl rfl)), am (hb), am (hi)⟩ : _ ∧ _ ∧ _ ∧ _); clear HO234 HK HB HI0; obtain ⟨HO234, HK, HB, HI0⟩ := n_; (try clear hb); (try clear hb2); (try clear hk); (try clear hi)) | ((with_reducible refine gate_callee (f := 18) rfl ?_); refine goesL_ (some 18) rfl rfl Tryd.func18 (by kernel_rfl) rfl #[.pointer (some ⟨g, 0, none⟩), .int .i64 50] rfl lnp ?_; (with_reducible refine (spec_l01Next.calls g s0_0 t240 t241 50 t245 t246 t247 w0 _ ?side1 ?side2 A12.out).mono ?_); (case side1 => exact st57_0 HI0.out); (case side2 => exact bl1 HB.out (IsS57.ge HI0.out)); rintro e w31 ⟨rfl, hi, hb, hk⟩; refine ⟨_, rfl, ?_⟩; have n_ := (⟨am (Kd.R_mono (Kd.R_keep (IsS57.apart (show IsS57 w0 _ g s0_0 t240 t241 from st57_0 HI0.out) (rqR HO234.out) (by decide)) hk (fun _ h => h.2)) (fun _ h => h.1)), am (KeepBut.trans (kb0 HK.out) hk (.inl rfl)), am (hb), am (hi)⟩ : _ ∧ _ ∧ _ ∧ _); clear HO234 HK HB HI0; obtain ⟨HO234, HK, HB, HI0⟩ := n_; (try clear hb); (try clear hb2); (try clear hk); (try clear hi)))
   go_ret
   exact ⟨er, st57_0 HI0.out, bl1 HB.out (IsS57.ge HI0.out), kb0 HK.out⟩

/-! ### spec_DrawResumeJob: function 5 -/
def spec_DrawResumeJob.f (k : Nat) (l0 : List Int) : Option (ByteArray × Int) := (spec_l01From.f k l0).bind fun bt254 => ((spec_l29DrawText.f k bt254.1 bt254.2.1 bt254.2.2).bind fun bt258 => ((spec_l01Next.f bt254.1 bt258.2.1 bt258.2.2 400).bind fun bt261 => ((spec_l01Next.f bt254.1 bt261.2.1 bt261.2.2 400).bind fun bt264 => ((spec_l01Pick.f bt254.1 bt264.2.1 bt264.2.2 (([(-1), 0, 1000000, 1000001] : List Int))).bind fun bt270 => ((spec_l01Pick.f bt254.1 bt270.2.1 bt270.2.2 (([bt261.1, bt264.1, bt270.1] : List Int))).bind fun bt276 => (some (bt258.1, bt276.1)))))))
theorem spec_DrawResumeJob.mono : ∀ a0 k, LeO (spec_DrawResumeJob.f k a0) (spec_DrawResumeJob.f (k + 1) a0) := by
 intro a0 k
 unfold spec_DrawResumeJob.f
 repeat' first | (with_reducible first | exact spec_l01From.mono _ _ | exact spec_l29DrawText.mono _ _ _ _ | exact LeO.refl _ | exact LeO.none _ | refine LeO.ite ?_ ?_ | refine LeO.bind ?_ (fun _ => ?_)) | exact spec_l01From.mono _ _ | exact spec_l29DrawText.mono _ _ _ _ | exact LeO.none _ | refine LeO.ite ?_ ?_ | refine LeO.bind ?_ (fun _ => ?_)
theorem spec_DrawResumeJob.calls (k : Nat) (A0 : Option Addr) (c0 : Nat) (l0 : List Int) (r1 : ByteArray) (r2 : Int) (w : World) (hr0 : Kd.C (Kd.int .u8) w A0 l0.length l0) (hc0 : l0.length ≤ c0) (h : spec_DrawResumeJob.f k l0 = some (r1, r2)) :
  Calls Tryd.prog 5 #[.slice A0 l0.length c0] w fun e w' => e = .returned (.tuple #[.string r1, .int .i64 r2]) ∧ Below w.heap.size w w' := by
 have HR0 := Aside0.mk hr0
 have HC0 := Aside0.mk hc0
 clear hr0 hc0
 have HB := am (Below.refl w.heap.size w)
 have H : ((spec_l01From.f k l0).bind fun bt254 => ((spec_l29DrawText.f k bt254.1 bt254.2.1 bt254.2.2).bind fun bt258 => ((spec_l01Next.f bt254.1 bt258.2.1 bt258.2.2 400).bind fun bt261 => ((spec_l01Next.f bt254.1 bt261.2.1 bt261.2.2 400).bind fun bt264 => ((spec_l01Pick.f bt254.1 bt264.2.1 bt264.2.2 (([(-1), 0, 1000000, 1000001] : List Int))).bind fun bt270 => ((spec_l01Pick.f bt254.1 bt270.2.1 bt270.2.2 (([bt261.1, bt264.1, bt270.1] : List Int))).bind fun bt276 => (some (bt258.1, bt276.1)))))))) = some (r1, r2) := h
 clear h
 replace H := Option.bind_eq_some_iff.mp H
 obtain ⟨⟨t254, t255, t256⟩, A20, H⟩ := H
 replace H : ((spec_l29DrawText.f k t254 t255 t256).bind fun bt258 => ((spec_l01Next.f t254 bt258.2.1 bt258.2.2 400).bind fun bt261 => ((spec_l01Next.f t254 bt261.2.1 bt261.2.2 400).bind fun bt264 => ((spec_l01Pick.f t254 bt264.2.1 bt264.2.2 (([(-1), 0, 1000000, 1000001] : List Int))).bind fun bt270 => ((spec_l01Pick.f t254 bt270.2.1 bt270.2.2 (([bt261.1, bt264.1, bt270.1] : List Int))).bind fun bt276 => (some (bt258.1, bt276.1))))))) = some (r1, r2) := H
 have A2 := Aside0.mk A20
 clear A20
 replace H := Option.bind_eq_some_iff.mp H
 obtain ⟨⟨t258, t259, t260⟩, A30, H⟩ := H
 replace H : ((spec_l01Next.f t254 t259 t260 400).bind fun bt261 => ((spec_l01Next.f t254 bt261.2.1 bt261.2.2 400).bind fun bt264 => ((spec_l01Pick.f t254 bt264.2.1 bt264.2.2 (([(-1), 0, 1000000, 1000001] : List Int))).bind fun bt270 => ((spec_l01Pick.f t254 bt270.2.1 bt270.2.2 (([bt261.1, bt264.1, bt270.1] : List Int))).bind fun bt276 => (some (t258, bt276.1)))))) = some (r1, r2) := H
 have A3 := Aside0.mk A30
 clear A30
 replace H := Option.bind_eq_some_iff.mp H
 obtain ⟨⟨t261, t262, t263⟩, A40, H⟩ := H
 replace H : ((spec_l01Next.f t254 t262 t263 400).bind fun bt264 => ((spec_l01Pick.f t254 bt264.2.1 bt264.2.2 (([(-1), 0, 1000000, 1000001] : List Int))).bind fun bt270 => ((spec_l01Pick.f t254 bt270.2.1 bt270.2.2 (([t261, bt264.1, bt270.1] : List Int))).bind fun bt276 => (some (t258, bt276.1))))) = some (r1, r2) := H
 have A4 := Aside0.mk A40
 clear A40
 replace H := Option.bind_eq_some_iff.mp H
 obtain ⟨⟨t264, t265, t266⟩, A50, H⟩ := H
 replace H : ((spec_l01Pick.f t254 t265 t266 (([(-1), 0, 1000000, 1000001] : List Int))).bind fun bt270 => ((spec_l01Pick.f t254 bt270.2.1 bt270.2.2 (([t261, t264, bt270.1] : List Int))).bind fun bt276 => (some (t258, bt276.1)))) = some (r1, r2) := H
 have A5 := Aside0.mk A50
 clear A50
 obtain ⟨y267, hy267⟩ : ∃ y_ : List Int, y_ = (([(-1), 0, 1000000, 1000001] : List Int)) := ⟨_, rfl⟩
 replace H : ((spec_l01Pick.f t254 t265 t266 y267).bind fun bt270 => ((spec_l01Pick.f t254 bt270.2.1 bt270.2.2 (([t261, t264, bt270.1] : List Int))).bind fun bt276 => (some (t258, bt276.1)))) = some (r1, r2) := by first | (rw [hy267]; with_reducible exact H) | (have H2_ := (Option.bind_some _ _).symm.trans H; rw [hy267]; with_reducible exact H2_) | (have H2_ := (Option.bind_some _ _).symm.trans H; with_reducible exact H2_) | with_reducible exact H | (rw [hy267]; exact H) | exact H
 have Ny267 := Aside0.mk hy267
 clear hy267
 replace H := Option.bind_eq_some_iff.mp H
 obtain ⟨⟨t270, t271, t272⟩, A60, H⟩ := H
 replace H : ((spec_l01Pick.f t254 t271 t272 (([t261, t264, t270] : List Int))).bind fun bt276 => (some (t258, bt276.1))) = some (r1, r2) := H
 have A6 := Aside0.mk A60
 clear A60
 obtain ⟨y273, hy273⟩ : ∃ y_ : List Int, y_ = (([t261, t264, t270] : List Int)) := ⟨_, rfl⟩
 replace H : ((spec_l01Pick.f t254 t271 t272 y273).bind fun bt276 => (some (t258, bt276.1))) = some (r1, r2) := by first | (rw [hy273]; with_reducible exact H) | (have H2_ := (Option.bind_some _ _).symm.trans H; rw [hy273]; with_reducible exact H2_) | (have H2_ := (Option.bind_some _ _).symm.trans H; with_reducible exact H2_) | with_reducible exact H | (rw [hy273]; exact H) | exact H
 have Ny273 := Aside0.mk hy273
 clear hy273
 replace H := Option.bind_eq_some_iff.mp H
 obtain ⟨⟨t276, t277, t278⟩, A70, H⟩ := H
 replace H : (some (t258, t276)) = some (r1, r2) := H
 have A7 := Aside0.mk A70
 clear A70
 simp only [Option.some.injEq, Prod.mk.injEq] at H
 obtain ⟨rfl, rfl⟩ := H
 go_enter Tryd.func5, Tryd.ntmps5
 go_wp2_with (first | ((with_reducible refine gate_callee (f := 15) rfl ?_); refine goesL_ (some 6) rfl rfl Tryd.func15 (by kernel_rfl) rfl #[.slice A0 l0.length c0] rfl lnp ?_; (with_reducible refine (spec_l01From.calls k _ _ l0 t254 t255 t256 w _ ?side1 ?side2 ?side3 A2.out).mono ?_); (case side1 => exact bl0 HB.out); (case side2 => exact HR0.out); (case side3 => exact HC0.out); rintro e w8 ⟨g257, rfl, hi, hb, hb2⟩; refine ⟨_, rfl, ?_⟩; have n_ := (⟨am (hb), am (hi)⟩ : _ ∧ _); clear HB; obtain ⟨HB, HI257⟩ := n_; (try clear hb); (try clear hb2); (try clear hk); (try clear hi)) | ((with_reducible refine gate_callee (f := 16) rfl ?_); refine goesL_ (some 8) rfl rfl Tryd.func16 (by kernel_rfl) rfl #[.pointer (some ⟨g257, 0, none⟩)] rfl lnp ?_; (with_reducible refine (spec_l29DrawText.calls k g257 t254 t255 t256 t258 t259 t260 w _ ?side1 ?side2 A3.out).mono ?_); (case side1 => exact st57_0 HI257.out); (case side2 => exact bl1 HB.out (IsS57.ge HI257.out)); rintro e w9 ⟨rfl, hi, hb, hk⟩; refine ⟨_, rfl, ?_⟩; have n_ := (⟨am (hb), am (hi)⟩ : _ ∧ _); clear HB HI257; obtain ⟨HB, HI257⟩ := n_; (try clear hb); (try clear hb2); (try clear hk); (try clear hi)) | ((with_reducible refine gate_callee (f := 18) rfl ?_); refine goesL_ (some 11) rfl rfl Tryd.func18 (by kernel_rfl) rfl #[.pointer (some ⟨g257, 0, none⟩), .int .i64 400] rfl lnp ?_; (with_reducible refine (spec_l01Next.calls g257 t254 t259 t260 400 t261 t262 t263 w _ ?side1 ?side2 A4.out).mono ?_); (case side1 => exact st57_0 HI257.out); (case side2 => exact bl1 HB.out (IsS57.ge HI257.out)); rintro e w10 ⟨rfl, hi, hb, hk⟩; refine ⟨_, rfl, ?_⟩; have n_ := (⟨am (hb), am (hi)⟩ : _ ∧ _); clear HB HI257; obtain ⟨HB, HI257⟩ := n_; (try clear hb); (try clear hb2); (try clear hk); (try clear hi)) | ((with_reducible refine gate_callee (f := 18) rfl ?_); refine goesL_ (some 13) rfl rfl Tryd.func18 (by kernel_rfl) rfl #[.pointer (some ⟨g257, 0, none⟩), .int .i64 400] rfl lnp ?_; (with_reducible refine (spec_l01Next.calls g257 t254 t262 t263 400 t264 t265 t266 w _ ?side1 ?side2 A5.out).mono ?_); (case side1 => exact st57_0 HI257.out); (case side2 => exact bl1 HB.out (IsS57.ge HI257.out)); rintro e w11 ⟨rfl, hi, hb, hk⟩; refine ⟨_, rfl, ?_⟩; have n_ := (⟨am (hb), am (hi)⟩ : _ ∧ _); clear HB HI257; obtain ⟨HB, HI257⟩ := n_; (try clear hb); (try clear hb2); (try clear hk); (try clear hi)) | ((with_reducible refine gate_dst (N := 15) rfl ?_); refine Kd.R_lit (Kd.int .i64) _ 2 ?hg (N := 15) ?hd (xs := ([(-1), 0, 1000000, 1000001] : List Int)) (inner := [.int .i64 (-1), .int .i64 0, .int .i64 1000000, .int .i64 1000001]) (ok := fun _ => True) (okp := fun _ => True) ?hr ?hp (fun _ hk => hk) trivial (Below.refl _ _) (Nat.le_refl _) (by simp) ?_; (case hd => rfl); (case hg => rfl); (case hr => first | (go_simp; done) | (go_simp; rfl)); (case hp => exact (Reps.one (show Kd.M (Kd.int .i64) _ _ _ (-1) [.int .i64 (-1)] from rfl) (Reps.one (show Kd.M (Kd.int .i64) _ _ _ 0 [.int .i64 0] from rfl) (Reps.one (show Kd.M (Kd.int .i64) _ _ _ 1000000 [.int .i64 1000000] from rfl) (Reps.one (show Kd.M (Kd.int .i64) _ _ _ 1000001 [.int .i64 1000001] from rfl) (Reps.none _ _)))))); intro v268 w12 ho13 hb hg_ hnew_; clear hg_ hnew_; (first | rw [← Ny267.out] at ho13 | (simp only [Int.reduceToNat] at ho13; rw [← Ny267.out] at ho13)); have n_ := (⟨am (Kd.R_lower ho13 (below_size (bl1 HB.out (IsS57.ge HI257.out)))), am (IsS57.below (st57_0 HI257.out) hb), am (below_step (bl1 HB.out (IsS57.ge HI257.out)) hb)⟩ : _ ∧ _ ∧ _); clear HI257 HB; obtain ⟨HO269, HI257, HB⟩ := n_; clear hb ho13; obtain ⟨Ao14, co14, eo14⟩ := Kd.R_slice HO269.out; subst eo14) | ((with_reducible refine gate_callee (f := 17) rfl ?_); refine goesL_ (some 16) rfl rfl Tryd.func17 (by kernel_rfl) rfl #[.pointer (some ⟨g257, 0, none⟩), .slice Ao14 y267.length co14] rfl lnp ?_; (with_reducible refine (spec_l01Pick.calls g257 t254 t265 t266 _ _ y267 t270 t271 t272 w _ ?side1 ?side2 ?side3 ?side4 ?side5 A6.out).mono ?_); (case side1 => exact st57_0 HI257.out); (case side2 => exact bl1 HB.out (IsS57.ge HI257.out)); (case side3 => repeat (first | exact (Kd.R_reads' HO269.out).2.2 | (with_reducible refine Kd.C_alloc ?_ _) | (with_reducible refine Kd.C_drewN ?_ _) | (with_reducible refine Kd.C_drew ?_))); (case side4 => exact (Kd.R_reads' HO269.out).2.1); (case side5 => exact far_slice (IsS57.own_ne HI257.out HO269.out (by decide))); rintro e w15 ⟨rfl, hi, hb, hk⟩; refine ⟨_, rfl, ?_⟩; have n_ := (⟨am (Kd.R_mono (Kd.R_keep (IsS57.apart (show IsS57 w _ g257 t254 t265 t266 from st57_0 HI257.out) (rqR HO269.out) (by decide)) hk (fun _ h => h.2)) (fun _ h => h.1)), am (hb), am (hi)⟩ : _ ∧ _ ∧ _); clear HO269 HB HI257; obtain ⟨HO269, HB, HI257⟩ := n_; (try clear hb); (try clear hb2); (try clear hk); (try clear hi)) | ((with_reducible refine gate_dst (N := 17) rfl ?_); refine Kd.R_lit (Kd.int .i64) _ 2 ?hg (N := 17) ?hd (xs := ([t261, t264, t270] : List Int)) (inner := [.int .i64 t261, .int .i64 t264, .int .i64 t270]) (ok := fun _ => True) (okp := fun _ => True) ?hr ?hp (fun _ hk => hk) trivial (Below.refl _ _) (Nat.le_refl _) (by simp) ?_; (case hd => rfl); (case hg => rfl); (case hr => first | (go_simp; done) | (go_simp; rfl)); (case hp => exact (Reps.one (show Kd.M (Kd.int .i64) _ _ _ t261 [.int .i64 t261] from rfl) (Reps.one (show Kd.M (Kd.int .i64) _ _ _ t264 [.int .i64 t264] from rfl) (Reps.one (show Kd.M (Kd.int .i64) _ _ _ t270 [.int .i64 t270] from rfl) (Reps.none _ _))))); intro v274 w16 ho17 hb hg_ hnew_; clear hg_ hnew_; (first | rw [← Ny273.out] at ho17 | (simp only [Int.reduceToNat] at ho17; rw [← Ny273.out] at ho17)); have n_ := (⟨am (Kd.R_elder' (rqR HO269.out) (Kd.R_base ho17) hb), am (Kd.R_lower (Kd.R_new' ho17 (Kd.R_lt (rqR HO269.out))) (below_size (bl1 HB.out (IsS57.ge HI257.out)))), am (IsS57.below (st57_0 HI257.out) hb), am (below_step (bl1 HB.out (IsS57.ge HI257.out)) hb)⟩ : _ ∧ _ ∧ _ ∧ _); clear HO269 HI257 HB; obtain ⟨HO269, HO275, HI257, HB⟩ := n_; clear hb ho17; obtain ⟨Ao18, co18, eo18⟩ := Kd.R_slice HO275.out; subst eo18) | ((with_reducible refine gate_callee (f := 17) rfl ?_); refine goesL_ (some 18) rfl rfl Tryd.func17 (by kernel_rfl) rfl #[.pointer (some ⟨g257, 0, none⟩), .slice Ao18 y273.length co18] rfl lnp ?_; (with_reducible refine (spec_l01Pick.calls g257 t254 t271 t272 _ _ y273 t276 t277 t278 w _ ?side1 ?side2 ?side3 ?side4 ?side5 A7.out).mono ?_); (case side1 => exact st57_0 HI257.out); (case side2 => exact bl1 HB.out (IsS57.ge HI257.out)); (case side3 => repeat (first | exact (Kd.R_reads' HO275.out).2.2 | (with_reducible refine Kd.C_alloc ?_ _) | (with_reducible refine Kd.C_drewN ?_ _) | (with_reducible refine Kd.C_drew ?_))); (case side4 => exact (Kd.R_reads' HO275.out).2.1); (case side5 => exact far_slice (IsS57.own_ne HI257.out HO275.out (by decide))); rintro e w19 ⟨rfl, hi, hb, hk⟩; refine ⟨_, rfl, ?_⟩; have n_ := (⟨am (Kd.R_mono (Kd.R_keep (IsS57.apart (show IsS57 w _ g257 t254 t271 t272 from st57_0 HI257.out) (rqR HO269.out) (by decide)) hk (fun _ h => h.2)) (fun _ h => h.1)), am (Kd.R_mono (Kd.R_keep (IsS57.apart (show IsS57 w _ g257 t254 t271 t272 from st57_0 HI257.out) (rqR HO275.out) (by decide)) hk (fun _ h => h.2)) (fun _ h => h.1)), am (hb), am (hi)⟩ : _ ∧ _ ∧ _ ∧ _); clear HO269 HO275 HB HI257; obtain ⟨HO269, HO275, HB, HI257⟩ := n_; (try clear hb); (try clear hb2); (try clear hk); (try clear hi)))
 go_ret2
 exact ⟨er, bl1 HB.out (IsS57.ge HI257.out)⟩

/-! ### impl_inRange: function 28 -/
def impl_inRange.f (a0 : Int) (a1 : Int) (a2 : Int) : Option (Bool) := if a1 ≤ a0 then (some (decide (a0 ≤ a2))) else (some false)
theorem impl_inRange.calls (a0 : Int) (a1 : Int) (a2 : Int) (r : Bool) (w : World) (h : impl_inRange.f a0 a1 a2 = some r) :
  Calls Tryd.prog 28 #[.int .i64 a0, .int .i64 a1, .int .i64 a2] w fun e w' => e = .returned (.bool r) ∧ Drawn0 w w' := by
 have H : (if a1 ≤ a0 then (some (decide (a0 ≤ a2))) else (some false)) = some r := h
 clear h
 by_cases c4 : a1 ≤ a0
 ·rw [if_pos c4] at H
  have c4b0 : decide (a1 ≤ a0) = true := decide_eq_true c4
  clear c4
  obtain rfl := Option.some.inj H
  go_enter Tryd.func28, Tryd.ntmps28
  go_wp2
  go_ret
  exact ⟨by first | rfl | (simp; done) | (simp [*]; done), by repeat (first | exact Drawn0.refl _ | apply Drawn0.step)⟩
 ·rw [if_neg c4] at H
  have c4b0 : decide (a1 ≤ a0) = false := decide_eq_false c4
  clear c4
  obtain rfl := Option.some.inj H
  go_enter Tryd.func28, Tryd.ntmps28
  go_wp2
  go_ret
  exact ⟨by first | rfl | (simp; done) | (simp [*]; done), by repeat (first | exact Drawn0.refl _ | apply Drawn0.step)⟩

/-! ### impl_isRun: function 19 -/
def impl_isRun.f (a0 : Int) : Option (Bool) := (impl_inRange.f a0 0 1000000).bind fun t279 => (some t279)
theorem impl_isRun.calls (a0 : Int) (r : Bool) (w : World) (h : impl_isRun.f a0 = some r) :
  Calls Tryd.prog 19 #[.int .i64 a0] w fun e w' => e = .returned (.bool r) ∧ Drawn0 w w' := by
 have H : ((impl_inRange.f a0 0 1000000).bind fun t279 => (some t279)) = some r := h
 clear h
 replace H := Option.bind_eq_some_iff.mp H
 obtain ⟨t279, A20, H⟩ := H
 replace H : (some t279) = some r := H
 have A2 := Aside0.mk A20
 clear A20
 obtain rfl := Option.some.inj H
 go_enter Tryd.func19, Tryd.ntmps19
 go_wp2_with (first | ((with_reducible refine gate_callee (f := 28) rfl ?_); refine goesL_ (some 4) rfl rfl Tryd.func28 (by kernel_rfl) rfl #[.int .i64 a0, .int .i64 0, .int .i64 1000000] rfl lnp ?_; (with_reducible refine (impl_inRange.calls a0 0 1000000 t279 _ A2.out).mono ?_); rintro e w' ⟨rfl, ⟨nd, rfl⟩⟩; refine ⟨_, rfl, ?_⟩))
 go_ret
 exact ⟨by first | rfl | (simp; done) | (simp [*]; done), by repeat (first | exact Drawn0.refl _ | apply Drawn0.step)⟩

end Go.Proofs.YthfmhfgckhkgjaaDoor.PFnResumed
