-- Laid by wip/mk/mk.py out of the translation. Not trusted: Lean checks it.
import Derived.Test.YthfmhfgckhkgjaaDoorPFnResumedx0
import Derived.Test.YthfmhfgckhkgjaaDoorPFnResumedx10
namespace Go.Proofs.YthfmhfgckhkgjaaDoor.PFnResumed
open Go.RowKit Go.Proofs.YthfmhfgckhkgjaaDoorW.PrintWords Go.Proofs.YthfmhfgckhkgjaaDoorW.PrintLast Go.Proofs.YthfmhfgckhkgjaaDoorW.PrintMore
attribute [local go_sem] max2_int min2_int max_two min_two max_three min_three max_four min_four   -- for this text's walks alone
set_option linter.unusedVariables false
set_option linter.unusedSimpArgs false

/-! ### impl_entryLine: function 35 -/
def impl_entryLine.f (a0_0 : Int) (a0_1 : Int) (a1 : Int) : Option (ByteArray) := (impl_decimal.f a0_0).bind fun t285 => (if t285.size + 1 ≤ 9223372036854775807 then ((impl_decimal.f a0_1).bind fun t286 => (if (t285 ++ (⟨#[32]⟩ : ByteArray)).size + t286.size ≤ 9223372036854775807 then (if ((t285 ++ (⟨#[32]⟩ : ByteArray)) ++ t286).size + 1 ≤ 9223372036854775807 then ((impl_decimal.f (Int.tmod (wrap64 ((wrap64 ((wrap64 (7 * a0_0)) + (wrap64 (3 * a0_1)))) + (wrap64 (11 * a1)))) 9973)).bind fun t287 => (if (((t285 ++ (⟨#[32]⟩ : ByteArray)) ++ t286) ++ (⟨#[32]⟩ : ByteArray)).size + t287.size ≤ 9223372036854775807 then (some ((((t285 ++ (⟨#[32]⟩ : ByteArray)) ++ t286) ++ (⟨#[32]⟩ : ByteArray)) ++ t287)) else (none))) else (none)) else (none))) else (none))
def impl_entryLine.T2 : Bool × List (List Nat × List Nat) := (true, [([], []), ([0], [0]), ([1], [1]), ([2], [2]), ([], []), ([4], [4]), ([5, 2], [5]), ([3, 6], [3, 6]), ([7], [7]), ([], []), ([9, 6], [9]), ([8, 10], [8, 10]), ([11, 10, 0, 1, 2, 3, 4, 5, 6, 7, 8, 9, 10, 11], [11])])
def impl_entryLine.B2 : List Nat := [0, 1, 3, 7, 0, 16, 55, 127, 255, 0, 631, 2047, 4095]
theorem impl_entryLine.tab2 : rtab .any (opsOf Tryd.f35 2) = impl_entryLine.T2 := by kernel_rfl
theorem impl_entryLine.bits2 : waitsOk impl_entryLine.T2.2 impl_entryLine.B2 = true := by kernel_rfl
set_option maxHeartbeats 8000000 in
set_option maxRecDepth 100000 in
theorem impl_entryLine.calls (a0_0 : Int) (a0_1 : Int) (a1 : Int) (r : ByteArray) (w : World) (h : impl_entryLine.f a0_0 a0_1 a1 = some r) (hG : Gl w) :
  Calls Tryd.prog 35 #[.agg #[.int .i64 a0_0, .int .i64 a0_1], .int .i64 a1] w fun e w' => e = .returned (.string r) ∧ Below w.heap.size w w' := by
 have HG := Aside0.mk hG
 clear hG
 have hu31 := Tryd.underlying31
 have HB := am (Below.refl w.heap.size w)
 have H : ((impl_decimal.f a0_0).bind fun t285 => (if t285.size + 1 ≤ 9223372036854775807 then ((impl_decimal.f a0_1).bind fun t286 => (if (t285 ++ (⟨#[32]⟩ : ByteArray)).size + t286.size ≤ 9223372036854775807 then (if ((t285 ++ (⟨#[32]⟩ : ByteArray)) ++ t286).size + 1 ≤ 9223372036854775807 then ((impl_decimal.f (Int.tmod (wrap64 ((wrap64 ((wrap64 (7 * a0_0)) + (wrap64 (3 * a0_1)))) + (wrap64 (11 * a1)))) 9973)).bind fun t287 => (if (((t285 ++ (⟨#[32]⟩ : ByteArray)) ++ t286) ++ (⟨#[32]⟩ : ByteArray)).size + t287.size ≤ 9223372036854775807 then (some ((((t285 ++ (⟨#[32]⟩ : ByteArray)) ++ t286) ++ (⟨#[32]⟩ : ByteArray)) ++ t287)) else (none))) else (none)) else (none))) else (none))) = some r := h
 clear h
 replace H := Option.bind_eq_some_iff.mp H
 obtain ⟨t285, A30, H⟩ := H
 replace H : (if t285.size + 1 ≤ 9223372036854775807 then ((impl_decimal.f a0_1).bind fun t286 => (if (t285 ++ (⟨#[32]⟩ : ByteArray)).size + t286.size ≤ 9223372036854775807 then (if ((t285 ++ (⟨#[32]⟩ : ByteArray)) ++ t286).size + 1 ≤ 9223372036854775807 then ((impl_decimal.f (Int.tmod (wrap64 ((wrap64 ((wrap64 (7 * a0_0)) + (wrap64 (3 * a0_1)))) + (wrap64 (11 * a1)))) 9973)).bind fun t287 => (if (((t285 ++ (⟨#[32]⟩ : ByteArray)) ++ t286) ++ (⟨#[32]⟩ : ByteArray)).size + t287.size ≤ 9223372036854775807 then (some ((((t285 ++ (⟨#[32]⟩ : ByteArray)) ++ t286) ++ (⟨#[32]⟩ : ByteArray)) ++ t287)) else (none))) else (none)) else (none))) else (none)) = some r := H
 have A3 := Aside0.mk A30
 clear A30
 by_cases c4 : t285.size + 1 ≤ 9223372036854775807
 ·rw [if_pos c4] at H
  have c4b0 := eq_true c4
  have c4b1 : decide (t285.size + 1 ≤ 9223372036854775807) = true := decide_eq_true c4
  try have c4b2 : (9223372036854775807 < t285.size + 1) = False := eq_false (Nat.not_lt.2 c4)
  replace H := Option.bind_eq_some_iff.mp H
  obtain ⟨t286, A50, H⟩ := H
  replace H : (if (t285 ++ (⟨#[32]⟩ : ByteArray)).size + t286.size ≤ 9223372036854775807 then (if ((t285 ++ (⟨#[32]⟩ : ByteArray)) ++ t286).size + 1 ≤ 9223372036854775807 then ((impl_decimal.f (Int.tmod (wrap64 ((wrap64 ((wrap64 (7 * a0_0)) + (wrap64 (3 * a0_1)))) + (wrap64 (11 * a1)))) 9973)).bind fun t287 => (if (((t285 ++ (⟨#[32]⟩ : ByteArray)) ++ t286) ++ (⟨#[32]⟩ : ByteArray)).size + t287.size ≤ 9223372036854775807 then (some ((((t285 ++ (⟨#[32]⟩ : ByteArray)) ++ t286) ++ (⟨#[32]⟩ : ByteArray)) ++ t287)) else (none))) else (none)) else (none)) = some r := H
  have A5 := Aside0.mk A50
  clear A50
  by_cases c6 : (t285 ++ (⟨#[32]⟩ : ByteArray)).size + t286.size ≤ 9223372036854775807
  ·rw [if_pos c6] at H
   have c6b0 := eq_true c6
   have c6b1 : decide ((t285 ++ (⟨#[32]⟩ : ByteArray)).size + t286.size ≤ 9223372036854775807) = true := decide_eq_true c6
   try have c6b2 : (9223372036854775807 < (t285 ++ (⟨#[32]⟩ : ByteArray)).size + t286.size) = False := eq_false (Nat.not_lt.2 c6)
   have c6b3 := c6b2
   (try simp only [ByteArray.size_append, show ByteArray.size (⟨#[32]⟩ : ByteArray) = 1 from rfl] at c6b3)
   by_cases c7 : ((t285 ++ (⟨#[32]⟩ : ByteArray)) ++ t286).size + 1 ≤ 9223372036854775807
   ·rw [if_pos c7] at H
    have c7b0 := eq_true c7
    have c7b1 : decide (((t285 ++ (⟨#[32]⟩ : ByteArray)) ++ t286).size + 1 ≤ 9223372036854775807) = true := decide_eq_true c7
    try have c7b2 : (9223372036854775807 < ((t285 ++ (⟨#[32]⟩ : ByteArray)) ++ t286).size + 1) = False := eq_false (Nat.not_lt.2 c7)
    have c7b3 := c7b2
    (try simp only [ByteArray.size_append, show ByteArray.size (⟨#[32]⟩ : ByteArray) = 1 from rfl] at c7b3)
    replace H := Option.bind_eq_some_iff.mp H
    obtain ⟨t287, A80, H⟩ := H
    replace H : (if (((t285 ++ (⟨#[32]⟩ : ByteArray)) ++ t286) ++ (⟨#[32]⟩ : ByteArray)).size + t287.size ≤ 9223372036854775807 then (some ((((t285 ++ (⟨#[32]⟩ : ByteArray)) ++ t286) ++ (⟨#[32]⟩ : ByteArray)) ++ t287)) else (none)) = some r := H
    have A8 := Aside0.mk A80
    clear A80
    by_cases c9 : (((t285 ++ (⟨#[32]⟩ : ByteArray)) ++ t286) ++ (⟨#[32]⟩ : ByteArray)).size + t287.size ≤ 9223372036854775807
    ·rw [if_pos c9] at H
     have c9b0 := eq_true c9
     have c9b1 : decide ((((t285 ++ (⟨#[32]⟩ : ByteArray)) ++ t286) ++ (⟨#[32]⟩ : ByteArray)).size + t287.size ≤ 9223372036854775807) = true := decide_eq_true c9
     try have c9b2 : (9223372036854775807 < (((t285 ++ (⟨#[32]⟩ : ByteArray)) ++ t286) ++ (⟨#[32]⟩ : ByteArray)).size + t287.size) = False := eq_false (Nat.not_lt.2 c9)
     have c9b3 := c9b2
     (try simp only [ByteArray.size_append, show ByteArray.size (⟨#[32]⟩ : ByteArray) = 1 from rfl] at c9b3)
     obtain rfl := Option.some.inj H
     go_enter Tryd.func35, Tryd.ntmps35
     try go_wp2_with (first | ((with_reducible refine gate_dst (N := 2) rfl ?_); refine box_event ?hg (N := 2) ?hd (cs := #[.int .i64 a0_0, .int .i64 a0_1]) (t := 31) ?hr ?_; (case hd => rfl); (case hg => rfl); (case hr => first | (go_simp; done) | (go_simp; rfl)); intro gb284 hg w10 hbox hb; have n_ := (⟨am (below_step (bl0 HB.out) hb), am (hbox), am ((gw hg (bl0 HB.out) : w.heap.size ≤ gb284)), am ((gw hg (bl0 HB.out) : w.heap.size ≤ gb284))⟩ : _ ∧ _ ∧ _ ∧ _); clear HB; obtain ⟨HB, BK284, GW284, GE284⟩ := n_; clear hb hbox hg; obtain ⟨hcz11_0, hcz11_1, hfz11_0, hfz11_1⟩ := cs2 BK284.out))
     have n_ := (⟨am (blk_drew BK284.out), am (below_drew1 HB.out)⟩ : _ ∧ _)
     clear BK284
     clear HB
     obtain ⟨BK284, HB⟩ := n_
     refine start_ (n := 13) (S := fun w' => w'.cell? ⟨gb284, 0, none⟩ = some (.int .i64 a0_0) ∧ w'.cell? ⟨gb284, 1, none⟩ = some (.int .i64 a0_1)) (ds := []) #[false, false, false, false, false, false, false, false, false, false, false, false, false] (by kernel_rfl) rfl rfl ⟨(blk_cell BK284.out 0).trans rfl, (blk_cell BK284.out 1).trans rfl⟩ (fun hHeld => ?_); refine with_tabW impl_entryLine.tab2 impl_entryLine.bits2 (fun HT_ HW_ => ?_)
     generalize w10.drew = w12 at BK284 HB hHeld ⊢
     refine pure_ (i := 0) (N := some 17) (v := ?_) (a' := ?_) #[true, false, false, false, false, false, false, false, false, false, false, false, false] rfl rfl (any_of HT_.out (by kernel_rfl)) (fun _ _ _ h => h) (Or.inl ⟨by rfl, ?_⟩) ?_ ?_
     rotate_left; (focus exact gs); rotate_left; (focus exact pt)
     refine pure_ (i := 4) (N := some 21) (v := ?_) (a' := ?_) #[true, false, false, false, true, false, false, false, false, false, false, false, false] rfl rfl (any_of HT_.out (by kernel_rfl)) (fun _ _ _ h => h) (Or.inl ⟨by rfl, ?_⟩) ?_ ?_
     rotate_left; (focus exact gs); rotate_left; (focus exact pt)
     refine pure_ (i := 9) (N := some 26) (v := ?_) (a' := ?_) #[true, false, false, false, true, false, false, false, false, true, false, false, false] rfl rfl (any_of HT_.out (by kernel_rfl)) (fun _ _ _ h => h) (Or.inl ⟨by rfl, ?_⟩) ?_ ?_
     rotate_left; (focus exact gs); rotate_left; (focus exact pt)
     refine take_ (i := 1) (N := some 18) (v := ?_) (a' := ?_) #[true, true, false, false, true, false, false, false, false, true, false, false, false] rfl rfl (take_ofW HT_.out HW_.out (by kernel_rfl)) (fun _ _ _ h => h) (Or.inl ⟨by rfl, ?_⟩) hHeld ?_ ?_
     rotate_left
     ·rintro w' ⟨s0, s1⟩
      go_simp
      with_reducible rfl
     rotate_left
     ·exact pt
     refine take_ (i := 5) (N := some 22) (v := ?_) (a' := ?_) #[true, true, false, false, true, true, false, false, false, true, false, false, false] rfl rfl (take_ofW HT_.out HW_.out (by kernel_rfl)) (fun _ _ _ h => h) (Or.inl ⟨by rfl, ?_⟩) hHeld ?_ ?_
     rotate_left
     ·rintro w' ⟨s0, s1⟩
      go_simp
      with_reducible rfl
     rotate_left
     ·exact pt
     refine one_ (i := 2) (N := some 19) #[true, true, true, false, true, true, false, false, false, true, false, false, false] rfl rfl (one_of HT_.out (by kernel_rfl)) (by decide) (fun K hK => ?_)
     refine goes_ Tryd.func41 (by kernel_rfl) rfl #[.int .i64 a0_0] (by rfl) rfl rfl lnp ?_
     with_reducible refine (impl_decimal.calls a0_0 t285 _ A3.out ?gl_).mono ?_
     case gl_ => exact Gl.below HG.out (bl0 HB.out)
     rintro e w13 ⟨rfl, hb⟩
     refine ⟨_, rfl, ?_⟩
     have n_ := (⟨am (blk_below (bf0 BK284.out) hb), am (below_step (bl1 HB.out GE284.out) hb)⟩ : _ ∧ _)
     clear BK284
     clear HB
     obtain ⟨BK284, HB⟩ := n_
     (try clear hb)
     (try clear hb2)
     (try clear hk)
     (try clear hi)
     refine hK.out _ _ ⟨(blk_cell BK284.out 0).trans rfl, (blk_cell BK284.out 1).trans rfl⟩ (fun hHeld => ?_)
     clear hK K
     refine norm_ (a' := ?_) ?_ ?_
     rotate_left
     ·show Act.put _ (some 19) _ = _
      simp only [Act.put, List.setIfInBounds_toArray, List.set_cons_zero, List.set_cons_succ, i64_w, i32_w]
      rfl
     refine pure_ (i := 3) (N := some 20) (v := ?_) (a' := ?_) #[true, true, true, true, true, true, false, false, false, true, false, false, false] rfl rfl (any_of HT_.out (by kernel_rfl)) (fun _ _ _ h => h) (Or.inl ⟨by rfl, ?_⟩) ?_ ?_
     rotate_left; (focus exact gs); rotate_left; (focus exact pt)
     refine one_ (i := 6) (N := some 23) #[true, true, true, true, true, true, true, false, false, true, false, false, false] rfl rfl (one_of HT_.out (by kernel_rfl)) (by decide) (fun K hK => ?_)
     refine goes_ Tryd.func41 (by kernel_rfl) rfl #[.int .i64 a0_1] (by rfl) rfl rfl lnp ?_
     with_reducible refine (impl_decimal.calls a0_1 t286 _ A5.out ?gl_).mono ?_
     case gl_ => exact Gl.below HG.out (bl0 HB.out)
     rintro e w14 ⟨rfl, hb⟩
     refine ⟨_, rfl, ?_⟩
     have n_ := (⟨am (blk_below (bf0 BK284.out) hb), am (below_step (bl1 HB.out GE284.out) hb)⟩ : _ ∧ _)
     clear BK284
     clear HB
     obtain ⟨BK284, HB⟩ := n_
     (try clear hb)
     (try clear hb2)
     (try clear hk)
     (try clear hi)
     refine hK.out _ _ ⟨(blk_cell BK284.out 0).trans rfl, (blk_cell BK284.out 1).trans rfl⟩ (fun hHeld => ?_)
     clear hK K
     refine norm_ (a' := ?_) ?_ ?_
     rotate_left
     ·show Act.put _ (some 23) _ = _
      simp only [Act.put, List.setIfInBounds_toArray, List.set_cons_zero, List.set_cons_succ, i64_w, i32_w]
      rfl
     refine pure_ (i := 7) (N := some 24) (v := ?_) (a' := ?_) #[true, true, true, true, true, true, true, true, false, true, false, false, false] rfl rfl (any_of HT_.out (by kernel_rfl)) (fun _ _ _ h => h) (Or.inl ⟨by rfl, ?_⟩) ?_ ?_
     rotate_left; (focus exact gs); rotate_left; (focus exact pt)
     refine pure_ (i := 8) (N := some 25) (v := ?_) (a' := ?_) #[true, true, true, true, true, true, true, true, true, true, false, false, false] rfl rfl (any_of HT_.out (by kernel_rfl)) (fun _ _ _ h => h) (Or.inl ⟨by rfl, ?_⟩) ?_ ?_
     rotate_left; (focus exact gs); rotate_left; (focus exact pt)
     refine one_ (i := 10) (N := some 27) #[true, true, true, true, true, true, true, true, true, true, true, false, false] rfl rfl (one_of HT_.out (by kernel_rfl)) (by decide) (fun K hK => ?_)
     refine goes_ Tryd.func41 (by kernel_rfl) rfl #[.int .i64 (Int.tmod (wrap64 ((wrap64 ((wrap64 (7 * a0_0)) + (wrap64 (3 * a0_1)))) + (wrap64 (11 * a1)))) 9973)] (by rfl) rfl rfl lnp ?_
     with_reducible refine (impl_decimal.calls (Int.tmod (wrap64 ((wrap64 ((wrap64 (7 * a0_0)) + (wrap64 (3 * a0_1)))) + (wrap64 (11 * a1)))) 9973) t287 _ A8.out ?gl_).mono ?_
     case gl_ => exact Gl.below HG.out (bl0 HB.out)
     rintro e w15 ⟨rfl, hb⟩
     refine ⟨_, rfl, ?_⟩
     have n_ := (⟨am (blk_below (bf0 BK284.out) hb), am (below_step (bl1 HB.out GE284.out) hb)⟩ : _ ∧ _)
     clear BK284
     clear HB
     obtain ⟨BK284, HB⟩ := n_
     (try clear hb)
     (try clear hb2)
     (try clear hk)
     (try clear hi)
     refine hK.out _ _ ⟨(blk_cell BK284.out 0).trans rfl, (blk_cell BK284.out 1).trans rfl⟩ (fun hHeld => ?_)
     clear hK K
     refine norm_ (a' := ?_) ?_ ?_
     rotate_left
     ·show Act.put _ (some 27) _ = _
      simp only [Act.put, List.setIfInBounds_toArray, List.set_cons_zero, List.set_cons_succ, i64_w, i32_w]
      rfl
     refine pure_ (i := 11) (N := some 28) (v := ?_) (a' := ?_) #[true, true, true, true, true, true, true, true, true, true, true, true, false] rfl rfl (any_of HT_.out (by kernel_rfl)) (fun _ _ _ h => h) (Or.inl ⟨by rfl, ?_⟩) ?_ ?_
     rotate_left; (focus exact gs); rotate_left; (focus exact pt)
     refine pure_ (i := 12) (N := some 4) (v := ?_) (a' := ?_) #[true, true, true, true, true, true, true, true, true, true, true, true, true] rfl rfl (any_of HT_.out (by kernel_rfl)) (fun _ _ _ h => h) (Or.inl ⟨by rfl, ?_⟩) ?_ ?_
     rotate_left; (focus exact gs); rotate_left; (focus exact pt)
     refine done_ (done_of HT_.out (by kernel_rfl)) ?_
     try go_wp2
     go_ret
     exact ⟨er, bl1 HB.out GE284.out⟩
    ·rw [if_neg c9] at H
     exact absurd H (by simp)
   ·rw [if_neg c7] at H
    exact absurd H (by simp)
  ·rw [if_neg c6] at H
   exact absurd H (by simp)
 ·rw [if_neg c4] at H
  exact absurd H (by simp)

end Go.Proofs.YthfmhfgckhkgjaaDoor.PFnResumed
