-- Laid by wip/mk/mk.py out of the translation. Not trusted: Lean checks it.
import Derived.Test.YthfmhfgckhkgjaaDoorPFnResumedx0
import Derived.Test.YthfmhfgckhkgjaaDoorPFnResumedx2
namespace Go.Proofs.YthfmhfgckhkgjaaDoor.PFnResumed
open Go.RowKit Go.Proofs.YthfmhfgckhkgjaaDoorW.PrintWords Go.Proofs.YthfmhfgckhkgjaaDoorW.PrintLast Go.Proofs.YthfmhfgckhkgjaaDoorW.PrintMore
attribute [local go_sem] max2_int min2_int max_two min_two max_three min_three max_four min_four   -- for this text's walks alone
set_option linter.unusedVariables false
set_option linter.unusedSimpArgs false

/-! ### spec_l29Make: function 27 -/
def spec_l29Make.f (a0_0 : Int) (a0_1 : Int) (a0_2 : Int) (a0_3 : Int) (a1_0 : Int) (a1_1 : Int) : Option (Int × Int × Int × Int × Bool) := (spec_l01In.f a1_1 0 1000000000).bind fun t108 => (if t108 = true then (if a1_0 = 1 then (if a0_0 = 0 then (some (a1_1, a0_1, a0_2, a0_3, decide (a1_1 ≥ 1))) else (some (a1_1, a0_1, a0_2, a0_3, false))) else (if a1_0 = 2 then (if a0_0 > 0 then (some (a0_0, wrap64 (a0_1 + a1_1), a0_2, a0_3, decide ((wrap64 (a0_1 + a1_1)) ≤ 1000000))) else (some (a0_0, wrap64 (a0_1 + a1_1), a0_2, a0_3, false))) else (if a1_0 = 3 then (if a0_0 > 0 then (if a1_1 < 12 then (some (a0_0, a0_1, wrap64 (a0_2 + 1), a0_3, decide ((wrap64 (a0_2 + 1)) ≤ 1000000))) else (some (a0_0, a0_1, wrap64 (a0_2 + 1), a0_3, false))) else (some (a0_0, a0_1, wrap64 (a0_2 + 1), a0_3, false))) else (if a1_0 = 4 then (if a0_0 > 0 then (if a1_1 = a0_1 then (some (0, 0, 0, wrap64 (a0_3 + 1), decide (a0_3 < 1000000000))) else (some (0, 0, 0, wrap64 (a0_3 + 1), false))) else (some (0, 0, 0, wrap64 (a0_3 + 1), false))) else (some (a0_0, a0_1, a0_2, a0_3, false)))))) else (some (a0_0, a0_1, a0_2, a0_3, false)))
def spec_l29Make.T10 : Bool × List (List Nat × List Nat) := (true, [([], []), ([], []), ([1], [1]), ([2], [2]), ([3], [3]), ([4], [4]), ([5, 4], [4, 5]), ([6, 4], [4, 6]), ([4, 7], [4, 7]), ([0, 4, 0], [0]), ([8, 9, 0, 1, 2, 3, 4, 5, 6, 7, 8, 9], [8])])
def spec_l29Make.B10 : List Nat := [0, 0, 2, 6, 14, 30, 62, 126, 254, 31, 1023]
theorem spec_l29Make.tab10 : rtab .any (opsOf Tryd.f27 10) = spec_l29Make.T10 := by kernel_rfl
theorem spec_l29Make.bits10 : waitsOk spec_l29Make.T10.2 spec_l29Make.B10 = true := by kernel_rfl
def spec_l29Make.T13 : Bool × List (List Nat × List Nat) := (true, [([], []), ([], []), ([1], [1]), ([2], [2]), ([3], [3]), ([4], [4]), ([5, 4], [4, 5]), ([6, 4], [4, 6]), ([4, 7], [4, 7]), ([8, 4], [8]), ([9], [9]), ([10, 9], [9, 10]), ([11, 9], [9, 11]), ([9, 12], [9, 12]), ([0, 9, 0], [0]), ([13, 14, 0, 1, 2, 3, 4, 5, 6, 7, 8, 9, 10, 11, 12, 13, 14], [13])])
def spec_l29Make.B13 : List Nat := [0, 0, 2, 6, 14, 30, 62, 126, 254, 510, 1022, 2046, 4094, 8190, 1023, 32767]
theorem spec_l29Make.tab13 : rtab .any (opsOf Tryd.f27 13) = spec_l29Make.T13 := by kernel_rfl
theorem spec_l29Make.bits13 : waitsOk spec_l29Make.T13.2 spec_l29Make.B13 = true := by kernel_rfl
set_option maxHeartbeats 8000000 in
set_option maxRecDepth 100000 in
theorem spec_l29Make.calls (a0_0 : Int) (a0_1 : Int) (a0_2 : Int) (a0_3 : Int) (a1_0 : Int) (a1_1 : Int) (r1 : Int) (r2 : Int) (r3 : Int) (r4 : Int) (r5 : Bool) (w : World) (h : spec_l29Make.f a0_0 a0_1 a0_2 a0_3 a1_0 a1_1 = some (r1, r2, r3, r4, r5)) :
  Calls Tryd.prog 27 #[.agg #[.int .i64 a0_0, .int .i64 a0_1, .int .i64 a0_2, .int .i64 a0_3], .agg #[.int .i64 a1_0, .int .i64 a1_1]] w fun e w' => e = .returned (.tuple #[.agg #[.int .i64 r1, .int .i64 r2, .int .i64 r3, .int .i64 r4], .bool r5]) ∧ Below w.heap.size w w' := by
 have hu29 := Tryd.underlying29
 have hu31 := Tryd.underlying31
 have HB := am (Below.refl w.heap.size w)
 have H : ((spec_l01In.f a1_1 0 1000000000).bind fun t108 => (if t108 = true then (if a1_0 = 1 then (if a0_0 = 0 then (some (a1_1, a0_1, a0_2, a0_3, decide (a1_1 ≥ 1))) else (some (a1_1, a0_1, a0_2, a0_3, false))) else (if a1_0 = 2 then (if a0_0 > 0 then (some (a0_0, wrap64 (a0_1 + a1_1), a0_2, a0_3, decide ((wrap64 (a0_1 + a1_1)) ≤ 1000000))) else (some (a0_0, wrap64 (a0_1 + a1_1), a0_2, a0_3, false))) else (if a1_0 = 3 then (if a0_0 > 0 then (if a1_1 < 12 then (some (a0_0, a0_1, wrap64 (a0_2 + 1), a0_3, decide ((wrap64 (a0_2 + 1)) ≤ 1000000))) else (some (a0_0, a0_1, wrap64 (a0_2 + 1), a0_3, false))) else (some (a0_0, a0_1, wrap64 (a0_2 + 1), a0_3, false))) else (if a1_0 = 4 then (if a0_0 > 0 then (if a1_1 = a0_1 then (some (0, 0, 0, wrap64 (a0_3 + 1), decide (a0_3 < 1000000000))) else (some (0, 0, 0, wrap64 (a0_3 + 1), false))) else (some (0, 0, 0, wrap64 (a0_3 + 1), false))) else (some (a0_0, a0_1, a0_2, a0_3, false)))))) else (some (a0_0, a0_1, a0_2, a0_3, false)))) = some (r1, r2, r3, r4, r5) := h
 clear h
 replace H := Option.bind_eq_some_iff.mp H
 obtain ⟨t108, A30, H⟩ := H
 replace H : (if t108 = true then (if a1_0 = 1 then (if a0_0 = 0 then (some (a1_1, a0_1, a0_2, a0_3, decide (a1_1 ≥ 1))) else (some (a1_1, a0_1, a0_2, a0_3, false))) else (if a1_0 = 2 then (if a0_0 > 0 then (some (a0_0, wrap64 (a0_1 + a1_1), a0_2, a0_3, decide ((wrap64 (a0_1 + a1_1)) ≤ 1000000))) else (some (a0_0, wrap64 (a0_1 + a1_1), a0_2, a0_3, false))) else (if a1_0 = 3 then (if a0_0 > 0 then (if a1_1 < 12 then (some (a0_0, a0_1, wrap64 (a0_2 + 1), a0_3, decide ((wrap64 (a0_2 + 1)) ≤ 1000000))) else (some (a0_0, a0_1, wrap64 (a0_2 + 1), a0_3, false))) else (some (a0_0, a0_1, wrap64 (a0_2 + 1), a0_3, false))) else (if a1_0 = 4 then (if a0_0 > 0 then (if a1_1 = a0_1 then (some (0, 0, 0, wrap64 (a0_3 + 1), decide (a0_3 < 1000000000))) else (some (0, 0, 0, wrap64 (a0_3 + 1), false))) else (some (0, 0, 0, wrap64 (a0_3 + 1), false))) else (some (a0_0, a0_1, a0_2, a0_3, false)))))) else (some (a0_0, a0_1, a0_2, a0_3, false))) = some (r1, r2, r3, r4, r5) := H
 have A3 := Aside0.mk A30
 clear A30
 by_cases c4 : t108 = true
 ·subst c4
  have H1 : (if a1_0 = 1 then (if a0_0 = 0 then (some (a1_1, a0_1, a0_2, a0_3, decide (a1_1 ≥ 1))) else (some (a1_1, a0_1, a0_2, a0_3, false))) else (if a1_0 = 2 then (if a0_0 > 0 then (some (a0_0, wrap64 (a0_1 + a1_1), a0_2, a0_3, decide ((wrap64 (a0_1 + a1_1)) ≤ 1000000))) else (some (a0_0, wrap64 (a0_1 + a1_1), a0_2, a0_3, false))) else (if a1_0 = 3 then (if a0_0 > 0 then (if a1_1 < 12 then (some (a0_0, a0_1, wrap64 (a0_2 + 1), a0_3, decide ((wrap64 (a0_2 + 1)) ≤ 1000000))) else (some (a0_0, a0_1, wrap64 (a0_2 + 1), a0_3, false))) else (some (a0_0, a0_1, wrap64 (a0_2 + 1), a0_3, false))) else (if a1_0 = 4 then (if a0_0 > 0 then (if a1_1 = a0_1 then (some (0, 0, 0, wrap64 (a0_3 + 1), decide (a0_3 < 1000000000))) else (some (0, 0, 0, wrap64 (a0_3 + 1), false))) else (some (0, 0, 0, wrap64 (a0_3 + 1), false))) else (some (a0_0, a0_1, a0_2, a0_3, false)))))) = some (r1, r2, r3, r4, r5) := by rw [if_pos rfl] at H; exact H
  clear H
  have H := H1
  clear H1
  by_cases c5 : a1_0 = 1
  ·rw [if_pos c5] at H
   have c5b0 : (a1_0 == 1) = true := beq_iff_eq.mpr c5
   have c5b1 : (a1_0 != 1) = false := bne_eq_false_iff_eq.mpr c5
   clear c5
   by_cases c6 : a0_0 = 0
   ·rw [if_pos c6] at H
    have c6b0 : (a0_0 == 0) = true := beq_iff_eq.mpr c6
    have c6b1 : (a0_0 != 0) = false := bne_eq_false_iff_eq.mpr c6
    clear c6
    simp only [Option.some.injEq, Prod.mk.injEq] at H
    obtain ⟨rfl, rfl, rfl, rfl, rfl⟩ := H
    go_enter Tryd.func27, Tryd.ntmps27
    go_wp2_with (first | ((with_reducible refine gate_dst (N := 2) rfl ?_); refine box_event ?hg (N := 2) ?hd (cs := #[.int .i64 a0_0, .int .i64 a0_1, .int .i64 a0_2, .int .i64 a0_3]) (t := 29) ?hr ?_; (case hd => rfl); (case hg => rfl); (case hr => first | (go_simp; done) | (go_simp; rfl)); intro gb105 hg w7 hbox hb; have n_ := (⟨am (below_step (bl0 HB.out) hb), am (hbox), am ((gw hg (bl0 HB.out) : w.heap.size ≤ gb105)), am ((gw hg (bl0 HB.out) : w.heap.size ≤ gb105))⟩ : _ ∧ _ ∧ _ ∧ _); clear HB; obtain ⟨HB, BK105, GW105, GE105⟩ := n_; clear hb hbox hg) | ((with_reducible refine gate_dst (N := 3) rfl ?_); refine box_event ?hg (N := 3) ?hd (cs := #[.int .i64 a1_0, .int .i64 a1_1]) (t := 31) ?hr ?_; (case hd => rfl); (case hg => rfl); (case hr => first | (go_simp; done) | (go_simp; rfl)); intro gb106 hg w8 hbox hb; have n_ := (⟨am (blk_below (bf0 BK105.out) hb), am (below_step (bl1 HB.out GE105.out) hb), am (hbox), am ((gw hg (bl1 HB.out GE105.out) : w.heap.size ≤ gb106)), am ((gw hg (bl1 HB.out GE105.out) : w.heap.size ≤ gb106)), am ((nl hg (bf0 BK105.out) : gb105 ≠ gb106)), am ((ng hg (bf0 BK105.out) : gb106 ≠ gb105))⟩ : _ ∧ _ ∧ _ ∧ _ ∧ _ ∧ _ ∧ _); clear BK105 HB; obtain ⟨BK105, HB, BK106, GW106, GE106, NB105_106, NB106_105⟩ := n_; clear hb hbox hg) | ((with_reducible refine gate_dst (N := 4) rfl ?_); refine box_event ?hg (N := 4) ?hd (cs := #[.int .i64 0, .int .i64 0, .int .i64 0, .int .i64 0]) (t := 29) ?hr ?_; (case hd => rfl); (case hg => rfl); (case hr => first | (go_simp; done) | (go_simp; rfl)); intro gb107 hg w9 hbox hb; have n_ := (⟨am (blk_below (bf0 BK105.out) hb), am (blk_below (bf0 BK106.out) hb), am (below_step (bl2 HB.out GE105.out GE106.out) hb), am (hbox), am ((gw hg (bl2 HB.out GE105.out GE106.out) : w.heap.size ≤ gb107)), am ((gw hg (bl2 HB.out GE105.out GE106.out) : w.heap.size ≤ gb107)), am ((nl hg (bf0 BK105.out) : gb105 ≠ gb107)), am ((ng hg (bf0 BK105.out) : gb107 ≠ gb105)), am ((nl hg (bf0 BK106.out) : gb106 ≠ gb107)), am ((ng hg (bf0 BK106.out) : gb107 ≠ gb106))⟩ : _ ∧ _ ∧ _ ∧ _ ∧ _ ∧ _ ∧ _ ∧ _ ∧ _ ∧ _); clear BK105 BK106 HB; obtain ⟨BK105, BK106, HB, BK107, GW107, GE107, NB105_107, NB107_105, NB106_107, NB107_106⟩ := n_; clear hb hbox hg; have hnb10 := NB106_105.out; have hnc10 := NB105_106.out; have hnb11 := NB106_107.out; have hnc11 := NB107_106.out; obtain ⟨hcz12_0, hcz12_1, hfz12_0, hfz12_1⟩ := cs2 BK106.out) | ((with_reducible refine gate_callee (f := 21) rfl ?_); refine goesL_ (some 10) rfl rfl Tryd.func21 (by kernel_rfl) rfl #[.int .i64 a1_1, .int .i64 0, .int .i64 1000000000] rfl lnp ?_; (with_reducible refine (spec_l01In.calls a1_1 0 1000000000 true _ A3.out).mono ?_); rintro e w' ⟨rfl, ⟨nd, rfl⟩⟩; refine ⟨_, rfl, ?_⟩; (try (rw [drewN_self w9]; generalize hq_ : World.drewN w9 _ = w9; have n0_ : Aside0 (w9.heap[gb105]? = some (.cells #[.int .i64 a0_0, .int .i64 a0_1, .int .i64 a0_2, .int .i64 a0_3] 29 (0, 0))) := ⟨by rw [← hq_]; exact (bf0 BK105.out)⟩; have n1_ : Aside0 (w9.heap[gb106]? = some (.cells #[.int .i64 a1_0, .int .i64 a1_1] 31 (0, 0))) := ⟨by rw [← hq_]; exact (bf0 BK106.out)⟩; have n2_ : Aside0 (w9.heap[gb107]? = some (.cells #[.int .i64 0, .int .i64 0, .int .i64 0, .int .i64 0] 29 (0, 0))) := ⟨by rw [← hq_]; exact (bf0 BK107.out)⟩; have n3_ : Aside0 (Below w.heap.size w w9) := ⟨by rw [← hq_]; exact (bl3 HB.out GE105.out GE106.out GE107.out)⟩; clear BK105 BK106 BK107 HB hq_; have BK105 := n0_; have BK106 := n1_; have BK107 := n2_; have HB := n3_; clear n0_ n1_ n2_ n3_)); have hnb13 := NB105_107.out; have hnc13 := NB107_105.out; obtain ⟨hcz14_0, hcz14_1, hcz14_2, hcz14_3, hfz14_0, hfz14_1, hfz14_2, hfz14_3⟩ := cs4 BK105.out; obtain ⟨hcz15_0, hcz15_1, hcz15_2, hcz15_3, hfz15_0, hfz15_1, hfz15_2, hfz15_3⟩ := cs4 BK107.out; have hcy106_0 := bc BK106.out 0 (.int .i64 a1_0); have hcy106_1 := bc BK106.out 1 (.int .i64 a1_1)))
    refine bodyPost_ret (results_ct rfl _ _ gb107 29 #[.int .i64 a1_1, .int .i64 a0_1, .int .i64 a0_2, .int .i64 a0_3] (0, 0) _ rfl (bp1 BK107.out NB107_105.out) Tryd.underlying29 rfl (by kernel_rfl)) rfl ?_
    exact ⟨er, bl3 HB.out GE105.out GE106.out GE107.out⟩
   ·rw [if_neg c6] at H
    have c6b0 : (a0_0 == 0) = false := beq_eq_false_iff_ne.mpr c6
    have c6b1 : (a0_0 != 0) = true := bne_iff_ne.mpr c6
    simp only [Option.some.injEq, Prod.mk.injEq] at H
    obtain ⟨rfl, rfl, rfl, rfl, rfl⟩ := H
    go_enter Tryd.func27, Tryd.ntmps27
    go_wp2_with (first | ((with_reducible refine gate_dst (N := 2) rfl ?_); refine box_event ?hg (N := 2) ?hd (cs := #[.int .i64 a0_0, .int .i64 a0_1, .int .i64 a0_2, .int .i64 a0_3]) (t := 29) ?hr ?_; (case hd => rfl); (case hg => rfl); (case hr => first | (go_simp; done) | (go_simp; rfl)); intro gb105 hg w16 hbox hb; have n_ := (⟨am (below_step (bl0 HB.out) hb), am (hbox), am ((gw hg (bl0 HB.out) : w.heap.size ≤ gb105)), am ((gw hg (bl0 HB.out) : w.heap.size ≤ gb105))⟩ : _ ∧ _ ∧ _ ∧ _); clear HB; obtain ⟨HB, BK105, GW105, GE105⟩ := n_; clear hb hbox hg) | ((with_reducible refine gate_dst (N := 3) rfl ?_); refine box_event ?hg (N := 3) ?hd (cs := #[.int .i64 a1_0, .int .i64 a1_1]) (t := 31) ?hr ?_; (case hd => rfl); (case hg => rfl); (case hr => first | (go_simp; done) | (go_simp; rfl)); intro gb106 hg w17 hbox hb; have n_ := (⟨am (blk_below (bf0 BK105.out) hb), am (below_step (bl1 HB.out GE105.out) hb), am (hbox), am ((gw hg (bl1 HB.out GE105.out) : w.heap.size ≤ gb106)), am ((gw hg (bl1 HB.out GE105.out) : w.heap.size ≤ gb106)), am ((nl hg (bf0 BK105.out) : gb105 ≠ gb106)), am ((ng hg (bf0 BK105.out) : gb106 ≠ gb105))⟩ : _ ∧ _ ∧ _ ∧ _ ∧ _ ∧ _ ∧ _); clear BK105 HB; obtain ⟨BK105, HB, BK106, GW106, GE106, NB105_106, NB106_105⟩ := n_; clear hb hbox hg) | ((with_reducible refine gate_dst (N := 4) rfl ?_); refine box_event ?hg (N := 4) ?hd (cs := #[.int .i64 0, .int .i64 0, .int .i64 0, .int .i64 0]) (t := 29) ?hr ?_; (case hd => rfl); (case hg => rfl); (case hr => first | (go_simp; done) | (go_simp; rfl)); intro gb107 hg w18 hbox hb; have n_ := (⟨am (blk_below (bf0 BK105.out) hb), am (blk_below (bf0 BK106.out) hb), am (below_step (bl2 HB.out GE105.out GE106.out) hb), am (hbox), am ((gw hg (bl2 HB.out GE105.out GE106.out) : w.heap.size ≤ gb107)), am ((gw hg (bl2 HB.out GE105.out GE106.out) : w.heap.size ≤ gb107)), am ((nl hg (bf0 BK105.out) : gb105 ≠ gb107)), am ((ng hg (bf0 BK105.out) : gb107 ≠ gb105)), am ((nl hg (bf0 BK106.out) : gb106 ≠ gb107)), am ((ng hg (bf0 BK106.out) : gb107 ≠ gb106))⟩ : _ ∧ _ ∧ _ ∧ _ ∧ _ ∧ _ ∧ _ ∧ _ ∧ _ ∧ _); clear BK105 BK106 HB; obtain ⟨BK105, BK106, HB, BK107, GW107, GE107, NB105_107, NB107_105, NB106_107, NB107_106⟩ := n_; clear hb hbox hg; have hnb19 := NB106_105.out; have hnc19 := NB105_106.out; have hnb20 := NB106_107.out; have hnc20 := NB107_106.out; obtain ⟨hcz21_0, hcz21_1, hfz21_0, hfz21_1⟩ := cs2 BK106.out) | ((with_reducible refine gate_callee (f := 21) rfl ?_); refine goesL_ (some 10) rfl rfl Tryd.func21 (by kernel_rfl) rfl #[.int .i64 a1_1, .int .i64 0, .int .i64 1000000000] rfl lnp ?_; (with_reducible refine (spec_l01In.calls a1_1 0 1000000000 true _ A3.out).mono ?_); rintro e w' ⟨rfl, ⟨nd, rfl⟩⟩; refine ⟨_, rfl, ?_⟩; (try (rw [drewN_self w18]; generalize hq_ : World.drewN w18 _ = w18; have n0_ : Aside0 (w18.heap[gb105]? = some (.cells #[.int .i64 a0_0, .int .i64 a0_1, .int .i64 a0_2, .int .i64 a0_3] 29 (0, 0))) := ⟨by rw [← hq_]; exact (bf0 BK105.out)⟩; have n1_ : Aside0 (w18.heap[gb106]? = some (.cells #[.int .i64 a1_0, .int .i64 a1_1] 31 (0, 0))) := ⟨by rw [← hq_]; exact (bf0 BK106.out)⟩; have n2_ : Aside0 (w18.heap[gb107]? = some (.cells #[.int .i64 0, .int .i64 0, .int .i64 0, .int .i64 0] 29 (0, 0))) := ⟨by rw [← hq_]; exact (bf0 BK107.out)⟩; have n3_ : Aside0 (Below w.heap.size w w18) := ⟨by rw [← hq_]; exact (bl3 HB.out GE105.out GE106.out GE107.out)⟩; clear BK105 BK106 BK107 HB hq_; have BK105 := n0_; have BK106 := n1_; have BK107 := n2_; have HB := n3_; clear n0_ n1_ n2_ n3_)); have hnb22 := NB105_107.out; have hnc22 := NB107_105.out; obtain ⟨hcz23_0, hcz23_1, hcz23_2, hcz23_3, hfz23_0, hfz23_1, hfz23_2, hfz23_3⟩ := cs4 BK105.out; obtain ⟨hcz24_0, hcz24_1, hcz24_2, hcz24_3, hfz24_0, hfz24_1, hfz24_2, hfz24_3⟩ := cs4 BK107.out; have hcy106_0 := bc BK106.out 0 (.int .i64 a1_0); have hcy106_1 := bc BK106.out 1 (.int .i64 a1_1)))
    refine bodyPost_ret (results_ct rfl _ _ gb107 29 #[.int .i64 a1_1, .int .i64 a0_1, .int .i64 a0_2, .int .i64 a0_3] (0, 0) _ rfl (bp1 BK107.out NB107_105.out) Tryd.underlying29 rfl (by kernel_rfl)) rfl ?_
    exact ⟨er, bl3 HB.out GE105.out GE106.out GE107.out⟩
  ·rw [if_neg c5] at H
   have c5b0 : (a1_0 == 1) = false := beq_eq_false_iff_ne.mpr c5
   have c5b1 : (a1_0 != 1) = true := bne_iff_ne.mpr c5
   by_cases c25 : a1_0 = 2
   ·rw [if_pos c25] at H
    have c25b0 : (a1_0 == 2) = true := beq_iff_eq.mpr c25
    have c25b1 : (a1_0 != 2) = false := bne_eq_false_iff_eq.mpr c25
    clear c25
    by_cases c26 : a0_0 > 0
    ·rw [if_pos c26] at H
     have c26b0 : decide (0 < a0_0) = true := decide_eq_true c26
     clear c26
     simp only [Option.some.injEq, Prod.mk.injEq] at H
     obtain ⟨rfl, rfl, rfl, rfl, rfl⟩ := H
     go_enter Tryd.func27, Tryd.ntmps27
     try go_wp2_with (first | ((with_reducible refine gate_dst (N := 2) rfl ?_); refine box_event ?hg (N := 2) ?hd (cs := #[.int .i64 a0_0, .int .i64 a0_1, .int .i64 a0_2, .int .i64 a0_3]) (t := 29) ?hr ?_; (case hd => rfl); (case hg => rfl); (case hr => first | (go_simp; done) | (go_simp; rfl)); intro gb105 hg w27 hbox hb; have n_ := (⟨am (below_step (bl0 HB.out) hb), am (hbox), am ((gw hg (bl0 HB.out) : w.heap.size ≤ gb105)), am ((gw hg (bl0 HB.out) : w.heap.size ≤ gb105))⟩ : _ ∧ _ ∧ _ ∧ _); clear HB; obtain ⟨HB, BK105, GW105, GE105⟩ := n_; clear hb hbox hg) | ((with_reducible refine gate_dst (N := 3) rfl ?_); refine box_event ?hg (N := 3) ?hd (cs := #[.int .i64 a1_0, .int .i64 a1_1]) (t := 31) ?hr ?_; (case hd => rfl); (case hg => rfl); (case hr => first | (go_simp; done) | (go_simp; rfl)); intro gb106 hg w28 hbox hb; have n_ := (⟨am (blk_below (bf0 BK105.out) hb), am (below_step (bl1 HB.out GE105.out) hb), am (hbox), am ((gw hg (bl1 HB.out GE105.out) : w.heap.size ≤ gb106)), am ((gw hg (bl1 HB.out GE105.out) : w.heap.size ≤ gb106)), am ((nl hg (bf0 BK105.out) : gb105 ≠ gb106)), am ((ng hg (bf0 BK105.out) : gb106 ≠ gb105))⟩ : _ ∧ _ ∧ _ ∧ _ ∧ _ ∧ _ ∧ _); clear BK105 HB; obtain ⟨BK105, HB, BK106, GW106, GE106, NB105_106, NB106_105⟩ := n_; clear hb hbox hg) | ((with_reducible refine gate_dst (N := 4) rfl ?_); refine box_event ?hg (N := 4) ?hd (cs := #[.int .i64 0, .int .i64 0, .int .i64 0, .int .i64 0]) (t := 29) ?hr ?_; (case hd => rfl); (case hg => rfl); (case hr => first | (go_simp; done) | (go_simp; rfl)); intro gb107 hg w29 hbox hb; have n_ := (⟨am (blk_below (bf0 BK105.out) hb), am (blk_below (bf0 BK106.out) hb), am (below_step (bl2 HB.out GE105.out GE106.out) hb), am (hbox), am ((gw hg (bl2 HB.out GE105.out GE106.out) : w.heap.size ≤ gb107)), am ((gw hg (bl2 HB.out GE105.out GE106.out) : w.heap.size ≤ gb107)), am ((nl hg (bf0 BK105.out) : gb105 ≠ gb107)), am ((ng hg (bf0 BK105.out) : gb107 ≠ gb105)), am ((nl hg (bf0 BK106.out) : gb106 ≠ gb107)), am ((ng hg (bf0 BK106.out) : gb107 ≠ gb106))⟩ : _ ∧ _ ∧ _ ∧ _ ∧ _ ∧ _ ∧ _ ∧ _ ∧ _ ∧ _); clear BK105 BK106 HB; obtain ⟨BK105, BK106, HB, BK107, GW107, GE107, NB105_107, NB107_105, NB106_107, NB107_106⟩ := n_; clear hb hbox hg; have hnb30 := NB106_105.out; have hnc30 := NB105_106.out; have hnb31 := NB106_107.out; have hnc31 := NB107_106.out; obtain ⟨hcz32_0, hcz32_1, hfz32_0, hfz32_1⟩ := cs2 BK106.out) | ((with_reducible refine gate_callee (f := 21) rfl ?_); refine goesL_ (some 10) rfl rfl Tryd.func21 (by kernel_rfl) rfl #[.int .i64 a1_1, .int .i64 0, .int .i64 1000000000] rfl lnp ?_; (with_reducible refine (spec_l01In.calls a1_1 0 1000000000 true _ A3.out).mono ?_); rintro e w' ⟨rfl, ⟨nd, rfl⟩⟩; refine ⟨_, rfl, ?_⟩; (try (rw [drewN_self w29]; generalize hq_ : World.drewN w29 _ = w29; have n0_ : Aside0 (w29.heap[gb105]? = some (.cells #[.int .i64 a0_0, .int .i64 a0_1, .int .i64 a0_2, .int .i64 a0_3] 29 (0, 0))) := ⟨by rw [← hq_]; exact (bf0 BK105.out)⟩; have n1_ : Aside0 (w29.heap[gb106]? = some (.cells #[.int .i64 a1_0, .int .i64 a1_1] 31 (0, 0))) := ⟨by rw [← hq_]; exact (bf0 BK106.out)⟩; have n2_ : Aside0 (w29.heap[gb107]? = some (.cells #[.int .i64 0, .int .i64 0, .int .i64 0, .int .i64 0] 29 (0, 0))) := ⟨by rw [← hq_]; exact (bf0 BK107.out)⟩; have n3_ : Aside0 (Below w.heap.size w w29) := ⟨by rw [← hq_]; exact (bl3 HB.out GE105.out GE106.out GE107.out)⟩; clear BK105 BK106 BK107 HB hq_; have BK105 := n0_; have BK106 := n1_; have BK107 := n2_; have HB := n3_; clear n0_ n1_ n2_ n3_)); have hnb33 := NB105_107.out; have hnc33 := NB107_105.out; obtain ⟨hcz34_0, hcz34_1, hcz34_2, hcz34_3, hfz34_0, hfz34_1, hfz34_2, hfz34_3⟩ := cs4 BK105.out; have hcy106_0 := bc BK106.out 0 (.int .i64 a1_0); have hcy106_1 := bc BK106.out 1 (.int .i64 a1_1); have hcy107_0 := bc BK107.out 0 (.int .i64 0); have hcy107_1 := bc BK107.out 1 (.int .i64 0); have hcy107_2 := bc BK107.out 2 (.int .i64 0); have hcy107_3 := bc BK107.out 3 (.int .i64 0)))
     have n0_ : Aside0 ((w29.setCell ⟨gb105, 1, none⟩ (.int .i64 (wrap64 (a0_1 + a1_1)))).heap[gb105]? = some (.cells #[.int .i64 a0_0, .int .i64 (wrap64 (a0_1 + a1_1)), .int .i64 a0_2, .int .i64 a0_3] 29 (0, 0))) := ⟨by (with_reducible repeat (first | refine blk_drewN ?_ _ | refine blk_drew ?_ | refine blk_alloc ?_ _)); refine blk_put (cs := #[.int .i64 a0_0, .int .i64 a0_1, .int .i64 a0_2, .int .i64 a0_3]) ?_ 1 _ rfl; exact bf0 BK105.out⟩
     have n1_ : Aside0 ((w29.setCell ⟨gb105, 1, none⟩ (.int .i64 (wrap64 (a0_1 + a1_1)))).heap[gb106]? = some (.cells #[.int .i64 a1_0, .int .i64 a1_1] 31 (0, 0))) := ⟨bf1 BK106.out NB106_105.out⟩
     have n2_ : Aside0 ((w29.setCell ⟨gb105, 1, none⟩ (.int .i64 (wrap64 (a0_1 + a1_1)))).heap[gb107]? = some (.cells #[.int .i64 0, .int .i64 0, .int .i64 0, .int .i64 0] 29 (0, 0))) := ⟨bf1 BK107.out NB107_105.out⟩
     have n3_ : Aside0 (Below w.heap.size w (w29.setCell ⟨gb105, 1, none⟩ (.int .i64 (wrap64 (a0_1 + a1_1))))) := ⟨bl3 HB.out GE105.out GE106.out GE107.out⟩
     (try clear BK105)
     (try clear BK106)
     (try clear BK107)
     (try clear HB)
     generalize (w29.setCell ⟨gb105, 1, none⟩ (.int .i64 (wrap64 (a0_1 + a1_1)))) = w35 at n0_ n1_ n2_ n3_ ⊢
     have BK105 := n0_
     have BK106 := n1_
     have BK107 := n2_
     have HB := n3_
     clear n0_ n1_ n2_ n3_
     have n_ := (⟨am (blk_drew BK105.out), am (blk_drew BK106.out), am (blk_drew BK107.out), am (below_drew1 HB.out)⟩ : _ ∧ _ ∧ _ ∧ _)
     clear BK105
     clear BK106
     clear BK107
     clear HB
     obtain ⟨BK105, BK106, BK107, HB⟩ := n_
     refine start_ (n := 11) (S := fun w' => w'.cell? ⟨gb105, 0, none⟩ = some (.int .i64 a0_0) ∧ w'.cell? ⟨gb105, 1, none⟩ = some (.int .i64 (wrap64 (a0_1 + a1_1))) ∧ w'.cell? ⟨gb105, 2, none⟩ = some (.int .i64 a0_2) ∧ w'.cell? ⟨gb105, 3, none⟩ = some (.int .i64 a0_3)) (ds := []) #[false, false, false, false, false, false, false, false, false, false, false] (by kernel_rfl) rfl rfl ⟨(blk_cell BK105.out 0).trans rfl, (blk_cell BK105.out 1).trans rfl, (blk_cell BK105.out 2).trans rfl, (blk_cell BK105.out 3).trans rfl⟩ (fun hHeld => ?_); refine with_tabW spec_l29Make.tab10 spec_l29Make.bits10 (fun HT_ HW_ => ?_)
     generalize w35.drew = w36 at BK105 BK106 BK107 HB hHeld ⊢
     refine pure_ (i := 1) (N := some 39) (v := ?_) (a' := ?_) #[false, true, false, false, false, false, false, false, false, false, false] rfl rfl (any_of HT_.out (by kernel_rfl)) (fun _ _ _ h => h) (Or.inl ⟨by rfl, ?_⟩) ?_ ?_
     rotate_left; (focus exact gs); rotate_left; (focus exact pt)
     refine take_ (i := 0) (N := some 38) (v := ?_) (a' := ?_) #[true, true, false, false, false, false, false, false, false, false, false] rfl rfl (take_ofW HT_.out HW_.out (by kernel_rfl)) (fun _ _ _ h => h) (Or.inl ⟨by rfl, ?_⟩) hHeld ?_ ?_
     rotate_left
     ·rintro w' ⟨s0, s1, s2, s3⟩
      go_simp
      with_reducible rfl
     rotate_left
     ·exact pt
     refine take_ (i := 2) (N := some 40) (v := ?_) (a' := ?_) #[true, true, true, false, false, false, false, false, false, false, false] rfl rfl (take_ofW HT_.out HW_.out (by kernel_rfl)) (fun _ _ _ h => h) (Or.inl ⟨by rfl, ?_⟩) hHeld ?_ ?_
     rotate_left
     ·rintro w' ⟨s0, s1, s2, s3⟩
      go_simp
      with_reducible rfl
     rotate_left
     ·exact pt
     refine pure_ (i := 3) (N := some 41) (v := ?_) (a' := ?_) #[true, true, true, true, false, false, false, false, false, false, false] rfl rfl (any_of HT_.out (by kernel_rfl)) (fun _ _ _ h => h) (Or.inl ⟨by rfl, ?_⟩) ?_ ?_
     rotate_left; (focus exact gs); rotate_left; (focus exact pt)
     refine pure_ (i := 4) (N := some 42) (v := ?_) (a' := ?_) #[true, true, true, true, true, false, false, false, false, false, false] rfl rfl (any_of HT_.out (by kernel_rfl)) (fun _ _ _ h => h) (Or.inl ⟨by rfl, ?_⟩) ?_ ?_
     rotate_left; (focus exact gs); rotate_left; (focus exact pt)
     refine pure_ (i := 5) (N := some 43) (v := ?_) (a' := ?_) #[true, true, true, true, true, true, false, false, false, false, false] rfl rfl (any_of HT_.out (by kernel_rfl)) (fun _ _ _ h => h) (Or.inl ⟨by rfl, ?_⟩) ?_ ?_
     rotate_left; (focus exact gs); rotate_left; (focus exact pt)
     refine take_ (i := 6) (N := some 44) (v := ?_) (a' := ?_) #[true, true, true, true, true, true, true, false, false, false, false] rfl rfl (take_ofW HT_.out HW_.out (by kernel_rfl)) (fun _ _ _ h => h) (Or.inl ⟨by rfl, ?_⟩) hHeld ?_ ?_
     rotate_left
     ·rintro w' ⟨s0, s1, s2, s3⟩
      go_simp
      with_reducible rfl
     rotate_left
     ·exact pt
     refine pure_ (i := 7) (N := some 45) (v := ?_) (a' := ?_) #[true, true, true, true, true, true, true, true, false, false, false] rfl rfl (any_of HT_.out (by kernel_rfl)) (fun _ _ _ h => h) (Or.inl ⟨by rfl, ?_⟩) ?_ ?_
     rotate_left; (focus exact gs); rotate_left; (focus exact pt)
     refine pure_ (i := 8) (N := some 46) (v := ?_) (a' := ?_) #[true, true, true, true, true, true, true, true, true, false, false] rfl rfl (any_of HT_.out (by kernel_rfl)) (fun _ _ _ h => h) (Or.inl ⟨by rfl, ?_⟩) ?_ ?_
     rotate_left; (focus exact gs); rotate_left; (focus exact pt)
     refine one_ (i := 9) (N := none) #[true, true, true, true, true, true, true, true, true, true, false] rfl rfl (one_of HT_.out (by kernel_rfl)) (by decide) (fun K hK => ?_)
     have hs37 := bc BK107.out 0 (.int .i64 0)
     have hfs37 := bz BK107.out 0
     have hns37_0 := NB105_107.out
     have hns37_1 := NB106_107.out
     have hms37_0 := NB107_105.out
     have hms37_1 := NB107_106.out
     have hs38 := bc BK107.out 1 (.int .i64 0)
     have hfs38 := bz BK107.out 1
     have hns38_0 := NB105_107.out
     have hns38_1 := NB106_107.out
     have hms38_0 := NB107_105.out
     have hms38_1 := NB107_106.out
     have hs39 := bc BK107.out 2 (.int .i64 0)
     have hfs39 := bz BK107.out 2
     have hns39_0 := NB105_107.out
     have hns39_1 := NB106_107.out
     have hms39_0 := NB107_105.out
     have hms39_1 := NB107_106.out
     have hs40 := bc BK107.out 3 (.int .i64 0)
     have hfs40 := bz BK107.out 3
     have hns40_0 := NB105_107.out
     have hns40_1 := NB106_107.out
     have hms40_0 := NB107_105.out
     have hms40_1 := NB107_106.out
     refine skip_ (w1 := ?_) (by rfl) rfl ?_ ?_
     rotate_left
     ·go_simp
      rfl
     refine hK.out _ _ ⟨((cell_far (p := ⟨gb107, _, none⟩) NB105_107.out _).trans (((cell_far (p := ⟨gb107, _, none⟩) NB105_107.out _).trans (((cell_far (p := ⟨gb107, _, none⟩) NB105_107.out _).trans (((cell_far (p := ⟨gb107, _, none⟩) NB105_107.out _).trans (hHeld.1)))))))), ((cell_far (p := ⟨gb107, _, none⟩) NB105_107.out _).trans (((cell_far (p := ⟨gb107, _, none⟩) NB105_107.out _).trans (((cell_far (p := ⟨gb107, _, none⟩) NB105_107.out _).trans (((cell_far (p := ⟨gb107, _, none⟩) NB105_107.out _).trans (hHeld.2.1)))))))), ((cell_far (p := ⟨gb107, _, none⟩) NB105_107.out _).trans (((cell_far (p := ⟨gb107, _, none⟩) NB105_107.out _).trans (((cell_far (p := ⟨gb107, _, none⟩) NB105_107.out _).trans (((cell_far (p := ⟨gb107, _, none⟩) NB105_107.out _).trans (hHeld.2.2.1)))))))), ((cell_far (p := ⟨gb107, _, none⟩) NB105_107.out _).trans (((cell_far (p := ⟨gb107, _, none⟩) NB105_107.out _).trans (((cell_far (p := ⟨gb107, _, none⟩) NB105_107.out _).trans (((cell_far (p := ⟨gb107, _, none⟩) NB105_107.out _).trans (hHeld.2.2.2))))))))⟩ (fun hHeld => ?_)
     clear hK K
     refine pure_ (i := 10) (N := some 5) (v := ?_) (a' := ?_) #[true, true, true, true, true, true, true, true, true, true, true] rfl rfl (any_of HT_.out (by kernel_rfl)) (fun _ _ _ h => h) (Or.inl ⟨by rfl, ?_⟩) ?_ ?_
     rotate_left; (focus exact gs); rotate_left; (focus exact pt)
     refine done_ (done_of HT_.out (by kernel_rfl)) ?_
     try go_wp2
     refine bodyPost_ret (results_ct rfl _ _ gb107 29 #[.int .i64 a0_0, .int .i64 (wrap64 (a0_1 + a1_1)), .int .i64 a0_2, .int .i64 a0_3] (0, 0) _ rfl (bp0 BK107.out) Tryd.underlying29 rfl (by kernel_rfl)) rfl ?_
     exact ⟨er, bl3 HB.out GE105.out GE106.out GE107.out⟩
    ·rw [if_neg c26] at H
     have c26b0 : decide (0 < a0_0) = false := decide_eq_false c26
     clear c26
     simp only [Option.some.injEq, Prod.mk.injEq] at H
     obtain ⟨rfl, rfl, rfl, rfl, rfl⟩ := H
     go_enter Tryd.func27, Tryd.ntmps27
     try go_wp2_with (first | ((with_reducible refine gate_dst (N := 2) rfl ?_); refine box_event ?hg (N := 2) ?hd (cs := #[.int .i64 a0_0, .int .i64 a0_1, .int .i64 a0_2, .int .i64 a0_3]) (t := 29) ?hr ?_; (case hd => rfl); (case hg => rfl); (case hr => first | (go_simp; done) | (go_simp; rfl)); intro gb105 hg w41 hbox hb; have n_ := (⟨am (below_step (bl0 HB.out) hb), am (hbox), am ((gw hg (bl0 HB.out) : w.heap.size ≤ gb105)), am ((gw hg (bl0 HB.out) : w.heap.size ≤ gb105))⟩ : _ ∧ _ ∧ _ ∧ _); clear HB; obtain ⟨HB, BK105, GW105, GE105⟩ := n_; clear hb hbox hg) | ((with_reducible refine gate_dst (N := 3) rfl ?_); refine box_event ?hg (N := 3) ?hd (cs := #[.int .i64 a1_0, .int .i64 a1_1]) (t := 31) ?hr ?_; (case hd => rfl); (case hg => rfl); (case hr => first | (go_simp; done) | (go_simp; rfl)); intro gb106 hg w42 hbox hb; have n_ := (⟨am (blk_below (bf0 BK105.out) hb), am (below_step (bl1 HB.out GE105.out) hb), am (hbox), am ((gw hg (bl1 HB.out GE105.out) : w.heap.size ≤ gb106)), am ((gw hg (bl1 HB.out GE105.out) : w.heap.size ≤ gb106)), am ((nl hg (bf0 BK105.out) : gb105 ≠ gb106)), am ((ng hg (bf0 BK105.out) : gb106 ≠ gb105))⟩ : _ ∧ _ ∧ _ ∧ _ ∧ _ ∧ _ ∧ _); clear BK105 HB; obtain ⟨BK105, HB, BK106, GW106, GE106, NB105_106, NB106_105⟩ := n_; clear hb hbox hg) | ((with_reducible refine gate_dst (N := 4) rfl ?_); refine box_event ?hg (N := 4) ?hd (cs := #[.int .i64 0, .int .i64 0, .int .i64 0, .int .i64 0]) (t := 29) ?hr ?_; (case hd => rfl); (case hg => rfl); (case hr => first | (go_simp; done) | (go_simp; rfl)); intro gb107 hg w43 hbox hb; have n_ := (⟨am (blk_below (bf0 BK105.out) hb), am (blk_below (bf0 BK106.out) hb), am (below_step (bl2 HB.out GE105.out GE106.out) hb), am (hbox), am ((gw hg (bl2 HB.out GE105.out GE106.out) : w.heap.size ≤ gb107)), am ((gw hg (bl2 HB.out GE105.out GE106.out) : w.heap.size ≤ gb107)), am ((nl hg (bf0 BK105.out) : gb105 ≠ gb107)), am ((ng hg (bf0 BK105.out) : gb107 ≠ gb105)), am ((nl hg (bf0 BK106.out) : gb106 ≠ gb107)), am ((ng hg (bf0 BK106.out) : gb107 ≠ gb106))⟩ : _ ∧ _ ∧ _ ∧ _ ∧ _ ∧ _ ∧ _ ∧ _ ∧ _ ∧ _); clear BK105 BK106 HB; obtain ⟨BK105, BK106, HB, BK107, GW107, GE107, NB105_107, NB107_105, NB106_107, NB107_106⟩ := n_; clear hb hbox hg; have hnb44 := NB106_105.out; have hnc44 := NB105_106.out; have hnb45 := NB106_107.out; have hnc45 := NB107_106.out; obtain ⟨hcz46_0, hcz46_1, hfz46_0, hfz46_1⟩ := cs2 BK106.out) | ((with_reducible refine gate_callee (f := 21) rfl ?_); refine goesL_ (some 10) rfl rfl Tryd.func21 (by kernel_rfl) rfl #[.int .i64 a1_1, .int .i64 0, .int .i64 1000000000] rfl lnp ?_; (with_reducible refine (spec_l01In.calls a1_1 0 1000000000 true _ A3.out).mono ?_); rintro e w' ⟨rfl, ⟨nd, rfl⟩⟩; refine ⟨_, rfl, ?_⟩; (try (rw [drewN_self w43]; generalize hq_ : World.drewN w43 _ = w43; have n0_ : Aside0 (w43.heap[gb105]? = some (.cells #[.int .i64 a0_0, .int .i64 a0_1, .int .i64 a0_2, .int .i64 a0_3] 29 (0, 0))) := ⟨by rw [← hq_]; exact (bf0 BK105.out)⟩; have n1_ : Aside0 (w43.heap[gb106]? = some (.cells #[.int .i64 a1_0, .int .i64 a1_1] 31 (0, 0))) := ⟨by rw [← hq_]; exact (bf0 BK106.out)⟩; have n2_ : Aside0 (w43.heap[gb107]? = some (.cells #[.int .i64 0, .int .i64 0, .int .i64 0, .int .i64 0] 29 (0, 0))) := ⟨by rw [← hq_]; exact (bf0 BK107.out)⟩; have n3_ : Aside0 (Below w.heap.size w w43) := ⟨by rw [← hq_]; exact (bl3 HB.out GE105.out GE106.out GE107.out)⟩; clear BK105 BK106 BK107 HB hq_; have BK105 := n0_; have BK106 := n1_; have BK107 := n2_; have HB := n3_; clear n0_ n1_ n2_ n3_)); have hnb47 := NB105_107.out; have hnc47 := NB107_105.out; obtain ⟨hcz48_0, hcz48_1, hcz48_2, hcz48_3, hfz48_0, hfz48_1, hfz48_2, hfz48_3⟩ := cs4 BK105.out; have hcy106_0 := bc BK106.out 0 (.int .i64 a1_0); have hcy106_1 := bc BK106.out 1 (.int .i64 a1_1); have hcy107_0 := bc BK107.out 0 (.int .i64 0); have hcy107_1 := bc BK107.out 1 (.int .i64 0); have hcy107_2 := bc BK107.out 2 (.int .i64 0); have hcy107_3 := bc BK107.out 3 (.int .i64 0)))
     have n0_ : Aside0 ((w43.setCell ⟨gb105, 1, none⟩ (.int .i64 (wrap64 (a0_1 + a1_1)))).heap[gb105]? = some (.cells #[.int .i64 a0_0, .int .i64 (wrap64 (a0_1 + a1_1)), .int .i64 a0_2, .int .i64 a0_3] 29 (0, 0))) := ⟨by (with_reducible repeat (first | refine blk_drewN ?_ _ | refine blk_drew ?_ | refine blk_alloc ?_ _)); refine blk_put (cs := #[.int .i64 a0_0, .int .i64 a0_1, .int .i64 a0_2, .int .i64 a0_3]) ?_ 1 _ rfl; exact bf0 BK105.out⟩
     have n1_ : Aside0 ((w43.setCell ⟨gb105, 1, none⟩ (.int .i64 (wrap64 (a0_1 + a1_1)))).heap[gb106]? = some (.cells #[.int .i64 a1_0, .int .i64 a1_1] 31 (0, 0))) := ⟨bf1 BK106.out NB106_105.out⟩
     have n2_ : Aside0 ((w43.setCell ⟨gb105, 1, none⟩ (.int .i64 (wrap64 (a0_1 + a1_1)))).heap[gb107]? = some (.cells #[.int .i64 0, .int .i64 0, .int .i64 0, .int .i64 0] 29 (0, 0))) := ⟨bf1 BK107.out NB107_105.out⟩
     have n3_ : Aside0 (Below w.heap.size w (w43.setCell ⟨gb105, 1, none⟩ (.int .i64 (wrap64 (a0_1 + a1_1))))) := ⟨bl3 HB.out GE105.out GE106.out GE107.out⟩
     (try clear BK105)
     (try clear BK106)
     (try clear BK107)
     (try clear HB)
     generalize (w43.setCell ⟨gb105, 1, none⟩ (.int .i64 (wrap64 (a0_1 + a1_1)))) = w49 at n0_ n1_ n2_ n3_ ⊢
     have BK105 := n0_
     have BK106 := n1_
     have BK107 := n2_
     have HB := n3_
     clear n0_ n1_ n2_ n3_
     have n_ := (⟨am (blk_drew BK105.out), am (blk_drew BK106.out), am (blk_drew BK107.out), am (below_drew1 HB.out)⟩ : _ ∧ _ ∧ _ ∧ _)
     clear BK105
     clear BK106
     clear BK107
     clear HB
     obtain ⟨BK105, BK106, BK107, HB⟩ := n_
     refine start_ (n := 11) (S := fun w' => w'.cell? ⟨gb105, 0, none⟩ = some (.int .i64 a0_0) ∧ w'.cell? ⟨gb105, 1, none⟩ = some (.int .i64 (wrap64 (a0_1 + a1_1))) ∧ w'.cell? ⟨gb105, 2, none⟩ = some (.int .i64 a0_2) ∧ w'.cell? ⟨gb105, 3, none⟩ = some (.int .i64 a0_3)) (ds := []) #[false, false, false, false, false, false, false, false, false, false, false] (by kernel_rfl) rfl rfl ⟨(blk_cell BK105.out 0).trans rfl, (blk_cell BK105.out 1).trans rfl, (blk_cell BK105.out 2).trans rfl, (blk_cell BK105.out 3).trans rfl⟩ (fun hHeld => ?_); refine with_tabW spec_l29Make.tab10 spec_l29Make.bits10 (fun HT_ HW_ => ?_)
     generalize w49.drew = w50 at BK105 BK106 BK107 HB hHeld ⊢
     refine pure_ (i := 1) (N := some 39) (v := ?_) (a' := ?_) #[false, true, false, false, false, false, false, false, false, false, false] rfl rfl (any_of HT_.out (by kernel_rfl)) (fun _ _ _ h => h) (Or.inl ⟨by rfl, ?_⟩) ?_ ?_
     rotate_left; (focus exact gs); rotate_left; (focus exact pt)
     refine take_ (i := 0) (N := some 38) (v := ?_) (a' := ?_) #[true, true, false, false, false, false, false, false, false, false, false] rfl rfl (take_ofW HT_.out HW_.out (by kernel_rfl)) (fun _ _ _ h => h) (Or.inl ⟨by rfl, ?_⟩) hHeld ?_ ?_
     rotate_left
     ·rintro w' ⟨s0, s1, s2, s3⟩
      go_simp
      with_reducible rfl
     rotate_left
     ·exact pt
     refine take_ (i := 2) (N := some 40) (v := ?_) (a' := ?_) #[true, true, true, false, false, false, false, false, false, false, false] rfl rfl (take_ofW HT_.out HW_.out (by kernel_rfl)) (fun _ _ _ h => h) (Or.inl ⟨by rfl, ?_⟩) hHeld ?_ ?_
     rotate_left
     ·rintro w' ⟨s0, s1, s2, s3⟩
      go_simp
      with_reducible rfl
     rotate_left
     ·exact pt
     refine pure_ (i := 3) (N := some 41) (v := ?_) (a' := ?_) #[true, true, true, true, false, false, false, false, false, false, false] rfl rfl (any_of HT_.out (by kernel_rfl)) (fun _ _ _ h => h) (Or.inl ⟨by rfl, ?_⟩) ?_ ?_
     rotate_left; (focus exact gs); rotate_left; (focus exact pt)
     refine pure_ (i := 4) (N := some 42) (v := ?_) (a' := ?_) #[true, true, true, true, true, false, false, false, false, false, false] rfl rfl (any_of HT_.out (by kernel_rfl)) (fun _ _ _ h => h) (Or.inl ⟨by rfl, ?_⟩) ?_ ?_
     rotate_left; (focus exact gs); rotate_left; (focus exact pt)
     refine pure_ (i := 5) (N := some 43) (v := undef) (a' := ?_) #[true, true, true, true, true, true, false, false, false, false, false] rfl rfl (any_of HT_.out (by kernel_rfl)) (fun _ _ _ h => h) (Or.inr ⟨by rfl, rfl⟩) ?_ ?_
     rotate_left
     ·exact pt
     refine pure_ (i := 6) (N := some 44) (v := undef) (a' := ?_) #[true, true, true, true, true, true, true, false, false, false, false] rfl rfl (any_of HT_.out (by kernel_rfl)) (fun _ _ _ h => h) (Or.inr ⟨by rfl, rfl⟩) ?_ ?_
     rotate_left
     ·exact pt
     refine pure_ (i := 7) (N := some 45) (v := undef) (a' := ?_) #[true, true, true, true, true, true, true, true, false, false, false] rfl rfl (any_of HT_.out (by kernel_rfl)) (fun _ _ _ h => h) (Or.inr ⟨by rfl, rfl⟩) ?_ ?_
     rotate_left
     ·exact pt
     refine pure_ (i := 8) (N := some 46) (v := ?_) (a' := ?_) #[true, true, true, true, true, true, true, true, true, false, false] rfl rfl (any_of HT_.out (by kernel_rfl)) (fun _ _ _ h => h) (Or.inl ⟨by rfl, ?_⟩) ?_ ?_
     rotate_left; (focus exact gs); rotate_left; (focus exact pt)
     refine one_ (i := 9) (N := none) #[true, true, true, true, true, true, true, true, true, true, false] rfl rfl (one_of HT_.out (by kernel_rfl)) (by decide) (fun K hK => ?_)
     have hs51 := bc BK107.out 0 (.int .i64 0)
     have hfs51 := bz BK107.out 0
     have hns51_0 := NB105_107.out
     have hns51_1 := NB106_107.out
     have hms51_0 := NB107_105.out
     have hms51_1 := NB107_106.out
     have hs52 := bc BK107.out 1 (.int .i64 0)
     have hfs52 := bz BK107.out 1
     have hns52_0 := NB105_107.out
     have hns52_1 := NB106_107.out
     have hms52_0 := NB107_105.out
     have hms52_1 := NB107_106.out
     have hs53 := bc BK107.out 2 (.int .i64 0)
     have hfs53 := bz BK107.out 2
     have hns53_0 := NB105_107.out
     have hns53_1 := NB106_107.out
     have hms53_0 := NB107_105.out
     have hms53_1 := NB107_106.out
     have hs54 := bc BK107.out 3 (.int .i64 0)
     have hfs54 := bz BK107.out 3
     have hns54_0 := NB105_107.out
     have hns54_1 := NB106_107.out
     have hms54_0 := NB107_105.out
     have hms54_1 := NB107_106.out
     refine skip_ (w1 := ?_) (by rfl) rfl ?_ ?_
     rotate_left
     ·go_simp
      rfl
     refine hK.out _ _ ⟨((cell_far (p := ⟨gb107, _, none⟩) NB105_107.out _).trans (((cell_far (p := ⟨gb107, _, none⟩) NB105_107.out _).trans (((cell_far (p := ⟨gb107, _, none⟩) NB105_107.out _).trans (((cell_far (p := ⟨gb107, _, none⟩) NB105_107.out _).trans (hHeld.1)))))))), ((cell_far (p := ⟨gb107, _, none⟩) NB105_107.out _).trans (((cell_far (p := ⟨gb107, _, none⟩) NB105_107.out _).trans (((cell_far (p := ⟨gb107, _, none⟩) NB105_107.out _).trans (((cell_far (p := ⟨gb107, _, none⟩) NB105_107.out _).trans (hHeld.2.1)))))))), ((cell_far (p := ⟨gb107, _, none⟩) NB105_107.out _).trans (((cell_far (p := ⟨gb107, _, none⟩) NB105_107.out _).trans (((cell_far (p := ⟨gb107, _, none⟩) NB105_107.out _).trans (((cell_far (p := ⟨gb107, _, none⟩) NB105_107.out _).trans (hHeld.2.2.1)))))))), ((cell_far (p := ⟨gb107, _, none⟩) NB105_107.out _).trans (((cell_far (p := ⟨gb107, _, none⟩) NB105_107.out _).trans (((cell_far (p := ⟨gb107, _, none⟩) NB105_107.out _).trans (((cell_far (p := ⟨gb107, _, none⟩) NB105_107.out _).trans (hHeld.2.2.2))))))))⟩ (fun hHeld => ?_)
     clear hK K
     refine pure_ (i := 10) (N := some 5) (v := ?_) (a' := ?_) #[true, true, true, true, true, true, true, true, true, true, true] rfl rfl (any_of HT_.out (by kernel_rfl)) (fun _ _ _ h => h) (Or.inl ⟨by rfl, ?_⟩) ?_ ?_
     rotate_left; (focus exact gs); rotate_left; (focus exact pt)
     refine done_ (done_of HT_.out (by kernel_rfl)) ?_
     try go_wp2
     refine bodyPost_ret (results_ct rfl _ _ gb107 29 #[.int .i64 a0_0, .int .i64 (wrap64 (a0_1 + a1_1)), .int .i64 a0_2, .int .i64 a0_3] (0, 0) _ rfl (bp0 BK107.out) Tryd.underlying29 rfl (by kernel_rfl)) rfl ?_
     exact ⟨er, bl3 HB.out GE105.out GE106.out GE107.out⟩
   ·rw [if_neg c25] at H
    have c25b0 : (a1_0 == 2) = false := beq_eq_false_iff_ne.mpr c25
    have c25b1 : (a1_0 != 2) = true := bne_iff_ne.mpr c25
    by_cases c55 : a1_0 = 3
    ·rw [if_pos c55] at H
     have c55b0 : (a1_0 == 3) = true := beq_iff_eq.mpr c55
     have c55b1 : (a1_0 != 3) = false := bne_eq_false_iff_eq.mpr c55
     clear c55
     by_cases c56 : a0_0 > 0
     ·rw [if_pos c56] at H
      have c56b0 : decide (0 < a0_0) = true := decide_eq_true c56
      clear c56
      by_cases c57 : a1_1 < 12
      ·rw [if_pos c57] at H
       have c57b0 : decide (a1_1 < 12) = true := decide_eq_true c57
       clear c57
       simp only [Option.some.injEq, Prod.mk.injEq] at H
       obtain ⟨rfl, rfl, rfl, rfl, rfl⟩ := H
       go_enter Tryd.func27, Tryd.ntmps27
       try go_wp2_with (first | ((with_reducible refine gate_dst (N := 2) rfl ?_); refine box_event ?hg (N := 2) ?hd (cs := #[.int .i64 a0_0, .int .i64 a0_1, .int .i64 a0_2, .int .i64 a0_3]) (t := 29) ?hr ?_; (case hd => rfl); (case hg => rfl); (case hr => first | (go_simp; done) | (go_simp; rfl)); intro gb105 hg w58 hbox hb; have n_ := (⟨am (below_step (bl0 HB.out) hb), am (hbox), am ((gw hg (bl0 HB.out) : w.heap.size ≤ gb105)), am ((gw hg (bl0 HB.out) : w.heap.size ≤ gb105))⟩ : _ ∧ _ ∧ _ ∧ _); clear HB; obtain ⟨HB, BK105, GW105, GE105⟩ := n_; clear hb hbox hg) | ((with_reducible refine gate_dst (N := 3) rfl ?_); refine box_event ?hg (N := 3) ?hd (cs := #[.int .i64 a1_0, .int .i64 a1_1]) (t := 31) ?hr ?_; (case hd => rfl); (case hg => rfl); (case hr => first | (go_simp; done) | (go_simp; rfl)); intro gb106 hg w59 hbox hb; have n_ := (⟨am (blk_below (bf0 BK105.out) hb), am (below_step (bl1 HB.out GE105.out) hb), am (hbox), am ((gw hg (bl1 HB.out GE105.out) : w.heap.size ≤ gb106)), am ((gw hg (bl1 HB.out GE105.out) : w.heap.size ≤ gb106)), am ((nl hg (bf0 BK105.out) : gb105 ≠ gb106)), am ((ng hg (bf0 BK105.out) : gb106 ≠ gb105))⟩ : _ ∧ _ ∧ _ ∧ _ ∧ _ ∧ _ ∧ _); clear BK105 HB; obtain ⟨BK105, HB, BK106, GW106, GE106, NB105_106, NB106_105⟩ := n_; clear hb hbox hg) | ((with_reducible refine gate_dst (N := 4) rfl ?_); refine box_event ?hg (N := 4) ?hd (cs := #[.int .i64 0, .int .i64 0, .int .i64 0, .int .i64 0]) (t := 29) ?hr ?_; (case hd => rfl); (case hg => rfl); (case hr => first | (go_simp; done) | (go_simp; rfl)); intro gb107 hg w60 hbox hb; have n_ := (⟨am (blk_below (bf0 BK105.out) hb), am (blk_below (bf0 BK106.out) hb), am (below_step (bl2 HB.out GE105.out GE106.out) hb), am (hbox), am ((gw hg (bl2 HB.out GE105.out GE106.out) : w.heap.size ≤ gb107)), am ((gw hg (bl2 HB.out GE105.out GE106.out) : w.heap.size ≤ gb107)), am ((nl hg (bf0 BK105.out) : gb105 ≠ gb107)), am ((ng hg (bf0 BK105.out) : gb107 ≠ gb105)), am ((nl hg (bf0 BK106.out) : gb106 ≠ gb107)), am ((ng hg (bf0 BK106.out) : gb107 ≠ gb106))⟩ : _ ∧ _ ∧ _ ∧ _ ∧ _ ∧ _ ∧ _ ∧ _ ∧ _ ∧ _); clear BK105 BK106 HB; obtain ⟨BK105, BK106, HB, BK107, GW107, GE107, NB105_107, NB107_105, NB106_107, NB107_106⟩ := n_; clear hb hbox hg; have hnb61 := NB106_105.out; have hnc61 := NB105_106.out; have hnb62 := NB106_107.out; have hnc62 := NB107_106.out; obtain ⟨hcz63_0, hcz63_1, hfz63_0, hfz63_1⟩ := cs2 BK106.out) | ((with_reducible refine gate_callee (f := 21) rfl ?_); refine goesL_ (some 10) rfl rfl Tryd.func21 (by kernel_rfl) rfl #[.int .i64 a1_1, .int .i64 0, .int .i64 1000000000] rfl lnp ?_; (with_reducible refine (spec_l01In.calls a1_1 0 1000000000 true _ A3.out).mono ?_); rintro e w' ⟨rfl, ⟨nd, rfl⟩⟩; refine ⟨_, rfl, ?_⟩; (try (rw [drewN_self w60]; generalize hq_ : World.drewN w60 _ = w60; have n0_ : Aside0 (w60.heap[gb105]? = some (.cells #[.int .i64 a0_0, .int .i64 a0_1, .int .i64 a0_2, .int .i64 a0_3] 29 (0, 0))) := ⟨by rw [← hq_]; exact (bf0 BK105.out)⟩; have n1_ : Aside0 (w60.heap[gb106]? = some (.cells #[.int .i64 a1_0, .int .i64 a1_1] 31 (0, 0))) := ⟨by rw [← hq_]; exact (bf0 BK106.out)⟩; have n2_ : Aside0 (w60.heap[gb107]? = some (.cells #[.int .i64 0, .int .i64 0, .int .i64 0, .int .i64 0] 29 (0, 0))) := ⟨by rw [← hq_]; exact (bf0 BK107.out)⟩; have n3_ : Aside0 (Below w.heap.size w w60) := ⟨by rw [← hq_]; exact (bl3 HB.out GE105.out GE106.out GE107.out)⟩; clear BK105 BK106 BK107 HB hq_; have BK105 := n0_; have BK106 := n1_; have BK107 := n2_; have HB := n3_; clear n0_ n1_ n2_ n3_)); have hnb64 := NB105_107.out; have hnc64 := NB107_105.out; obtain ⟨hcz65_0, hcz65_1, hcz65_2, hcz65_3, hfz65_0, hfz65_1, hfz65_2, hfz65_3⟩ := cs4 BK105.out; have hcy106_0 := bc BK106.out 0 (.int .i64 a1_0); have hcy106_1 := bc BK106.out 1 (.int .i64 a1_1); have hcy107_0 := bc BK107.out 0 (.int .i64 0); have hcy107_1 := bc BK107.out 1 (.int .i64 0); have hcy107_2 := bc BK107.out 2 (.int .i64 0); have hcy107_3 := bc BK107.out 3 (.int .i64 0)))
       have n0_ : Aside0 ((w60.setCell ⟨gb105, 2, none⟩ (.int .i64 (wrap64 (a0_2 + 1)))).heap[gb105]? = some (.cells #[.int .i64 a0_0, .int .i64 a0_1, .int .i64 (wrap64 (a0_2 + 1)), .int .i64 a0_3] 29 (0, 0))) := ⟨by (with_reducible repeat (first | refine blk_drewN ?_ _ | refine blk_drew ?_ | refine blk_alloc ?_ _)); refine blk_put (cs := #[.int .i64 a0_0, .int .i64 a0_1, .int .i64 a0_2, .int .i64 a0_3]) ?_ 2 _ rfl; exact bf0 BK105.out⟩
       have n1_ : Aside0 ((w60.setCell ⟨gb105, 2, none⟩ (.int .i64 (wrap64 (a0_2 + 1)))).heap[gb106]? = some (.cells #[.int .i64 a1_0, .int .i64 a1_1] 31 (0, 0))) := ⟨bf1 BK106.out NB106_105.out⟩
       have n2_ : Aside0 ((w60.setCell ⟨gb105, 2, none⟩ (.int .i64 (wrap64 (a0_2 + 1)))).heap[gb107]? = some (.cells #[.int .i64 0, .int .i64 0, .int .i64 0, .int .i64 0] 29 (0, 0))) := ⟨bf1 BK107.out NB107_105.out⟩
       have n3_ : Aside0 (Below w.heap.size w (w60.setCell ⟨gb105, 2, none⟩ (.int .i64 (wrap64 (a0_2 + 1))))) := ⟨bl3 HB.out GE105.out GE106.out GE107.out⟩
       (try clear BK105)
       (try clear BK106)
       (try clear BK107)
       (try clear HB)
       generalize (w60.setCell ⟨gb105, 2, none⟩ (.int .i64 (wrap64 (a0_2 + 1)))) = w66 at n0_ n1_ n2_ n3_ ⊢
       have BK105 := n0_
       have BK106 := n1_
       have BK107 := n2_
       have HB := n3_
       clear n0_ n1_ n2_ n3_
       have n_ := (⟨am (blk_drew BK105.out), am (blk_drew BK106.out), am (blk_drew BK107.out), am (below_drew1 HB.out)⟩ : _ ∧ _ ∧ _ ∧ _)
       clear BK105
       clear BK106
       clear BK107
       clear HB
       obtain ⟨BK105, BK106, BK107, HB⟩ := n_
       refine start_ (n := 16) (S := fun w' => w'.cell? ⟨gb105, 0, none⟩ = some (.int .i64 a0_0) ∧ w'.cell? ⟨gb105, 1, none⟩ = some (.int .i64 a0_1) ∧ w'.cell? ⟨gb105, 2, none⟩ = some (.int .i64 (wrap64 (a0_2 + 1))) ∧ w'.cell? ⟨gb105, 3, none⟩ = some (.int .i64 a0_3) ∧ w'.cell? ⟨gb106, 0, none⟩ = some (.int .i64 a1_0) ∧ w'.cell? ⟨gb106, 1, none⟩ = some (.int .i64 a1_1)) (ds := []) #[false, false, false, false, false, false, false, false, false, false, false, false, false, false, false, false] (by kernel_rfl) rfl rfl ⟨(blk_cell BK105.out 0).trans rfl, (blk_cell BK105.out 1).trans rfl, (blk_cell BK105.out 2).trans rfl, (blk_cell BK105.out 3).trans rfl, (blk_cell BK106.out 0).trans rfl, (blk_cell BK106.out 1).trans rfl⟩ (fun hHeld => ?_); refine with_tabW spec_l29Make.tab13 spec_l29Make.bits13 (fun HT_ HW_ => ?_)
       generalize w66.drew = w67 at BK105 BK106 BK107 HB hHeld ⊢
       refine pure_ (i := 1) (N := some 54) (v := ?_) (a' := ?_) #[false, true, false, false, false, false, false, false, false, false, false, false, false, false, false, false] rfl rfl (any_of HT_.out (by kernel_rfl)) (fun _ _ _ h => h) (Or.inl ⟨by rfl, ?_⟩) ?_ ?_
       rotate_left; (focus exact gs); rotate_left; (focus exact pt)
       refine take_ (i := 0) (N := some 53) (v := ?_) (a' := ?_) #[true, true, false, false, false, false, false, false, false, false, false, false, false, false, false, false] rfl rfl (take_ofW HT_.out HW_.out (by kernel_rfl)) (fun _ _ _ h => h) (Or.inl ⟨by rfl, ?_⟩) hHeld ?_ ?_
       rotate_left
       ·rintro w' ⟨s0, s1, s2, s3, s4, s5⟩
        go_simp
        with_reducible rfl
       rotate_left
       ·exact pt
       refine take_ (i := 2) (N := some 55) (v := ?_) (a' := ?_) #[true, true, true, false, false, false, false, false, false, false, false, false, false, false, false, false] rfl rfl (take_ofW HT_.out HW_.out (by kernel_rfl)) (fun _ _ _ h => h) (Or.inl ⟨by rfl, ?_⟩) hHeld ?_ ?_
       rotate_left
       ·rintro w' ⟨s0, s1, s2, s3, s4, s5⟩
        go_simp
        with_reducible rfl
       rotate_left
       ·exact pt
       refine pure_ (i := 3) (N := some 56) (v := ?_) (a' := ?_) #[true, true, true, true, false, false, false, false, false, false, false, false, false, false, false, false] rfl rfl (any_of HT_.out (by kernel_rfl)) (fun _ _ _ h => h) (Or.inl ⟨by rfl, ?_⟩) ?_ ?_
       rotate_left; (focus exact gs); rotate_left; (focus exact pt)
       refine pure_ (i := 4) (N := some 57) (v := ?_) (a' := ?_) #[true, true, true, true, true, false, false, false, false, false, false, false, false, false, false, false] rfl rfl (any_of HT_.out (by kernel_rfl)) (fun _ _ _ h => h) (Or.inl ⟨by rfl, ?_⟩) ?_ ?_
       rotate_left; (focus exact gs); rotate_left; (focus exact pt)
       refine pure_ (i := 5) (N := some 58) (v := ?_) (a' := ?_) #[true, true, true, true, true, true, false, false, false, false, false, false, false, false, false, false] rfl rfl (any_of HT_.out (by kernel_rfl)) (fun _ _ _ h => h) (Or.inl ⟨by rfl, ?_⟩) ?_ ?_
       rotate_left; (focus exact gs); rotate_left; (focus exact pt)
       refine take_ (i := 6) (N := some 59) (v := ?_) (a' := ?_) #[true, true, true, true, true, true, true, false, false, false, false, false, false, false, false, false] rfl rfl (take_ofW HT_.out HW_.out (by kernel_rfl)) (fun _ _ _ h => h) (Or.inl ⟨by rfl, ?_⟩) hHeld ?_ ?_
       rotate_left
       ·rintro w' ⟨s0, s1, s2, s3, s4, s5⟩
        go_simp
        with_reducible rfl
       rotate_left
       ·exact pt
       refine pure_ (i := 7) (N := some 60) (v := ?_) (a' := ?_) #[true, true, true, true, true, true, true, true, false, false, false, false, false, false, false, false] rfl rfl (any_of HT_.out (by kernel_rfl)) (fun _ _ _ h => h) (Or.inl ⟨by rfl, ?_⟩) ?_ ?_
       rotate_left; (focus exact gs); rotate_left; (focus exact pt)
       refine pure_ (i := 8) (N := some 61) (v := ?_) (a' := ?_) #[true, true, true, true, true, true, true, true, true, false, false, false, false, false, false, false] rfl rfl (any_of HT_.out (by kernel_rfl)) (fun _ _ _ h => h) (Or.inl ⟨by rfl, ?_⟩) ?_ ?_
       rotate_left; (focus exact gs); rotate_left; (focus exact pt)
       refine pure_ (i := 9) (N := some 62) (v := ?_) (a' := ?_) #[true, true, true, true, true, true, true, true, true, true, false, false, false, false, false, false] rfl rfl (any_of HT_.out (by kernel_rfl)) (fun _ _ _ h => h) (Or.inl ⟨by rfl, ?_⟩) ?_ ?_
       rotate_left; (focus exact gs); rotate_left; (focus exact pt)
       refine pure_ (i := 10) (N := some 63) (v := ?_) (a' := ?_) #[true, true, true, true, true, true, true, true, true, true, true, false, false, false, false, false] rfl rfl (any_of HT_.out (by kernel_rfl)) (fun _ _ _ h => h) (Or.inl ⟨by rfl, ?_⟩) ?_ ?_
       rotate_left; (focus exact gs); rotate_left; (focus exact pt)
       refine take_ (i := 11) (N := some 64) (v := ?_) (a' := ?_) #[true, true, true, true, true, true, true, true, true, true, true, true, false, false, false, false] rfl rfl (take_ofW HT_.out HW_.out (by kernel_rfl)) (fun _ _ _ h => h) (Or.inl ⟨by rfl, ?_⟩) hHeld ?_ ?_
       rotate_left
       ·rintro w' ⟨s0, s1, s2, s3, s4, s5⟩
        go_simp
        with_reducible rfl
       rotate_left
       ·exact pt
       refine pure_ (i := 12) (N := some 65) (v := ?_) (a' := ?_) #[true, true, true, true, true, true, true, true, true, true, true, true, true, false, false, false] rfl rfl (any_of HT_.out (by kernel_rfl)) (fun _ _ _ h => h) (Or.inl ⟨by rfl, ?_⟩) ?_ ?_
       rotate_left; (focus exact gs); rotate_left; (focus exact pt)
       refine pure_ (i := 13) (N := some 66) (v := ?_) (a' := ?_) #[true, true, true, true, true, true, true, true, true, true, true, true, true, true, false, false] rfl rfl (any_of HT_.out (by kernel_rfl)) (fun _ _ _ h => h) (Or.inl ⟨by rfl, ?_⟩) ?_ ?_
       rotate_left; (focus exact gs); rotate_left; (focus exact pt)
       refine one_ (i := 14) (N := none) #[true, true, true, true, true, true, true, true, true, true, true, true, true, true, true, false] rfl rfl (one_of HT_.out (by kernel_rfl)) (by decide) (fun K hK => ?_)
       have hs68 := bc BK107.out 0 (.int .i64 0)
       have hfs68 := bz BK107.out 0
       have hns68_0 := NB105_107.out
       have hns68_1 := NB106_107.out
       have hms68_0 := NB107_105.out
       have hms68_1 := NB107_106.out
       have hs69 := bc BK107.out 1 (.int .i64 0)
       have hfs69 := bz BK107.out 1
       have hns69_0 := NB105_107.out
       have hns69_1 := NB106_107.out
       have hms69_0 := NB107_105.out
       have hms69_1 := NB107_106.out
       have hs70 := bc BK107.out 2 (.int .i64 0)
       have hfs70 := bz BK107.out 2
       have hns70_0 := NB105_107.out
       have hns70_1 := NB106_107.out
       have hms70_0 := NB107_105.out
       have hms70_1 := NB107_106.out
       have hs71 := bc BK107.out 3 (.int .i64 0)
       have hfs71 := bz BK107.out 3
       have hns71_0 := NB105_107.out
       have hns71_1 := NB106_107.out
       have hms71_0 := NB107_105.out
       have hms71_1 := NB107_106.out
       refine skip_ (w1 := ?_) (by rfl) rfl ?_ ?_
       rotate_left
       ·go_simp
        rfl
       refine hK.out _ _ ⟨((cell_far (p := ⟨gb107, _, none⟩) NB105_107.out _).trans (((cell_far (p := ⟨gb107, _, none⟩) NB105_107.out _).trans (((cell_far (p := ⟨gb107, _, none⟩) NB105_107.out _).trans (((cell_far (p := ⟨gb107, _, none⟩) NB105_107.out _).trans (hHeld.1)))))))), ((cell_far (p := ⟨gb107, _, none⟩) NB105_107.out _).trans (((cell_far (p := ⟨gb107, _, none⟩) NB105_107.out _).trans (((cell_far (p := ⟨gb107, _, none⟩) NB105_107.out _).trans (((cell_far (p := ⟨gb107, _, none⟩) NB105_107.out _).trans (hHeld.2.1)))))))), ((cell_far (p := ⟨gb107, _, none⟩) NB105_107.out _).trans (((cell_far (p := ⟨gb107, _, none⟩) NB105_107.out _).trans (((cell_far (p := ⟨gb107, _, none⟩) NB105_107.out _).trans (((cell_far (p := ⟨gb107, _, none⟩) NB105_107.out _).trans (hHeld.2.2.1)))))))), ((cell_far (p := ⟨gb107, _, none⟩) NB105_107.out _).trans (((cell_far (p := ⟨gb107, _, none⟩) NB105_107.out _).trans (((cell_far (p := ⟨gb107, _, none⟩) NB105_107.out _).trans (((cell_far (p := ⟨gb107, _, none⟩) NB105_107.out _).trans (hHeld.2.2.2.1)))))))), ((cell_far (p := ⟨gb107, _, none⟩) NB106_107.out _).trans (((cell_far (p := ⟨gb107, _, none⟩) NB106_107.out _).trans (((cell_far (p := ⟨gb107, _, none⟩) NB106_107.out _).trans (((cell_far (p := ⟨gb107, _, none⟩) NB106_107.out _).trans (hHeld.2.2.2.2.1)))))))), ((cell_far (p := ⟨gb107, _, none⟩) NB106_107.out _).trans (((cell_far (p := ⟨gb107, _, none⟩) NB106_107.out _).trans (((cell_far (p := ⟨gb107, _, none⟩) NB106_107.out _).trans (((cell_far (p := ⟨gb107, _, none⟩) NB106_107.out _).trans (hHeld.2.2.2.2.2))))))))⟩ (fun hHeld => ?_)
       clear hK K
       refine pure_ (i := 15) (N := some 5) (v := ?_) (a' := ?_) #[true, true, true, true, true, true, true, true, true, true, true, true, true, true, true, true] rfl rfl (any_of HT_.out (by kernel_rfl)) (fun _ _ _ h => h) (Or.inl ⟨by rfl, ?_⟩) ?_ ?_
       rotate_left; (focus exact gs); rotate_left; (focus exact pt)
       refine done_ (done_of HT_.out (by kernel_rfl)) ?_
       try go_wp2
       refine bodyPost_ret (results_ct rfl _ _ gb107 29 #[.int .i64 a0_0, .int .i64 a0_1, .int .i64 (wrap64 (a0_2 + 1)), .int .i64 a0_3] (0, 0) _ rfl (bp0 BK107.out) Tryd.underlying29 rfl (by kernel_rfl)) rfl ?_
       exact ⟨er, bl3 HB.out GE105.out GE106.out GE107.out⟩
      ·rw [if_neg c57] at H
       have c57b0 : decide (a1_1 < 12) = false := decide_eq_false c57
       clear c57
       simp only [Option.some.injEq, Prod.mk.injEq] at H
       obtain ⟨rfl, rfl, rfl, rfl, rfl⟩ := H
       go_enter Tryd.func27, Tryd.ntmps27
       try go_wp2_with (first | ((with_reducible refine gate_dst (N := 2) rfl ?_); refine box_event ?hg (N := 2) ?hd (cs := #[.int .i64 a0_0, .int .i64 a0_1, .int .i64 a0_2, .int .i64 a0_3]) (t := 29) ?hr ?_; (case hd => rfl); (case hg => rfl); (case hr => first | (go_simp; done) | (go_simp; rfl)); intro gb105 hg w72 hbox hb; have n_ := (⟨am (below_step (bl0 HB.out) hb), am (hbox), am ((gw hg (bl0 HB.out) : w.heap.size ≤ gb105)), am ((gw hg (bl0 HB.out) : w.heap.size ≤ gb105))⟩ : _ ∧ _ ∧ _ ∧ _); clear HB; obtain ⟨HB, BK105, GW105, GE105⟩ := n_; clear hb hbox hg) | ((with_reducible refine gate_dst (N := 3) rfl ?_); refine box_event ?hg (N := 3) ?hd (cs := #[.int .i64 a1_0, .int .i64 a1_1]) (t := 31) ?hr ?_; (case hd => rfl); (case hg => rfl); (case hr => first | (go_simp; done) | (go_simp; rfl)); intro gb106 hg w73 hbox hb; have n_ := (⟨am (blk_below (bf0 BK105.out) hb), am (below_step (bl1 HB.out GE105.out) hb), am (hbox), am ((gw hg (bl1 HB.out GE105.out) : w.heap.size ≤ gb106)), am ((gw hg (bl1 HB.out GE105.out) : w.heap.size ≤ gb106)), am ((nl hg (bf0 BK105.out) : gb105 ≠ gb106)), am ((ng hg (bf0 BK105.out) : gb106 ≠ gb105))⟩ : _ ∧ _ ∧ _ ∧ _ ∧ _ ∧ _ ∧ _); clear BK105 HB; obtain ⟨BK105, HB, BK106, GW106, GE106, NB105_106, NB106_105⟩ := n_; clear hb hbox hg) | ((with_reducible refine gate_dst (N := 4) rfl ?_); refine box_event ?hg (N := 4) ?hd (cs := #[.int .i64 0, .int .i64 0, .int .i64 0, .int .i64 0]) (t := 29) ?hr ?_; (case hd => rfl); (case hg => rfl); (case hr => first | (go_simp; done) | (go_simp; rfl)); intro gb107 hg w74 hbox hb; have n_ := (⟨am (blk_below (bf0 BK105.out) hb), am (blk_below (bf0 BK106.out) hb), am (below_step (bl2 HB.out GE105.out GE106.out) hb), am (hbox), am ((gw hg (bl2 HB.out GE105.out GE106.out) : w.heap.size ≤ gb107)), am ((gw hg (bl2 HB.out GE105.out GE106.out) : w.heap.size ≤ gb107)), am ((nl hg (bf0 BK105.out) : gb105 ≠ gb107)), am ((ng hg (bf0 BK105.out) : gb107 ≠ gb105)), am ((nl hg (bf0 BK106.out) : gb106 ≠ gb107)), am ((ng hg (bf0 BK106.out) : gb107 ≠ gb106))⟩ : _ ∧ _ ∧ _ ∧ _ ∧ _ ∧ _ ∧ _ ∧ _ ∧ _ ∧ _); clear BK105 BK106 HB; obtain ⟨BK105, BK106, HB, BK107, GW107, GE107, NB105_107, NB107_105, NB106_107, NB107_106⟩ := n_; clear hb hbox hg; have hnb75 := NB106_105.out; have hnc75 := NB105_106.out; have hnb76 := NB106_107.out; have hnc76 := NB107_106.out; obtain ⟨hcz77_0, hcz77_1, hfz77_0, hfz77_1⟩ := cs2 BK106.out) | ((with_reducible refine gate_callee (f := 21) rfl ?_); refine goesL_ (some 10) rfl rfl Tryd.func21 (by kernel_rfl) rfl #[.int .i64 a1_1, .int .i64 0, .int .i64 1000000000] rfl lnp ?_; (with_reducible refine (spec_l01In.calls a1_1 0 1000000000 true _ A3.out).mono ?_); rintro e w' ⟨rfl, ⟨nd, rfl⟩⟩; refine ⟨_, rfl, ?_⟩; (try (rw [drewN_self w74]; generalize hq_ : World.drewN w74 _ = w74; have n0_ : Aside0 (w74.heap[gb105]? = some (.cells #[.int .i64 a0_0, .int .i64 a0_1, .int .i64 a0_2, .int .i64 a0_3] 29 (0, 0))) := ⟨by rw [← hq_]; exact (bf0 BK105.out)⟩; have n1_ : Aside0 (w74.heap[gb106]? = some (.cells #[.int .i64 a1_0, .int .i64 a1_1] 31 (0, 0))) := ⟨by rw [← hq_]; exact (bf0 BK106.out)⟩; have n2_ : Aside0 (w74.heap[gb107]? = some (.cells #[.int .i64 0, .int .i64 0, .int .i64 0, .int .i64 0] 29 (0, 0))) := ⟨by rw [← hq_]; exact (bf0 BK107.out)⟩; have n3_ : Aside0 (Below w.heap.size w w74) := ⟨by rw [← hq_]; exact (bl3 HB.out GE105.out GE106.out GE107.out)⟩; clear BK105 BK106 BK107 HB hq_; have BK105 := n0_; have BK106 := n1_; have BK107 := n2_; have HB := n3_; clear n0_ n1_ n2_ n3_)); have hnb78 := NB105_107.out; have hnc78 := NB107_105.out; obtain ⟨hcz79_0, hcz79_1, hcz79_2, hcz79_3, hfz79_0, hfz79_1, hfz79_2, hfz79_3⟩ := cs4 BK105.out; have hcy106_0 := bc BK106.out 0 (.int .i64 a1_0); have hcy106_1 := bc BK106.out 1 (.int .i64 a1_1); have hcy107_0 := bc BK107.out 0 (.int .i64 0); have hcy107_1 := bc BK107.out 1 (.int .i64 0); have hcy107_2 := bc BK107.out 2 (.int .i64 0); have hcy107_3 := bc BK107.out 3 (.int .i64 0)))
       have n0_ : Aside0 ((w74.setCell ⟨gb105, 2, none⟩ (.int .i64 (wrap64 (a0_2 + 1)))).heap[gb105]? = some (.cells #[.int .i64 a0_0, .int .i64 a0_1, .int .i64 (wrap64 (a0_2 + 1)), .int .i64 a0_3] 29 (0, 0))) := ⟨by (with_reducible repeat (first | refine blk_drewN ?_ _ | refine blk_drew ?_ | refine blk_alloc ?_ _)); refine blk_put (cs := #[.int .i64 a0_0, .int .i64 a0_1, .int .i64 a0_2, .int .i64 a0_3]) ?_ 2 _ rfl; exact bf0 BK105.out⟩
       have n1_ : Aside0 ((w74.setCell ⟨gb105, 2, none⟩ (.int .i64 (wrap64 (a0_2 + 1)))).heap[gb106]? = some (.cells #[.int .i64 a1_0, .int .i64 a1_1] 31 (0, 0))) := ⟨bf1 BK106.out NB106_105.out⟩
       have n2_ : Aside0 ((w74.setCell ⟨gb105, 2, none⟩ (.int .i64 (wrap64 (a0_2 + 1)))).heap[gb107]? = some (.cells #[.int .i64 0, .int .i64 0, .int .i64 0, .int .i64 0] 29 (0, 0))) := ⟨bf1 BK107.out NB107_105.out⟩
       have n3_ : Aside0 (Below w.heap.size w (w74.setCell ⟨gb105, 2, none⟩ (.int .i64 (wrap64 (a0_2 + 1))))) := ⟨bl3 HB.out GE105.out GE106.out GE107.out⟩
       (try clear BK105)
       (try clear BK106)
       (try clear BK107)
       (try clear HB)
       generalize (w74.setCell ⟨gb105, 2, none⟩ (.int .i64 (wrap64 (a0_2 + 1)))) = w80 at n0_ n1_ n2_ n3_ ⊢
       have BK105 := n0_
       have BK106 := n1_
       have BK107 := n2_
       have HB := n3_
       clear n0_ n1_ n2_ n3_
       have n_ := (⟨am (blk_drew BK105.out), am (blk_drew BK106.out), am (blk_drew BK107.out), am (below_drew1 HB.out)⟩ : _ ∧ _ ∧ _ ∧ _)
       clear BK105
       clear BK106
       clear BK107
       clear HB
       obtain ⟨BK105, BK106, BK107, HB⟩ := n_
       refine start_ (n := 16) (S := fun w' => w'.cell? ⟨gb105, 0, none⟩ = some (.int .i64 a0_0) ∧ w'.cell? ⟨gb105, 1, none⟩ = some (.int .i64 a0_1) ∧ w'.cell? ⟨gb105, 2, none⟩ = some (.int .i64 (wrap64 (a0_2 + 1))) ∧ w'.cell? ⟨gb105, 3, none⟩ = some (.int .i64 a0_3) ∧ w'.cell? ⟨gb106, 0, none⟩ = some (.int .i64 a1_0) ∧ w'.cell? ⟨gb106, 1, none⟩ = some (.int .i64 a1_1)) (ds := []) #[false, false, false, false, false, false, false, false, false, false, false, false, false, false, false, false] (by kernel_rfl) rfl rfl ⟨(blk_cell BK105.out 0).trans rfl, (blk_cell BK105.out 1).trans rfl, (blk_cell BK105.out 2).trans rfl, (blk_cell BK105.out 3).trans rfl, (blk_cell BK106.out 0).trans rfl, (blk_cell BK106.out 1).trans rfl⟩ (fun hHeld => ?_); refine with_tabW spec_l29Make.tab13 spec_l29Make.bits13 (fun HT_ HW_ => ?_)
       generalize w80.drew = w81 at BK105 BK106 BK107 HB hHeld ⊢
       refine pure_ (i := 1) (N := some 54) (v := ?_) (a' := ?_) #[false, true, false, false, false, false, false, false, false, false, false, false, false, false, false, false] rfl rfl (any_of HT_.out (by kernel_rfl)) (fun _ _ _ h => h) (Or.inl ⟨by rfl, ?_⟩) ?_ ?_
       rotate_left; (focus exact gs); rotate_left; (focus exact pt)
       refine take_ (i := 0) (N := some 53) (v := ?_) (a' := ?_) #[true, true, false, false, false, false, false, false, false, false, false, false, false, false, false, false] rfl rfl (take_ofW HT_.out HW_.out (by kernel_rfl)) (fun _ _ _ h => h) (Or.inl ⟨by rfl, ?_⟩) hHeld ?_ ?_
       rotate_left
       ·rintro w' ⟨s0, s1, s2, s3, s4, s5⟩
        go_simp
        with_reducible rfl
       rotate_left
       ·exact pt
       refine take_ (i := 2) (N := some 55) (v := ?_) (a' := ?_) #[true, true, true, false, false, false, false, false, false, false, false, false, false, false, false, false] rfl rfl (take_ofW HT_.out HW_.out (by kernel_rfl)) (fun _ _ _ h => h) (Or.inl ⟨by rfl, ?_⟩) hHeld ?_ ?_
       rotate_left
       ·rintro w' ⟨s0, s1, s2, s3, s4, s5⟩
        go_simp
        with_reducible rfl
       rotate_left
       ·exact pt
       refine pure_ (i := 3) (N := some 56) (v := ?_) (a' := ?_) #[true, true, true, true, false, false, false, false, false, false, false, false, false, false, false, false] rfl rfl (any_of HT_.out (by kernel_rfl)) (fun _ _ _ h => h) (Or.inl ⟨by rfl, ?_⟩) ?_ ?_
       rotate_left; (focus exact gs); rotate_left; (focus exact pt)
       refine pure_ (i := 4) (N := some 57) (v := ?_) (a' := ?_) #[true, true, true, true, true, false, false, false, false, false, false, false, false, false, false, false] rfl rfl (any_of HT_.out (by kernel_rfl)) (fun _ _ _ h => h) (Or.inl ⟨by rfl, ?_⟩) ?_ ?_
       rotate_left; (focus exact gs); rotate_left; (focus exact pt)
       refine pure_ (i := 5) (N := some 58) (v := ?_) (a' := ?_) #[true, true, true, true, true, true, false, false, false, false, false, false, false, false, false, false] rfl rfl (any_of HT_.out (by kernel_rfl)) (fun _ _ _ h => h) (Or.inl ⟨by rfl, ?_⟩) ?_ ?_
       rotate_left; (focus exact gs); rotate_left; (focus exact pt)
       refine take_ (i := 6) (N := some 59) (v := ?_) (a' := ?_) #[true, true, true, true, true, true, true, false, false, false, false, false, false, false, false, false] rfl rfl (take_ofW HT_.out HW_.out (by kernel_rfl)) (fun _ _ _ h => h) (Or.inl ⟨by rfl, ?_⟩) hHeld ?_ ?_
       rotate_left
       ·rintro w' ⟨s0, s1, s2, s3, s4, s5⟩
        go_simp
        with_reducible rfl
       rotate_left
       ·exact pt
       refine pure_ (i := 7) (N := some 60) (v := ?_) (a' := ?_) #[true, true, true, true, true, true, true, true, false, false, false, false, false, false, false, false] rfl rfl (any_of HT_.out (by kernel_rfl)) (fun _ _ _ h => h) (Or.inl ⟨by rfl, ?_⟩) ?_ ?_
       rotate_left; (focus exact gs); rotate_left; (focus exact pt)
       refine pure_ (i := 8) (N := some 61) (v := ?_) (a' := ?_) #[true, true, true, true, true, true, true, true, true, false, false, false, false, false, false, false] rfl rfl (any_of HT_.out (by kernel_rfl)) (fun _ _ _ h => h) (Or.inl ⟨by rfl, ?_⟩) ?_ ?_
       rotate_left; (focus exact gs); rotate_left; (focus exact pt)
       refine pure_ (i := 9) (N := some 62) (v := ?_) (a' := ?_) #[true, true, true, true, true, true, true, true, true, true, false, false, false, false, false, false] rfl rfl (any_of HT_.out (by kernel_rfl)) (fun _ _ _ h => h) (Or.inl ⟨by rfl, ?_⟩) ?_ ?_
       rotate_left; (focus exact gs); rotate_left; (focus exact pt)
       refine pure_ (i := 10) (N := some 63) (v := undef) (a' := ?_) #[true, true, true, true, true, true, true, true, true, true, true, false, false, false, false, false] rfl rfl (any_of HT_.out (by kernel_rfl)) (fun _ _ _ h => h) (Or.inr ⟨by rfl, rfl⟩) ?_ ?_
       rotate_left
       ·exact pt
       refine pure_ (i := 11) (N := some 64) (v := undef) (a' := ?_) #[true, true, true, true, true, true, true, true, true, true, true, true, false, false, false, false] rfl rfl (any_of HT_.out (by kernel_rfl)) (fun _ _ _ h => h) (Or.inr ⟨by rfl, rfl⟩) ?_ ?_
       rotate_left
       ·exact pt
       refine pure_ (i := 12) (N := some 65) (v := undef) (a' := ?_) #[true, true, true, true, true, true, true, true, true, true, true, true, true, false, false, false] rfl rfl (any_of HT_.out (by kernel_rfl)) (fun _ _ _ h => h) (Or.inr ⟨by rfl, rfl⟩) ?_ ?_
       rotate_left
       ·exact pt
       refine pure_ (i := 13) (N := some 66) (v := ?_) (a' := ?_) #[true, true, true, true, true, true, true, true, true, true, true, true, true, true, false, false] rfl rfl (any_of HT_.out (by kernel_rfl)) (fun _ _ _ h => h) (Or.inl ⟨by rfl, ?_⟩) ?_ ?_
       rotate_left; (focus exact gs); rotate_left; (focus exact pt)
       refine one_ (i := 14) (N := none) #[true, true, true, true, true, true, true, true, true, true, true, true, true, true, true, false] rfl rfl (one_of HT_.out (by kernel_rfl)) (by decide) (fun K hK => ?_)
       have hs82 := bc BK107.out 0 (.int .i64 0)
       have hfs82 := bz BK107.out 0
       have hns82_0 := NB105_107.out
       have hns82_1 := NB106_107.out
       have hms82_0 := NB107_105.out
       have hms82_1 := NB107_106.out
       have hs83 := bc BK107.out 1 (.int .i64 0)
       have hfs83 := bz BK107.out 1
       have hns83_0 := NB105_107.out
       have hns83_1 := NB106_107.out
       have hms83_0 := NB107_105.out
       have hms83_1 := NB107_106.out
       have hs84 := bc BK107.out 2 (.int .i64 0)
       have hfs84 := bz BK107.out 2
       have hns84_0 := NB105_107.out
       have hns84_1 := NB106_107.out
       have hms84_0 := NB107_105.out
       have hms84_1 := NB107_106.out
       have hs85 := bc BK107.out 3 (.int .i64 0)
       have hfs85 := bz BK107.out 3
       have hns85_0 := NB105_107.out
       have hns85_1 := NB106_107.out
       have hms85_0 := NB107_105.out
       have hms85_1 := NB107_106.out
       refine skip_ (w1 := ?_) (by rfl) rfl ?_ ?_
       rotate_left
       ·go_simp
        rfl
       refine hK.out _ _ ⟨((cell_far (p := ⟨gb107, _, none⟩) NB105_107.out _).trans (((cell_far (p := ⟨gb107, _, none⟩) NB105_107.out _).trans (((cell_far (p := ⟨gb107, _, none⟩) NB105_107.out _).trans (((cell_far (p := ⟨gb107, _, none⟩) NB105_107.out _).trans (hHeld.1)))))))), ((cell_far (p := ⟨gb107, _, none⟩) NB105_107.out _).trans (((cell_far (p := ⟨gb107, _, none⟩) NB105_107.out _).trans (((cell_far (p := ⟨gb107, _, none⟩) NB105_107.out _).trans (((cell_far (p := ⟨gb107, _, none⟩) NB105_107.out _).trans (hHeld.2.1)))))))), ((cell_far (p := ⟨gb107, _, none⟩) NB105_107.out _).trans (((cell_far (p := ⟨gb107, _, none⟩) NB105_107.out _).trans (((cell_far (p := ⟨gb107, _, none⟩) NB105_107.out _).trans (((cell_far (p := ⟨gb107, _, none⟩) NB105_107.out _).trans (hHeld.2.2.1)))))))), ((cell_far (p := ⟨gb107, _, none⟩) NB105_107.out _).trans (((cell_far (p := ⟨gb107, _, none⟩) NB105_107.out _).trans (((cell_far (p := ⟨gb107, _, none⟩) NB105_107.out _).trans (((cell_far (p := ⟨gb107, _, none⟩) NB105_107.out _).trans (hHeld.2.2.2.1)))))))), ((cell_far (p := ⟨gb107, _, none⟩) NB106_107.out _).trans (((cell_far (p := ⟨gb107, _, none⟩) NB106_107.out _).trans (((cell_far (p := ⟨gb107, _, none⟩) NB106_107.out _).trans (((cell_far (p := ⟨gb107, _, none⟩) NB106_107.out _).trans (hHeld.2.2.2.2.1)))))))), ((cell_far (p := ⟨gb107, _, none⟩) NB106_107.out _).trans (((cell_far (p := ⟨gb107, _, none⟩) NB106_107.out _).trans (((cell_far (p := ⟨gb107, _, none⟩) NB106_107.out _).trans (((cell_far (p := ⟨gb107, _, none⟩) NB106_107.out _).trans (hHeld.2.2.2.2.2))))))))⟩ (fun hHeld => ?_)
       clear hK K
       refine pure_ (i := 15) (N := some 5) (v := ?_) (a' := ?_) #[true, true, true, true, true, true, true, true, true, true, true, true, true, true, true, true] rfl rfl (any_of HT_.out (by kernel_rfl)) (fun _ _ _ h => h) (Or.inl ⟨by rfl, ?_⟩) ?_ ?_
       rotate_left; (focus exact gs); rotate_left; (focus exact pt)
       refine done_ (done_of HT_.out (by kernel_rfl)) ?_
       try go_wp2
       refine bodyPost_ret (results_ct rfl _ _ gb107 29 #[.int .i64 a0_0, .int .i64 a0_1, .int .i64 (wrap64 (a0_2 + 1)), .int .i64 a0_3] (0, 0) _ rfl (bp0 BK107.out) Tryd.underlying29 rfl (by kernel_rfl)) rfl ?_
       exact ⟨er, bl3 HB.out GE105.out GE106.out GE107.out⟩
     ·rw [if_neg c56] at H
      have c56b0 : decide (0 < a0_0) = false := decide_eq_false c56
      clear c56
      simp only [Option.some.injEq, Prod.mk.injEq] at H
      obtain ⟨rfl, rfl, rfl, rfl, rfl⟩ := H
      go_enter Tryd.func27, Tryd.ntmps27
      try go_wp2_with (first | ((with_reducible refine gate_dst (N := 2) rfl ?_); refine box_event ?hg (N := 2) ?hd (cs := #[.int .i64 a0_0, .int .i64 a0_1, .int .i64 a0_2, .int .i64 a0_3]) (t := 29) ?hr ?_; (case hd => rfl); (case hg => rfl); (case hr => first | (go_simp; done) | (go_simp; rfl)); intro gb105 hg w86 hbox hb; have n_ := (⟨am (below_step (bl0 HB.out) hb), am (hbox), am ((gw hg (bl0 HB.out) : w.heap.size ≤ gb105)), am ((gw hg (bl0 HB.out) : w.heap.size ≤ gb105))⟩ : _ ∧ _ ∧ _ ∧ _); clear HB; obtain ⟨HB, BK105, GW105, GE105⟩ := n_; clear hb hbox hg) | ((with_reducible refine gate_dst (N := 3) rfl ?_); refine box_event ?hg (N := 3) ?hd (cs := #[.int .i64 a1_0, .int .i64 a1_1]) (t := 31) ?hr ?_; (case hd => rfl); (case hg => rfl); (case hr => first | (go_simp; done) | (go_simp; rfl)); intro gb106 hg w87 hbox hb; have n_ := (⟨am (blk_below (bf0 BK105.out) hb), am (below_step (bl1 HB.out GE105.out) hb), am (hbox), am ((gw hg (bl1 HB.out GE105.out) : w.heap.size ≤ gb106)), am ((gw hg (bl1 HB.out GE105.out) : w.heap.size ≤ gb106)), am ((nl hg (bf0 BK105.out) : gb105 ≠ gb106)), am ((ng hg (bf0 BK105.out) : gb106 ≠ gb105))⟩ : _ ∧ _ ∧ _ ∧ _ ∧ _ ∧ _ ∧ _); clear BK105 HB; obtain ⟨BK105, HB, BK106, GW106, GE106, NB105_106, NB106_105⟩ := n_; clear hb hbox hg) | ((with_reducible refine gate_dst (N := 4) rfl ?_); refine box_event ?hg (N := 4) ?hd (cs := #[.int .i64 0, .int .i64 0, .int .i64 0, .int .i64 0]) (t := 29) ?hr ?_; (case hd => rfl); (case hg => rfl); (case hr => first | (go_simp; done) | (go_simp; rfl)); intro gb107 hg w88 hbox hb; have n_ := (⟨am (blk_below (bf0 BK105.out) hb), am (blk_below (bf0 BK106.out) hb), am (below_step (bl2 HB.out GE105.out GE106.out) hb), am (hbox), am ((gw hg (bl2 HB.out GE105.out GE106.out) : w.heap.size ≤ gb107)), am ((gw hg (bl2 HB.out GE105.out GE106.out) : w.heap.size ≤ gb107)), am ((nl hg (bf0 BK105.out) : gb105 ≠ gb107)), am ((ng hg (bf0 BK105.out) : gb107 ≠ gb105)), am ((nl hg (bf0 BK106.out) : gb106 ≠ gb107)), am ((ng hg (bf0 BK106.out) : gb107 ≠ gb106))⟩ : _ ∧ _ ∧ _ ∧ _ ∧ _ ∧ _ ∧ _ ∧ _ ∧ _ ∧ _); clear BK105 BK106 HB; obtain ⟨BK105, BK106, HB, BK107, GW107, GE107, NB105_107, NB107_105, NB106_107, NB107_106⟩ := n_; clear hb hbox hg; have hnb89 := NB106_105.out; have hnc89 := NB105_106.out; have hnb90 := NB106_107.out; have hnc90 := NB107_106.out; obtain ⟨hcz91_0, hcz91_1, hfz91_0, hfz91_1⟩ := cs2 BK106.out) | ((with_reducible refine gate_callee (f := 21) rfl ?_); refine goesL_ (some 10) rfl rfl Tryd.func21 (by kernel_rfl) rfl #[.int .i64 a1_1, .int .i64 0, .int .i64 1000000000] rfl lnp ?_; (with_reducible refine (spec_l01In.calls a1_1 0 1000000000 true _ A3.out).mono ?_); rintro e w' ⟨rfl, ⟨nd, rfl⟩⟩; refine ⟨_, rfl, ?_⟩; (try (rw [drewN_self w88]; generalize hq_ : World.drewN w88 _ = w88; have n0_ : Aside0 (w88.heap[gb105]? = some (.cells #[.int .i64 a0_0, .int .i64 a0_1, .int .i64 a0_2, .int .i64 a0_3] 29 (0, 0))) := ⟨by rw [← hq_]; exact (bf0 BK105.out)⟩; have n1_ : Aside0 (w88.heap[gb106]? = some (.cells #[.int .i64 a1_0, .int .i64 a1_1] 31 (0, 0))) := ⟨by rw [← hq_]; exact (bf0 BK106.out)⟩; have n2_ : Aside0 (w88.heap[gb107]? = some (.cells #[.int .i64 0, .int .i64 0, .int .i64 0, .int .i64 0] 29 (0, 0))) := ⟨by rw [← hq_]; exact (bf0 BK107.out)⟩; have n3_ : Aside0 (Below w.heap.size w w88) := ⟨by rw [← hq_]; exact (bl3 HB.out GE105.out GE106.out GE107.out)⟩; clear BK105 BK106 BK107 HB hq_; have BK105 := n0_; have BK106 := n1_; have BK107 := n2_; have HB := n3_; clear n0_ n1_ n2_ n3_)); have hnb92 := NB105_107.out; have hnc92 := NB107_105.out; obtain ⟨hcz93_0, hcz93_1, hcz93_2, hcz93_3, hfz93_0, hfz93_1, hfz93_2, hfz93_3⟩ := cs4 BK105.out; have hcy106_0 := bc BK106.out 0 (.int .i64 a1_0); have hcy106_1 := bc BK106.out 1 (.int .i64 a1_1); have hcy107_0 := bc BK107.out 0 (.int .i64 0); have hcy107_1 := bc BK107.out 1 (.int .i64 0); have hcy107_2 := bc BK107.out 2 (.int .i64 0); have hcy107_3 := bc BK107.out 3 (.int .i64 0)))
      have n0_ : Aside0 ((w88.setCell ⟨gb105, 2, none⟩ (.int .i64 (wrap64 (a0_2 + 1)))).heap[gb105]? = some (.cells #[.int .i64 a0_0, .int .i64 a0_1, .int .i64 (wrap64 (a0_2 + 1)), .int .i64 a0_3] 29 (0, 0))) := ⟨by (with_reducible repeat (first | refine blk_drewN ?_ _ | refine blk_drew ?_ | refine blk_alloc ?_ _)); refine blk_put (cs := #[.int .i64 a0_0, .int .i64 a0_1, .int .i64 a0_2, .int .i64 a0_3]) ?_ 2 _ rfl; exact bf0 BK105.out⟩
      have n1_ : Aside0 ((w88.setCell ⟨gb105, 2, none⟩ (.int .i64 (wrap64 (a0_2 + 1)))).heap[gb106]? = some (.cells #[.int .i64 a1_0, .int .i64 a1_1] 31 (0, 0))) := ⟨bf1 BK106.out NB106_105.out⟩
      have n2_ : Aside0 ((w88.setCell ⟨gb105, 2, none⟩ (.int .i64 (wrap64 (a0_2 + 1)))).heap[gb107]? = some (.cells #[.int .i64 0, .int .i64 0, .int .i64 0, .int .i64 0] 29 (0, 0))) := ⟨bf1 BK107.out NB107_105.out⟩
      have n3_ : Aside0 (Below w.heap.size w (w88.setCell ⟨gb105, 2, none⟩ (.int .i64 (wrap64 (a0_2 + 1))))) := ⟨bl3 HB.out GE105.out GE106.out GE107.out⟩
      (try clear BK105)
      (try clear BK106)
      (try clear BK107)
      (try clear HB)
      generalize (w88.setCell ⟨gb105, 2, none⟩ (.int .i64 (wrap64 (a0_2 + 1)))) = w94 at n0_ n1_ n2_ n3_ ⊢
      have BK105 := n0_
      have BK106 := n1_
      have BK107 := n2_
      have HB := n3_
      clear n0_ n1_ n2_ n3_
      have n_ := (⟨am (blk_drew BK105.out), am (blk_drew BK106.out), am (blk_drew BK107.out), am (below_drew1 HB.out)⟩ : _ ∧ _ ∧ _ ∧ _)
      clear BK105
      clear BK106
      clear BK107
      clear HB
      obtain ⟨BK105, BK106, BK107, HB⟩ := n_
      refine start_ (n := 16) (S := fun w' => w'.cell? ⟨gb105, 0, none⟩ = some (.int .i64 a0_0) ∧ w'.cell? ⟨gb105, 1, none⟩ = some (.int .i64 a0_1) ∧ w'.cell? ⟨gb105, 2, none⟩ = some (.int .i64 (wrap64 (a0_2 + 1))) ∧ w'.cell? ⟨gb105, 3, none⟩ = some (.int .i64 a0_3)) (ds := []) #[false, false, false, false, false, false, false, false, false, false, false, false, false, false, false, false] (by kernel_rfl) rfl rfl ⟨(blk_cell BK105.out 0).trans rfl, (blk_cell BK105.out 1).trans rfl, (blk_cell BK105.out 2).trans rfl, (blk_cell BK105.out 3).trans rfl⟩ (fun hHeld => ?_); refine with_tabW spec_l29Make.tab13 spec_l29Make.bits13 (fun HT_ HW_ => ?_)
      generalize w94.drew = w95 at BK105 BK106 BK107 HB hHeld ⊢
      refine pure_ (i := 1) (N := some 54) (v := ?_) (a' := ?_) #[false, true, false, false, false, false, false, false, false, false, false, false, false, false, false, false] rfl rfl (any_of HT_.out (by kernel_rfl)) (fun _ _ _ h => h) (Or.inl ⟨by rfl, ?_⟩) ?_ ?_
      rotate_left; (focus exact gs); rotate_left; (focus exact pt)
      refine take_ (i := 0) (N := some 53) (v := ?_) (a' := ?_) #[true, true, false, false, false, false, false, false, false, false, false, false, false, false, false, false] rfl rfl (take_ofW HT_.out HW_.out (by kernel_rfl)) (fun _ _ _ h => h) (Or.inl ⟨by rfl, ?_⟩) hHeld ?_ ?_
      rotate_left
      ·rintro w' ⟨s0, s1, s2, s3⟩
       go_simp
       with_reducible rfl
      rotate_left
      ·exact pt
      refine take_ (i := 2) (N := some 55) (v := ?_) (a' := ?_) #[true, true, true, false, false, false, false, false, false, false, false, false, false, false, false, false] rfl rfl (take_ofW HT_.out HW_.out (by kernel_rfl)) (fun _ _ _ h => h) (Or.inl ⟨by rfl, ?_⟩) hHeld ?_ ?_
      rotate_left
      ·rintro w' ⟨s0, s1, s2, s3⟩
       go_simp
       with_reducible rfl
      rotate_left
      ·exact pt
      refine pure_ (i := 3) (N := some 56) (v := ?_) (a' := ?_) #[true, true, true, true, false, false, false, false, false, false, false, false, false, false, false, false] rfl rfl (any_of HT_.out (by kernel_rfl)) (fun _ _ _ h => h) (Or.inl ⟨by rfl, ?_⟩) ?_ ?_
      rotate_left; (focus exact gs); rotate_left; (focus exact pt)
      refine pure_ (i := 4) (N := some 57) (v := ?_) (a' := ?_) #[true, true, true, true, true, false, false, false, false, false, false, false, false, false, false, false] rfl rfl (any_of HT_.out (by kernel_rfl)) (fun _ _ _ h => h) (Or.inl ⟨by rfl, ?_⟩) ?_ ?_
      rotate_left; (focus exact gs); rotate_left; (focus exact pt)
      refine pure_ (i := 5) (N := some 58) (v := undef) (a' := ?_) #[true, true, true, true, true, true, false, false, false, false, false, false, false, false, false, false] rfl rfl (any_of HT_.out (by kernel_rfl)) (fun _ _ _ h => h) (Or.inr ⟨by rfl, rfl⟩) ?_ ?_
      rotate_left
      ·exact pt
      refine pure_ (i := 6) (N := some 59) (v := undef) (a' := ?_) #[true, true, true, true, true, true, true, false, false, false, false, false, false, false, false, false] rfl rfl (any_of HT_.out (by kernel_rfl)) (fun _ _ _ h => h) (Or.inr ⟨by rfl, rfl⟩) ?_ ?_
      rotate_left
      ·exact pt
      refine pure_ (i := 7) (N := some 60) (v := undef) (a' := ?_) #[true, true, true, true, true, true, true, true, false, false, false, false, false, false, false, false] rfl rfl (any_of HT_.out (by kernel_rfl)) (fun _ _ _ h => h) (Or.inr ⟨by rfl, rfl⟩) ?_ ?_
      rotate_left
      ·exact pt
      refine pure_ (i := 8) (N := some 61) (v := ?_) (a' := ?_) #[true, true, true, true, true, true, true, true, true, false, false, false, false, false, false, false] rfl rfl (any_of HT_.out (by kernel_rfl)) (fun _ _ _ h => h) (Or.inl ⟨by rfl, ?_⟩) ?_ ?_
      rotate_left; (focus exact gs); rotate_left; (focus exact pt)
      refine pure_ (i := 9) (N := some 62) (v := ?_) (a' := ?_) #[true, true, true, true, true, true, true, true, true, true, false, false, false, false, false, false] rfl rfl (any_of HT_.out (by kernel_rfl)) (fun _ _ _ h => h) (Or.inl ⟨by rfl, ?_⟩) ?_ ?_
      rotate_left; (focus exact gs); rotate_left; (focus exact pt)
      refine pure_ (i := 10) (N := some 63) (v := undef) (a' := ?_) #[true, true, true, true, true, true, true, true, true, true, true, false, false, false, false, false] rfl rfl (any_of HT_.out (by kernel_rfl)) (fun _ _ _ h => h) (Or.inr ⟨by rfl, rfl⟩) ?_ ?_
      rotate_left
      ·exact pt
      refine pure_ (i := 11) (N := some 64) (v := undef) (a' := ?_) #[true, true, true, true, true, true, true, true, true, true, true, true, false, false, false, false] rfl rfl (any_of HT_.out (by kernel_rfl)) (fun _ _ _ h => h) (Or.inr ⟨by rfl, rfl⟩) ?_ ?_
      rotate_left
      ·exact pt
      refine pure_ (i := 12) (N := some 65) (v := undef) (a' := ?_) #[true, true, true, true, true, true, true, true, true, true, true, true, true, false, false, false] rfl rfl (any_of HT_.out (by kernel_rfl)) (fun _ _ _ h => h) (Or.inr ⟨by rfl, rfl⟩) ?_ ?_
      rotate_left
      ·exact pt
      refine pure_ (i := 13) (N := some 66) (v := ?_) (a' := ?_) #[true, true, true, true, true, true, true, true, true, true, true, true, true, true, false, false] rfl rfl (any_of HT_.out (by kernel_rfl)) (fun _ _ _ h => h) (Or.inl ⟨by rfl, ?_⟩) ?_ ?_
      rotate_left; (focus exact gs); rotate_left; (focus exact pt)
      refine one_ (i := 14) (N := none) #[true, true, true, true, true, true, true, true, true, true, true, true, true, true, true, false] rfl rfl (one_of HT_.out (by kernel_rfl)) (by decide) (fun K hK => ?_)
      have hs96 := bc BK107.out 0 (.int .i64 0)
      have hfs96 := bz BK107.out 0
      have hns96_0 := NB105_107.out
      have hns96_1 := NB106_107.out
      have hms96_0 := NB107_105.out
      have hms96_1 := NB107_106.out
      have hs97 := bc BK107.out 1 (.int .i64 0)
      have hfs97 := bz BK107.out 1
      have hns97_0 := NB105_107.out
      have hns97_1 := NB106_107.out
      have hms97_0 := NB107_105.out
      have hms97_1 := NB107_106.out
      have hs98 := bc BK107.out 2 (.int .i64 0)
      have hfs98 := bz BK107.out 2
      have hns98_0 := NB105_107.out
      have hns98_1 := NB106_107.out
      have hms98_0 := NB107_105.out
      have hms98_1 := NB107_106.out
      have hs99 := bc BK107.out 3 (.int .i64 0)
      have hfs99 := bz BK107.out 3
      have hns99_0 := NB105_107.out
      have hns99_1 := NB106_107.out
      have hms99_0 := NB107_105.out
      have hms99_1 := NB107_106.out
      refine skip_ (w1 := ?_) (by rfl) rfl ?_ ?_
      rotate_left
      ·go_simp
       rfl
      refine hK.out _ _ ⟨((cell_far (p := ⟨gb107, _, none⟩) NB105_107.out _).trans (((cell_far (p := ⟨gb107, _, none⟩) NB105_107.out _).trans (((cell_far (p := ⟨gb107, _, none⟩) NB105_107.out _).trans (((cell_far (p := ⟨gb107, _, none⟩) NB105_107.out _).trans (hHeld.1)))))))), ((cell_far (p := ⟨gb107, _, none⟩) NB105_107.out _).trans (((cell_far (p := ⟨gb107, _, none⟩) NB105_107.out _).trans (((cell_far (p := ⟨gb107, _, none⟩) NB105_107.out _).trans (((cell_far (p := ⟨gb107, _, none⟩) NB105_107.out _).trans (hHeld.2.1)))))))), ((cell_far (p := ⟨gb107, _, none⟩) NB105_107.out _).trans (((cell_far (p := ⟨gb107, _, none⟩) NB105_107.out _).trans (((cell_far (p := ⟨gb107, _, none⟩) NB105_107.out _).trans (((cell_far (p := ⟨gb107, _, none⟩) NB105_107.out _).trans (hHeld.2.2.1)))))))), ((cell_far (p := ⟨gb107, _, none⟩) NB105_107.out _).trans (((cell_far (p := ⟨gb107, _, none⟩) NB105_107.out _).trans (((cell_far (p := ⟨gb107, _, none⟩) NB105_107.out _).trans (((cell_far (p := ⟨gb107, _, none⟩) NB105_107.out _).trans (hHeld.2.2.2))))))))⟩ (fun hHeld => ?_)
      clear hK K
      refine pure_ (i := 15) (N := some 5) (v := ?_) (a' := ?_) #[true, true, true, true, true, true, true, true, true, true, true, true, true, true, true, true] rfl rfl (any_of HT_.out (by kernel_rfl)) (fun _ _ _ h => h) (Or.inl ⟨by rfl, ?_⟩) ?_ ?_
      rotate_left; (focus exact gs); rotate_left; (focus exact pt)
      refine done_ (done_of HT_.out (by kernel_rfl)) ?_
      try go_wp2
      refine bodyPost_ret (results_ct rfl _ _ gb107 29 #[.int .i64 a0_0, .int .i64 a0_1, .int .i64 (wrap64 (a0_2 + 1)), .int .i64 a0_3] (0, 0) _ rfl (bp0 BK107.out) Tryd.underlying29 rfl (by kernel_rfl)) rfl ?_
      exact ⟨er, bl3 HB.out GE105.out GE106.out GE107.out⟩
    ·rw [if_neg c55] at H
     have c55b0 : (a1_0 == 3) = false := beq_eq_false_iff_ne.mpr c55
     have c55b1 : (a1_0 != 3) = true := bne_iff_ne.mpr c55
     by_cases c100 : a1_0 = 4
     ·rw [if_pos c100] at H
      have c100b0 : (a1_0 == 4) = true := beq_iff_eq.mpr c100
      have c100b1 : (a1_0 != 4) = false := bne_eq_false_iff_eq.mpr c100
      clear c100
      by_cases c101 : a0_0 > 0
      ·rw [if_pos c101] at H
       have c101b0 : decide (0 < a0_0) = true := decide_eq_true c101
       clear c101
       by_cases c102 : a1_1 = a0_1
       ·rw [if_pos c102] at H
        have c102b0 : (a1_1 == a0_1) = true := beq_iff_eq.mpr c102
        have c102b1 : (a1_1 != a0_1) = false := bne_eq_false_iff_eq.mpr c102
        clear c102
        simp only [Option.some.injEq, Prod.mk.injEq] at H
        obtain ⟨rfl, rfl, rfl, rfl, rfl⟩ := H
        go_enter Tryd.func27, Tryd.ntmps27
        go_wp2_with (first | ((with_reducible refine gate_dst (N := 2) rfl ?_); refine box_event ?hg (N := 2) ?hd (cs := #[.int .i64 a0_0, .int .i64 a0_1, .int .i64 a0_2, .int .i64 a0_3]) (t := 29) ?hr ?_; (case hd => rfl); (case hg => rfl); (case hr => first | (go_simp; done) | (go_simp; rfl)); intro gb105 hg w103 hbox hb; have n_ := (⟨am (below_step (bl0 HB.out) hb), am (hbox), am ((gw hg (bl0 HB.out) : w.heap.size ≤ gb105)), am ((gw hg (bl0 HB.out) : w.heap.size ≤ gb105))⟩ : _ ∧ _ ∧ _ ∧ _); clear HB; obtain ⟨HB, BK105, GW105, GE105⟩ := n_; clear hb hbox hg) | ((with_reducible refine gate_dst (N := 3) rfl ?_); refine box_event ?hg (N := 3) ?hd (cs := #[.int .i64 a1_0, .int .i64 a1_1]) (t := 31) ?hr ?_; (case hd => rfl); (case hg => rfl); (case hr => first | (go_simp; done) | (go_simp; rfl)); intro gb106 hg w104 hbox hb; have n_ := (⟨am (blk_below (bf0 BK105.out) hb), am (below_step (bl1 HB.out GE105.out) hb), am (hbox), am ((gw hg (bl1 HB.out GE105.out) : w.heap.size ≤ gb106)), am ((gw hg (bl1 HB.out GE105.out) : w.heap.size ≤ gb106)), am ((nl hg (bf0 BK105.out) : gb105 ≠ gb106)), am ((ng hg (bf0 BK105.out) : gb106 ≠ gb105))⟩ : _ ∧ _ ∧ _ ∧ _ ∧ _ ∧ _ ∧ _); clear BK105 HB; obtain ⟨BK105, HB, BK106, GW106, GE106, NB105_106, NB106_105⟩ := n_; clear hb hbox hg) | ((with_reducible refine gate_dst (N := 4) rfl ?_); refine box_event ?hg (N := 4) ?hd (cs := #[.int .i64 0, .int .i64 0, .int .i64 0, .int .i64 0]) (t := 29) ?hr ?_; (case hd => rfl); (case hg => rfl); (case hr => first | (go_simp; done) | (go_simp; rfl)); intro gb107 hg w105 hbox hb; have n_ := (⟨am (blk_below (bf0 BK105.out) hb), am (blk_below (bf0 BK106.out) hb), am (below_step (bl2 HB.out GE105.out GE106.out) hb), am (hbox), am ((gw hg (bl2 HB.out GE105.out GE106.out) : w.heap.size ≤ gb107)), am ((gw hg (bl2 HB.out GE105.out GE106.out) : w.heap.size ≤ gb107)), am ((nl hg (bf0 BK105.out) : gb105 ≠ gb107)), am ((ng hg (bf0 BK105.out) : gb107 ≠ gb105)), am ((nl hg (bf0 BK106.out) : gb106 ≠ gb107)), am ((ng hg (bf0 BK106.out) : gb107 ≠ gb106))⟩ : _ ∧ _ ∧ _ ∧ _ ∧ _ ∧ _ ∧ _ ∧ _ ∧ _ ∧ _); clear BK105 BK106 HB; obtain ⟨BK105, BK106, HB, BK107, GW107, GE107, NB105_107, NB107_105, NB106_107, NB107_106⟩ := n_; clear hb hbox hg; have hnb106 := NB106_105.out; have hnc106 := NB105_106.out; have hnb107 := NB106_107.out; have hnc107 := NB107_106.out; obtain ⟨hcz108_0, hcz108_1, hfz108_0, hfz108_1⟩ := cs2 BK106.out) | ((with_reducible refine gate_callee (f := 21) rfl ?_); refine goesL_ (some 10) rfl rfl Tryd.func21 (by kernel_rfl) rfl #[.int .i64 a1_1, .int .i64 0, .int .i64 1000000000] rfl lnp ?_; (with_reducible refine (spec_l01In.calls a1_1 0 1000000000 true _ A3.out).mono ?_); rintro e w' ⟨rfl, ⟨nd, rfl⟩⟩; refine ⟨_, rfl, ?_⟩; (try (rw [drewN_self w105]; generalize hq_ : World.drewN w105 _ = w105; have n0_ : Aside0 (w105.heap[gb105]? = some (.cells #[.int .i64 a0_0, .int .i64 a0_1, .int .i64 a0_2, .int .i64 a0_3] 29 (0, 0))) := ⟨by rw [← hq_]; exact (bf0 BK105.out)⟩; have n1_ : Aside0 (w105.heap[gb106]? = some (.cells #[.int .i64 a1_0, .int .i64 a1_1] 31 (0, 0))) := ⟨by rw [← hq_]; exact (bf0 BK106.out)⟩; have n2_ : Aside0 (w105.heap[gb107]? = some (.cells #[.int .i64 0, .int .i64 0, .int .i64 0, .int .i64 0] 29 (0, 0))) := ⟨by rw [← hq_]; exact (bf0 BK107.out)⟩; have n3_ : Aside0 (Below w.heap.size w w105) := ⟨by rw [← hq_]; exact (bl3 HB.out GE105.out GE106.out GE107.out)⟩; clear BK105 BK106 BK107 HB hq_; have BK105 := n0_; have BK106 := n1_; have BK107 := n2_; have HB := n3_; clear n0_ n1_ n2_ n3_)); have hnb109 := NB105_107.out; have hnc109 := NB107_105.out; obtain ⟨hcz110_0, hcz110_1, hcz110_2, hcz110_3, hfz110_0, hfz110_1, hfz110_2, hfz110_3⟩ := cs4 BK105.out; obtain ⟨hcz111_0, hcz111_1, hcz111_2, hcz111_3, hfz111_0, hfz111_1, hfz111_2, hfz111_3⟩ := cs4 BK107.out; have hcy106_0 := bc BK106.out 0 (.int .i64 a1_0); have hcy106_1 := bc BK106.out 1 (.int .i64 a1_1)))
        refine bodyPost_ret (results_ct rfl _ _ gb107 29 #[.int .i64 0, .int .i64 0, .int .i64 0, .int .i64 (wrap64 (a0_3 + 1))] (0, 0) _ rfl (bp0 BK107.out) Tryd.underlying29 rfl (by kernel_rfl)) rfl ?_
        exact ⟨er, bl3 HB.out GE105.out GE106.out GE107.out⟩
       ·rw [if_neg c102] at H
        have c102b0 : (a1_1 == a0_1) = false := beq_eq_false_iff_ne.mpr c102
        have c102b1 : (a1_1 != a0_1) = true := bne_iff_ne.mpr c102
        simp only [Option.some.injEq, Prod.mk.injEq] at H
        obtain ⟨rfl, rfl, rfl, rfl, rfl⟩ := H
        go_enter Tryd.func27, Tryd.ntmps27
        go_wp2_with (first | ((with_reducible refine gate_dst (N := 2) rfl ?_); refine box_event ?hg (N := 2) ?hd (cs := #[.int .i64 a0_0, .int .i64 a0_1, .int .i64 a0_2, .int .i64 a0_3]) (t := 29) ?hr ?_; (case hd => rfl); (case hg => rfl); (case hr => first | (go_simp; done) | (go_simp; rfl)); intro gb105 hg w112 hbox hb; have n_ := (⟨am (below_step (bl0 HB.out) hb), am (hbox), am ((gw hg (bl0 HB.out) : w.heap.size ≤ gb105)), am ((gw hg (bl0 HB.out) : w.heap.size ≤ gb105))⟩ : _ ∧ _ ∧ _ ∧ _); clear HB; obtain ⟨HB, BK105, GW105, GE105⟩ := n_; clear hb hbox hg) | ((with_reducible refine gate_dst (N := 3) rfl ?_); refine box_event ?hg (N := 3) ?hd (cs := #[.int .i64 a1_0, .int .i64 a1_1]) (t := 31) ?hr ?_; (case hd => rfl); (case hg => rfl); (case hr => first | (go_simp; done) | (go_simp; rfl)); intro gb106 hg w113 hbox hb; have n_ := (⟨am (blk_below (bf0 BK105.out) hb), am (below_step (bl1 HB.out GE105.out) hb), am (hbox), am ((gw hg (bl1 HB.out GE105.out) : w.heap.size ≤ gb106)), am ((gw hg (bl1 HB.out GE105.out) : w.heap.size ≤ gb106)), am ((nl hg (bf0 BK105.out) : gb105 ≠ gb106)), am ((ng hg (bf0 BK105.out) : gb106 ≠ gb105))⟩ : _ ∧ _ ∧ _ ∧ _ ∧ _ ∧ _ ∧ _); clear BK105 HB; obtain ⟨BK105, HB, BK106, GW106, GE106, NB105_106, NB106_105⟩ := n_; clear hb hbox hg) | ((with_reducible refine gate_dst (N := 4) rfl ?_); refine box_event ?hg (N := 4) ?hd (cs := #[.int .i64 0, .int .i64 0, .int .i64 0, .int .i64 0]) (t := 29) ?hr ?_; (case hd => rfl); (case hg => rfl); (case hr => first | (go_simp; done) | (go_simp; rfl)); intro gb107 hg w114 hbox hb; have n_ := (⟨am (blk_below (bf0 BK105.out) hb), am (blk_below (bf0 BK106.out) hb), am (below_step (bl2 HB.out GE105.out GE106.out) hb), am (hbox), am ((gw hg (bl2 HB.out GE105.out GE106.out) : w.heap.size ≤ gb107)), am ((gw hg (bl2 HB.out GE105.out GE106.out) : w.heap.size ≤ gb107)), am ((nl hg (bf0 BK105.out) : gb105 ≠ gb107)), am ((ng hg (bf0 BK105.out) : gb107 ≠ gb105)), am ((nl hg (bf0 BK106.out) : gb106 ≠ gb107)), am ((ng hg (bf0 BK106.out) : gb107 ≠ gb106))⟩ : _ ∧ _ ∧ _ ∧ _ ∧ _ ∧ _ ∧ _ ∧ _ ∧ _ ∧ _); clear BK105 BK106 HB; obtain ⟨BK105, BK106, HB, BK107, GW107, GE107, NB105_107, NB107_105, NB106_107, NB107_106⟩ := n_; clear hb hbox hg; have hnb115 := NB106_105.out; have hnc115 := NB105_106.out; have hnb116 := NB106_107.out; have hnc116 := NB107_106.out; obtain ⟨hcz117_0, hcz117_1, hfz117_0, hfz117_1⟩ := cs2 BK106.out) | ((with_reducible refine gate_callee (f := 21) rfl ?_); refine goesL_ (some 10) rfl rfl Tryd.func21 (by kernel_rfl) rfl #[.int .i64 a1_1, .int .i64 0, .int .i64 1000000000] rfl lnp ?_; (with_reducible refine (spec_l01In.calls a1_1 0 1000000000 true _ A3.out).mono ?_); rintro e w' ⟨rfl, ⟨nd, rfl⟩⟩; refine ⟨_, rfl, ?_⟩; (try (rw [drewN_self w114]; generalize hq_ : World.drewN w114 _ = w114; have n0_ : Aside0 (w114.heap[gb105]? = some (.cells #[.int .i64 a0_0, .int .i64 a0_1, .int .i64 a0_2, .int .i64 a0_3] 29 (0, 0))) := ⟨by rw [← hq_]; exact (bf0 BK105.out)⟩; have n1_ : Aside0 (w114.heap[gb106]? = some (.cells #[.int .i64 a1_0, .int .i64 a1_1] 31 (0, 0))) := ⟨by rw [← hq_]; exact (bf0 BK106.out)⟩; have n2_ : Aside0 (w114.heap[gb107]? = some (.cells #[.int .i64 0, .int .i64 0, .int .i64 0, .int .i64 0] 29 (0, 0))) := ⟨by rw [← hq_]; exact (bf0 BK107.out)⟩; have n3_ : Aside0 (Below w.heap.size w w114) := ⟨by rw [← hq_]; exact (bl3 HB.out GE105.out GE106.out GE107.out)⟩; clear BK105 BK106 BK107 HB hq_; have BK105 := n0_; have BK106 := n1_; have BK107 := n2_; have HB := n3_; clear n0_ n1_ n2_ n3_)); have hnb118 := NB105_107.out; have hnc118 := NB107_105.out; obtain ⟨hcz119_0, hcz119_1, hcz119_2, hcz119_3, hfz119_0, hfz119_1, hfz119_2, hfz119_3⟩ := cs4 BK105.out; obtain ⟨hcz120_0, hcz120_1, hcz120_2, hcz120_3, hfz120_0, hfz120_1, hfz120_2, hfz120_3⟩ := cs4 BK107.out; have hcy106_0 := bc BK106.out 0 (.int .i64 a1_0); have hcy106_1 := bc BK106.out 1 (.int .i64 a1_1)))
        refine bodyPost_ret (results_ct rfl _ _ gb107 29 #[.int .i64 0, .int .i64 0, .int .i64 0, .int .i64 (wrap64 (a0_3 + 1))] (0, 0) _ rfl (bp0 BK107.out) Tryd.underlying29 rfl (by kernel_rfl)) rfl ?_
        exact ⟨er, bl3 HB.out GE105.out GE106.out GE107.out⟩
      ·rw [if_neg c101] at H
       have c101b0 : decide (0 < a0_0) = false := decide_eq_false c101
       clear c101
       simp only [Option.some.injEq, Prod.mk.injEq] at H
       obtain ⟨rfl, rfl, rfl, rfl, rfl⟩ := H
       go_enter Tryd.func27, Tryd.ntmps27
       go_wp2_with (first | ((with_reducible refine gate_dst (N := 2) rfl ?_); refine box_event ?hg (N := 2) ?hd (cs := #[.int .i64 a0_0, .int .i64 a0_1, .int .i64 a0_2, .int .i64 a0_3]) (t := 29) ?hr ?_; (case hd => rfl); (case hg => rfl); (case hr => first | (go_simp; done) | (go_simp; rfl)); intro gb105 hg w121 hbox hb; have n_ := (⟨am (below_step (bl0 HB.out) hb), am (hbox), am ((gw hg (bl0 HB.out) : w.heap.size ≤ gb105)), am ((gw hg (bl0 HB.out) : w.heap.size ≤ gb105))⟩ : _ ∧ _ ∧ _ ∧ _); clear HB; obtain ⟨HB, BK105, GW105, GE105⟩ := n_; clear hb hbox hg) | ((with_reducible refine gate_dst (N := 3) rfl ?_); refine box_event ?hg (N := 3) ?hd (cs := #[.int .i64 a1_0, .int .i64 a1_1]) (t := 31) ?hr ?_; (case hd => rfl); (case hg => rfl); (case hr => first | (go_simp; done) | (go_simp; rfl)); intro gb106 hg w122 hbox hb; have n_ := (⟨am (blk_below (bf0 BK105.out) hb), am (below_step (bl1 HB.out GE105.out) hb), am (hbox), am ((gw hg (bl1 HB.out GE105.out) : w.heap.size ≤ gb106)), am ((gw hg (bl1 HB.out GE105.out) : w.heap.size ≤ gb106)), am ((nl hg (bf0 BK105.out) : gb105 ≠ gb106)), am ((ng hg (bf0 BK105.out) : gb106 ≠ gb105))⟩ : _ ∧ _ ∧ _ ∧ _ ∧ _ ∧ _ ∧ _); clear BK105 HB; obtain ⟨BK105, HB, BK106, GW106, GE106, NB105_106, NB106_105⟩ := n_; clear hb hbox hg) | ((with_reducible refine gate_dst (N := 4) rfl ?_); refine box_event ?hg (N := 4) ?hd (cs := #[.int .i64 0, .int .i64 0, .int .i64 0, .int .i64 0]) (t := 29) ?hr ?_; (case hd => rfl); (case hg => rfl); (case hr => first | (go_simp; done) | (go_simp; rfl)); intro gb107 hg w123 hbox hb; have n_ := (⟨am (blk_below (bf0 BK105.out) hb), am (blk_below (bf0 BK106.out) hb), am (below_step (bl2 HB.out GE105.out GE106.out) hb), am (hbox), am ((gw hg (bl2 HB.out GE105.out GE106.out) : w.heap.size ≤ gb107)), am ((gw hg (bl2 HB.out GE105.out GE106.out) : w.heap.size ≤ gb107)), am ((nl hg (bf0 BK105.out) : gb105 ≠ gb107)), am ((ng hg (bf0 BK105.out) : gb107 ≠ gb105)), am ((nl hg (bf0 BK106.out) : gb106 ≠ gb107)), am ((ng hg (bf0 BK106.out) : gb107 ≠ gb106))⟩ : _ ∧ _ ∧ _ ∧ _ ∧ _ ∧ _ ∧ _ ∧ _ ∧ _ ∧ _); clear BK105 BK106 HB; obtain ⟨BK105, BK106, HB, BK107, GW107, GE107, NB105_107, NB107_105, NB106_107, NB107_106⟩ := n_; clear hb hbox hg; have hnb124 := NB106_105.out; have hnc124 := NB105_106.out; have hnb125 := NB106_107.out; have hnc125 := NB107_106.out; obtain ⟨hcz126_0, hcz126_1, hfz126_0, hfz126_1⟩ := cs2 BK106.out) | ((with_reducible refine gate_callee (f := 21) rfl ?_); refine goesL_ (some 10) rfl rfl Tryd.func21 (by kernel_rfl) rfl #[.int .i64 a1_1, .int .i64 0, .int .i64 1000000000] rfl lnp ?_; (with_reducible refine (spec_l01In.calls a1_1 0 1000000000 true _ A3.out).mono ?_); rintro e w' ⟨rfl, ⟨nd, rfl⟩⟩; refine ⟨_, rfl, ?_⟩; (try (rw [drewN_self w123]; generalize hq_ : World.drewN w123 _ = w123; have n0_ : Aside0 (w123.heap[gb105]? = some (.cells #[.int .i64 a0_0, .int .i64 a0_1, .int .i64 a0_2, .int .i64 a0_3] 29 (0, 0))) := ⟨by rw [← hq_]; exact (bf0 BK105.out)⟩; have n1_ : Aside0 (w123.heap[gb106]? = some (.cells #[.int .i64 a1_0, .int .i64 a1_1] 31 (0, 0))) := ⟨by rw [← hq_]; exact (bf0 BK106.out)⟩; have n2_ : Aside0 (w123.heap[gb107]? = some (.cells #[.int .i64 0, .int .i64 0, .int .i64 0, .int .i64 0] 29 (0, 0))) := ⟨by rw [← hq_]; exact (bf0 BK107.out)⟩; have n3_ : Aside0 (Below w.heap.size w w123) := ⟨by rw [← hq_]; exact (bl3 HB.out GE105.out GE106.out GE107.out)⟩; clear BK105 BK106 BK107 HB hq_; have BK105 := n0_; have BK106 := n1_; have BK107 := n2_; have HB := n3_; clear n0_ n1_ n2_ n3_)); have hnb127 := NB105_107.out; have hnc127 := NB107_105.out; obtain ⟨hcz128_0, hcz128_1, hcz128_2, hcz128_3, hfz128_0, hfz128_1, hfz128_2, hfz128_3⟩ := cs4 BK105.out; obtain ⟨hcz129_0, hcz129_1, hcz129_2, hcz129_3, hfz129_0, hfz129_1, hfz129_2, hfz129_3⟩ := cs4 BK107.out; have hcy106_0 := bc BK106.out 0 (.int .i64 a1_0); have hcy106_1 := bc BK106.out 1 (.int .i64 a1_1)))
       refine bodyPost_ret (results_ct rfl _ _ gb107 29 #[.int .i64 0, .int .i64 0, .int .i64 0, .int .i64 (wrap64 (a0_3 + 1))] (0, 0) _ rfl (bp0 BK107.out) Tryd.underlying29 rfl (by kernel_rfl)) rfl ?_
       exact ⟨er, bl3 HB.out GE105.out GE106.out GE107.out⟩
     ·rw [if_neg c100] at H
      have c100b0 : (a1_0 == 4) = false := beq_eq_false_iff_ne.mpr c100
      have c100b1 : (a1_0 != 4) = true := bne_iff_ne.mpr c100
      simp only [Option.some.injEq, Prod.mk.injEq] at H
      obtain ⟨rfl, rfl, rfl, rfl, rfl⟩ := H
      go_enter Tryd.func27, Tryd.ntmps27
      go_wp2_with (first | ((with_reducible refine gate_dst (N := 2) rfl ?_); refine box_event ?hg (N := 2) ?hd (cs := #[.int .i64 a0_0, .int .i64 a0_1, .int .i64 a0_2, .int .i64 a0_3]) (t := 29) ?hr ?_; (case hd => rfl); (case hg => rfl); (case hr => first | (go_simp; done) | (go_simp; rfl)); intro gb105 hg w130 hbox hb; have n_ := (⟨am (below_step (bl0 HB.out) hb), am (hbox), am ((gw hg (bl0 HB.out) : w.heap.size ≤ gb105)), am ((gw hg (bl0 HB.out) : w.heap.size ≤ gb105))⟩ : _ ∧ _ ∧ _ ∧ _); clear HB; obtain ⟨HB, BK105, GW105, GE105⟩ := n_; clear hb hbox hg) | ((with_reducible refine gate_dst (N := 3) rfl ?_); refine box_event ?hg (N := 3) ?hd (cs := #[.int .i64 a1_0, .int .i64 a1_1]) (t := 31) ?hr ?_; (case hd => rfl); (case hg => rfl); (case hr => first | (go_simp; done) | (go_simp; rfl)); intro gb106 hg w131 hbox hb; have n_ := (⟨am (blk_below (bf0 BK105.out) hb), am (below_step (bl1 HB.out GE105.out) hb), am (hbox), am ((gw hg (bl1 HB.out GE105.out) : w.heap.size ≤ gb106)), am ((gw hg (bl1 HB.out GE105.out) : w.heap.size ≤ gb106)), am ((nl hg (bf0 BK105.out) : gb105 ≠ gb106)), am ((ng hg (bf0 BK105.out) : gb106 ≠ gb105))⟩ : _ ∧ _ ∧ _ ∧ _ ∧ _ ∧ _ ∧ _); clear BK105 HB; obtain ⟨BK105, HB, BK106, GW106, GE106, NB105_106, NB106_105⟩ := n_; clear hb hbox hg) | ((with_reducible refine gate_dst (N := 4) rfl ?_); refine box_event ?hg (N := 4) ?hd (cs := #[.int .i64 0, .int .i64 0, .int .i64 0, .int .i64 0]) (t := 29) ?hr ?_; (case hd => rfl); (case hg => rfl); (case hr => first | (go_simp; done) | (go_simp; rfl)); intro gb107 hg w132 hbox hb; have n_ := (⟨am (blk_below (bf0 BK105.out) hb), am (blk_below (bf0 BK106.out) hb), am (below_step (bl2 HB.out GE105.out GE106.out) hb), am (hbox), am ((gw hg (bl2 HB.out GE105.out GE106.out) : w.heap.size ≤ gb107)), am ((gw hg (bl2 HB.out GE105.out GE106.out) : w.heap.size ≤ gb107)), am ((nl hg (bf0 BK105.out) : gb105 ≠ gb107)), am ((ng hg (bf0 BK105.out) : gb107 ≠ gb105)), am ((nl hg (bf0 BK106.out) : gb106 ≠ gb107)), am ((ng hg (bf0 BK106.out) : gb107 ≠ gb106))⟩ : _ ∧ _ ∧ _ ∧ _ ∧ _ ∧ _ ∧ _ ∧ _ ∧ _ ∧ _); clear BK105 BK106 HB; obtain ⟨BK105, BK106, HB, BK107, GW107, GE107, NB105_107, NB107_105, NB106_107, NB107_106⟩ := n_; clear hb hbox hg; have hnb133 := NB106_105.out; have hnc133 := NB105_106.out; have hnb134 := NB106_107.out; have hnc134 := NB107_106.out; obtain ⟨hcz135_0, hcz135_1, hfz135_0, hfz135_1⟩ := cs2 BK106.out) | ((with_reducible refine gate_callee (f := 21) rfl ?_); refine goesL_ (some 10) rfl rfl Tryd.func21 (by kernel_rfl) rfl #[.int .i64 a1_1, .int .i64 0, .int .i64 1000000000] rfl lnp ?_; (with_reducible refine (spec_l01In.calls a1_1 0 1000000000 true _ A3.out).mono ?_); rintro e w' ⟨rfl, ⟨nd, rfl⟩⟩; refine ⟨_, rfl, ?_⟩; (try (rw [drewN_self w132]; generalize hq_ : World.drewN w132 _ = w132; have n0_ : Aside0 (w132.heap[gb105]? = some (.cells #[.int .i64 a0_0, .int .i64 a0_1, .int .i64 a0_2, .int .i64 a0_3] 29 (0, 0))) := ⟨by rw [← hq_]; exact (bf0 BK105.out)⟩; have n1_ : Aside0 (w132.heap[gb106]? = some (.cells #[.int .i64 a1_0, .int .i64 a1_1] 31 (0, 0))) := ⟨by rw [← hq_]; exact (bf0 BK106.out)⟩; have n2_ : Aside0 (w132.heap[gb107]? = some (.cells #[.int .i64 0, .int .i64 0, .int .i64 0, .int .i64 0] 29 (0, 0))) := ⟨by rw [← hq_]; exact (bf0 BK107.out)⟩; have n3_ : Aside0 (Below w.heap.size w w132) := ⟨by rw [← hq_]; exact (bl3 HB.out GE105.out GE106.out GE107.out)⟩; clear BK105 BK106 BK107 HB hq_; have BK105 := n0_; have BK106 := n1_; have BK107 := n2_; have HB := n3_; clear n0_ n1_ n2_ n3_)); have hnb136 := NB105_107.out; have hnc136 := NB107_105.out; obtain ⟨hcz137_0, hcz137_1, hcz137_2, hcz137_3, hfz137_0, hfz137_1, hfz137_2, hfz137_3⟩ := cs4 BK105.out; obtain ⟨hcz138_0, hcz138_1, hcz138_2, hcz138_3, hfz138_0, hfz138_1, hfz138_2, hfz138_3⟩ := cs4 BK107.out; have hcy106_0 := bc BK106.out 0 (.int .i64 a1_0); have hcy106_1 := bc BK106.out 1 (.int .i64 a1_1)))
      refine bodyPost_ret (results_ct rfl _ _ gb107 29 #[.int .i64 a0_0, .int .i64 a0_1, .int .i64 a0_2, .int .i64 a0_3] (0, 0) _ rfl (bp0 BK107.out) Tryd.underlying29 rfl (by kernel_rfl)) rfl ?_
      exact ⟨er, bl3 HB.out GE105.out GE106.out GE107.out⟩
 ·replace c4 := Bool.eq_false_iff.mpr c4
  subst c4
  have H1 : (some (a0_0, a0_1, a0_2, a0_3, false)) = some (r1, r2, r3, r4, r5) := by rw [if_neg (show ¬ (false = true) by decide)] at H; exact H
  clear H
  have H := H1
  clear H1
  simp only [Option.some.injEq, Prod.mk.injEq] at H
  obtain ⟨rfl, rfl, rfl, rfl, rfl⟩ := H
  go_enter Tryd.func27, Tryd.ntmps27
  go_wp2_with (first | ((with_reducible refine gate_dst (N := 2) rfl ?_); refine box_event ?hg (N := 2) ?hd (cs := #[.int .i64 a0_0, .int .i64 a0_1, .int .i64 a0_2, .int .i64 a0_3]) (t := 29) ?hr ?_; (case hd => rfl); (case hg => rfl); (case hr => first | (go_simp; done) | (go_simp; rfl)); intro gb105 hg w139 hbox hb; have n_ := (⟨am (below_step (bl0 HB.out) hb), am (hbox), am ((gw hg (bl0 HB.out) : w.heap.size ≤ gb105)), am ((gw hg (bl0 HB.out) : w.heap.size ≤ gb105))⟩ : _ ∧ _ ∧ _ ∧ _); clear HB; obtain ⟨HB, BK105, GW105, GE105⟩ := n_; clear hb hbox hg) | ((with_reducible refine gate_dst (N := 3) rfl ?_); refine box_event ?hg (N := 3) ?hd (cs := #[.int .i64 a1_0, .int .i64 a1_1]) (t := 31) ?hr ?_; (case hd => rfl); (case hg => rfl); (case hr => first | (go_simp; done) | (go_simp; rfl)); intro gb106 hg w140 hbox hb; have n_ := (⟨am (blk_below (bf0 BK105.out) hb), am (below_step (bl1 HB.out GE105.out) hb), am (hbox), am ((gw hg (bl1 HB.out GE105.out) : w.heap.size ≤ gb106)), am ((gw hg (bl1 HB.out GE105.out) : w.heap.size ≤ gb106)), am ((nl hg (bf0 BK105.out) : gb105 ≠ gb106)), am ((ng hg (bf0 BK105.out) : gb106 ≠ gb105))⟩ : _ ∧ _ ∧ _ ∧ _ ∧ _ ∧ _ ∧ _); clear BK105 HB; obtain ⟨BK105, HB, BK106, GW106, GE106, NB105_106, NB106_105⟩ := n_; clear hb hbox hg) | ((with_reducible refine gate_dst (N := 4) rfl ?_); refine box_event ?hg (N := 4) ?hd (cs := #[.int .i64 0, .int .i64 0, .int .i64 0, .int .i64 0]) (t := 29) ?hr ?_; (case hd => rfl); (case hg => rfl); (case hr => first | (go_simp; done) | (go_simp; rfl)); intro gb107 hg w141 hbox hb; have n_ := (⟨am (blk_below (bf0 BK105.out) hb), am (blk_below (bf0 BK106.out) hb), am (below_step (bl2 HB.out GE105.out GE106.out) hb), am (hbox), am ((gw hg (bl2 HB.out GE105.out GE106.out) : w.heap.size ≤ gb107)), am ((gw hg (bl2 HB.out GE105.out GE106.out) : w.heap.size ≤ gb107)), am ((nl hg (bf0 BK105.out) : gb105 ≠ gb107)), am ((ng hg (bf0 BK105.out) : gb107 ≠ gb105)), am ((nl hg (bf0 BK106.out) : gb106 ≠ gb107)), am ((ng hg (bf0 BK106.out) : gb107 ≠ gb106))⟩ : _ ∧ _ ∧ _ ∧ _ ∧ _ ∧ _ ∧ _ ∧ _ ∧ _ ∧ _); clear BK105 BK106 HB; obtain ⟨BK105, BK106, HB, BK107, GW107, GE107, NB105_107, NB107_105, NB106_107, NB107_106⟩ := n_; clear hb hbox hg; have hnb142 := NB106_105.out; have hnc142 := NB105_106.out; have hnb143 := NB106_107.out; have hnc143 := NB107_106.out; obtain ⟨hcz144_0, hcz144_1, hfz144_0, hfz144_1⟩ := cs2 BK106.out) | ((with_reducible refine gate_callee (f := 21) rfl ?_); refine goesL_ (some 10) rfl rfl Tryd.func21 (by kernel_rfl) rfl #[.int .i64 a1_1, .int .i64 0, .int .i64 1000000000] rfl lnp ?_; (with_reducible refine (spec_l01In.calls a1_1 0 1000000000 false _ A3.out).mono ?_); rintro e w' ⟨rfl, ⟨nd, rfl⟩⟩; refine ⟨_, rfl, ?_⟩; (try (rw [drewN_self w141]; generalize hq_ : World.drewN w141 _ = w141; have n0_ : Aside0 (w141.heap[gb105]? = some (.cells #[.int .i64 a0_0, .int .i64 a0_1, .int .i64 a0_2, .int .i64 a0_3] 29 (0, 0))) := ⟨by rw [← hq_]; exact (bf0 BK105.out)⟩; have n1_ : Aside0 (w141.heap[gb106]? = some (.cells #[.int .i64 a1_0, .int .i64 a1_1] 31 (0, 0))) := ⟨by rw [← hq_]; exact (bf0 BK106.out)⟩; have n2_ : Aside0 (w141.heap[gb107]? = some (.cells #[.int .i64 0, .int .i64 0, .int .i64 0, .int .i64 0] 29 (0, 0))) := ⟨by rw [← hq_]; exact (bf0 BK107.out)⟩; have n3_ : Aside0 (Below w.heap.size w w141) := ⟨by rw [← hq_]; exact (bl3 HB.out GE105.out GE106.out GE107.out)⟩; clear BK105 BK106 BK107 HB hq_; have BK105 := n0_; have BK106 := n1_; have BK107 := n2_; have HB := n3_; clear n0_ n1_ n2_ n3_)); have hnb145 := NB105_107.out; have hnc145 := NB107_105.out; obtain ⟨hcz146_0, hcz146_1, hcz146_2, hcz146_3, hfz146_0, hfz146_1, hfz146_2, hfz146_3⟩ := cs4 BK105.out; obtain ⟨hcz147_0, hcz147_1, hcz147_2, hcz147_3, hfz147_0, hfz147_1, hfz147_2, hfz147_3⟩ := cs4 BK107.out; have hcy106_0 := bc BK106.out 0 (.int .i64 a1_0); have hcy106_1 := bc BK106.out 1 (.int .i64 a1_1)))
  refine bodyPost_ret (results_ct rfl _ _ gb107 29 #[.int .i64 a0_0, .int .i64 a0_1, .int .i64 a0_2, .int .i64 a0_3] (0, 0) _ rfl (bp0 BK107.out) Tryd.underlying29 rfl (by kernel_rfl)) rfl ?_
  exact ⟨er, bl3 HB.out GE105.out GE106.out GE107.out⟩

end Go.Proofs.YthfmhfgckhkgjaaDoor.PFnResumed
