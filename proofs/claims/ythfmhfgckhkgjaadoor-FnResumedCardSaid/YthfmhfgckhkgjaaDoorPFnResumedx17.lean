-- Laid by wip/mk/mk.py out of the translation. Not trusted: Lean checks it.
import Derived.Test.YthfmhfgckhkgjaaDoorPFnResumedx0
import Derived.Test.YthfmhfgckhkgjaaDoorPFnResumedx3
import Derived.Test.YthfmhfgckhkgjaaDoorPFnResumedx8
import Derived.Test.YthfmhfgckhkgjaaDoorPFnResumedx13
import Derived.Test.YthfmhfgckhkgjaaDoorPFnResumedx16
namespace Go.Proofs.YthfmhfgckhkgjaaDoor.PFnResumed
open Go.RowKit Go.Proofs.YthfmhfgckhkgjaaDoorW.PrintWords Go.Proofs.YthfmhfgckhkgjaaDoorW.PrintLast Go.Proofs.YthfmhfgckhkgjaaDoorW.PrintMore
attribute [local go_sem] max2_int min2_int max_two min_two max_three min_three max_four min_four   -- for this text's walks alone
set_option linter.unusedVariables false
set_option maxHeartbeats 8000000
set_option maxRecDepth 100000
set_option linter.unusedSimpArgs false

/-! ### spec_MakeEntry: function 10 -/
def spec_MakeEntry.f (a0_0 : Int) (a0_1 : Int) (a0_2 : Int) (a0_3 : Int) (a1_0 : Int) (a1_1 : Int) : Option (Int × Int × Int × Int × Int) := (spec_IsMachine.f a0_0 a0_1 a0_2 a0_3).bind fun t471 => (if t471 = true then ((spec_l29Make.f a0_0 a0_1 a0_2 a0_3 a1_0 a1_1).bind fun bt472 => (if bt472.2.2.2.2 = true then (some (bt472.1, bt472.2.1, bt472.2.2.1, bt472.2.2.2.1, 0)) else (some (0, 0, 0, 0, 5)))) else (some (0, 0, 0, 0, 1)))
theorem spec_MakeEntry.calls (a0_0 : Int) (a0_1 : Int) (a0_2 : Int) (a0_3 : Int) (a1_0 : Int) (a1_1 : Int) (r1 : Int) (r2 : Int) (r3 : Int) (r4 : Int) (r5 : Int) (w : World) (h : spec_MakeEntry.f a0_0 a0_1 a0_2 a0_3 a1_0 a1_1 = some (r1, r2, r3, r4, r5)) :
  Calls Tryd.prog 10 #[.agg #[.int .i64 a0_0, .int .i64 a0_1, .int .i64 a0_2, .int .i64 a0_3], .agg #[.int .i64 a1_0, .int .i64 a1_1]] w fun e w' => e = .returned (.tuple #[.agg #[.int .i64 r1, .int .i64 r2, .int .i64 r3, .int .i64 r4], .int .i64 r5]) ∧ Below w.heap.size w w' := by
 have hu29 := Tryd.underlying29
 have hu31 := Tryd.underlying31
 have HB := am (Below.refl w.heap.size w)
 have H : ((spec_IsMachine.f a0_0 a0_1 a0_2 a0_3).bind fun t471 => (if t471 = true then ((spec_l29Make.f a0_0 a0_1 a0_2 a0_3 a1_0 a1_1).bind fun bt472 => (if bt472.2.2.2.2 = true then (some (bt472.1, bt472.2.1, bt472.2.2.1, bt472.2.2.2.1, 0)) else (some (0, 0, 0, 0, 5)))) else (some (0, 0, 0, 0, 1)))) = some (r1, r2, r3, r4, r5) := h
 clear h
 replace H := Option.bind_eq_some_iff.mp H
 obtain ⟨t471, A30, H⟩ := H
 replace H : (if t471 = true then ((spec_l29Make.f a0_0 a0_1 a0_2 a0_3 a1_0 a1_1).bind fun bt472 => (if bt472.2.2.2.2 = true then (some (bt472.1, bt472.2.1, bt472.2.2.1, bt472.2.2.2.1, 0)) else (some (0, 0, 0, 0, 5)))) else (some (0, 0, 0, 0, 1))) = some (r1, r2, r3, r4, r5) := H
 have A3 := Aside0.mk A30
 clear A30
 by_cases c4 : t471 = true
 ·subst c4
  have H1 : ((spec_l29Make.f a0_0 a0_1 a0_2 a0_3 a1_0 a1_1).bind fun bt472 => (if bt472.2.2.2.2 = true then (some (bt472.1, bt472.2.1, bt472.2.2.1, bt472.2.2.2.1, 0)) else (some (0, 0, 0, 0, 5)))) = some (r1, r2, r3, r4, r5) := by rw [if_pos rfl] at H; exact H
  clear H
  have H := H1
  clear H1
  replace H := Option.bind_eq_some_iff.mp H
  obtain ⟨⟨t472, t473, t474, t475, t476⟩, A50, H⟩ := H
  replace H : (if t476 = true then (some (t472, t473, t474, t475, 0)) else (some (0, 0, 0, 0, 5))) = some (r1, r2, r3, r4, r5) := H
  have A5 := Aside0.mk A50
  clear A50
  by_cases c6 : t476 = true
  ·subst c6
   have H1 : (some (t472, t473, t474, t475, 0)) = some (r1, r2, r3, r4, r5) := by rw [if_pos rfl] at H; exact H
   clear H
   have H := H1
   clear H1
   simp only [Option.some.injEq, Prod.mk.injEq] at H
   obtain ⟨rfl, rfl, rfl, rfl, rfl⟩ := H
   go_enter Tryd.func10, Tryd.ntmps10
   go_wp2_with (first | ((with_reducible refine gate_dst (N := 2) rfl ?_); refine box_event ?hg (N := 2) ?hd (cs := #[.int .i64 a0_0, .int .i64 a0_1, .int .i64 a0_2, .int .i64 a0_3]) (t := 29) ?hr ?_; (case hd => rfl); (case hg => rfl); (case hr => first | (go_simp; done) | (go_simp; rfl)); intro gb468 hg w7 hbox hb; have n_ := (⟨am (below_step (bl0 HB.out) hb), am (hbox), am ((gw hg (bl0 HB.out) : w.heap.size ≤ gb468)), am ((gw hg (bl0 HB.out) : w.heap.size ≤ gb468))⟩ : _ ∧ _ ∧ _ ∧ _); clear HB; obtain ⟨HB, BK468, GW468, GE468⟩ := n_; clear hb hbox hg) | ((with_reducible refine gate_dst (N := 3) rfl ?_); refine box_event ?hg (N := 3) ?hd (cs := #[.int .i64 a1_0, .int .i64 a1_1]) (t := 31) ?hr ?_; (case hd => rfl); (case hg => rfl); (case hr => first | (go_simp; done) | (go_simp; rfl)); intro gb469 hg w8 hbox hb; have n_ := (⟨am (blk_below (bf0 BK468.out) hb), am (below_step (bl1 HB.out GE468.out) hb), am (hbox), am ((gw hg (bl1 HB.out GE468.out) : w.heap.size ≤ gb469)), am ((gw hg (bl1 HB.out GE468.out) : w.heap.size ≤ gb469)), am ((nl hg (bf0 BK468.out) : gb468 ≠ gb469)), am ((ng hg (bf0 BK468.out) : gb469 ≠ gb468))⟩ : _ ∧ _ ∧ _ ∧ _ ∧ _ ∧ _ ∧ _); clear BK468 HB; obtain ⟨BK468, HB, BK469, GW469, GE469, NB468_469, NB469_468⟩ := n_; clear hb hbox hg) | ((with_reducible refine gate_dst (N := 4) rfl ?_); refine box_event ?hg (N := 4) ?hd (cs := #[.int .i64 0, .int .i64 0, .int .i64 0, .int .i64 0]) (t := 29) ?hr ?_; (case hd => rfl); (case hg => rfl); (case hr => first | (go_simp; done) | (go_simp; rfl)); intro gb470 hg w9 hbox hb; have n_ := (⟨am (blk_below (bf0 BK468.out) hb), am (blk_below (bf0 BK469.out) hb), am (below_step (bl2 HB.out GE468.out GE469.out) hb), am (hbox), am ((gw hg (bl2 HB.out GE468.out GE469.out) : w.heap.size ≤ gb470)), am ((gw hg (bl2 HB.out GE468.out GE469.out) : w.heap.size ≤ gb470)), am ((nl hg (bf0 BK468.out) : gb468 ≠ gb470)), am ((ng hg (bf0 BK468.out) : gb470 ≠ gb468)), am ((nl hg (bf0 BK469.out) : gb469 ≠ gb470)), am ((ng hg (bf0 BK469.out) : gb470 ≠ gb469))⟩ : _ ∧ _ ∧ _ ∧ _ ∧ _ ∧ _ ∧ _ ∧ _ ∧ _ ∧ _); clear BK468 BK469 HB; obtain ⟨BK468, BK469, HB, BK470, GW470, GE470, NB468_470, NB470_468, NB469_470, NB470_469⟩ := n_; clear hb hbox hg; have hnb10 := NB468_469.out; have hnc10 := NB469_468.out; have hnb11 := NB468_470.out; have hnc11 := NB470_468.out; obtain ⟨hcz12_0, hcz12_1, hcz12_2, hcz12_3, hfz12_0, hfz12_1, hfz12_2, hfz12_3⟩ := cs4 BK468.out) | ((with_reducible refine gate_callee (f := 12) rfl ?_); refine goesL_ (some 9) rfl rfl Tryd.func12 (by kernel_rfl) rfl #[.agg #[.int .i64 a0_0, .int .i64 a0_1, .int .i64 a0_2, .int .i64 a0_3]] rfl lnp ?_; (with_reducible refine (spec_IsMachine.calls a0_0 a0_1 a0_2 a0_3 true _ A3.out).mono ?_); rintro e w13 ⟨rfl, hb⟩; refine ⟨_, rfl, ?_⟩; have n_ := (⟨am (blk_below (bf0 BK468.out) hb), am (blk_below (bf0 BK469.out) hb), am (blk_below (bf0 BK470.out) hb), am (below_step (bl3 HB.out GE468.out GE469.out GE470.out) hb)⟩ : _ ∧ _ ∧ _ ∧ _); clear BK468 BK469 BK470 HB; obtain ⟨BK468, BK469, BK470, HB⟩ := n_; (try clear hb); (try clear hb2); (try clear hk); (try clear hi); obtain ⟨hcz14_0, hcz14_1, hcz14_2, hcz14_3, hfz14_0, hfz14_1, hfz14_2, hfz14_3⟩ := cs4 BK468.out; have hnb15 := NB469_470.out; have hnc15 := NB470_469.out; obtain ⟨hcz16_0, hcz16_1, hfz16_0, hfz16_1⟩ := cs2 BK469.out) | ((with_reducible refine gate_callee (f := 27) rfl ?_); refine goesL_ (some 15) rfl rfl Tryd.func27 (by kernel_rfl) rfl #[.agg #[.int .i64 a0_0, .int .i64 a0_1, .int .i64 a0_2, .int .i64 a0_3], .agg #[.int .i64 a1_0, .int .i64 a1_1]] rfl lnp ?_; (with_reducible refine (spec_l29Make.calls a0_0 a0_1 a0_2 a0_3 a1_0 a1_1 t472 t473 t474 t475 true _ A5.out).mono ?_); rintro e w17 ⟨rfl, hb⟩; refine ⟨_, rfl, ?_⟩; have n_ := (⟨am (blk_below (bf0 BK468.out) hb), am (blk_below (bf0 BK469.out) hb), am (blk_below (bf0 BK470.out) hb), am (below_step (bl3 HB.out GE468.out GE469.out GE470.out) hb)⟩ : _ ∧ _ ∧ _ ∧ _); clear BK468 BK469 BK470 HB; obtain ⟨BK468, BK469, BK470, HB⟩ := n_; (try clear hb); (try clear hb2); (try clear hk); (try clear hi)) | ((with_reducible refine gate_dst (N := 6) rfl ?_); refine box_event ?hg (N := 6) ?hd (cs := #[.int .i64 0, .int .i64 0, .int .i64 0, .int .i64 0]) (t := 29) ?hr ?_; (case hd => rfl); (case hg => rfl); (case hr => first | (go_simp; done) | (go_simp; rfl)); intro gb477 hg w18 hbox hb; have n_ := (⟨am (blk_below (bf0 BK468.out) hb), am (blk_below (bf0 BK469.out) hb), am (blk_below (bf0 BK470.out) hb), am (below_step (bl3 HB.out GE468.out GE469.out GE470.out) hb), am (hbox), am ((gw hg (bl3 HB.out GE468.out GE469.out GE470.out) : w.heap.size ≤ gb477)), am ((gw hg (bl3 HB.out GE468.out GE469.out GE470.out) : w.heap.size ≤ gb477)), am ((nl hg (bf0 BK468.out) : gb468 ≠ gb477)), am ((ng hg (bf0 BK468.out) : gb477 ≠ gb468)), am ((nl hg (bf0 BK469.out) : gb469 ≠ gb477)), am ((ng hg (bf0 BK469.out) : gb477 ≠ gb469)), am ((nl hg (bf0 BK470.out) : gb470 ≠ gb477)), am ((ng hg (bf0 BK470.out) : gb477 ≠ gb470))⟩ : _ ∧ _ ∧ _ ∧ _ ∧ _ ∧ _ ∧ _ ∧ _ ∧ _ ∧ _ ∧ _ ∧ _ ∧ _); clear BK468 BK469 BK470 HB; obtain ⟨BK468, BK469, BK470, HB, BK477, GW477, GE477, NB468_477, NB477_468, NB469_477, NB477_469, NB470_477, NB477_470⟩ := n_; clear hb hbox hg; have hnb19 := NB477_468.out; have hnc19 := NB468_477.out; have hnb20 := NB477_469.out; have hnc20 := NB469_477.out; have hnb21 := NB477_470.out; have hnc21 := NB470_477.out; obtain ⟨hcz22_0, hcz22_1, hcz22_2, hcz22_3, hfz22_0, hfz22_1, hfz22_2, hfz22_3⟩ := cs4 BK477.out; obtain ⟨hcz23_0, hcz23_1, hcz23_2, hcz23_3, hfz23_0, hfz23_1, hfz23_2, hfz23_3⟩ := cs4 BK470.out))
   refine bodyPost_ret (results_ct rfl _ _ gb470 29 #[.int .i64 t472, .int .i64 t473, .int .i64 t474, .int .i64 t475] (0, 0) _ rfl (bp1 BK470.out NB470_477.out) Tryd.underlying29 rfl (by kernel_rfl)) rfl ?_
   exact ⟨er, bl4 HB.out GE468.out GE469.out GE470.out GE477.out⟩
  ·replace c6 := Bool.eq_false_iff.mpr c6
   subst c6
   have H1 : (some (0, 0, 0, 0, 5)) = some (r1, r2, r3, r4, r5) := by rw [if_neg (show ¬ (false = true) by decide)] at H; exact H
   clear H
   have H := H1
   clear H1
   simp only [Option.some.injEq, Prod.mk.injEq] at H
   obtain ⟨rfl, rfl, rfl, rfl, rfl⟩ := H
   go_enter Tryd.func10, Tryd.ntmps10
   go_wp2_with (first | ((with_reducible refine gate_dst (N := 2) rfl ?_); refine box_event ?hg (N := 2) ?hd (cs := #[.int .i64 a0_0, .int .i64 a0_1, .int .i64 a0_2, .int .i64 a0_3]) (t := 29) ?hr ?_; (case hd => rfl); (case hg => rfl); (case hr => first | (go_simp; done) | (go_simp; rfl)); intro gb468 hg w24 hbox hb; have n_ := (⟨am (below_step (bl0 HB.out) hb), am (hbox), am ((gw hg (bl0 HB.out) : w.heap.size ≤ gb468)), am ((gw hg (bl0 HB.out) : w.heap.size ≤ gb468))⟩ : _ ∧ _ ∧ _ ∧ _); clear HB; obtain ⟨HB, BK468, GW468, GE468⟩ := n_; clear hb hbox hg) | ((with_reducible refine gate_dst (N := 3) rfl ?_); refine box_event ?hg (N := 3) ?hd (cs := #[.int .i64 a1_0, .int .i64 a1_1]) (t := 31) ?hr ?_; (case hd => rfl); (case hg => rfl); (case hr => first | (go_simp; done) | (go_simp; rfl)); intro gb469 hg w25 hbox hb; have n_ := (⟨am (blk_below (bf0 BK468.out) hb), am (below_step (bl1 HB.out GE468.out) hb), am (hbox), am ((gw hg (bl1 HB.out GE468.out) : w.heap.size ≤ gb469)), am ((gw hg (bl1 HB.out GE468.out) : w.heap.size ≤ gb469)), am ((nl hg (bf0 BK468.out) : gb468 ≠ gb469)), am ((ng hg (bf0 BK468.out) : gb469 ≠ gb468))⟩ : _ ∧ _ ∧ _ ∧ _ ∧ _ ∧ _ ∧ _); clear BK468 HB; obtain ⟨BK468, HB, BK469, GW469, GE469, NB468_469, NB469_468⟩ := n_; clear hb hbox hg) | ((with_reducible refine gate_dst (N := 4) rfl ?_); refine box_event ?hg (N := 4) ?hd (cs := #[.int .i64 0, .int .i64 0, .int .i64 0, .int .i64 0]) (t := 29) ?hr ?_; (case hd => rfl); (case hg => rfl); (case hr => first | (go_simp; done) | (go_simp; rfl)); intro gb470 hg w26 hbox hb; have n_ := (⟨am (blk_below (bf0 BK468.out) hb), am (blk_below (bf0 BK469.out) hb), am (below_step (bl2 HB.out GE468.out GE469.out) hb), am (hbox), am ((gw hg (bl2 HB.out GE468.out GE469.out) : w.heap.size ≤ gb470)), am ((gw hg (bl2 HB.out GE468.out GE469.out) : w.heap.size ≤ gb470)), am ((nl hg (bf0 BK468.out) : gb468 ≠ gb470)), am ((ng hg (bf0 BK468.out) : gb470 ≠ gb468)), am ((nl hg (bf0 BK469.out) : gb469 ≠ gb470)), am ((ng hg (bf0 BK469.out) : gb470 ≠ gb469))⟩ : _ ∧ _ ∧ _ ∧ _ ∧ _ ∧ _ ∧ _ ∧ _ ∧ _ ∧ _); clear BK468 BK469 HB; obtain ⟨BK468, BK469, HB, BK470, GW470, GE470, NB468_470, NB470_468, NB469_470, NB470_469⟩ := n_; clear hb hbox hg; have hnb27 := NB468_469.out; have hnc27 := NB469_468.out; have hnb28 := NB468_470.out; have hnc28 := NB470_468.out; obtain ⟨hcz29_0, hcz29_1, hcz29_2, hcz29_3, hfz29_0, hfz29_1, hfz29_2, hfz29_3⟩ := cs4 BK468.out) | ((with_reducible refine gate_callee (f := 12) rfl ?_); refine goesL_ (some 9) rfl rfl Tryd.func12 (by kernel_rfl) rfl #[.agg #[.int .i64 a0_0, .int .i64 a0_1, .int .i64 a0_2, .int .i64 a0_3]] rfl lnp ?_; (with_reducible refine (spec_IsMachine.calls a0_0 a0_1 a0_2 a0_3 true _ A3.out).mono ?_); rintro e w30 ⟨rfl, hb⟩; refine ⟨_, rfl, ?_⟩; have n_ := (⟨am (blk_below (bf0 BK468.out) hb), am (blk_below (bf0 BK469.out) hb), am (blk_below (bf0 BK470.out) hb), am (below_step (bl3 HB.out GE468.out GE469.out GE470.out) hb)⟩ : _ ∧ _ ∧ _ ∧ _); clear BK468 BK469 BK470 HB; obtain ⟨BK468, BK469, BK470, HB⟩ := n_; (try clear hb); (try clear hb2); (try clear hk); (try clear hi); obtain ⟨hcz31_0, hcz31_1, hcz31_2, hcz31_3, hfz31_0, hfz31_1, hfz31_2, hfz31_3⟩ := cs4 BK468.out; have hnb32 := NB469_470.out; have hnc32 := NB470_469.out; obtain ⟨hcz33_0, hcz33_1, hfz33_0, hfz33_1⟩ := cs2 BK469.out) | ((with_reducible refine gate_callee (f := 27) rfl ?_); refine goesL_ (some 15) rfl rfl Tryd.func27 (by kernel_rfl) rfl #[.agg #[.int .i64 a0_0, .int .i64 a0_1, .int .i64 a0_2, .int .i64 a0_3], .agg #[.int .i64 a1_0, .int .i64 a1_1]] rfl lnp ?_; (with_reducible refine (spec_l29Make.calls a0_0 a0_1 a0_2 a0_3 a1_0 a1_1 t472 t473 t474 t475 false _ A5.out).mono ?_); rintro e w34 ⟨rfl, hb⟩; refine ⟨_, rfl, ?_⟩; have n_ := (⟨am (blk_below (bf0 BK468.out) hb), am (blk_below (bf0 BK469.out) hb), am (blk_below (bf0 BK470.out) hb), am (below_step (bl3 HB.out GE468.out GE469.out GE470.out) hb)⟩ : _ ∧ _ ∧ _ ∧ _); clear BK468 BK469 BK470 HB; obtain ⟨BK468, BK469, BK470, HB⟩ := n_; (try clear hb); (try clear hb2); (try clear hk); (try clear hi)) | ((with_reducible refine gate_dst (N := 6) rfl ?_); refine box_event ?hg (N := 6) ?hd (cs := #[.int .i64 0, .int .i64 0, .int .i64 0, .int .i64 0]) (t := 29) ?hr ?_; (case hd => rfl); (case hg => rfl); (case hr => first | (go_simp; done) | (go_simp; rfl)); intro gb477 hg w35 hbox hb; have n_ := (⟨am (blk_below (bf0 BK468.out) hb), am (blk_below (bf0 BK469.out) hb), am (blk_below (bf0 BK470.out) hb), am (below_step (bl3 HB.out GE468.out GE469.out GE470.out) hb), am (hbox), am ((gw hg (bl3 HB.out GE468.out GE469.out GE470.out) : w.heap.size ≤ gb477)), am ((gw hg (bl3 HB.out GE468.out GE469.out GE470.out) : w.heap.size ≤ gb477)), am ((nl hg (bf0 BK468.out) : gb468 ≠ gb477)), am ((ng hg (bf0 BK468.out) : gb477 ≠ gb468)), am ((nl hg (bf0 BK469.out) : gb469 ≠ gb477)), am ((ng hg (bf0 BK469.out) : gb477 ≠ gb469)), am ((nl hg (bf0 BK470.out) : gb470 ≠ gb477)), am ((ng hg (bf0 BK470.out) : gb477 ≠ gb470))⟩ : _ ∧ _ ∧ _ ∧ _ ∧ _ ∧ _ ∧ _ ∧ _ ∧ _ ∧ _ ∧ _ ∧ _ ∧ _); clear BK468 BK469 BK470 HB; obtain ⟨BK468, BK469, BK470, HB, BK477, GW477, GE477, NB468_477, NB477_468, NB469_477, NB477_469, NB470_477, NB477_470⟩ := n_; clear hb hbox hg; have hnb36 := NB477_468.out; have hnc36 := NB468_477.out; have hnb37 := NB477_469.out; have hnc37 := NB469_477.out; have hnb38 := NB477_470.out; have hnc38 := NB470_477.out; obtain ⟨hcz39_0, hcz39_1, hcz39_2, hcz39_3, hfz39_0, hfz39_1, hfz39_2, hfz39_3⟩ := cs4 BK477.out; obtain ⟨hcz40_0, hcz40_1, hcz40_2, hcz40_3, hfz40_0, hfz40_1, hfz40_2, hfz40_3⟩ := cs4 BK470.out))
   refine bodyPost_ret (results_ct rfl _ _ gb470 29 #[.int .i64 0, .int .i64 0, .int .i64 0, .int .i64 0] (0, 0) _ rfl (bp1 BK470.out NB470_477.out) Tryd.underlying29 rfl (by kernel_rfl)) rfl ?_
   exact ⟨er, bl4 HB.out GE468.out GE469.out GE470.out GE477.out⟩
 ·replace c4 := Bool.eq_false_iff.mpr c4
  subst c4
  have H1 : (some (0, 0, 0, 0, 1)) = some (r1, r2, r3, r4, r5) := by rw [if_neg (show ¬ (false = true) by decide)] at H; exact H
  clear H
  have H := H1
  clear H1
  simp only [Option.some.injEq, Prod.mk.injEq] at H
  obtain ⟨rfl, rfl, rfl, rfl, rfl⟩ := H
  go_enter Tryd.func10, Tryd.ntmps10
  go_wp2_with (first | ((with_reducible refine gate_dst (N := 2) rfl ?_); refine box_event ?hg (N := 2) ?hd (cs := #[.int .i64 a0_0, .int .i64 a0_1, .int .i64 a0_2, .int .i64 a0_3]) (t := 29) ?hr ?_; (case hd => rfl); (case hg => rfl); (case hr => first | (go_simp; done) | (go_simp; rfl)); intro gb468 hg w41 hbox hb; have n_ := (⟨am (below_step (bl0 HB.out) hb), am (hbox), am ((gw hg (bl0 HB.out) : w.heap.size ≤ gb468)), am ((gw hg (bl0 HB.out) : w.heap.size ≤ gb468))⟩ : _ ∧ _ ∧ _ ∧ _); clear HB; obtain ⟨HB, BK468, GW468, GE468⟩ := n_; clear hb hbox hg) | ((with_reducible refine gate_dst (N := 3) rfl ?_); refine box_event ?hg (N := 3) ?hd (cs := #[.int .i64 a1_0, .int .i64 a1_1]) (t := 31) ?hr ?_; (case hd => rfl); (case hg => rfl); (case hr => first | (go_simp; done) | (go_simp; rfl)); intro gb469 hg w42 hbox hb; have n_ := (⟨am (blk_below (bf0 BK468.out) hb), am (below_step (bl1 HB.out GE468.out) hb), am (hbox), am ((gw hg (bl1 HB.out GE468.out) : w.heap.size ≤ gb469)), am ((gw hg (bl1 HB.out GE468.out) : w.heap.size ≤ gb469)), am ((nl hg (bf0 BK468.out) : gb468 ≠ gb469)), am ((ng hg (bf0 BK468.out) : gb469 ≠ gb468))⟩ : _ ∧ _ ∧ _ ∧ _ ∧ _ ∧ _ ∧ _); clear BK468 HB; obtain ⟨BK468, HB, BK469, GW469, GE469, NB468_469, NB469_468⟩ := n_; clear hb hbox hg) | ((with_reducible refine gate_dst (N := 4) rfl ?_); refine box_event ?hg (N := 4) ?hd (cs := #[.int .i64 0, .int .i64 0, .int .i64 0, .int .i64 0]) (t := 29) ?hr ?_; (case hd => rfl); (case hg => rfl); (case hr => first | (go_simp; done) | (go_simp; rfl)); intro gb470 hg w43 hbox hb; have n_ := (⟨am (blk_below (bf0 BK468.out) hb), am (blk_below (bf0 BK469.out) hb), am (below_step (bl2 HB.out GE468.out GE469.out) hb), am (hbox), am ((gw hg (bl2 HB.out GE468.out GE469.out) : w.heap.size ≤ gb470)), am ((gw hg (bl2 HB.out GE468.out GE469.out) : w.heap.size ≤ gb470)), am ((nl hg (bf0 BK468.out) : gb468 ≠ gb470)), am ((ng hg (bf0 BK468.out) : gb470 ≠ gb468)), am ((nl hg (bf0 BK469.out) : gb469 ≠ gb470)), am ((ng hg (bf0 BK469.out) : gb470 ≠ gb469))⟩ : _ ∧ _ ∧ _ ∧ _ ∧ _ ∧ _ ∧ _ ∧ _ ∧ _ ∧ _); clear BK468 BK469 HB; obtain ⟨BK468, BK469, HB, BK470, GW470, GE470, NB468_470, NB470_468, NB469_470, NB470_469⟩ := n_; clear hb hbox hg; have hnb44 := NB468_469.out; have hnc44 := NB469_468.out; have hnb45 := NB468_470.out; have hnc45 := NB470_468.out; obtain ⟨hcz46_0, hcz46_1, hcz46_2, hcz46_3, hfz46_0, hfz46_1, hfz46_2, hfz46_3⟩ := cs4 BK468.out) | ((with_reducible refine gate_callee (f := 12) rfl ?_); refine goesL_ (some 9) rfl rfl Tryd.func12 (by kernel_rfl) rfl #[.agg #[.int .i64 a0_0, .int .i64 a0_1, .int .i64 a0_2, .int .i64 a0_3]] rfl lnp ?_; (with_reducible refine (spec_IsMachine.calls a0_0 a0_1 a0_2 a0_3 false _ A3.out).mono ?_); rintro e w47 ⟨rfl, hb⟩; refine ⟨_, rfl, ?_⟩; have n_ := (⟨am (blk_below (bf0 BK468.out) hb), am (blk_below (bf0 BK469.out) hb), am (blk_below (bf0 BK470.out) hb), am (below_step (bl3 HB.out GE468.out GE469.out GE470.out) hb)⟩ : _ ∧ _ ∧ _ ∧ _); clear BK468 BK469 BK470 HB; obtain ⟨BK468, BK469, BK470, HB⟩ := n_; (try clear hb); (try clear hb2); (try clear hk); (try clear hi); have hnb48 := NB470_469.out; have hnc48 := NB469_470.out; obtain ⟨hcz49_0, hcz49_1, hcz49_2, hcz49_3, hfz49_0, hfz49_1, hfz49_2, hfz49_3⟩ := cs4 BK470.out))
  refine bodyPost_ret (results_ct rfl _ _ gb470 29 #[.int .i64 0, .int .i64 0, .int .i64 0, .int .i64 0] (0, 0) _ rfl (bp0 BK470.out) Tryd.underlying29 rfl (by kernel_rfl)) rfl ?_
  exact ⟨er, bl3 HB.out GE468.out GE469.out GE470.out⟩

/-! ### impl_RecoverJournal: function 13 -/
def impl_RecoverJournal.f (k : Nat) (a0 : ByteArray) : Option ((List (S31)) × Int) := if (a0.size : Int) > 8000 then (some (([] : List (S31)), 3)) else ((impl_recovered.f k a0).bind fun bt478 => (some (bt478.1, 0)))
theorem impl_RecoverJournal.mono : ∀ a0 k, LeO (impl_RecoverJournal.f k a0) (impl_RecoverJournal.f (k + 1) a0) := by
 intro a0 k
 unfold impl_RecoverJournal.f
 repeat' first | (with_reducible first | exact impl_recovered.mono _ _ | exact LeO.refl _ | exact LeO.none _ | refine LeO.ite ?_ ?_ | refine LeO.bind ?_ (fun _ => ?_)) | exact impl_recovered.mono _ _ | exact LeO.none _ | refine LeO.ite ?_ ?_ | refine LeO.bind ?_ (fun _ => ?_)
theorem impl_RecoverJournal.calls (k : Nat) (a0 : ByteArray) (r1 : List (S31)) (r2 : Int) (w : World) (h : impl_RecoverJournal.f k a0 = some (r1, r2)) (hG : Gl w) :
  Calls Tryd.prog 13 #[.string a0] w fun e w' => ∃ v0_ : Value, e = .returned (.tuple #[v0_, .int .i64 r2]) ∧ Kd.R k31 31 w' w.heap.size (fun _ => True) v0_ r1 ∧ Below w.heap.size w w' := by
 have HG := Aside0.mk hG
 clear hG
 have hu29 := Tryd.underlying29
 have HB := am (Below.refl w.heap.size w)
 have H : (if (a0.size : Int) > 8000 then (some (([] : List (S31)), 3)) else ((impl_recovered.f k a0).bind fun bt478 => (some (bt478.1, 0)))) = some (r1, r2) := h
 clear h
 by_cases c2 : (a0.size : Int) > 8000
 ·rw [if_pos c2] at H
  have c2b0 : decide (8000 < (a0.size : Int)) = true := decide_eq_true c2
  have c2b1 : decide (8000 < a0.size) = true := decide_eq_true (by omega)
  clear c2
  simp only [Option.some.injEq, Prod.mk.injEq] at H
  obtain ⟨rfl, rfl⟩ := H
  go_enter Tryd.func13, Tryd.ntmps13
  go_wp2
  go_ret2
  exact ⟨_, by first | rfl | (simp [errW_none, errW_some] <;> rfl) | (simp [*, errW_none, errW_some] <;> rfl), by first | exact Kd.R_nil _ _ _ _ _ | exact Kd.N_nil _ _ _ _ _ | exact Kd.V_nil _ _ _ _ _ | exact Kd.Q_nil _ _ _ _ _ | exact Kd.S_nil _ _ _ _ _, bl0 HB.out⟩
 ·rw [if_neg c2] at H
  have c2b0 : decide (8000 < (a0.size : Int)) = false := decide_eq_false c2
  have c2b1 : decide (8000 < a0.size) = false := decide_eq_false (by omega)
  clear c2
  replace H := Option.bind_eq_some_iff.mp H
  obtain ⟨⟨t478, t481, t482, t483, t484⟩, A30, H⟩ := H
  replace H : (some (t478, 0)) = some (r1, r2) := H
  have A3 := Aside0.mk A30
  clear A30
  simp only [Option.some.injEq, Prod.mk.injEq] at H
  obtain ⟨rfl, rfl⟩ := H
  go_enter Tryd.func13, Tryd.ntmps13
  go_wp2_with (first | ((with_reducible refine gate_callee (f := 20) rfl ?_); refine goesL_ (some 11) rfl rfl Tryd.func20 (by kernel_rfl) rfl #[.string a0] rfl lnp ?_; (with_reducible refine (impl_recovered.calls k a0 t478 t481 t482 t483 t484 _ A3.out ?gl_).mono ?_); (case gl_ => exact Gl.below HG.out (bl0 HB.out)); rintro e w4 ⟨v479, rfl, ho0, hb⟩; refine ⟨_, rfl, ?_⟩; have n_ := (⟨am (Kd.R_lower ho0 (below_size (bl0 HB.out))), am (below_step (bl0 HB.out) hb)⟩ : _ ∧ _); clear HB; obtain ⟨HO480, HB⟩ := n_; (try clear hb); (try clear hb2); (try clear hk); (try clear hi); (try clear ho0)) | ((with_reducible refine gate_dst (N := 5) rfl ?_); refine box_event ?hg (N := 5) ?hd (cs := #[.int .i64 0, .int .i64 0, .int .i64 0, .int .i64 0]) (t := 29) ?hr ?_; (case hd => rfl); (case hg => rfl); (case hr => first | (go_simp; done) | (go_simp; rfl)); intro gb485 hg w5 hbox hb; have n_ := (⟨am (Kd.R_below (rqR HO480.out) hb), am (below_step (bl0 HB.out) hb), am (hbox), am ((gw hg (bl0 HB.out) : w.heap.size ≤ gb485)), am ((gw hg (bl0 HB.out) : w.heap.size ≤ gb485))⟩ : _ ∧ _ ∧ _ ∧ _ ∧ _); clear HO480 HB; obtain ⟨HO480, HB, BK485, GW485, GE485⟩ := n_; clear hb hbox hg; obtain ⟨hcz6_0, hcz6_1, hcz6_2, hcz6_3, hfz6_0, hfz6_1, hfz6_2, hfz6_3⟩ := cs4 BK485.out))
  go_ret2
  exact ⟨_, by first | rfl | (simp [errW_none, errW_some] <;> rfl) | (simp [*, errW_none, errW_some] <;> rfl), by (with_reducible repeat (first | apply Kd.R_alloc | apply Kd.R_drewN | apply Kd.R_drew)); exact Kd.R_mono (Kd.R_far (p := ⟨gb485, 3, none⟩) (Kd.R_far (p := ⟨gb485, 2, none⟩) (Kd.R_far (p := ⟨gb485, 1, none⟩) (Kd.R_far (p := ⟨gb485, 0, none⟩) (Kd.R_types HO480.out BK485.out (by decide)) (fun _ hk => hk.2) (.int .i64 t481)) (fun _ hk => hk.2) (.int .i64 t482)) (fun _ hk => hk.2) (.int .i64 t483)) (fun _ hk => hk.2) (.int .i64 t484)) (fun _ hk => trivial), bl1 HB.out GE485.out⟩

/-! ### impl_runEntries: function 29 -/
def impl_runEntries.l0 : Nat → List (S31) → List (S31) → Int → Int → Int → Int → Int → Int → Option (Int × Int × Int × Int × Bool)
 | 0, _, _, _, _, _, _, _, _ => none
 | k + 1, x0, x10, x11, x12, x488000, x488001, x488002, x488003 => if x12 < x11 then (if 0 ≤ x12 then (if x12 < (x10.length : Int) then ((impl_after.f k x488000 x488001 x488002 x488003 ((rd_T31 x10 x12).f0) ((rd_T31 x10 x12).f1)).bind fun bt490 => (if bt490.2.2.2.2 = true then (impl_runEntries.l0 k x0 x10 x11 (wrap64 (x12 + 1)) bt490.1 bt490.2.1 bt490.2.2.1 bt490.2.2.2.1) else (some (0, 0, 0, 0, false)))) else (none)) else (none)) else (some (x488000, x488001, x488002, x488003, decide ((x0.length : Int) ≤ 200)))
def impl_runEntries.f (k : Nat) (l0 : List (S31)) : Option (Int × Int × Int × Int × Bool) := impl_runEntries.l0 k l0 l0 (l0.length : Int) 0 0 0 0 0
theorem impl_runEntries.mono_l : ∀ k, (∀ y0 y1 y2 y3 y4 y5 y6 y7, LeO (impl_runEntries.l0 k y0 y1 y2 y3 y4 y5 y6 y7) (impl_runEntries.l0 (k + 1) y0 y1 y2 y3 y4 y5 y6 y7))
 | 0 => fun _ _ _ _ _ _ _ _ r h => by simp [impl_runEntries.l0] at h
 | k + 1 => by
  have ih0 := impl_runEntries.mono_l k
  ·intro y0 y1 y2 y3 y4 y5 y6 y7
   unfold impl_runEntries.l0
   repeat' first | (with_reducible first | exact ih0 _ _ _ _ _ _ _ _ | exact impl_after.mono _ _ _ _ _ _ _ | exact LeO.refl _ | exact LeO.none _ | refine LeO.ite ?_ ?_ | refine LeO.bind ?_ (fun _ => ?_)) | exact ih0 _ _ _ _ _ _ _ _ | exact impl_after.mono _ _ _ _ _ _ _ | exact LeO.none _ | refine LeO.ite ?_ ?_ | refine LeO.bind ?_ (fun _ => ?_)
theorem impl_runEntries.mono : ∀ a0 k, LeO (impl_runEntries.f k a0) (impl_runEntries.f (k + 1) a0) := by
 intro a0 k
 have ih0 := impl_runEntries.mono_l k
 unfold impl_runEntries.f
 repeat' first | (with_reducible first | exact ih0 _ _ _ _ _ _ _ _ | exact impl_after.mono _ _ _ _ _ _ _ | exact LeO.refl _ | exact LeO.none _ | refine LeO.ite ?_ ?_ | refine LeO.bind ?_ (fun _ => ?_)) | exact ih0 _ _ _ _ _ _ _ _ | exact impl_after.mono _ _ _ _ _ _ _ | exact LeO.none _ | refine LeO.ite ?_ ?_ | refine LeO.bind ?_ (fun _ => ?_)
theorem impl_runEntries.calls (k : Nat) (A0 : Option Addr) (c0 : Nat) (l0 : List (S31)) (r1 : Int) (r2 : Int) (r3 : Int) (r4 : Int) (r5 : Bool) (w : World) (hr0 : Kd.C k31 w A0 l0.length l0) (hc0 : l0.length ≤ c0) (h : impl_runEntries.f k l0 = some (r1, r2, r3, r4, r5)) :
  Calls Tryd.prog 29 #[.slice A0 l0.length c0] w fun e w' => e = .returned (.tuple #[.agg #[.int .i64 r1, .int .i64 r2, .int .i64 r3, .int .i64 r4], .bool r5]) ∧ Below w.heap.size w w' := by
 have hu29 := Tryd.underlying29
 have hu31 := Tryd.underlying31
 have HR0 := Aside0.mk hr0
 have HC0 := Aside0.mk hc0
 clear hr0 hc0
 have HB := am (Below.refl w.heap.size w)
 have H : (impl_runEntries.l0 k l0 l0 (l0.length : Int) 0 0 0 0 0) = some (r1, r2, r3, r4, r5) := h
 clear h
 have H' := Aside0.mk H
 clear H
 go_enter Tryd.func29, Tryd.ntmps29
 go_wp2_with (first | ((with_reducible refine gate_dst (N := 2) rfl ?_); refine box_event ?hg (N := 2) ?hd (cs := #[.int .i64 0, .int .i64 0, .int .i64 0, .int .i64 0]) (t := 29) ?hr ?_; (case hd => rfl); (case hg => rfl); (case hr => first | (go_simp; done) | (go_simp; rfl)); intro gb486 hg w2 hbox hb; have n_ := (⟨am (below_step (bl0 HB.out) hb), am (hbox), am ((gw hg (bl0 HB.out) : w.heap.size ≤ gb486)), am ((gw hg (bl0 HB.out) : w.heap.size ≤ gb486))⟩ : _ ∧ _ ∧ _ ∧ _); clear HB; obtain ⟨HB, BK486, GW486, GE486⟩ := n_; clear hb hbox hg) | ((with_reducible refine gate_dst (N := 4) rfl ?_); refine box_event ?hg (N := 4) ?hd (cs := #[.int .i64 0, .int .i64 0, .int .i64 0, .int .i64 0]) (t := 29) ?hr ?_; (case hd => rfl); (case hg => rfl); (case hr => first | (go_simp; done) | (go_simp; rfl)); intro gb487 hg w3 hbox hb; have n_ := (⟨am (blk_below (bf0 BK486.out) hb), am (below_step (bl1 HB.out GE486.out) hb), am (hbox), am ((gw hg (bl1 HB.out GE486.out) : w.heap.size ≤ gb487)), am ((gw hg (bl1 HB.out GE486.out) : w.heap.size ≤ gb487)), am ((nl hg (bf0 BK486.out) : gb486 ≠ gb487)), am ((ng hg (bf0 BK486.out) : gb487 ≠ gb486))⟩ : _ ∧ _ ∧ _ ∧ _ ∧ _ ∧ _ ∧ _); clear BK486 HB; obtain ⟨BK486, HB, BK487, GW487, GE487, NB486_487, NB487_486⟩ := n_; clear hb hbox hg; have hnb4 := NB487_486.out; have hnc4 := NB486_487.out; obtain ⟨hcz5_0, hcz5_1, hcz5_2, hcz5_3, hfz5_0, hfz5_1, hfz5_2, hfz5_3⟩ := cs4 BK487.out))
 go_loopg [12] k (fun kq v12 w' => ∃ (x12_1 : Int) (x487000_1 : Int) (x487001_1 : Int) (x487002_1 : Int) (x487003_1 : Int) (x488000_1 : Int) (x488001_1 : Int) (x488002_1 : Int) (x488003_1 : Int), v12 = .int .i64 x12_1 ∧ Aside0 (impl_runEntries.l0 kq l0 l0 (l0.length : Int) x12_1 x488000_1 x488001_1 x488002_1 x488003_1 = some (r1, r2, r3, r4, r5)) ∧ Aside0 (kq ≤ k) ∧ Aside0 (w'.heap[gb486]? = some (.cells #[.int .i64 x487000_1, .int .i64 x487001_1, .int .i64 x487002_1, .int .i64 x487003_1] 29 (0, 0))) ∧ Aside0 (w'.heap[gb487]? = some (.cells #[.int .i64 x488000_1, .int .i64 x488001_1, .int .i64 x488002_1, .int .i64 x488003_1] 29 (0, 0))) ∧ Aside0 (Below w.heap.size w w'))
 case atStart => exact ⟨(0), (0), (0), (0), (0), (0), (0), (0), (0), (by first | rfl | (simp; done) | (simp [*]; done)), H', ⟨Nat.le_refl _⟩, ⟨bf1 BK486.out NB486_487.out⟩, ⟨by (with_reducible repeat (first | refine blk_drewN ?_ _ | refine blk_drew ?_ | refine blk_alloc ?_ _)); refine blk_put (cs := #[.int .i64 0, .int .i64 0, .int .i64 0, .int .i64 0]) ?_ 3 _ rfl; (with_reducible repeat (first | refine blk_drewN ?_ _ | refine blk_drew ?_ | refine blk_alloc ?_ _)); refine blk_put (cs := #[.int .i64 0, .int .i64 0, .int .i64 0, .int .i64 0]) ?_ 2 _ rfl; (with_reducible repeat (first | refine blk_drewN ?_ _ | refine blk_drew ?_ | refine blk_alloc ?_ _)); refine blk_put (cs := #[.int .i64 0, .int .i64 0, .int .i64 0, .int .i64 0]) ?_ 1 _ rfl; (with_reducible repeat (first | refine blk_drewN ?_ _ | refine blk_drew ?_ | refine blk_alloc ?_ _)); refine blk_put (cs := #[.int .i64 0, .int .i64 0, .int .i64 0, .int .i64 0]) ?_ 0 _ rfl; exact bf0 BK487.out⟩, ⟨bl2 HB.out GE486.out GE487.out⟩⟩
 case round =>
  clear H'
  try clear c2
  try clear p2
  try clear c4
  try clear hcz5_0
  try clear hcz5_1
  try clear hcz5_2
  try clear hcz5_3
  try clear hfz5_0
  try clear hfz5_1
  try clear hfz5_2
  try clear hfz5_3
  obtain ⟨x12_1, x487000_1, x487001_1, x487002_1, x487003_1, x488000_1, x488001_1, x488002_1, x488003_1, rfl, HA, HK1, BK486, BK487, HB⟩ := hrel
  cases gk with
  | zero => exact absurd HA.out (by simp [impl_runEntries.l0])
  | succ k1 =>
   have H := HA.out
   clear HA
   simp only [impl_runEntries.l0] at H
   by_cases c6 : x12_1 < (l0.length : Int)
   ·rw [if_pos c6] at H
    have c6b0 : decide (x12_1 < (l0.length : Int)) = true := decide_eq_true c6
    clear c6
    by_cases c7 : 0 ≤ x12_1
    ·rw [if_pos c7] at H
     have c7b0 : decide (0 ≤ x12_1) = true := decide_eq_true c7
     clear c7
     by_cases c8 : x12_1 < (l0.length : Int)
     ·rw [if_pos c8] at H
      have c8b0 : decide (x12_1 < (l0.length : Int)) = true := decide_eq_true c8
      clear c8
      replace H := Option.bind_eq_some_iff.mp H
      obtain ⟨⟨t490, t491, t492, t493, t494⟩, A90, H⟩ := H
      replace H : (if t494 = true then (impl_runEntries.l0 k1 l0 l0 (l0.length : Int) (wrap64 (x12_1 + 1)) t490 t491 t492 t493) else (some (0, 0, 0, 0, false))) = some (r1, r2, r3, r4, r5) := H
      have A9 := Aside0.mk A90
      clear A90
      by_cases c10 : t494 = true
      ·subst c10
       have H1 : (impl_runEntries.l0 k1 l0 l0 (l0.length : Int) (wrap64 (x12_1 + 1)) t490 t491 t492 t493) = some (r1, r2, r3, r4, r5) := by rw [if_pos rfl] at H; exact H
       clear H
       have H := H1
       clear H1
       have H' := Aside0.mk H
       clear H
       have p488 : 0 ≤ (x12_1 : Int) := of_decide_eq_true (by first | (with_reducible assumption) | assumption)
       have q488 : x12_1 < (l0.length : Int) := of_decide_eq_true (by first | (with_reducible assumption) | assumption)
       obtain ⟨ad488, e488, hx488_0, hx488_1⟩ := at_T31 HR0.out x12_1 p488 q488
       cases e488
       replace hx488_0 := (HB.out.cell (World.block_lt_of_cell? w _ hx488_0)).trans hx488_0
       replace hx488_1 := (HB.out.cell (World.block_lt_of_cell? w _ hx488_1)).trans hx488_1
       replace p488 := eq_true p488
       replace q488 := eq_true q488
       go_wp2_with (first | ((with_reducible refine gate_dst (N := 6) rfl ?_); refine box_event ?hg (N := 6) ?hd (cs := #[.int .i64 0, .int .i64 0]) (t := 31) ?hr ?_; (case hd => rfl); (case hg => rfl); (case hr => first | (go_simp; done) | (go_simp; rfl)); intro gb489 hg w11 hbox hb; have n_ := (⟨am (blk_below (bf0 BK486.out) hb), am (blk_below (bf0 BK487.out) hb), am (below_step (bl2 HB.out GE486.out GE487.out) hb), am (hbox), am ((gw hg (bl2 HB.out GE486.out GE487.out) : w.heap.size ≤ gb489)), am ((gw hg (bl2 HB.out GE486.out GE487.out) : w.heap.size ≤ gb489)), am ((nl hg (bf0 BK486.out) : gb486 ≠ gb489)), am ((ng hg (bf0 BK486.out) : gb489 ≠ gb486)), am ((nl hg (bf0 BK487.out) : gb487 ≠ gb489)), am ((ng hg (bf0 BK487.out) : gb489 ≠ gb487))⟩ : _ ∧ _ ∧ _ ∧ _ ∧ _ ∧ _ ∧ _ ∧ _ ∧ _ ∧ _); clear BK486 BK487 HB; obtain ⟨BK486, BK487, HB, BK489, GW489, GE489, NB486_489, NB489_486, NB487_489, NB489_487⟩ := n_; clear hb hbox hg; have hnb12 := NB489_486.out; have hnc12 := NB486_489.out; have hnb13 := NB489_487.out; have hnc13 := NB487_489.out; obtain ⟨hcz14_0, hcz14_1, hfz14_0, hfz14_1⟩ := cs2 BK489.out; have hnb15 := NB487_486.out; have hnc15 := NB486_487.out; obtain ⟨hcz16_0, hcz16_1, hcz16_2, hcz16_3, hfz16_0, hfz16_1, hfz16_2, hfz16_3⟩ := cs4 BK487.out) | ((with_reducible refine gate_callee (f := 26) rfl ?_); refine goesL_ (some 19) rfl rfl Tryd.func26 (by kernel_rfl) rfl #[.agg #[.int .i64 x488000_1, .int .i64 x488001_1, .int .i64 x488002_1, .int .i64 x488003_1], .agg #[.int .i64 ((rd_T31 l0 x12_1).f0), .int .i64 ((rd_T31 l0 x12_1).f1)]] rfl lnp ?_; (with_reducible refine (impl_after.calls k1 x488000_1 x488001_1 x488002_1 x488003_1 ((rd_T31 l0 x12_1).f0) ((rd_T31 l0 x12_1).f1) t490 t491 t492 t493 true _ A9.out).mono ?_); rintro e w17 ⟨rfl, hb⟩; refine ⟨_, rfl, ?_⟩; have n_ := (⟨am (blk_below (bf1 BK486.out NB486_489.out) hb), am (blk_below (bf1 BK487.out NB487_489.out) hb), am (blk_below (g := gb489) (o := .cells #[.int .i64 ((rd_T31 l0 x12_1).f0), .int .i64 ((rd_T31 l0 x12_1).f1)] 31 (0, 0)) (bp0 BK489.out) hb), am (below_step (bl3 HB.out GE486.out GE487.out GE489.out) hb)⟩ : _ ∧ _ ∧ _ ∧ _); clear BK486 BK487 BK489 HB; obtain ⟨BK486, BK487, BK489, HB⟩ := n_; (try clear hb); (try clear hb2); (try clear hk); (try clear hi)) | ((with_reducible refine gate_dst (N := 7) rfl ?_); refine box_event ?hg (N := 7) ?hd (cs := #[.int .i64 0, .int .i64 0, .int .i64 0, .int .i64 0]) (t := 29) ?hr ?_; (case hd => rfl); (case hg => rfl); (case hr => first | (go_simp; done) | (go_simp; rfl)); intro gb495 hg w18 hbox hb; have n_ := (⟨am (blk_below (bf0 BK486.out) hb), am (blk_below (bf0 BK487.out) hb), am (blk_below (bf0 BK489.out) hb), am (below_step (bl3 HB.out GE486.out GE487.out GE489.out) hb), am (hbox), am ((gw hg (bl3 HB.out GE486.out GE487.out GE489.out) : w.heap.size ≤ gb495)), am ((gw hg (bl3 HB.out GE486.out GE487.out GE489.out) : w.heap.size ≤ gb495)), am ((nl hg (bf0 BK486.out) : gb486 ≠ gb495)), am ((ng hg (bf0 BK486.out) : gb495 ≠ gb486)), am ((nl hg (bf0 BK487.out) : gb487 ≠ gb495)), am ((ng hg (bf0 BK487.out) : gb495 ≠ gb487)), am ((nl hg (bf0 BK489.out) : gb489 ≠ gb495)), am ((ng hg (bf0 BK489.out) : gb495 ≠ gb489))⟩ : _ ∧ _ ∧ _ ∧ _ ∧ _ ∧ _ ∧ _ ∧ _ ∧ _ ∧ _ ∧ _ ∧ _ ∧ _); clear BK486 BK487 BK489 HB; obtain ⟨BK486, BK487, BK489, HB, BK495, GW495, GE495, NB486_495, NB495_486, NB487_495, NB495_487, NB489_495, NB495_489⟩ := n_; clear hb hbox hg; have hnb19 := NB495_486.out; have hnc19 := NB486_495.out; have hnb20 := NB495_487.out; have hnc20 := NB487_495.out; have hnb21 := NB495_489.out; have hnc21 := NB489_495.out; obtain ⟨hcz22_0, hcz22_1, hcz22_2, hcz22_3, hfz22_0, hfz22_1, hfz22_2, hfz22_3⟩ := cs4 BK495.out; obtain ⟨hcz23_0, hcz23_1, hcz23_2, hcz23_3, hfz23_0, hfz23_1, hfz23_2, hfz23_3⟩ := cs4 BK487.out))
       go_roundg k1
       case measure => have := HK1.out; omega
       case rel => exact ⟨(wrap64 (x12_1 + 1)), (x487000_1), (x487001_1), (x487002_1), (x487003_1), (t490), (t491), (t492), (t493), (by first | rfl | (simp; done) | (simp [*]; done)), H', ⟨by have := HK1.out; omega⟩, ⟨bf2 BK486.out NB486_487.out NB486_495.out⟩, ⟨by (with_reducible repeat (first | refine blk_drewN ?_ _ | refine blk_drew ?_ | refine blk_alloc ?_ _)); refine blk_put (cs := #[.int .i64 t490, .int .i64 t491, .int .i64 t492, .int .i64 x488003_1]) ?_ 3 _ rfl; (with_reducible repeat (first | refine blk_drewN ?_ _ | refine blk_drew ?_ | refine blk_alloc ?_ _)); refine blk_put (cs := #[.int .i64 t490, .int .i64 t491, .int .i64 x488002_1, .int .i64 x488003_1]) ?_ 2 _ rfl; (with_reducible repeat (first | refine blk_drewN ?_ _ | refine blk_drew ?_ | refine blk_alloc ?_ _)); refine blk_put (cs := #[.int .i64 t490, .int .i64 x488001_1, .int .i64 x488002_1, .int .i64 x488003_1]) ?_ 1 _ rfl; (with_reducible repeat (first | refine blk_drewN ?_ _ | refine blk_drew ?_ | refine blk_alloc ?_ _)); refine blk_put (cs := #[.int .i64 x488000_1, .int .i64 x488001_1, .int .i64 x488002_1, .int .i64 x488003_1]) ?_ 0 _ rfl; exact bf1 BK487.out NB487_495.out⟩, ⟨bl4 HB.out GE486.out GE487.out GE489.out GE495.out⟩⟩
      ·replace c10 := Bool.eq_false_iff.mpr c10
       subst c10
       have H1 : (some (0, 0, 0, 0, false)) = some (r1, r2, r3, r4, r5) := by rw [if_neg (show ¬ (false = true) by decide)] at H; exact H
       clear H
       have H := H1
       clear H1
       simp only [Option.some.injEq, Prod.mk.injEq] at H
       obtain ⟨rfl, rfl, rfl, rfl, rfl⟩ := H
       have p488 : 0 ≤ (x12_1 : Int) := of_decide_eq_true (by first | (with_reducible assumption) | assumption)
       have q488 : x12_1 < (l0.length : Int) := of_decide_eq_true (by first | (with_reducible assumption) | assumption)
       obtain ⟨ad488, e488, hx488_0, hx488_1⟩ := at_T31 HR0.out x12_1 p488 q488
       cases e488
       replace hx488_0 := (HB.out.cell (World.block_lt_of_cell? w _ hx488_0)).trans hx488_0
       replace hx488_1 := (HB.out.cell (World.block_lt_of_cell? w _ hx488_1)).trans hx488_1
       replace p488 := eq_true p488
       replace q488 := eq_true q488
       go_wp2_with (first | ((with_reducible refine gate_dst (N := 6) rfl ?_); refine box_event ?hg (N := 6) ?hd (cs := #[.int .i64 0, .int .i64 0]) (t := 31) ?hr ?_; (case hd => rfl); (case hg => rfl); (case hr => first | (go_simp; done) | (go_simp; rfl)); intro gb489 hg w24 hbox hb; have n_ := (⟨am (blk_below (bf0 BK486.out) hb), am (blk_below (bf0 BK487.out) hb), am (below_step (bl2 HB.out GE486.out GE487.out) hb), am (hbox), am ((gw hg (bl2 HB.out GE486.out GE487.out) : w.heap.size ≤ gb489)), am ((gw hg (bl2 HB.out GE486.out GE487.out) : w.heap.size ≤ gb489)), am ((nl hg (bf0 BK486.out) : gb486 ≠ gb489)), am ((ng hg (bf0 BK486.out) : gb489 ≠ gb486)), am ((nl hg (bf0 BK487.out) : gb487 ≠ gb489)), am ((ng hg (bf0 BK487.out) : gb489 ≠ gb487))⟩ : _ ∧ _ ∧ _ ∧ _ ∧ _ ∧ _ ∧ _ ∧ _ ∧ _ ∧ _); clear BK486 BK487 HB; obtain ⟨BK486, BK487, HB, BK489, GW489, GE489, NB486_489, NB489_486, NB487_489, NB489_487⟩ := n_; clear hb hbox hg; have hnb25 := NB489_486.out; have hnc25 := NB486_489.out; have hnb26 := NB489_487.out; have hnc26 := NB487_489.out; obtain ⟨hcz27_0, hcz27_1, hfz27_0, hfz27_1⟩ := cs2 BK489.out; have hnb28 := NB487_486.out; have hnc28 := NB486_487.out; obtain ⟨hcz29_0, hcz29_1, hcz29_2, hcz29_3, hfz29_0, hfz29_1, hfz29_2, hfz29_3⟩ := cs4 BK487.out) | ((with_reducible refine gate_callee (f := 26) rfl ?_); refine goesL_ (some 19) rfl rfl Tryd.func26 (by kernel_rfl) rfl #[.agg #[.int .i64 x488000_1, .int .i64 x488001_1, .int .i64 x488002_1, .int .i64 x488003_1], .agg #[.int .i64 ((rd_T31 l0 x12_1).f0), .int .i64 ((rd_T31 l0 x12_1).f1)]] rfl lnp ?_; (with_reducible refine (impl_after.calls k1 x488000_1 x488001_1 x488002_1 x488003_1 ((rd_T31 l0 x12_1).f0) ((rd_T31 l0 x12_1).f1) t490 t491 t492 t493 false _ A9.out).mono ?_); rintro e w30 ⟨rfl, hb⟩; refine ⟨_, rfl, ?_⟩; have n_ := (⟨am (blk_below (bf1 BK486.out NB486_489.out) hb), am (blk_below (bf1 BK487.out NB487_489.out) hb), am (blk_below (g := gb489) (o := .cells #[.int .i64 ((rd_T31 l0 x12_1).f0), .int .i64 ((rd_T31 l0 x12_1).f1)] 31 (0, 0)) (bp0 BK489.out) hb), am (below_step (bl3 HB.out GE486.out GE487.out GE489.out) hb)⟩ : _ ∧ _ ∧ _ ∧ _); clear BK486 BK487 BK489 HB; obtain ⟨BK486, BK487, BK489, HB⟩ := n_; (try clear hb); (try clear hb2); (try clear hk); (try clear hi)) | ((with_reducible refine gate_dst (N := 7) rfl ?_); refine box_event ?hg (N := 7) ?hd (cs := #[.int .i64 0, .int .i64 0, .int .i64 0, .int .i64 0]) (t := 29) ?hr ?_; (case hd => rfl); (case hg => rfl); (case hr => first | (go_simp; done) | (go_simp; rfl)); intro gb495 hg w31 hbox hb; have n_ := (⟨am (blk_below (bf0 BK486.out) hb), am (blk_below (bf0 BK487.out) hb), am (blk_below (bf0 BK489.out) hb), am (below_step (bl3 HB.out GE486.out GE487.out GE489.out) hb), am (hbox), am ((gw hg (bl3 HB.out GE486.out GE487.out GE489.out) : w.heap.size ≤ gb495)), am ((gw hg (bl3 HB.out GE486.out GE487.out GE489.out) : w.heap.size ≤ gb495)), am ((nl hg (bf0 BK486.out) : gb486 ≠ gb495)), am ((ng hg (bf0 BK486.out) : gb495 ≠ gb486)), am ((nl hg (bf0 BK487.out) : gb487 ≠ gb495)), am ((ng hg (bf0 BK487.out) : gb495 ≠ gb487)), am ((nl hg (bf0 BK489.out) : gb489 ≠ gb495)), am ((ng hg (bf0 BK489.out) : gb495 ≠ gb489))⟩ : _ ∧ _ ∧ _ ∧ _ ∧ _ ∧ _ ∧ _ ∧ _ ∧ _ ∧ _ ∧ _ ∧ _ ∧ _); clear BK486 BK487 BK489 HB; obtain ⟨BK486, BK487, BK489, HB, BK495, GW495, GE495, NB486_495, NB495_486, NB487_495, NB495_487, NB489_495, NB495_489⟩ := n_; clear hb hbox hg; have hnb32 := NB495_486.out; have hnc32 := NB486_495.out; have hnb33 := NB495_487.out; have hnc33 := NB487_495.out; have hnb34 := NB495_489.out; have hnc34 := NB489_495.out; obtain ⟨hcz35_0, hcz35_1, hcz35_2, hcz35_3, hfz35_0, hfz35_1, hfz35_2, hfz35_3⟩ := cs4 BK495.out; obtain ⟨hcz36_0, hcz36_1, hcz36_2, hcz36_3, hfz36_0, hfz36_1, hfz36_2, hfz36_3⟩ := cs4 BK486.out))
       refine bodyPost_ret (results_ct rfl _ _ gb486 29 #[.int .i64 0, .int .i64 0, .int .i64 0, .int .i64 0] (0, 0) _ rfl (bp1 BK486.out NB486_495.out) Tryd.underlying29 rfl (by kernel_rfl)) rfl ?_
       exact ⟨er, bl4 HB.out GE486.out GE487.out GE489.out GE495.out⟩
     ·rw [if_neg c8] at H
      exact absurd H (by simp)
    ·rw [if_neg c7] at H
     exact absurd H (by simp)
   ·rw [if_neg c6] at H
    have c6b0 : decide (x12_1 < (l0.length : Int)) = false := decide_eq_false c6
    clear c6
    simp only [Option.some.injEq, Prod.mk.injEq] at H
    obtain ⟨rfl, rfl, rfl, rfl, rfl⟩ := H
    have hnb37 := NB487_486.out
    have hnc37 := NB486_487.out
    obtain ⟨hcz38_0, hcz38_1, hcz38_2, hcz38_3, hfz38_0, hfz38_1, hfz38_2, hfz38_3⟩ := cs4 BK487.out
    obtain ⟨hcz39_0, hcz39_1, hcz39_2, hcz39_3, hfz39_0, hfz39_1, hfz39_2, hfz39_3⟩ := cs4 BK486.out
    go_wp2
    refine bodyPost_ret (results_ct rfl _ _ gb486 29 #[.int .i64 x488000_1, .int .i64 x488001_1, .int .i64 x488002_1, .int .i64 x488003_1] (0, 0) _ rfl (bp0 BK486.out) Tryd.underlying29 rfl (by kernel_rfl)) rfl ?_
    exact ⟨er, bl2 HB.out GE486.out GE487.out⟩

/-! ### impl_RunJournal: function 14 -/
def impl_RunJournal.f (k : Nat) (l0 : List (S31)) : Option (Int × Int × Int × Int × Int) := (impl_runEntries.f k l0).bind fun bt497 => (if bt497.2.2.2.2 = true then (some (bt497.1, bt497.2.1, bt497.2.2.1, bt497.2.2.2.1, 0)) else (some (0, 0, 0, 0, 1)))
theorem impl_RunJournal.mono : ∀ a0 k, LeO (impl_RunJournal.f k a0) (impl_RunJournal.f (k + 1) a0) := by
 intro a0 k
 unfold impl_RunJournal.f
 repeat' first | (with_reducible first | exact impl_runEntries.mono _ _ | exact LeO.refl _ | exact LeO.none _ | refine LeO.ite ?_ ?_ | refine LeO.bind ?_ (fun _ => ?_)) | exact impl_runEntries.mono _ _ | exact LeO.none _ | refine LeO.ite ?_ ?_ | refine LeO.bind ?_ (fun _ => ?_)
theorem impl_RunJournal.calls (k : Nat) (A0 : Option Addr) (c0 : Nat) (l0 : List (S31)) (r1 : Int) (r2 : Int) (r3 : Int) (r4 : Int) (r5 : Int) (w : World) (hr0 : Kd.C k31 w A0 l0.length l0) (hc0 : l0.length ≤ c0) (h : impl_RunJournal.f k l0 = some (r1, r2, r3, r4, r5)) :
  Calls Tryd.prog 14 #[.slice A0 l0.length c0] w fun e w' => e = .returned (.tuple #[.agg #[.int .i64 r1, .int .i64 r2, .int .i64 r3, .int .i64 r4], .int .i64 r5]) ∧ Below w.heap.size w w' := by
 have hu29 := Tryd.underlying29
 have HR0 := Aside0.mk hr0
 have HC0 := Aside0.mk hc0
 clear hr0 hc0
 have HB := am (Below.refl w.heap.size w)
 have H : ((impl_runEntries.f k l0).bind fun bt497 => (if bt497.2.2.2.2 = true then (some (bt497.1, bt497.2.1, bt497.2.2.1, bt497.2.2.2.1, 0)) else (some (0, 0, 0, 0, 1)))) = some (r1, r2, r3, r4, r5) := h
 clear h
 replace H := Option.bind_eq_some_iff.mp H
 obtain ⟨⟨t497, t498, t499, t500, t501⟩, A20, H⟩ := H
 replace H : (if t501 = true then (some (t497, t498, t499, t500, 0)) else (some (0, 0, 0, 0, 1))) = some (r1, r2, r3, r4, r5) := H
 have A2 := Aside0.mk A20
 clear A20
 by_cases c3 : t501 = true
 ·subst c3
  have H1 : (some (t497, t498, t499, t500, 0)) = some (r1, r2, r3, r4, r5) := by rw [if_pos rfl] at H; exact H
  clear H
  have H := H1
  clear H1
  simp only [Option.some.injEq, Prod.mk.injEq] at H
  obtain ⟨rfl, rfl, rfl, rfl, rfl⟩ := H
  go_enter Tryd.func14, Tryd.ntmps14
  go_wp2_with (first | ((with_reducible refine gate_dst (N := 2) rfl ?_); refine box_event ?hg (N := 2) ?hd (cs := #[.int .i64 0, .int .i64 0, .int .i64 0, .int .i64 0]) (t := 29) ?hr ?_; (case hd => rfl); (case hg => rfl); (case hr => first | (go_simp; done) | (go_simp; rfl)); intro gb496 hg w4 hbox hb; have n_ := (⟨am (below_step (bl0 HB.out) hb), am (hbox), am ((gw hg (bl0 HB.out) : w.heap.size ≤ gb496)), am ((gw hg (bl0 HB.out) : w.heap.size ≤ gb496))⟩ : _ ∧ _ ∧ _ ∧ _); clear HB; obtain ⟨HB, BK496, GW496, GE496⟩ := n_; clear hb hbox hg) | ((with_reducible refine gate_callee (f := 29) rfl ?_); refine goesL_ (some 8) rfl rfl Tryd.func29 (by kernel_rfl) rfl #[.slice A0 l0.length c0] rfl lnp ?_; (with_reducible refine (impl_runEntries.calls k _ _ l0 t497 t498 t499 t500 true _ ?side1 ?side2 A2.out).mono ?_); (case side1 => repeat (first | exact (Kd.C_below HR0.out HB.out) | (with_reducible refine Kd.C_alloc ?_ _) | (with_reducible refine Kd.C_drewN ?_ _) | (with_reducible refine Kd.C_drew ?_))); (case side2 => exact HC0.out); rintro e w5 ⟨rfl, hb⟩; refine ⟨_, rfl, ?_⟩; have n_ := (⟨am (blk_below (bf0 BK496.out) hb), am (below_step (bl1 HB.out GE496.out) hb)⟩ : _ ∧ _); clear BK496 HB; obtain ⟨BK496, HB⟩ := n_; (try clear hb); (try clear hb2); (try clear hk); (try clear hi)) | ((with_reducible refine gate_dst (N := 4) rfl ?_); refine box_event ?hg (N := 4) ?hd (cs := #[.int .i64 0, .int .i64 0, .int .i64 0, .int .i64 0]) (t := 29) ?hr ?_; (case hd => rfl); (case hg => rfl); (case hr => first | (go_simp; done) | (go_simp; rfl)); intro gb502 hg w6 hbox hb; have n_ := (⟨am (blk_below (bf0 BK496.out) hb), am (below_step (bl1 HB.out GE496.out) hb), am (hbox), am ((gw hg (bl1 HB.out GE496.out) : w.heap.size ≤ gb502)), am ((gw hg (bl1 HB.out GE496.out) : w.heap.size ≤ gb502)), am ((nl hg (bf0 BK496.out) : gb496 ≠ gb502)), am ((ng hg (bf0 BK496.out) : gb502 ≠ gb496))⟩ : _ ∧ _ ∧ _ ∧ _ ∧ _ ∧ _ ∧ _); clear BK496 HB; obtain ⟨BK496, HB, BK502, GW502, GE502, NB496_502, NB502_496⟩ := n_; clear hb hbox hg; have hnb7 := NB502_496.out; have hnc7 := NB496_502.out; obtain ⟨hcz8_0, hcz8_1, hcz8_2, hcz8_3, hfz8_0, hfz8_1, hfz8_2, hfz8_3⟩ := cs4 BK502.out; obtain ⟨hcz9_0, hcz9_1, hcz9_2, hcz9_3, hfz9_0, hfz9_1, hfz9_2, hfz9_3⟩ := cs4 BK496.out))
  refine bodyPost_ret (results_ct rfl _ _ gb496 29 #[.int .i64 t497, .int .i64 t498, .int .i64 t499, .int .i64 t500] (0, 0) _ rfl (bp1 BK496.out NB496_502.out) Tryd.underlying29 rfl (by kernel_rfl)) rfl ?_
  exact ⟨er, bl2 HB.out GE496.out GE502.out⟩
 ·replace c3 := Bool.eq_false_iff.mpr c3
  subst c3
  have H1 : (some (0, 0, 0, 0, 1)) = some (r1, r2, r3, r4, r5) := by rw [if_neg (show ¬ (false = true) by decide)] at H; exact H
  clear H
  have H := H1
  clear H1
  simp only [Option.some.injEq, Prod.mk.injEq] at H
  obtain ⟨rfl, rfl, rfl, rfl, rfl⟩ := H
  go_enter Tryd.func14, Tryd.ntmps14
  go_wp2_with (first | ((with_reducible refine gate_dst (N := 2) rfl ?_); refine box_event ?hg (N := 2) ?hd (cs := #[.int .i64 0, .int .i64 0, .int .i64 0, .int .i64 0]) (t := 29) ?hr ?_; (case hd => rfl); (case hg => rfl); (case hr => first | (go_simp; done) | (go_simp; rfl)); intro gb496 hg w10 hbox hb; have n_ := (⟨am (below_step (bl0 HB.out) hb), am (hbox), am ((gw hg (bl0 HB.out) : w.heap.size ≤ gb496)), am ((gw hg (bl0 HB.out) : w.heap.size ≤ gb496))⟩ : _ ∧ _ ∧ _ ∧ _); clear HB; obtain ⟨HB, BK496, GW496, GE496⟩ := n_; clear hb hbox hg) | ((with_reducible refine gate_callee (f := 29) rfl ?_); refine goesL_ (some 8) rfl rfl Tryd.func29 (by kernel_rfl) rfl #[.slice A0 l0.length c0] rfl lnp ?_; (with_reducible refine (impl_runEntries.calls k _ _ l0 t497 t498 t499 t500 false _ ?side1 ?side2 A2.out).mono ?_); (case side1 => repeat (first | exact (Kd.C_below HR0.out HB.out) | (with_reducible refine Kd.C_alloc ?_ _) | (with_reducible refine Kd.C_drewN ?_ _) | (with_reducible refine Kd.C_drew ?_))); (case side2 => exact HC0.out); rintro e w11 ⟨rfl, hb⟩; refine ⟨_, rfl, ?_⟩; have n_ := (⟨am (blk_below (bf0 BK496.out) hb), am (below_step (bl1 HB.out GE496.out) hb)⟩ : _ ∧ _); clear BK496 HB; obtain ⟨BK496, HB⟩ := n_; (try clear hb); (try clear hb2); (try clear hk); (try clear hi)) | ((with_reducible refine gate_dst (N := 4) rfl ?_); refine box_event ?hg (N := 4) ?hd (cs := #[.int .i64 0, .int .i64 0, .int .i64 0, .int .i64 0]) (t := 29) ?hr ?_; (case hd => rfl); (case hg => rfl); (case hr => first | (go_simp; done) | (go_simp; rfl)); intro gb502 hg w12 hbox hb; have n_ := (⟨am (blk_below (bf0 BK496.out) hb), am (below_step (bl1 HB.out GE496.out) hb), am (hbox), am ((gw hg (bl1 HB.out GE496.out) : w.heap.size ≤ gb502)), am ((gw hg (bl1 HB.out GE496.out) : w.heap.size ≤ gb502)), am ((nl hg (bf0 BK496.out) : gb496 ≠ gb502)), am ((ng hg (bf0 BK496.out) : gb502 ≠ gb496))⟩ : _ ∧ _ ∧ _ ∧ _ ∧ _ ∧ _ ∧ _); clear BK496 HB; obtain ⟨BK496, HB, BK502, GW502, GE502, NB496_502, NB502_496⟩ := n_; clear hb hbox hg; have hnb13 := NB502_496.out; have hnc13 := NB496_502.out; obtain ⟨hcz14_0, hcz14_1, hcz14_2, hcz14_3, hfz14_0, hfz14_1, hfz14_2, hfz14_3⟩ := cs4 BK502.out; obtain ⟨hcz15_0, hcz15_1, hcz15_2, hcz15_3, hfz15_0, hfz15_1, hfz15_2, hfz15_3⟩ := cs4 BK496.out))
  refine bodyPost_ret (results_ct rfl _ _ gb496 29 #[.int .i64 0, .int .i64 0, .int .i64 0, .int .i64 0] (0, 0) _ rfl (bp1 BK496.out NB496_502.out) Tryd.underlying29 rfl (by kernel_rfl)) rfl ?_
  exact ⟨er, bl2 HB.out GE496.out GE502.out⟩

end Go.Proofs.YthfmhfgckhkgjaaDoor.PFnResumed
