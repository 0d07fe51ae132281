-- Laid by wip/mk/mk.py out of the translation. Not trusted: Lean checks it.
import Derived.Test.YthfmhfgckhkgjaaDoorPFnResumedx0
import Derived.Test.YthfmhfgckhkgjaaDoorPFnResumedx2
import Derived.Test.YthfmhfgckhkgjaaDoorPFnResumedx4
import Derived.Test.YthfmhfgckhkgjaaDoorPFnResumedx5
import Derived.Test.YthfmhfgckhkgjaaDoorPFnResumedx6
import Derived.Test.YthfmhfgckhkgjaaDoorPFnResumedx7
import Derived.Test.YthfmhfgckhkgjaaDoorPFnResumedx8
import Derived.Test.YthfmhfgckhkgjaaDoorPFnResumedx15
namespace Go.Proofs.YthfmhfgckhkgjaaDoor.PFnResumed
open Go.RowKit Go.Proofs.YthfmhfgckhkgjaaDoorW.PrintWords Go.Proofs.YthfmhfgckhkgjaaDoorW.PrintLast Go.Proofs.YthfmhfgckhkgjaaDoorW.PrintMore
attribute [local go_sem] max2_int min2_int max_two min_two max_three min_three max_four min_four   -- for this text's walks alone
set_option linter.unusedVariables false
set_option maxHeartbeats 8000000
set_option maxRecDepth 100000
set_option linter.unusedSimpArgs false

/-! ### spec_ResumeJob: function 7 -/
def spec_ResumeJob.f (k : Nat) (a0 : ByteArray) (a1 : Int) : Option (Int × Int × Int) := if (a0.size : Int) > 8000 then (some (0, 0, 3)) else ((spec_l01In.f a1 0 1000000).bind fun t383 => (if t383 = true then ((spec_l29Recover.f k a0).bind fun t384 => ((spec_l29Run.f k t384).bind fun bt387 => (if bt387.1 = 0 then (some (0, 0, 5)) else (some (bt387.1, mx 0 (wrap64 (a1 - bt387.2.1)), 0))))) else (some (0, 0, 2))))
theorem spec_ResumeJob.mono : ∀ a0 a1 k, LeO (spec_ResumeJob.f k a0 a1) (spec_ResumeJob.f (k + 1) a0 a1) := by
 intro a0 a1 k
 unfold spec_ResumeJob.f
 repeat' first | (with_reducible first | exact spec_l29Recover.mono _ _ | exact spec_l29Run.mono _ _ | exact LeO.refl _ | exact LeO.none _ | refine LeO.ite ?_ ?_ | refine LeO.bind ?_ (fun _ => ?_)) | exact spec_l29Recover.mono _ _ | exact spec_l29Run.mono _ _ | exact LeO.none _ | refine LeO.ite ?_ ?_ | refine LeO.bind ?_ (fun _ => ?_)
theorem spec_ResumeJob.calls (k : Nat) (a0 : ByteArray) (a1 : Int) (r1 : Int) (r2 : Int) (r3 : Int) (w : World) (h : spec_ResumeJob.f k a0 a1 = some (r1, r2, r3)) :
  Calls Tryd.prog 7 #[.string a0, .int .i64 a1] w fun e w' => e = .returned (.tuple #[.int .i64 r1, .int .i64 r2, .int .i64 r3]) ∧ Below w.heap.size w w' := by
 have hu29 := Tryd.underlying29
 have HB := am (Below.refl w.heap.size w)
 have H : (if (a0.size : Int) > 8000 then (some (0, 0, 3)) else ((spec_l01In.f a1 0 1000000).bind fun t383 => (if t383 = true then ((spec_l29Recover.f k a0).bind fun t384 => ((spec_l29Run.f k t384).bind fun bt387 => (if bt387.1 = 0 then (some (0, 0, 5)) else (some (bt387.1, mx 0 (wrap64 (a1 - bt387.2.1)), 0))))) else (some (0, 0, 2))))) = some (r1, r2, r3) := h
 clear h
 by_cases c3 : (a0.size : Int) > 8000
 ·rw [if_pos c3] at H
  have c3b0 : decide (8000 < (a0.size : Int)) = true := decide_eq_true c3
  have c3b1 : decide (8000 < a0.size) = true := decide_eq_true (by omega)
  clear c3
  simp only [Option.some.injEq, Prod.mk.injEq] at H
  obtain ⟨rfl, rfl, rfl⟩ := H
  go_enter Tryd.func7, Tryd.ntmps7
  go_wp2
  repeat (go_quiet (fail); try go_wp2)
  go_ret3
  exact ⟨er, bl0 HB.out⟩
 ·rw [if_neg c3] at H
  have c3b0 : decide (8000 < (a0.size : Int)) = false := decide_eq_false c3
  have c3b1 : decide (8000 < a0.size) = false := decide_eq_false (by omega)
  clear c3
  replace H := Option.bind_eq_some_iff.mp H
  obtain ⟨t383, A40, H⟩ := H
  replace H : (if t383 = true then ((spec_l29Recover.f k a0).bind fun t384 => ((spec_l29Run.f k t384).bind fun bt387 => (if bt387.1 = 0 then (some (0, 0, 5)) else (some (bt387.1, mx 0 (wrap64 (a1 - bt387.2.1)), 0))))) else (some (0, 0, 2))) = some (r1, r2, r3) := H
  have A4 := Aside0.mk A40
  clear A40
  by_cases c5 : t383 = true
  ·subst c5
   have H1 : ((spec_l29Recover.f k a0).bind fun t384 => ((spec_l29Run.f k t384).bind fun bt387 => (if bt387.1 = 0 then (some (0, 0, 5)) else (some (bt387.1, mx 0 (wrap64 (a1 - bt387.2.1)), 0))))) = some (r1, r2, r3) := by rw [if_pos rfl] at H; exact H
   clear H
   have H := H1
   clear H1
   replace H := Option.bind_eq_some_iff.mp H
   obtain ⟨t384, A60, H⟩ := H
   replace H : ((spec_l29Run.f k t384).bind fun bt387 => (if bt387.1 = 0 then (some (0, 0, 5)) else (some (bt387.1, mx 0 (wrap64 (a1 - bt387.2.1)), 0)))) = some (r1, r2, r3) := H
   have A6 := Aside0.mk A60
   clear A60
   replace H := Option.bind_eq_some_iff.mp H
   obtain ⟨⟨t387, t388, t389, t390, t391⟩, A70, H⟩ := H
   replace H : (if t387 = 0 then (some (0, 0, 5)) else (some (t387, mx 0 (wrap64 (a1 - t388)), 0))) = some (r1, r2, r3) := H
   have A7 := Aside0.mk A70
   clear A70
   by_cases c8 : t387 = 0
   ·rw [if_pos c8] at H
    have c8b0 : (t387 == 0) = true := beq_iff_eq.mpr c8
    have c8b1 : (t387 != 0) = false := bne_eq_false_iff_eq.mpr c8
    clear c8
    simp only [Option.some.injEq, Prod.mk.injEq] at H
    obtain ⟨rfl, rfl, rfl⟩ := H
    go_enter Tryd.func7, Tryd.ntmps7
    go_wp2_with (first | (go_at_call 21; (with_reducible refine (spec_l01In.calls a1 0 1000000 true _ A4.out).mono ?_); rintro e w' ⟨rfl, ⟨nd, rfl⟩⟩; (try first | exact ⟨rfl, _, World.drewN_drewN _ _ _⟩ | exact ⟨rfl, _, Eq.trans (World.drewN_drewN _ _ _) (congrArg (World.drewN _) (Nat.add_assoc _ _ _))⟩)) | (go_at_call 23; (with_reducible refine (spec_l29Recover.calls k a0 t384 _ A6.out).mono ?_); rintro e w9 ⟨v385, rfl, ho0, hb⟩; have n_ := (⟨am (Kd.R_lower ho0 (below_size (bl0 HB.out))), am (below_step (bl0 HB.out) hb)⟩ : _ ∧ _); clear HB; obtain ⟨HO386, HB⟩ := n_; (try clear hb); (try clear hb2); (try clear hk); (try clear hi); (try clear ho0); obtain ⟨Ao10, co10, eo10⟩ := Kd.R_slice HO386.out; subst eo10) | (go_at_call 22; (with_reducible refine (spec_l29Run.calls k _ _ t384 t387 t388 t389 t390 t391 _ ?side1 ?side2 A7.out).mono ?_); (case side1 => repeat (first | exact (Kd.R_reads' HO386.out).2.2 | (with_reducible refine Kd.C_alloc ?_ _) | (with_reducible refine Kd.C_drewN ?_ _) | (with_reducible refine Kd.C_drew ?_))); (case side2 => exact (Kd.R_reads' HO386.out).2.1); rintro e w11 ⟨rfl, hb⟩; have n_ := (⟨am (Kd.R_below (rqR HO386.out) hb), am (below_step (bl0 HB.out) hb)⟩ : _ ∧ _); clear HO386 HB; obtain ⟨HO386, HB⟩ := n_; (try clear hb); (try clear hb2); (try clear hk); (try clear hi)) | ((with_reducible refine gate_dst (N := 7) rfl ?_); refine box_event ?hg (N := 7) ?hd (cs := #[.int .i64 0, .int .i64 0, .int .i64 0, .int .i64 0]) (t := 29) ?hr ?_; (case hd => rfl); (case hg => rfl); (case hr => first | (go_simp; done) | (go_simp; rfl)); intro gb392 hg w12 hbox hb; have n_ := (⟨am (Kd.R_below (rqR HO386.out) hb), am (below_step (bl0 HB.out) hb), am (hbox), am ((gw hg (bl0 HB.out) : w.heap.size ≤ gb392)), am ((gw hg (bl0 HB.out) : w.heap.size ≤ gb392))⟩ : _ ∧ _ ∧ _ ∧ _ ∧ _); clear HO386 HB; obtain ⟨HO386, HB, BK392, GW392, GE392⟩ := n_; clear hb hbox hg; obtain ⟨hcz13_0, hcz13_1, hcz13_2, hcz13_3, hfz13_0, hfz13_1, hfz13_2, hfz13_3⟩ := cs4 BK392.out))
    repeat (go_quiet (first | (go_at_call 21; (with_reducible refine (spec_l01In.calls a1 0 1000000 true _ A4.out).mono ?_); rintro e w' ⟨rfl, ⟨nd, rfl⟩⟩; (try first | exact ⟨rfl, _, World.drewN_drewN _ _ _⟩ | exact ⟨rfl, _, Eq.trans (World.drewN_drewN _ _ _) (congrArg (World.drewN _) (Nat.add_assoc _ _ _))⟩)) | (go_at_call 23; (with_reducible refine (spec_l29Recover.calls k a0 t384 _ A6.out).mono ?_); rintro e w9 ⟨v385, rfl, ho0, hb⟩; have n_ := (⟨am (Kd.R_lower ho0 (below_size (bl0 HB.out))), am (below_step (bl0 HB.out) hb)⟩ : _ ∧ _); clear HB; obtain ⟨HO386, HB⟩ := n_; (try clear hb); (try clear hb2); (try clear hk); (try clear hi); (try clear ho0); obtain ⟨Ao10, co10, eo10⟩ := Kd.R_slice HO386.out; subst eo10) | (go_at_call 22; (with_reducible refine (spec_l29Run.calls k _ _ t384 t387 t388 t389 t390 t391 _ ?side1 ?side2 A7.out).mono ?_); (case side1 => repeat (first | exact (Kd.R_reads' HO386.out).2.2 | (with_reducible refine Kd.C_alloc ?_ _) | (with_reducible refine Kd.C_drewN ?_ _) | (with_reducible refine Kd.C_drew ?_))); (case side2 => exact (Kd.R_reads' HO386.out).2.1); rintro e w11 ⟨rfl, hb⟩; have n_ := (⟨am (Kd.R_below (rqR HO386.out) hb), am (below_step (bl0 HB.out) hb)⟩ : _ ∧ _); clear HO386 HB; obtain ⟨HO386, HB⟩ := n_; (try clear hb); (try clear hb2); (try clear hk); (try clear hi)) | ((with_reducible refine gate_dst (N := 7) rfl ?_); refine box_event ?hg (N := 7) ?hd (cs := #[.int .i64 0, .int .i64 0, .int .i64 0, .int .i64 0]) (t := 29) ?hr ?_; (case hd => rfl); (case hg => rfl); (case hr => first | (go_simp; done) | (go_simp; rfl)); intro gb392 hg w12 hbox hb; have n_ := (⟨am (Kd.R_below (rqR HO386.out) hb), am (below_step (bl0 HB.out) hb), am (hbox), am ((gw hg (bl0 HB.out) : w.heap.size ≤ gb392)), am ((gw hg (bl0 HB.out) : w.heap.size ≤ gb392))⟩ : _ ∧ _ ∧ _ ∧ _ ∧ _); clear HO386 HB; obtain ⟨HO386, HB, BK392, GW392, GE392⟩ := n_; clear hb hbox hg; obtain ⟨hcz13_0, hcz13_1, hcz13_2, hcz13_3, hfz13_0, hfz13_1, hfz13_2, hfz13_3⟩ := cs4 BK392.out)); try go_wp2_with (first | (go_at_call 21; (with_reducible refine (spec_l01In.calls a1 0 1000000 true _ A4.out).mono ?_); rintro e w' ⟨rfl, ⟨nd, rfl⟩⟩; (try first | exact ⟨rfl, _, World.drewN_drewN _ _ _⟩ | exact ⟨rfl, _, Eq.trans (World.drewN_drewN _ _ _) (congrArg (World.drewN _) (Nat.add_assoc _ _ _))⟩)) | (go_at_call 23; (with_reducible refine (spec_l29Recover.calls k a0 t384 _ A6.out).mono ?_); rintro e w9 ⟨v385, rfl, ho0, hb⟩; have n_ := (⟨am (Kd.R_lower ho0 (below_size (bl0 HB.out))), am (below_step (bl0 HB.out) hb)⟩ : _ ∧ _); clear HB; obtain ⟨HO386, HB⟩ := n_; (try clear hb); (try clear hb2); (try clear hk); (try clear hi); (try clear ho0); obtain ⟨Ao10, co10, eo10⟩ := Kd.R_slice HO386.out; subst eo10) | (go_at_call 22; (with_reducible refine (spec_l29Run.calls k _ _ t384 t387 t388 t389 t390 t391 _ ?side1 ?side2 A7.out).mono ?_); (case side1 => repeat (first | exact (Kd.R_reads' HO386.out).2.2 | (with_reducible refine Kd.C_alloc ?_ _) | (with_reducible refine Kd.C_drewN ?_ _) | (with_reducible refine Kd.C_drew ?_))); (case side2 => exact (Kd.R_reads' HO386.out).2.1); rintro e w11 ⟨rfl, hb⟩; have n_ := (⟨am (Kd.R_below (rqR HO386.out) hb), am (below_step (bl0 HB.out) hb)⟩ : _ ∧ _); clear HO386 HB; obtain ⟨HO386, HB⟩ := n_; (try clear hb); (try clear hb2); (try clear hk); (try clear hi)) | ((with_reducible refine gate_dst (N := 7) rfl ?_); refine box_event ?hg (N := 7) ?hd (cs := #[.int .i64 0, .int .i64 0, .int .i64 0, .int .i64 0]) (t := 29) ?hr ?_; (case hd => rfl); (case hg => rfl); (case hr => first | (go_simp; done) | (go_simp; rfl)); intro gb392 hg w12 hbox hb; have n_ := (⟨am (Kd.R_below (rqR HO386.out) hb), am (below_step (bl0 HB.out) hb), am (hbox), am ((gw hg (bl0 HB.out) : w.heap.size ≤ gb392)), am ((gw hg (bl0 HB.out) : w.heap.size ≤ gb392))⟩ : _ ∧ _ ∧ _ ∧ _ ∧ _); clear HO386 HB; obtain ⟨HO386, HB, BK392, GW392, GE392⟩ := n_; clear hb hbox hg; obtain ⟨hcz13_0, hcz13_1, hcz13_2, hcz13_3, hfz13_0, hfz13_1, hfz13_2, hfz13_3⟩ := cs4 BK392.out)))
    go_ret3
    exact ⟨er, bl1 HB.out GE392.out⟩
   ·rw [if_neg c8] at H
    have c8b0 : (t387 == 0) = false := beq_eq_false_iff_ne.mpr c8
    have c8b1 : (t387 != 0) = true := bne_iff_ne.mpr c8
    obtain ⟨ji14, hji14⟩ : ∃ j_ : Int, (mx 0 (wrap64 (a1 - t388))) = j_ := ⟨_, rfl⟩
    replace H : (some (t387, ji14, 0)) = some (r1, r2, r3) := by first | (rw [hji14] at H; exact H) | (simp only [hji14] at H ⊢; exact H)
    (try rw [hji14] at A4)
    (try rw [hji14] at A6)
    (try rw [hji14] at A7)
    (try (have hji14l : 0 ≤ ji14 := by (rw [← hji14]; unfold mx; (repeat' split) <;> omega)))
    (try (have hji14m : 0 ≤ ji14 := by omega))
    have hji14_ : (if 0 < (wrap64 (a1 - t388)) then (wrap64 (a1 - t388)) else 0) = ji14 := hji14
    simp only [Option.some.injEq, Prod.mk.injEq] at H
    obtain ⟨rfl, rfl, rfl⟩ := H
    go_enter Tryd.func7, Tryd.ntmps7
    go_wp2_with (first | (go_at_call 21; (with_reducible refine (spec_l01In.calls a1 0 1000000 true _ A4.out).mono ?_); rintro e w' ⟨rfl, ⟨nd, rfl⟩⟩; (try first | exact ⟨rfl, _, World.drewN_drewN _ _ _⟩ | exact ⟨rfl, _, Eq.trans (World.drewN_drewN _ _ _) (congrArg (World.drewN _) (Nat.add_assoc _ _ _))⟩)) | (go_at_call 23; (with_reducible refine (spec_l29Recover.calls k a0 t384 _ A6.out).mono ?_); rintro e w15 ⟨v385, rfl, ho0, hb⟩; have n_ := (⟨am (Kd.R_lower ho0 (below_size (bl0 HB.out))), am (below_step (bl0 HB.out) hb)⟩ : _ ∧ _); clear HB; obtain ⟨HO386, HB⟩ := n_; (try clear hb); (try clear hb2); (try clear hk); (try clear hi); (try clear ho0); obtain ⟨Ao16, co16, eo16⟩ := Kd.R_slice HO386.out; subst eo16) | (go_at_call 22; (with_reducible refine (spec_l29Run.calls k _ _ t384 t387 t388 t389 t390 t391 _ ?side1 ?side2 A7.out).mono ?_); (case side1 => repeat (first | exact (Kd.R_reads' HO386.out).2.2 | (with_reducible refine Kd.C_alloc ?_ _) | (with_reducible refine Kd.C_drewN ?_ _) | (with_reducible refine Kd.C_drew ?_))); (case side2 => exact (Kd.R_reads' HO386.out).2.1); rintro e w17 ⟨rfl, hb⟩; have n_ := (⟨am (Kd.R_below (rqR HO386.out) hb), am (below_step (bl0 HB.out) hb)⟩ : _ ∧ _); clear HO386 HB; obtain ⟨HO386, HB⟩ := n_; (try clear hb); (try clear hb2); (try clear hk); (try clear hi)) | ((with_reducible refine gate_dst (N := 7) rfl ?_); refine box_event ?hg (N := 7) ?hd (cs := #[.int .i64 0, .int .i64 0, .int .i64 0, .int .i64 0]) (t := 29) ?hr ?_; (case hd => rfl); (case hg => rfl); (case hr => first | (go_simp; done) | (go_simp; rfl)); intro gb392 hg w18 hbox hb; have n_ := (⟨am (Kd.R_below (rqR HO386.out) hb), am (below_step (bl0 HB.out) hb), am (hbox), am ((gw hg (bl0 HB.out) : w.heap.size ≤ gb392)), am ((gw hg (bl0 HB.out) : w.heap.size ≤ gb392))⟩ : _ ∧ _ ∧ _ ∧ _ ∧ _); clear HO386 HB; obtain ⟨HO386, HB, BK392, GW392, GE392⟩ := n_; clear hb hbox hg; obtain ⟨hcz19_0, hcz19_1, hcz19_2, hcz19_3, hfz19_0, hfz19_1, hfz19_2, hfz19_3⟩ := cs4 BK392.out))
    repeat (go_quiet (first | (go_at_call 21; (with_reducible refine (spec_l01In.calls a1 0 1000000 true _ A4.out).mono ?_); rintro e w' ⟨rfl, ⟨nd, rfl⟩⟩; (try first | exact ⟨rfl, _, World.drewN_drewN _ _ _⟩ | exact ⟨rfl, _, Eq.trans (World.drewN_drewN _ _ _) (congrArg (World.drewN _) (Nat.add_assoc _ _ _))⟩)) | (go_at_call 23; (with_reducible refine (spec_l29Recover.calls k a0 t384 _ A6.out).mono ?_); rintro e w15 ⟨v385, rfl, ho0, hb⟩; have n_ := (⟨am (Kd.R_lower ho0 (below_size (bl0 HB.out))), am (below_step (bl0 HB.out) hb)⟩ : _ ∧ _); clear HB; obtain ⟨HO386, HB⟩ := n_; (try clear hb); (try clear hb2); (try clear hk); (try clear hi); (try clear ho0); obtain ⟨Ao16, co16, eo16⟩ := Kd.R_slice HO386.out; subst eo16) | (go_at_call 22; (with_reducible refine (spec_l29Run.calls k _ _ t384 t387 t388 t389 t390 t391 _ ?side1 ?side2 A7.out).mono ?_); (case side1 => repeat (first | exact (Kd.R_reads' HO386.out).2.2 | (with_reducible refine Kd.C_alloc ?_ _) | (with_reducible refine Kd.C_drewN ?_ _) | (with_reducible refine Kd.C_drew ?_))); (case side2 => exact (Kd.R_reads' HO386.out).2.1); rintro e w17 ⟨rfl, hb⟩; have n_ := (⟨am (Kd.R_below (rqR HO386.out) hb), am (below_step (bl0 HB.out) hb)⟩ : _ ∧ _); clear HO386 HB; obtain ⟨HO386, HB⟩ := n_; (try clear hb); (try clear hb2); (try clear hk); (try clear hi)) | ((with_reducible refine gate_dst (N := 7) rfl ?_); refine box_event ?hg (N := 7) ?hd (cs := #[.int .i64 0, .int .i64 0, .int .i64 0, .int .i64 0]) (t := 29) ?hr ?_; (case hd => rfl); (case hg => rfl); (case hr => first | (go_simp; done) | (go_simp; rfl)); intro gb392 hg w18 hbox hb; have n_ := (⟨am (Kd.R_below (rqR HO386.out) hb), am (below_step (bl0 HB.out) hb), am (hbox), am ((gw hg (bl0 HB.out) : w.heap.size ≤ gb392)), am ((gw hg (bl0 HB.out) : w.heap.size ≤ gb392))⟩ : _ ∧ _ ∧ _ ∧ _ ∧ _); clear HO386 HB; obtain ⟨HO386, HB, BK392, GW392, GE392⟩ := n_; clear hb hbox hg; obtain ⟨hcz19_0, hcz19_1, hcz19_2, hcz19_3, hfz19_0, hfz19_1, hfz19_2, hfz19_3⟩ := cs4 BK392.out)); try go_wp2_with (first | (go_at_call 21; (with_reducible refine (spec_l01In.calls a1 0 1000000 true _ A4.out).mono ?_); rintro e w' ⟨rfl, ⟨nd, rfl⟩⟩; (try first | exact ⟨rfl, _, World.drewN_drewN _ _ _⟩ | exact ⟨rfl, _, Eq.trans (World.drewN_drewN _ _ _) (congrArg (World.drewN _) (Nat.add_assoc _ _ _))⟩)) | (go_at_call 23; (with_reducible refine (spec_l29Recover.calls k a0 t384 _ A6.out).mono ?_); rintro e w15 ⟨v385, rfl, ho0, hb⟩; have n_ := (⟨am (Kd.R_lower ho0 (below_size (bl0 HB.out))), am (below_step (bl0 HB.out) hb)⟩ : _ ∧ _); clear HB; obtain ⟨HO386, HB⟩ := n_; (try clear hb); (try clear hb2); (try clear hk); (try clear hi); (try clear ho0); obtain ⟨Ao16, co16, eo16⟩ := Kd.R_slice HO386.out; subst eo16) | (go_at_call 22; (with_reducible refine (spec_l29Run.calls k _ _ t384 t387 t388 t389 t390 t391 _ ?side1 ?side2 A7.out).mono ?_); (case side1 => repeat (first | exact (Kd.R_reads' HO386.out).2.2 | (with_reducible refine Kd.C_alloc ?_ _) | (with_reducible refine Kd.C_drewN ?_ _) | (with_reducible refine Kd.C_drew ?_))); (case side2 => exact (Kd.R_reads' HO386.out).2.1); rintro e w17 ⟨rfl, hb⟩; have n_ := (⟨am (Kd.R_below (rqR HO386.out) hb), am (below_step (bl0 HB.out) hb)⟩ : _ ∧ _); clear HO386 HB; obtain ⟨HO386, HB⟩ := n_; (try clear hb); (try clear hb2); (try clear hk); (try clear hi)) | ((with_reducible refine gate_dst (N := 7) rfl ?_); refine box_event ?hg (N := 7) ?hd (cs := #[.int .i64 0, .int .i64 0, .int .i64 0, .int .i64 0]) (t := 29) ?hr ?_; (case hd => rfl); (case hg => rfl); (case hr => first | (go_simp; done) | (go_simp; rfl)); intro gb392 hg w18 hbox hb; have n_ := (⟨am (Kd.R_below (rqR HO386.out) hb), am (below_step (bl0 HB.out) hb), am (hbox), am ((gw hg (bl0 HB.out) : w.heap.size ≤ gb392)), am ((gw hg (bl0 HB.out) : w.heap.size ≤ gb392))⟩ : _ ∧ _ ∧ _ ∧ _ ∧ _); clear HO386 HB; obtain ⟨HO386, HB, BK392, GW392, GE392⟩ := n_; clear hb hbox hg; obtain ⟨hcz19_0, hcz19_1, hcz19_2, hcz19_3, hfz19_0, hfz19_1, hfz19_2, hfz19_3⟩ := cs4 BK392.out)))
    go_ret3
    exact ⟨by first | rfl | (simp [errW_none, errW_some] <;> rfl) | (simp only [← hji14]; first | rfl | (simp [errW_none, errW_some] <;> rfl)) | (simp [*, errW_none, errW_some] <;> rfl), bl1 HB.out GE392.out⟩
  ·replace c5 := Bool.eq_false_iff.mpr c5
   subst c5
   have H1 : (some (0, 0, 2)) = some (r1, r2, r3) := by rw [if_neg (show ¬ (false = true) by decide)] at H; exact H
   clear H
   have H := H1
   clear H1
   simp only [Option.some.injEq, Prod.mk.injEq] at H
   obtain ⟨rfl, rfl, rfl⟩ := H
   go_enter Tryd.func7, Tryd.ntmps7
   go_wp2_with (first | (go_at_call 21; (with_reducible refine (spec_l01In.calls a1 0 1000000 false _ A4.out).mono ?_); rintro e w' ⟨rfl, ⟨nd, rfl⟩⟩; (try first | exact ⟨rfl, _, World.drewN_drewN _ _ _⟩ | exact ⟨rfl, _, Eq.trans (World.drewN_drewN _ _ _) (congrArg (World.drewN _) (Nat.add_assoc _ _ _))⟩)))
   repeat (go_quiet (first | (go_at_call 21; (with_reducible refine (spec_l01In.calls a1 0 1000000 false _ A4.out).mono ?_); rintro e w' ⟨rfl, ⟨nd, rfl⟩⟩; (try first | exact ⟨rfl, _, World.drewN_drewN _ _ _⟩ | exact ⟨rfl, _, Eq.trans (World.drewN_drewN _ _ _) (congrArg (World.drewN _) (Nat.add_assoc _ _ _))⟩))); try go_wp2_with (first | (go_at_call 21; (with_reducible refine (spec_l01In.calls a1 0 1000000 false _ A4.out).mono ?_); rintro e w' ⟨rfl, ⟨nd, rfl⟩⟩; (try first | exact ⟨rfl, _, World.drewN_drewN _ _ _⟩ | exact ⟨rfl, _, Eq.trans (World.drewN_drewN _ _ _) (congrArg (World.drewN _) (Nat.add_assoc _ _ _))⟩))))
   go_ret3
   exact ⟨er, bl0 HB.out⟩

/-! ### spec_l29DrawMachine: function 24 -/
def spec_l29DrawMachine.j0 : Nat → List Int → Int → Int → Int → Int → Int → Int → Option (Int × Int × Int × Int × Int × Int)
 | 0, _, _, _, _, _, _, _ => none
 | k + 1, x1000, x1001, x1002, x398000, x398001, x398002, x398003 => (spec_l01Next.f x1000 x1001 x1002 30).bind fun bt410 => (if bt410.1 = 0 then ((spec_l01Pick.f x1000 bt410.2.1 bt410.2.2 (([(-1), 1, 1000000, 1000001] : List Int))).bind fun bt416 => (some (x398000, bt416.1, x398002, x398003, bt416.2.1, bt416.2.2))) else (if bt410.1 = 1 then ((spec_l01Pick.f x1000 bt410.2.1 bt410.2.2 (([(-1), 1000000000, 1000000001] : List Int))).bind fun bt422 => (some (x398000, x398001, x398002, bt422.1, bt422.2.1, bt422.2.2))) else (if bt410.1 = 2 then ((spec_l01Pick.f x1000 bt410.2.1 bt410.2.2 (([(-1), 0, 1000000000, 1000000001] : List Int))).bind fun bt428 => (some (bt428.1, x398001, x398002, x398003, bt428.2.1, bt428.2.2))) else (some (x398000, x398001, x398002, x398003, bt410.2.1, bt410.2.2)))))
def spec_l29DrawMachine.f (k : Nat) (s0_0 : List Int) (s0_1 : Int) (s0_2 : Int) : Option (Int × Int × Int × Int × Int × Int) := (spec_l01Next.f s0_0 s0_1 s0_2 5).bind fun bt394 => ((spec_l01Next.f s0_0 bt394.2.1 bt394.2.2 3).bind fun bt398 => (if bt398.1 > 0 then ((spec_l01Next.f s0_0 bt398.2.1 bt398.2.2 9).bind fun bt401 => ((spec_l01Next.f s0_0 bt401.2.1 bt401.2.2 300).bind fun bt404 => ((spec_l01Next.f s0_0 bt404.2.1 bt404.2.2 4).bind fun bt407 => (spec_l29DrawMachine.j0 k s0_0 bt407.2.1 bt407.2.2 (wrap64 (1 + bt401.1)) bt404.1 bt407.1 bt394.1)))) else (spec_l29DrawMachine.j0 k s0_0 bt398.2.1 bt398.2.2 0 0 0 bt394.1)))
theorem spec_l29DrawMachine.mono_l : ∀ k, (∀ y0 y1 y2 y3 y4 y5 y6, LeO (spec_l29DrawMachine.j0 k y0 y1 y2 y3 y4 y5 y6) (spec_l29DrawMachine.j0 (k + 1) y0 y1 y2 y3 y4 y5 y6))
 | 0 => fun _ _ _ _ _ _ _ r h => by simp [spec_l29DrawMachine.j0] at h
 | k + 1 => by
  have ih0 := spec_l29DrawMachine.mono_l k
  ·intro y0 y1 y2 y3 y4 y5 y6
   unfold spec_l29DrawMachine.j0
   repeat' first | (with_reducible first | exact ih0 _ _ _ _ _ _ _ | exact LeO.refl _ | exact LeO.none _ | refine LeO.ite ?_ ?_ | refine LeO.bind ?_ (fun _ => ?_)) | exact ih0 _ _ _ _ _ _ _ | exact LeO.none _ | refine LeO.ite ?_ ?_ | refine LeO.bind ?_ (fun _ => ?_)
theorem spec_l29DrawMachine.mono : ∀ a0 a1 a2 k, LeO (spec_l29DrawMachine.f k a0 a1 a2) (spec_l29DrawMachine.f (k + 1) a0 a1 a2) := by
 intro a0 a1 a2 k
 have ih0 := spec_l29DrawMachine.mono_l k
 unfold spec_l29DrawMachine.f
 repeat' first | (with_reducible first | exact ih0 _ _ _ _ _ _ _ | exact LeO.refl _ | exact LeO.none _ | refine LeO.ite ?_ ?_ | refine LeO.bind ?_ (fun _ => ?_)) | exact ih0 _ _ _ _ _ _ _ | exact LeO.none _ | refine LeO.ite ?_ ?_ | refine LeO.bind ?_ (fun _ => ?_)
theorem spec_l29DrawMachine.calls (k : Nat) (g : Nat) (s0_0 : List Int) (s0_1 : Int) (s0_2 : Int) (r1 : Int) (r2 : Int) (r3 : Int) (r4 : Int) (r5 : Int) (r6 : Int) (w0 w : World) (hI : IsS57 w0 w g s0_0 s0_1 s0_2) (hB : Below w0.heap.size w0 w) (h : spec_l29DrawMachine.f k s0_0 s0_1 s0_2 = some (r1, r2, r3, r4, r5, r6)) :
  Calls Tryd.prog 24 #[.pointer (some ⟨g, 0, none⟩)] w fun e w' => e = .returned (.agg #[.int .i64 r1, .int .i64 r2, .int .i64 r3, .int .i64 r4]) ∧ IsS57 w0 w' g s0_0 r5 r6 ∧ Below w0.heap.size w0 w' ∧ KeepBut w w' g none := by
 have hu29 := Tryd.underlying29
 have HI0 := Aside0.mk hI
 have HK := am (KeepBut.refl w g none)
 have HL := Aside0.mk hB.size
 clear hI
 have HW0 := Aside0.mk hB.size
 have HB := Aside0.mk hB
 clear hB
 have H : ((spec_l01Next.f s0_0 s0_1 s0_2 5).bind fun bt394 => ((spec_l01Next.f s0_0 bt394.2.1 bt394.2.2 3).bind fun bt398 => (if bt398.1 > 0 then ((spec_l01Next.f s0_0 bt398.2.1 bt398.2.2 9).bind fun bt401 => ((spec_l01Next.f s0_0 bt401.2.1 bt401.2.2 300).bind fun bt404 => ((spec_l01Next.f s0_0 bt404.2.1 bt404.2.2 4).bind fun bt407 => (spec_l29DrawMachine.j0 k s0_0 bt407.2.1 bt407.2.2 (wrap64 (1 + bt401.1)) bt404.1 bt407.1 bt394.1)))) else (spec_l29DrawMachine.j0 k s0_0 bt398.2.1 bt398.2.2 0 0 0 bt394.1)))) = some (r1, r2, r3, r4, r5, r6) := h
 clear h
 replace H := Option.bind_eq_some_iff.mp H
 obtain ⟨⟨t394, t395, t396⟩, A20, H⟩ := H
 replace H : ((spec_l01Next.f s0_0 t395 t396 3).bind fun bt398 => (if bt398.1 > 0 then ((spec_l01Next.f s0_0 bt398.2.1 bt398.2.2 9).bind fun bt401 => ((spec_l01Next.f s0_0 bt401.2.1 bt401.2.2 300).bind fun bt404 => ((spec_l01Next.f s0_0 bt404.2.1 bt404.2.2 4).bind fun bt407 => (spec_l29DrawMachine.j0 k s0_0 bt407.2.1 bt407.2.2 (wrap64 (1 + bt401.1)) bt404.1 bt407.1 t394)))) else (spec_l29DrawMachine.j0 k s0_0 bt398.2.1 bt398.2.2 0 0 0 t394))) = some (r1, r2, r3, r4, r5, r6) := H
 have A2 := Aside0.mk A20
 clear A20
 replace H := Option.bind_eq_some_iff.mp H
 obtain ⟨⟨t398, t399, t400⟩, A30, H⟩ := H
 replace H : (if t398 > 0 then ((spec_l01Next.f s0_0 t399 t400 9).bind fun bt401 => ((spec_l01Next.f s0_0 bt401.2.1 bt401.2.2 300).bind fun bt404 => ((spec_l01Next.f s0_0 bt404.2.1 bt404.2.2 4).bind fun bt407 => (spec_l29DrawMachine.j0 k s0_0 bt407.2.1 bt407.2.2 (wrap64 (1 + bt401.1)) bt404.1 bt407.1 t394)))) else (spec_l29DrawMachine.j0 k s0_0 t399 t400 0 0 0 t394)) = some (r1, r2, r3, r4, r5, r6) := H
 have A3 := Aside0.mk A30
 clear A30
 have HC4 := Aside0.mk H
 clear H
 go_enter Tryd.func24, Tryd.ntmps24
 go_upto_if 9 with (first | ((with_reducible refine gate_dst (N := 2) rfl ?_); refine box_event ?hg (N := 2) ?hd (cs := #[.int .i64 0, .int .i64 0, .int .i64 0, .int .i64 0]) (t := 29) ?hr ?_; (case hd => rfl); (case hg => rfl); (case hr => first | (go_simp; done) | (go_simp; rfl)); intro gb393 hg w5 hbox hb; have n_ := (⟨am (IsS57.below (st57_0 HI0.out) hb), am (KeepBut.trans (kb0 HK.out) (KeepBut.of_below hb g none) (.inl rfl)), am (below_step (bl1 HB.out (IsS57.ge HI0.out)) hb), am (hbox), am ((by rw [hg]; exact (keep_size (w := w) (g := g) (row := none) (kb0 HK.out)) : w.heap.size ≤ gb393)), am ((Nat.le_trans HW0.out (by rw [hg]; exact (keep_size (w := w) (g := g) (row := none) (kb0 HK.out)) : w.heap.size ≤ gb393) : w0.heap.size ≤ gb393)), am ((by rw [hg]; exact Nat.ne_of_lt (IsS57.lt (show IsS57 w0 _ g s0_0 s0_1 s0_2 from st57_0 HI0.out)) : g ≠ gb393)), am ((by rw [hg]; exact Nat.ne_of_gt (IsS57.lt (show IsS57 w0 _ g s0_0 s0_1 s0_2 from st57_0 HI0.out)) : gb393 ≠ g))⟩ : _ ∧ _ ∧ _ ∧ _ ∧ _ ∧ _ ∧ _ ∧ _); clear HI0 HK HB; obtain ⟨HI0, HK, HB, BK393, GW393, GE393, NB0_393, NB393_0⟩ := n_; clear hb hbox hg) | ((with_reducible refine gate_callee (f := 18) rfl ?_); refine goesL_ (some 5) rfl rfl Tryd.func18 (by kernel_rfl) rfl #[.pointer (some ⟨g, 0, none⟩), .int .i64 5] rfl lnp ?_; (with_reducible refine (spec_l01Next.calls g s0_0 s0_1 s0_2 5 t394 t395 t396 w0 _ ?side1 ?side2 A2.out).mono ?_); (case side1 => exact st57_1 HI0.out NB0_393.out); (case side2 => exact bl2 HB.out (IsS57.ge HI0.out) GE393.out); rintro e w6 ⟨rfl, hi, hb, hk⟩; refine ⟨_, rfl, ?_⟩; have n_ := (⟨am (KeepBut.blk hk (g' := gb393) (o := .cells #[.int .i64 0, .int .i64 0, .int .i64 0, .int .i64 0] 29 (0, 0)) (bf0 BK393.out) NB393_0.out (by simp)), am (KeepBut.trans (kb1 HK.out GW393.out) hk (.inl rfl)), am (hb), am (hi)⟩ : _ ∧ _ ∧ _ ∧ _); clear BK393 HK HB HI0; obtain ⟨BK393, HK, HB, HI0⟩ := n_; (try clear hb); (try clear hb2); (try clear hk); (try clear hi)) | ((with_reducible refine gate_dst (N := 3) rfl ?_); refine box_event ?hg (N := 3) ?hd (cs := #[.int .i64 0, .int .i64 0, .int .i64 0, .int .i64 0]) (t := 29) ?hr ?_; (case hd => rfl); (case hg => rfl); (case hr => first | (go_simp; done) | (go_simp; rfl)); intro gb397 hg w7 hbox hb; have n_ := (⟨am (IsS57.below (st57_1 HI0.out NB0_393.out) hb), am (blk_below (bf0 BK393.out) hb), am (KeepBut.trans (kb1 HK.out GW393.out) (KeepBut.of_below hb g none) (.inl rfl)), am (below_step (bl2 HB.out (IsS57.ge HI0.out) GE393.out) hb), am (hbox), am ((by rw [hg]; exact (keep_size (w := w) (g := g) (row := none) (kb1 HK.out GW393.out)) : w.heap.size ≤ gb397)), am ((Nat.le_trans HW0.out (by rw [hg]; exact (keep_size (w := w) (g := g) (row := none) (kb1 HK.out GW393.out)) : w.heap.size ≤ gb397) : w0.heap.size ≤ gb397)), am ((nl hg (bf0 BK393.out) : gb393 ≠ gb397)), am ((ng hg (bf0 BK393.out) : gb397 ≠ gb393)), am ((by rw [hg]; exact Nat.ne_of_lt (IsS57.lt (show IsS57 w0 _ g s0_0 t395 t396 from st57_1 HI0.out NB0_393.out)) : g ≠ gb397)), am ((by rw [hg]; exact Nat.ne_of_gt (IsS57.lt (show IsS57 w0 _ g s0_0 t395 t396 from st57_1 HI0.out NB0_393.out)) : gb397 ≠ g))⟩ : _ ∧ _ ∧ _ ∧ _ ∧ _ ∧ _ ∧ _ ∧ _ ∧ _ ∧ _ ∧ _); clear HI0 BK393 HK HB; obtain ⟨HI0, BK393, HK, HB, BK397, GW397, GE397, NB393_397, NB397_393, NB0_397, NB397_0⟩ := n_; clear hb hbox hg; have hnb8 := NB397_393.out; have hnc8 := NB393_397.out; have hnb9 := NB397_0.out; have hnc9 := NB0_397.out; obtain ⟨hcz10_0, hcz10_1, hcz10_2, hcz10_3, hfz10_0, hfz10_1, hfz10_2, hfz10_3⟩ := cs4 BK397.out) | ((with_reducible refine gate_callee (f := 18) rfl ?_); refine goesL_ (some 8) rfl rfl Tryd.func18 (by kernel_rfl) rfl #[.pointer (some ⟨g, 0, none⟩), .int .i64 3] rfl lnp ?_; (with_reducible refine (spec_l01Next.calls g s0_0 t395 t396 3 t398 t399 t400 w0 _ ?side1 ?side2 A3.out).mono ?_); (case side1 => exact st57_2 HI0.out NB0_393.out NB0_397.out); (case side2 => exact bl3 HB.out (IsS57.ge HI0.out) GE393.out GE397.out); rintro e w11 ⟨rfl, hi, hb, hk⟩; refine ⟨_, rfl, ?_⟩; have n_ := (⟨am (KeepBut.blk hk (g' := gb393) (o := .cells #[.int .i64 0, .int .i64 0, .int .i64 0, .int .i64 0] 29 (0, 0)) (bf1 BK393.out NB393_397.out) NB393_0.out (by simp)), am (KeepBut.blk hk (g' := gb397) (o := .cells #[.int .i64 0, .int .i64 0, .int .i64 0, .int .i64 t394] 29 (0, 0)) (bp0 BK397.out) NB397_0.out (by simp)), am (KeepBut.trans (kb2 HK.out GW393.out GW397.out) hk (.inl rfl)), am (hb), am (hi)⟩ : _ ∧ _ ∧ _ ∧ _ ∧ _); clear BK393 BK397 HK HB HI0; obtain ⟨BK393, BK397, HK, HB, HI0⟩ := n_; (try clear hb); (try clear hb2); (try clear hk); (try clear hi)))
 (try simp only [Act.put, List.setIfInBounds_toArray, List.set_cons_zero, List.set_cons_succ])
 go_cut [] (fun wc => ∃ (kq : Nat) (x1001_3 : Int) (x1002_3 : Int) (x398000_3 : Int) (x398001_3 : Int) (x398002_3 : Int), Aside0 (spec_l29DrawMachine.j0 kq s0_0 x1001_3 x1002_3 x398000_3 x398001_3 x398002_3 t394 = some (r1, r2, r3, r4, r5, r6)) ∧ Aside0 (kq ≤ k) ∧ Aside0 (wc.heap[gb393]? = some (.cells #[.int .i64 0, .int .i64 0, .int .i64 0, .int .i64 0] 29 (0, 0))) ∧ Aside0 (wc.heap[gb397]? = some (.cells #[.int .i64 x398000_3, .int .i64 x398001_3, .int .i64 x398002_3, .int .i64 t394] 29 (0, 0))) ∧ Aside0 (IsS57 w0 wc g s0_0 x1001_3 x1002_3) ∧ Aside0 (KeepBut w wc g none) ∧ Aside0 (Below w0.heap.size w0 wc))
 case first =>
  have H := HC4.out
  clear HC4
  by_cases c12 : t398 > 0
  ·rw [if_pos c12] at H
   have c12b0 : decide (0 < t398) = true := decide_eq_true c12
   clear c12
   (first | rw [c12b0] | (simp only [i64_w, i32_w]; rw [c12b0]) | skip)
   replace H := Option.bind_eq_some_iff.mp H
   obtain ⟨⟨t401, t402, t403⟩, A130, H⟩ := H
   replace H : ((spec_l01Next.f s0_0 t402 t403 300).bind fun bt404 => ((spec_l01Next.f s0_0 bt404.2.1 bt404.2.2 4).bind fun bt407 => (spec_l29DrawMachine.j0 k s0_0 bt407.2.1 bt407.2.2 (wrap64 (1 + t401)) bt404.1 bt407.1 t394))) = some (r1, r2, r3, r4, r5, r6) := H
   have A13 := Aside0.mk A130
   clear A130
   replace H := Option.bind_eq_some_iff.mp H
   obtain ⟨⟨t404, t405, t406⟩, A140, H⟩ := H
   replace H : ((spec_l01Next.f s0_0 t405 t406 4).bind fun bt407 => (spec_l29DrawMachine.j0 k s0_0 bt407.2.1 bt407.2.2 (wrap64 (1 + t401)) t404 bt407.1 t394)) = some (r1, r2, r3, r4, r5, r6) := H
   have A14 := Aside0.mk A140
   clear A140
   replace H := Option.bind_eq_some_iff.mp H
   obtain ⟨⟨t407, t408, t409⟩, A150, H⟩ := H
   replace H : (spec_l29DrawMachine.j0 k s0_0 t408 t409 (wrap64 (1 + t401)) t404 t407 t394) = some (r1, r2, r3, r4, r5, r6) := H
   have A15 := Aside0.mk A150
   clear A150
   have H' := Aside0.mk H
   clear H
   go_wp2_with (first | ((with_reducible refine gate_callee (f := 18) rfl ?_); refine goesL_ (some 11) rfl rfl Tryd.func18 (by kernel_rfl) rfl #[.pointer (some ⟨g, 0, none⟩), .int .i64 9] rfl lnp ?_; (with_reducible refine (spec_l01Next.calls g s0_0 t399 t400 9 t401 t402 t403 w0 _ ?side1 ?side2 A13.out).mono ?_); (case side1 => exact st57_2 HI0.out NB0_393.out NB0_397.out); (case side2 => exact bl3 HB.out (IsS57.ge HI0.out) GE393.out GE397.out); rintro e w16 ⟨rfl, hi, hb, hk⟩; refine ⟨_, rfl, ?_⟩; have n_ := (⟨am (KeepBut.blk hk (g' := gb393) (o := .cells #[.int .i64 0, .int .i64 0, .int .i64 0, .int .i64 0] 29 (0, 0)) (bf0 BK393.out) NB393_0.out (by simp)), am (KeepBut.blk hk (g' := gb397) (o := .cells #[.int .i64 0, .int .i64 0, .int .i64 0, .int .i64 t394] 29 (0, 0)) (bf0 BK397.out) NB397_0.out (by simp)), am (KeepBut.trans (kb2 HK.out GW393.out GW397.out) hk (.inl rfl)), am (hb), am (hi)⟩ : _ ∧ _ ∧ _ ∧ _ ∧ _); clear BK393 BK397 HK HB HI0; obtain ⟨BK393, BK397, HK, HB, HI0⟩ := n_; (try clear hb); (try clear hb2); (try clear hk); (try clear hi); have hnb17 := NB397_393.out; have hnc17 := NB393_397.out; have hnb18 := NB397_0.out; have hnc18 := NB0_397.out; obtain ⟨hcz19_0, hcz19_1, hcz19_2, hcz19_3, hfz19_0, hfz19_1, hfz19_2, hfz19_3⟩ := cs4 BK397.out) | ((with_reducible refine gate_callee (f := 18) rfl ?_); refine goesL_ (some 15) rfl rfl Tryd.func18 (by kernel_rfl) rfl #[.pointer (some ⟨g, 0, none⟩), .int .i64 300] rfl lnp ?_; (with_reducible refine (spec_l01Next.calls g s0_0 t402 t403 300 t404 t405 t406 w0 _ ?side1 ?side2 A14.out).mono ?_); (case side1 => exact st57_2 HI0.out NB0_393.out NB0_397.out); (case side2 => exact bl3 HB.out (IsS57.ge HI0.out) GE393.out GE397.out); rintro e w20 ⟨rfl, hi, hb, hk⟩; refine ⟨_, rfl, ?_⟩; have n_ := (⟨am (KeepBut.blk hk (g' := gb393) (o := .cells #[.int .i64 0, .int .i64 0, .int .i64 0, .int .i64 0] 29 (0, 0)) (bf1 BK393.out NB393_397.out) NB393_0.out (by simp)), am (KeepBut.blk hk (g' := gb397) (o := .cells #[.int .i64 (wrap64 (1 + t401)), .int .i64 0, .int .i64 0, .int .i64 t394] 29 (0, 0)) (bp0 BK397.out) NB397_0.out (by simp)), am (KeepBut.trans (kb2 HK.out GW393.out GW397.out) hk (.inl rfl)), am (hb), am (hi)⟩ : _ ∧ _ ∧ _ ∧ _ ∧ _); clear BK393 BK397 HK HB HI0; obtain ⟨BK393, BK397, HK, HB, HI0⟩ := n_; (try clear hb); (try clear hb2); (try clear hk); (try clear hi); obtain ⟨hcz21_0, hcz21_1, hcz21_2, hcz21_3, hfz21_0, hfz21_1, hfz21_2, hfz21_3⟩ := cs4 BK397.out) | ((with_reducible refine gate_callee (f := 18) rfl ?_); refine goesL_ (some 18) rfl rfl Tryd.func18 (by kernel_rfl) rfl #[.pointer (some ⟨g, 0, none⟩), .int .i64 4] rfl lnp ?_; (with_reducible refine (spec_l01Next.calls g s0_0 t405 t406 4 t407 t408 t409 w0 _ ?side1 ?side2 A15.out).mono ?_); (case side1 => exact st57_2 HI0.out NB0_393.out NB0_397.out); (case side2 => exact bl3 HB.out (IsS57.ge HI0.out) GE393.out GE397.out); rintro e w22 ⟨rfl, hi, hb, hk⟩; refine ⟨_, rfl, ?_⟩; have n_ := (⟨am (KeepBut.blk hk (g' := gb393) (o := .cells #[.int .i64 0, .int .i64 0, .int .i64 0, .int .i64 0] 29 (0, 0)) (bf1 BK393.out NB393_397.out) NB393_0.out (by simp)), am (KeepBut.blk hk (g' := gb397) (o := .cells #[.int .i64 (wrap64 (1 + t401)), .int .i64 t404, .int .i64 0, .int .i64 t394] 29 (0, 0)) (bp0 BK397.out) NB397_0.out (by simp)), am (KeepBut.trans (kb2 HK.out GW393.out GW397.out) hk (.inl rfl)), am (hb), am (hi)⟩ : _ ∧ _ ∧ _ ∧ _ ∧ _); clear BK393 BK397 HK HB HI0; obtain ⟨BK393, BK397, HK, HB, HI0⟩ := n_; (try clear hb); (try clear hb2); (try clear hk); (try clear hi); obtain ⟨hcz23_0, hcz23_1, hcz23_2, hcz23_3, hfz23_0, hfz23_1, hfz23_2, hfz23_3⟩ := cs4 BK397.out))
   go_meet
   case rel => exact ⟨_, (t408), (t409), (wrap64 (1 + t401)), (t404), (t407), H', ⟨by first | omega | exact Nat.le_refl _⟩, ⟨bf1 BK393.out NB393_397.out⟩, ⟨by (with_reducible repeat (first | refine blk_drewN ?_ _ | refine blk_drew ?_ | refine blk_alloc ?_ _)); refine blk_put (cs := #[.int .i64 (wrap64 (1 + t401)), .int .i64 t404, .int .i64 0, .int .i64 t394]) ?_ 2 _ rfl; exact bf0 BK397.out⟩, ⟨st57_2 HI0.out NB0_393.out NB0_397.out⟩, ⟨kb2 HK.out GW393.out GW397.out⟩, ⟨bl3 HB.out (IsS57.ge HI0.out) GE393.out GE397.out⟩⟩
  ·rw [if_neg c12] at H
   have c12b0 : decide (0 < t398) = false := decide_eq_false c12
   clear c12
   (first | rw [c12b0] | (simp only [i64_w, i32_w]; rw [c12b0]) | skip)
   have H' := Aside0.mk H
   clear H
   go_wp2
   go_meet
   case rel => exact ⟨_, (t399), (t400), (0), (0), (0), H', ⟨by first | omega | exact Nat.le_refl _⟩, ⟨bf0 BK393.out⟩, ⟨bf0 BK397.out⟩, ⟨st57_2 HI0.out NB0_393.out NB0_397.out⟩, ⟨kb2 HK.out GW393.out GW397.out⟩, ⟨bl3 HB.out (IsS57.ge HI0.out) GE393.out GE397.out⟩⟩
 case rest =>
  clear HC4
  try clear c1
  try clear c2
  try clear p2
  try clear p6
  try clear c8
  try clear c9
  try clear c12
  try clear c12b0
  try clear c17
  try clear c18
  try clear hcz10_0
  try clear hcz10_1
  try clear hcz10_2
  try clear hcz10_3
  try clear hcz19_0
  try clear hcz19_1
  try clear hcz19_2
  try clear hcz19_3
  try clear hcz21_0
  try clear hcz21_1
  try clear hcz21_2
  try clear hcz21_3
  try clear hcz23_0
  try clear hcz23_1
  try clear hcz23_2
  try clear hcz23_3
  try clear hfz10_0
  try clear hfz10_1
  try clear hfz10_2
  try clear hfz10_3
  try clear hfz19_0
  try clear hfz19_1
  try clear hfz19_2
  try clear hfz19_3
  try clear hfz21_0
  try clear hfz21_1
  try clear hfz21_2
  try clear hfz21_3
  try clear hfz23_0
  try clear hfz23_1
  try clear hfz23_2
  try clear hfz23_3
  obtain ⟨kq, x1001_3, x1002_3, x398000_3, x398001_3, x398002_3, HA, HJ3, BK393, BK397, HI0, HK, HB⟩ := hcut
  cases kq with
  | zero => exact absurd HA.out (by simp [spec_l29DrawMachine.j0])
  | succ kj3 =>
   have H := HA.out
   clear HA
   simp only [spec_l29DrawMachine.j0] at H
   replace H := Option.bind_eq_some_iff.mp H
   obtain ⟨⟨t410, t411, t412⟩, A240, H⟩ := H
   replace H : (if t410 = 0 then ((spec_l01Pick.f s0_0 t411 t412 (([(-1), 1, 1000000, 1000001] : List Int))).bind fun bt416 => (some (x398000_3, bt416.1, x398002_3, t394, bt416.2.1, bt416.2.2))) else (if t410 = 1 then ((spec_l01Pick.f s0_0 t411 t412 (([(-1), 1000000000, 1000000001] : List Int))).bind fun bt422 => (some (x398000_3, x398001_3, x398002_3, bt422.1, bt422.2.1, bt422.2.2))) else (if t410 = 2 then ((spec_l01Pick.f s0_0 t411 t412 (([(-1), 0, 1000000000, 1000000001] : List Int))).bind fun bt428 => (some (bt428.1, x398001_3, x398002_3, t394, bt428.2.1, bt428.2.2))) else (some (x398000_3, x398001_3, x398002_3, t394, t411, t412))))) = some (r1, r2, r3, r4, r5, r6) := H
   have A24 := Aside0.mk A240
   clear A240
   by_cases c25 : t410 = 0
   ·rw [if_pos c25] at H
    have c25b0 : (t410 == 0) = true := beq_iff_eq.mpr c25
    have c25b1 : (t410 != 0) = false := bne_eq_false_iff_eq.mpr c25
    clear c25
    obtain ⟨y413, hy413⟩ : ∃ y_ : List Int, y_ = (([(-1), 1, 1000000, 1000001] : List Int)) := ⟨_, rfl⟩
    replace H : ((spec_l01Pick.f s0_0 t411 t412 y413).bind fun bt416 => (some (x398000_3, bt416.1, x398002_3, t394, bt416.2.1, bt416.2.2))) = some (r1, r2, r3, r4, r5, r6) := by first | (rw [hy413]; with_reducible exact H) | (have H2_ := (Option.bind_some _ _).symm.trans H; rw [hy413]; with_reducible exact H2_) | (have H2_ := (Option.bind_some _ _).symm.trans H; with_reducible exact H2_) | with_reducible exact H | (rw [hy413]; exact H) | exact H
    have Ny413 := Aside0.mk hy413
    clear hy413
    replace H := Option.bind_eq_some_iff.mp H
    obtain ⟨⟨t416, t417, t418⟩, A260, H⟩ := H
    replace H : (some (x398000_3, t416, x398002_3, t394, t417, t418)) = some (r1, r2, r3, r4, r5, r6) := H
    have A26 := Aside0.mk A260
    clear A260
    simp only [Option.some.injEq, Prod.mk.injEq] at H
    obtain ⟨rfl, rfl, rfl, rfl, rfl, rfl⟩ := H
    go_wp2_with (first | ((with_reducible refine gate_callee (f := 18) rfl ?_); refine goesL_ (some 21) rfl rfl Tryd.func18 (by kernel_rfl) rfl #[.pointer (some ⟨g, 0, none⟩), .int .i64 30] rfl lnp ?_; (with_reducible refine (spec_l01Next.calls g s0_0 x1001_3 x1002_3 30 t410 t411 t412 w0 _ ?side1 ?side2 A24.out).mono ?_); (case side1 => exact st57_2 HI0.out NB0_393.out NB0_397.out); (case side2 => exact bl3 HB.out (IsS57.ge HI0.out) GE393.out GE397.out); rintro e w27 ⟨rfl, hi, hb, hk⟩; refine ⟨_, rfl, ?_⟩; have n_ := (⟨am (KeepBut.blk hk (g' := gb393) (o := .cells #[.int .i64 0, .int .i64 0, .int .i64 0, .int .i64 0] 29 (0, 0)) (bf0 BK393.out) NB393_0.out (by simp)), am (KeepBut.blk hk (g' := gb397) (o := .cells #[.int .i64 x398000_3, .int .i64 x398001_3, .int .i64 x398002_3, .int .i64 t394] 29 (0, 0)) (bf0 BK397.out) NB397_0.out (by simp)), am (KeepBut.trans (kb2 HK.out GW393.out GW397.out) hk (.inl rfl)), am (hb), am (hi)⟩ : _ ∧ _ ∧ _ ∧ _ ∧ _); clear BK393 BK397 HK HB HI0; obtain ⟨BK393, BK397, HK, HB, HI0⟩ := n_; (try clear hb); (try clear hb2); (try clear hk); (try clear hi)) | ((with_reducible refine gate_dst (N := 25) rfl ?_); refine Kd.R_lit (Kd.int .i64) _ 2 ?hg (N := 25) ?hd (xs := ([(-1), 1, 1000000, 1000001] : List Int)) (inner := [.int .i64 (-1), .int .i64 1, .int .i64 1000000, .int .i64 1000001]) (ok := fun _ => True) (okp := fun _ => True) ?hr ?hp (fun _ hk => hk) trivial (Below.refl _ _) (Nat.le_refl _) (by simp) ?_; (case hd => rfl); (case hg => rfl); (case hr => first | (go_simp; done) | (go_simp; rfl)); (case hp => exact (Reps.one (show Kd.M (Kd.int .i64) _ _ _ (-1) [.int .i64 (-1)] from rfl) (Reps.one (show Kd.M (Kd.int .i64) _ _ _ 1 [.int .i64 1] from rfl) (Reps.one (show Kd.M (Kd.int .i64) _ _ _ 1000000 [.int .i64 1000000] from rfl) (Reps.one (show Kd.M (Kd.int .i64) _ _ _ 1000001 [.int .i64 1000001] from rfl) (Reps.none _ _)))))); intro v414 w28 ho29 hb hg_ hnew_; clear hg_ hnew_; (first | rw [← Ny413.out] at ho29 | (simp only [Int.reduceToNat] at ho29; rw [← Ny413.out] at ho29)); have n_ := (⟨am (Kd.R_lower ho29 (keep_size (w := w) (g := g) (row := none) (kb2 HK.out GW393.out GW397.out))), am (blk_below (bf0 BK393.out) hb), am (blk_below (bf0 BK397.out) hb), am (IsS57.below (st57_2 HI0.out NB0_393.out NB0_397.out) hb), am (KeepBut.trans (kb2 HK.out GW393.out GW397.out) (KeepBut.of_below hb g none) (.inl rfl)), am (below_step (bl3 HB.out (IsS57.ge HI0.out) GE393.out GE397.out) hb)⟩ : _ ∧ _ ∧ _ ∧ _ ∧ _ ∧ _); clear BK393 BK397 HI0 HK HB; obtain ⟨HO415, BK393, BK397, HI0, HK, HB⟩ := n_; clear hb ho29; obtain ⟨Ao30, co30, eo30⟩ := Kd.R_slice HO415.out; subst eo30) | ((with_reducible refine gate_callee (f := 17) rfl ?_); refine goesL_ (some 26) rfl rfl Tryd.func17 (by kernel_rfl) rfl #[.pointer (some ⟨g, 0, none⟩), .slice Ao30 y413.length co30] rfl lnp ?_; (with_reducible refine (spec_l01Pick.calls g s0_0 t411 t412 _ _ y413 t416 t417 t418 w0 _ ?side1 ?side2 ?side3 ?side4 ?side5 A26.out).mono ?_); (case side1 => exact st57_2 HI0.out NB0_393.out NB0_397.out); (case side2 => exact bl3 HB.out (IsS57.ge HI0.out) GE393.out GE397.out); (case side3 => repeat (first | exact (Kd.R_reads' HO415.out).2.2 | (with_reducible refine Kd.C_alloc ?_ _) | (with_reducible refine Kd.C_drewN ?_ _) | (with_reducible refine Kd.C_drew ?_))); (case side4 => exact (Kd.R_reads' HO415.out).2.1); (case side5 => exact far_slice (IsS57.own_ne HI0.out HO415.out (by decide))); rintro e w31 ⟨rfl, hi, hb, hk⟩; refine ⟨_, rfl, ?_⟩; have n_ := (⟨am (KeepBut.blk hk (g' := gb393) (o := .cells #[.int .i64 0, .int .i64 0, .int .i64 0, .int .i64 0] 29 (0, 0)) (bf0 BK393.out) NB393_0.out (by simp)), am (KeepBut.blk hk (g' := gb397) (o := .cells #[.int .i64 x398000_3, .int .i64 x398001_3, .int .i64 x398002_3, .int .i64 t394] 29 (0, 0)) (bf0 BK397.out) NB397_0.out (by simp)), am (Kd.R_mono (Kd.R_keep (IsS57.apart (show IsS57 w0 _ g s0_0 t411 t412 from st57_2 HI0.out NB0_393.out NB0_397.out) (rqR HO415.out) (by decide)) hk (fun _ h => h.2)) (fun _ h => h.1)), am (KeepBut.trans (kb2 HK.out GW393.out GW397.out) hk (.inl rfl)), am (hb), am (hi)⟩ : _ ∧ _ ∧ _ ∧ _ ∧ _ ∧ _); clear BK393 BK397 HO415 HK HB HI0; obtain ⟨BK393, BK397, HO415, HK, HB, HI0⟩ := n_; (try clear hb); (try clear hb2); (try clear hk); (try clear hi); have hnb32 := NB397_393.out; have hnc32 := NB393_397.out; have hnb33 := NB397_0.out; have hnc33 := NB0_397.out; obtain ⟨hcz34_0, hcz34_1, hcz34_2, hcz34_3, hfz34_0, hfz34_1, hfz34_2, hfz34_3⟩ := cs4 BK397.out; have hnb35 := NB393_0.out; have hnc35 := NB0_393.out; obtain ⟨hcz36_0, hcz36_1, hcz36_2, hcz36_3, hfz36_0, hfz36_1, hfz36_2, hfz36_3⟩ := cs4 BK393.out))
    refine bodyPost_ret (results_cell_row rfl _ _ gb393 29 #[.int .i64 x398000_3, .int .i64 t416, .int .i64 x398002_3, .int .i64 t394] (0, 0) _ rfl (bp1 BK393.out NB393_397.out) Tryd.underlying29 rfl (by kernel_rfl)) rfl ?_
    exact ⟨er, st57_2 HI0.out NB0_393.out NB0_397.out, bl3 HB.out (IsS57.ge HI0.out) GE393.out GE397.out, kb2 HK.out GW393.out GW397.out⟩
   ·rw [if_neg c25] at H
    have c25b0 : (t410 == 0) = false := beq_eq_false_iff_ne.mpr c25
    have c25b1 : (t410 != 0) = true := bne_iff_ne.mpr c25
    by_cases c37 : t410 = 1
    ·rw [if_pos c37] at H
     have c37b0 : (t410 == 1) = true := beq_iff_eq.mpr c37
     have c37b1 : (t410 != 1) = false := bne_eq_false_iff_eq.mpr c37
     clear c37
     obtain ⟨y419, hy419⟩ : ∃ y_ : List Int, y_ = (([(-1), 1000000000, 1000000001] : List Int)) := ⟨_, rfl⟩
     replace H : ((spec_l01Pick.f s0_0 t411 t412 y419).bind fun bt422 => (some (x398000_3, x398001_3, x398002_3, bt422.1, bt422.2.1, bt422.2.2))) = some (r1, r2, r3, r4, r5, r6) := by first | (rw [hy419]; with_reducible exact H) | (have H2_ := (Option.bind_some _ _).symm.trans H; rw [hy419]; with_reducible exact H2_) | (have H2_ := (Option.bind_some _ _).symm.trans H; with_reducible exact H2_) | with_reducible exact H | (rw [hy419]; exact H) | exact H
     have Ny419 := Aside0.mk hy419
     clear hy419
     replace H := Option.bind_eq_some_iff.mp H
     obtain ⟨⟨t422, t423, t424⟩, A380, H⟩ := H
     replace H : (some (x398000_3, x398001_3, x398002_3, t422, t423, t424)) = some (r1, r2, r3, r4, r5, r6) := H
     have A38 := Aside0.mk A380
     clear A380
     simp only [Option.some.injEq, Prod.mk.injEq] at H
     obtain ⟨rfl, rfl, rfl, rfl, rfl, rfl⟩ := H
     go_wp2_with (first | ((with_reducible refine gate_callee (f := 18) rfl ?_); refine goesL_ (some 21) rfl rfl Tryd.func18 (by kernel_rfl) rfl #[.pointer (some ⟨g, 0, none⟩), .int .i64 30] rfl lnp ?_; (with_reducible refine (spec_l01Next.calls g s0_0 x1001_3 x1002_3 30 t410 t411 t412 w0 _ ?side1 ?side2 A24.out).mono ?_); (case side1 => exact st57_2 HI0.out NB0_393.out NB0_397.out); (case side2 => exact bl3 HB.out (IsS57.ge HI0.out) GE393.out GE397.out); rintro e w39 ⟨rfl, hi, hb, hk⟩; refine ⟨_, rfl, ?_⟩; have n_ := (⟨am (KeepBut.blk hk (g' := gb393) (o := .cells #[.int .i64 0, .int .i64 0, .int .i64 0, .int .i64 0] 29 (0, 0)) (bf0 BK393.out) NB393_0.out (by simp)), am (KeepBut.blk hk (g' := gb397) (o := .cells #[.int .i64 x398000_3, .int .i64 x398001_3, .int .i64 x398002_3, .int .i64 t394] 29 (0, 0)) (bf0 BK397.out) NB397_0.out (by simp)), am (KeepBut.trans (kb2 HK.out GW393.out GW397.out) hk (.inl rfl)), am (hb), am (hi)⟩ : _ ∧ _ ∧ _ ∧ _ ∧ _); clear BK393 BK397 HK HB HI0; obtain ⟨BK393, BK397, HK, HB, HI0⟩ := n_; (try clear hb); (try clear hb2); (try clear hk); (try clear hi)) | ((with_reducible refine gate_dst (N := 31) rfl ?_); refine Kd.R_lit (Kd.int .i64) _ 2 ?hg (N := 31) ?hd (xs := ([(-1), 1000000000, 1000000001] : List Int)) (inner := [.int .i64 (-1), .int .i64 1000000000, .int .i64 1000000001]) (ok := fun _ => True) (okp := fun _ => True) ?hr ?hp (fun _ hk => hk) trivial (Below.refl _ _) (Nat.le_refl _) (by simp) ?_; (case hd => rfl); (case hg => rfl); (case hr => first | (go_simp; done) | (go_simp; rfl)); (case hp => exact (Reps.one (show Kd.M (Kd.int .i64) _ _ _ (-1) [.int .i64 (-1)] from rfl) (Reps.one (show Kd.M (Kd.int .i64) _ _ _ 1000000000 [.int .i64 1000000000] from rfl) (Reps.one (show Kd.M (Kd.int .i64) _ _ _ 1000000001 [.int .i64 1000000001] from rfl) (Reps.none _ _))))); intro v420 w40 ho41 hb hg_ hnew_; clear hg_ hnew_; (first | rw [← Ny419.out] at ho41 | (simp only [Int.reduceToNat] at ho41; rw [← Ny419.out] at ho41)); have n_ := (⟨am (Kd.R_lower ho41 (keep_size (w := w) (g := g) (row := none) (kb2 HK.out GW393.out GW397.out))), am (blk_below (bf0 BK393.out) hb), am (blk_below (bf0 BK397.out) hb), am (IsS57.below (st57_2 HI0.out NB0_393.out NB0_397.out) hb), am (KeepBut.trans (kb2 HK.out GW393.out GW397.out) (KeepBut.of_below hb g none) (.inl rfl)), am (below_step (bl3 HB.out (IsS57.ge HI0.out) GE393.out GE397.out) hb)⟩ : _ ∧ _ ∧ _ ∧ _ ∧ _ ∧ _); clear BK393 BK397 HI0 HK HB; obtain ⟨HO421, BK393, BK397, HI0, HK, HB⟩ := n_; clear hb ho41; obtain ⟨Ao42, co42, eo42⟩ := Kd.R_slice HO421.out; subst eo42) | ((with_reducible refine gate_callee (f := 17) rfl ?_); refine goesL_ (some 32) rfl rfl Tryd.func17 (by kernel_rfl) rfl #[.pointer (some ⟨g, 0, none⟩), .slice Ao42 y419.length co42] rfl lnp ?_; (with_reducible refine (spec_l01Pick.calls g s0_0 t411 t412 _ _ y419 t422 t423 t424 w0 _ ?side1 ?side2 ?side3 ?side4 ?side5 A38.out).mono ?_); (case side1 => exact st57_2 HI0.out NB0_393.out NB0_397.out); (case side2 => exact bl3 HB.out (IsS57.ge HI0.out) GE393.out GE397.out); (case side3 => repeat (first | exact (Kd.R_reads' HO421.out).2.2 | (with_reducible refine Kd.C_alloc ?_ _) | (with_reducible refine Kd.C_drewN ?_ _) | (with_reducible refine Kd.C_drew ?_))); (case side4 => exact (Kd.R_reads' HO421.out).2.1); (case side5 => exact far_slice (IsS57.own_ne HI0.out HO421.out (by decide))); rintro e w43 ⟨rfl, hi, hb, hk⟩; refine ⟨_, rfl, ?_⟩; have n_ := (⟨am (KeepBut.blk hk (g' := gb393) (o := .cells #[.int .i64 0, .int .i64 0, .int .i64 0, .int .i64 0] 29 (0, 0)) (bf0 BK393.out) NB393_0.out (by simp)), am (KeepBut.blk hk (g' := gb397) (o := .cells #[.int .i64 x398000_3, .int .i64 x398001_3, .int .i64 x398002_3, .int .i64 t394] 29 (0, 0)) (bf0 BK397.out) NB397_0.out (by simp)), am (Kd.R_mono (Kd.R_keep (IsS57.apart (show IsS57 w0 _ g s0_0 t411 t412 from st57_2 HI0.out NB0_393.out NB0_397.out) (rqR HO421.out) (by decide)) hk (fun _ h => h.2)) (fun _ h => h.1)), am (KeepBut.trans (kb2 HK.out GW393.out GW397.out) hk (.inl rfl)), am (hb), am (hi)⟩ : _ ∧ _ ∧ _ ∧ _ ∧ _ ∧ _); clear BK393 BK397 HO421 HK HB HI0; obtain ⟨BK393, BK397, HO421, HK, HB, HI0⟩ := n_; (try clear hb); (try clear hb2); (try clear hk); (try clear hi); have hnb44 := NB397_393.out; have hnc44 := NB393_397.out; have hnb45 := NB397_0.out; have hnc45 := NB0_397.out; obtain ⟨hcz46_0, hcz46_1, hcz46_2, hcz46_3, hfz46_0, hfz46_1, hfz46_2, hfz46_3⟩ := cs4 BK397.out; have hnb47 := NB393_0.out; have hnc47 := NB0_393.out; obtain ⟨hcz48_0, hcz48_1, hcz48_2, hcz48_3, hfz48_0, hfz48_1, hfz48_2, hfz48_3⟩ := cs4 BK393.out))
     refine bodyPost_ret (results_cell_row rfl _ _ gb393 29 #[.int .i64 x398000_3, .int .i64 x398001_3, .int .i64 x398002_3, .int .i64 t422] (0, 0) _ rfl (bp1 BK393.out NB393_397.out) Tryd.underlying29 rfl (by kernel_rfl)) rfl ?_
     exact ⟨er, st57_2 HI0.out NB0_393.out NB0_397.out, bl3 HB.out (IsS57.ge HI0.out) GE393.out GE397.out, kb2 HK.out GW393.out GW397.out⟩
    ·rw [if_neg c37] at H
     have c37b0 : (t410 == 1) = false := beq_eq_false_iff_ne.mpr c37
     have c37b1 : (t410 != 1) = true := bne_iff_ne.mpr c37
     by_cases c49 : t410 = 2
     ·rw [if_pos c49] at H
      have c49b0 : (t410 == 2) = true := beq_iff_eq.mpr c49
      have c49b1 : (t410 != 2) = false := bne_eq_false_iff_eq.mpr c49
      clear c49
      obtain ⟨y425, hy425⟩ : ∃ y_ : List Int, y_ = (([(-1), 0, 1000000000, 1000000001] : List Int)) := ⟨_, rfl⟩
      replace H : ((spec_l01Pick.f s0_0 t411 t412 y425).bind fun bt428 => (some (bt428.1, x398001_3, x398002_3, t394, bt428.2.1, bt428.2.2))) = some (r1, r2, r3, r4, r5, r6) := by first | (rw [hy425]; with_reducible exact H) | (have H2_ := (Option.bind_some _ _).symm.trans H; rw [hy425]; with_reducible exact H2_) | (have H2_ := (Option.bind_some _ _).symm.trans H; with_reducible exact H2_) | with_reducible exact H | (rw [hy425]; exact H) | exact H
      have Ny425 := Aside0.mk hy425
      clear hy425
      replace H := Option.bind_eq_some_iff.mp H
      obtain ⟨⟨t428, t429, t430⟩, A500, H⟩ := H
      replace H : (some (t428, x398001_3, x398002_3, t394, t429, t430)) = some (r1, r2, r3, r4, r5, r6) := H
      have A50 := Aside0.mk A500
      clear A500
      simp only [Option.some.injEq, Prod.mk.injEq] at H
      obtain ⟨rfl, rfl, rfl, rfl, rfl, rfl⟩ := H
      go_wp2_with (first | ((with_reducible refine gate_callee (f := 18) rfl ?_); refine goesL_ (some 21) rfl rfl Tryd.func18 (by kernel_rfl) rfl #[.pointer (some ⟨g, 0, none⟩), .int .i64 30] rfl lnp ?_; (with_reducible refine (spec_l01Next.calls g s0_0 x1001_3 x1002_3 30 t410 t411 t412 w0 _ ?side1 ?side2 A24.out).mono ?_); (case side1 => exact st57_2 HI0.out NB0_393.out NB0_397.out); (case side2 => exact bl3 HB.out (IsS57.ge HI0.out) GE393.out GE397.out); rintro e w51 ⟨rfl, hi, hb, hk⟩; refine ⟨_, rfl, ?_⟩; have n_ := (⟨am (KeepBut.blk hk (g' := gb393) (o := .cells #[.int .i64 0, .int .i64 0, .int .i64 0, .int .i64 0] 29 (0, 0)) (bf0 BK393.out) NB393_0.out (by simp)), am (KeepBut.blk hk (g' := gb397) (o := .cells #[.int .i64 x398000_3, .int .i64 x398001_3, .int .i64 x398002_3, .int .i64 t394] 29 (0, 0)) (bf0 BK397.out) NB397_0.out (by simp)), am (KeepBut.trans (kb2 HK.out GW393.out GW397.out) hk (.inl rfl)), am (hb), am (hi)⟩ : _ ∧ _ ∧ _ ∧ _ ∧ _); clear BK393 BK397 HK HB HI0; obtain ⟨BK393, BK397, HK, HB, HI0⟩ := n_; (try clear hb); (try clear hb2); (try clear hk); (try clear hi)) | ((with_reducible refine gate_dst (N := 37) rfl ?_); refine Kd.R_lit (Kd.int .i64) _ 2 ?hg (N := 37) ?hd (xs := ([(-1), 0, 1000000000, 1000000001] : List Int)) (inner := [.int .i64 (-1), .int .i64 0, .int .i64 1000000000, .int .i64 1000000001]) (ok := fun _ => True) (okp := fun _ => True) ?hr ?hp (fun _ hk => hk) trivial (Below.refl _ _) (Nat.le_refl _) (by simp) ?_; (case hd => rfl); (case hg => rfl); (case hr => first | (go_simp; done) | (go_simp; rfl)); (case hp => exact (Reps.one (show Kd.M (Kd.int .i64) _ _ _ (-1) [.int .i64 (-1)] from rfl) (Reps.one (show Kd.M (Kd.int .i64) _ _ _ 0 [.int .i64 0] from rfl) (Reps.one (show Kd.M (Kd.int .i64) _ _ _ 1000000000 [.int .i64 1000000000] from rfl) (Reps.one (show Kd.M (Kd.int .i64) _ _ _ 1000000001 [.int .i64 1000000001] from rfl) (Reps.none _ _)))))); intro v426 w52 ho53 hb hg_ hnew_; clear hg_ hnew_; (first | rw [← Ny425.out] at ho53 | (simp only [Int.reduceToNat] at ho53; rw [← Ny425.out] at ho53)); have n_ := (⟨am (Kd.R_lower ho53 (keep_size (w := w) (g := g) (row := none) (kb2 HK.out GW393.out GW397.out))), am (blk_below (bf0 BK393.out) hb), am (blk_below (bf0 BK397.out) hb), am (IsS57.below (st57_2 HI0.out NB0_393.out NB0_397.out) hb), am (KeepBut.trans (kb2 HK.out GW393.out GW397.out) (KeepBut.of_below hb g none) (.inl rfl)), am (below_step (bl3 HB.out (IsS57.ge HI0.out) GE393.out GE397.out) hb)⟩ : _ ∧ _ ∧ _ ∧ _ ∧ _ ∧ _); clear BK393 BK397 HI0 HK HB; obtain ⟨HO427, BK393, BK397, HI0, HK, HB⟩ := n_; clear hb ho53; obtain ⟨Ao54, co54, eo54⟩ := Kd.R_slice HO427.out; subst eo54) | ((with_reducible refine gate_callee (f := 17) rfl ?_); refine goesL_ (some 38) rfl rfl Tryd.func17 (by kernel_rfl) rfl #[.pointer (some ⟨g, 0, none⟩), .slice Ao54 y425.length co54] rfl lnp ?_; (with_reducible refine (spec_l01Pick.calls g s0_0 t411 t412 _ _ y425 t428 t429 t430 w0 _ ?side1 ?side2 ?side3 ?side4 ?side5 A50.out).mono ?_); (case side1 => exact st57_2 HI0.out NB0_393.out NB0_397.out); (case side2 => exact bl3 HB.out (IsS57.ge HI0.out) GE393.out GE397.out); (case side3 => repeat (first | exact (Kd.R_reads' HO427.out).2.2 | (with_reducible refine Kd.C_alloc ?_ _) | (with_reducible refine Kd.C_drewN ?_ _) | (with_reducible refine Kd.C_drew ?_))); (case side4 => exact (Kd.R_reads' HO427.out).2.1); (case side5 => exact far_slice (IsS57.own_ne HI0.out HO427.out (by decide))); rintro e w55 ⟨rfl, hi, hb, hk⟩; refine ⟨_, rfl, ?_⟩; have n_ := (⟨am (KeepBut.blk hk (g' := gb393) (o := .cells #[.int .i64 0, .int .i64 0, .int .i64 0, .int .i64 0] 29 (0, 0)) (bf0 BK393.out) NB393_0.out (by simp)), am (KeepBut.blk hk (g' := gb397) (o := .cells #[.int .i64 x398000_3, .int .i64 x398001_3, .int .i64 x398002_3, .int .i64 t394] 29 (0, 0)) (bf0 BK397.out) NB397_0.out (by simp)), am (Kd.R_mono (Kd.R_keep (IsS57.apart (show IsS57 w0 _ g s0_0 t411 t412 from st57_2 HI0.out NB0_393.out NB0_397.out) (rqR HO427.out) (by decide)) hk (fun _ h => h.2)) (fun _ h => h.1)), am (KeepBut.trans (kb2 HK.out GW393.out GW397.out) hk (.inl rfl)), am (hb), am (hi)⟩ : _ ∧ _ ∧ _ ∧ _ ∧ _ ∧ _); clear BK393 BK397 HO427 HK HB HI0; obtain ⟨BK393, BK397, HO427, HK, HB, HI0⟩ := n_; (try clear hb); (try clear hb2); (try clear hk); (try clear hi); have hnb56 := NB397_393.out; have hnc56 := NB393_397.out; have hnb57 := NB397_0.out; have hnc57 := NB0_397.out; obtain ⟨hcz58_0, hcz58_1, hcz58_2, hcz58_3, hfz58_0, hfz58_1, hfz58_2, hfz58_3⟩ := cs4 BK397.out; have hnb59 := NB393_0.out; have hnc59 := NB0_393.out; obtain ⟨hcz60_0, hcz60_1, hcz60_2, hcz60_3, hfz60_0, hfz60_1, hfz60_2, hfz60_3⟩ := cs4 BK393.out))
      refine bodyPost_ret (results_cell_row rfl _ _ gb393 29 #[.int .i64 t428, .int .i64 x398001_3, .int .i64 x398002_3, .int .i64 t394] (0, 0) _ rfl (bp1 BK393.out NB393_397.out) Tryd.underlying29 rfl (by kernel_rfl)) rfl ?_
      exact ⟨er, st57_2 HI0.out NB0_393.out NB0_397.out, bl3 HB.out (IsS57.ge HI0.out) GE393.out GE397.out, kb2 HK.out GW393.out GW397.out⟩
     ·rw [if_neg c49] at H
      have c49b0 : (t410 == 2) = false := beq_eq_false_iff_ne.mpr c49
      have c49b1 : (t410 != 2) = true := bne_iff_ne.mpr c49
      simp only [Option.some.injEq, Prod.mk.injEq] at H
      obtain ⟨rfl, rfl, rfl, rfl, rfl, rfl⟩ := H
      go_wp2_with (first | ((with_reducible refine gate_callee (f := 18) rfl ?_); refine goesL_ (some 21) rfl rfl Tryd.func18 (by kernel_rfl) rfl #[.pointer (some ⟨g, 0, none⟩), .int .i64 30] rfl lnp ?_; (with_reducible refine (spec_l01Next.calls g s0_0 x1001_3 x1002_3 30 t410 t411 t412 w0 _ ?side1 ?side2 A24.out).mono ?_); (case side1 => exact st57_2 HI0.out NB0_393.out NB0_397.out); (case side2 => exact bl3 HB.out (IsS57.ge HI0.out) GE393.out GE397.out); rintro e w61 ⟨rfl, hi, hb, hk⟩; refine ⟨_, rfl, ?_⟩; have n_ := (⟨am (KeepBut.blk hk (g' := gb393) (o := .cells #[.int .i64 0, .int .i64 0, .int .i64 0, .int .i64 0] 29 (0, 0)) (bf0 BK393.out) NB393_0.out (by simp)), am (KeepBut.blk hk (g' := gb397) (o := .cells #[.int .i64 x398000_3, .int .i64 x398001_3, .int .i64 x398002_3, .int .i64 t394] 29 (0, 0)) (bf0 BK397.out) NB397_0.out (by simp)), am (KeepBut.trans (kb2 HK.out GW393.out GW397.out) hk (.inl rfl)), am (hb), am (hi)⟩ : _ ∧ _ ∧ _ ∧ _ ∧ _); clear BK393 BK397 HK HB HI0; obtain ⟨BK393, BK397, HK, HB, HI0⟩ := n_; (try clear hb); (try clear hb2); (try clear hk); (try clear hi); have hnb62 := NB397_393.out; have hnc62 := NB393_397.out; have hnb63 := NB397_0.out; have hnc63 := NB0_397.out; obtain ⟨hcz64_0, hcz64_1, hcz64_2, hcz64_3, hfz64_0, hfz64_1, hfz64_2, hfz64_3⟩ := cs4 BK397.out; have hnb65 := NB393_0.out; have hnc65 := NB0_393.out; obtain ⟨hcz66_0, hcz66_1, hcz66_2, hcz66_3, hfz66_0, hfz66_1, hfz66_2, hfz66_3⟩ := cs4 BK393.out))
      refine bodyPost_ret (results_cell_row rfl _ _ gb393 29 #[.int .i64 x398000_3, .int .i64 x398001_3, .int .i64 x398002_3, .int .i64 t394] (0, 0) _ rfl (bp0 BK393.out) Tryd.underlying29 rfl (by kernel_rfl)) rfl ?_
      exact ⟨er, st57_2 HI0.out NB0_393.out NB0_397.out, bl3 HB.out (IsS57.ge HI0.out) GE393.out GE397.out, kb2 HK.out GW393.out GW397.out⟩

/-! ### spec_DrawMakeEntry: function 8 -/
def spec_DrawMakeEntry.f (k : Nat) (l0 : List Int) : Option (Int × Int × Int × Int × Int × Int) := (spec_l01From.f k l0).bind fun bt433 => ((spec_l29DrawMachine.f k bt433.1 bt433.2.1 bt433.2.2).bind fun bt437 => ((spec_l29DrawEntry.f k bt433.1 bt437.2.2.2.2.1 bt437.2.2.2.2.2 bt437.1 bt437.2.1 bt437.2.2.1 bt437.2.2.2.1).bind fun bt444 => (some (bt437.1, bt437.2.1, bt437.2.2.1, bt437.2.2.2.1, bt444.1, bt444.2.1))))
theorem spec_DrawMakeEntry.mono : ∀ a0 k, LeO (spec_DrawMakeEntry.f k a0) (spec_DrawMakeEntry.f (k + 1) a0) := by
 intro a0 k
 unfold spec_DrawMakeEntry.f
 repeat' first | (with_reducible first | exact spec_l01From.mono _ _ | exact spec_l29DrawEntry.mono _ _ _ _ _ _ _ _ | exact spec_l29DrawMachine.mono _ _ _ _ | exact LeO.refl _ | exact LeO.none _ | refine LeO.ite ?_ ?_ | refine LeO.bind ?_ (fun _ => ?_)) | exact spec_l01From.mono _ _ | exact spec_l29DrawEntry.mono _ _ _ _ _ _ _ _ | exact spec_l29DrawMachine.mono _ _ _ _ | exact LeO.none _ | refine LeO.ite ?_ ?_ | refine LeO.bind ?_ (fun _ => ?_)
theorem spec_DrawMakeEntry.calls (k : Nat) (A0 : Option Addr) (c0 : Nat) (l0 : List Int) (r1 : Int) (r2 : Int) (r3 : Int) (r4 : Int) (r5 : Int) (r6 : Int) (w : World) (hr0 : Kd.C (Kd.int .u8) w A0 l0.length l0) (hc0 : l0.length ≤ c0) (h : spec_DrawMakeEntry.f k l0 = some (r1, r2, r3, r4, r5, r6)) :
  Calls Tryd.prog 8 #[.slice A0 l0.length c0] w fun e w' => e = .returned (.tuple #[.agg #[.int .i64 r1, .int .i64 r2, .int .i64 r3, .int .i64 r4], .agg #[.int .i64 r5, .int .i64 r6]]) ∧ Below w.heap.size w w' := by
 have hu29 := Tryd.underlying29
 have hu31 := Tryd.underlying31
 have HR0 := Aside0.mk hr0
 have HC0 := Aside0.mk hc0
 clear hr0 hc0
 have HB := am (Below.refl w.heap.size w)
 have H : ((spec_l01From.f k l0).bind fun bt433 => ((spec_l29DrawMachine.f k bt433.1 bt433.2.1 bt433.2.2).bind fun bt437 => ((spec_l29DrawEntry.f k bt433.1 bt437.2.2.2.2.1 bt437.2.2.2.2.2 bt437.1 bt437.2.1 bt437.2.2.1 bt437.2.2.2.1).bind fun bt444 => (some (bt437.1, bt437.2.1, bt437.2.2.1, bt437.2.2.2.1, bt444.1, bt444.2.1))))) = some (r1, r2, r3, r4, r5, r6) := h
 clear h
 replace H := Option.bind_eq_some_iff.mp H
 obtain ⟨⟨t433, t434, t435⟩, A20, H⟩ := H
 replace H : ((spec_l29DrawMachine.f k t433 t434 t435).bind fun bt437 => ((spec_l29DrawEntry.f k t433 bt437.2.2.2.2.1 bt437.2.2.2.2.2 bt437.1 bt437.2.1 bt437.2.2.1 bt437.2.2.2.1).bind fun bt444 => (some (bt437.1, bt437.2.1, bt437.2.2.1, bt437.2.2.2.1, bt444.1, bt444.2.1)))) = some (r1, r2, r3, r4, r5, r6) := H
 have A2 := Aside0.mk A20
 clear A20
 replace H := Option.bind_eq_some_iff.mp H
 obtain ⟨⟨t437, t438, t439, t440, t441, t442⟩, A30, H⟩ := H
 replace H : ((spec_l29DrawEntry.f k t433 t441 t442 t437 t438 t439 t440).bind fun bt444 => (some (t437, t438, t439, t440, bt444.1, bt444.2.1))) = some (r1, r2, r3, r4, r5, r6) := H
 have A3 := Aside0.mk A30
 clear A30
 replace H := Option.bind_eq_some_iff.mp H
 obtain ⟨⟨t444, t445, t446, t447⟩, A40, H⟩ := H
 replace H : (some (t437, t438, t439, t440, t444, t445)) = some (r1, r2, r3, r4, r5, r6) := H
 have A4 := Aside0.mk A40
 clear A40
 simp only [Option.some.injEq, Prod.mk.injEq] at H
 obtain ⟨rfl, rfl, rfl, rfl, rfl, rfl⟩ := H
 go_enter Tryd.func8, Tryd.ntmps8
 try go_wp2_with (first | ((with_reducible refine gate_dst (N := 2) rfl ?_); refine box_event ?hg (N := 2) ?hd (cs := #[.int .i64 0, .int .i64 0, .int .i64 0, .int .i64 0]) (t := 29) ?hr ?_; (case hd => rfl); (case hg => rfl); (case hr => first | (go_simp; done) | (go_simp; rfl)); intro gb431 hg w5 hbox hb; have n_ := (⟨am (below_step (bl0 HB.out) hb), am (hbox), am ((gw hg (bl0 HB.out) : w.heap.size ≤ gb431)), am ((gw hg (bl0 HB.out) : w.heap.size ≤ gb431))⟩ : _ ∧ _ ∧ _ ∧ _); clear HB; obtain ⟨HB, BK431, GW431, GE431⟩ := n_; clear hb hbox hg) | ((with_reducible refine gate_dst (N := 3) rfl ?_); refine box_event ?hg (N := 3) ?hd (cs := #[.int .i64 0, .int .i64 0]) (t := 31) ?hr ?_; (case hd => rfl); (case hg => rfl); (case hr => first | (go_simp; done) | (go_simp; rfl)); intro gb432 hg w6 hbox hb; have n_ := (⟨am (blk_below (bf0 BK431.out) hb), am (below_step (bl1 HB.out GE431.out) hb), am (hbox), am ((gw hg (bl1 HB.out GE431.out) : w.heap.size ≤ gb432)), am ((gw hg (bl1 HB.out GE431.out) : w.heap.size ≤ gb432)), am ((nl hg (bf0 BK431.out) : gb431 ≠ gb432)), am ((ng hg (bf0 BK431.out) : gb432 ≠ gb431))⟩ : _ ∧ _ ∧ _ ∧ _ ∧ _ ∧ _ ∧ _); clear BK431 HB; obtain ⟨BK431, HB, BK432, GW432, GE432, NB431_432, NB432_431⟩ := n_; clear hb hbox hg) | ((with_reducible refine gate_callee (f := 15) rfl ?_); refine goesL_ (some 7) rfl rfl Tryd.func15 (by kernel_rfl) rfl #[.slice A0 l0.length c0] rfl lnp ?_; (with_reducible refine (spec_l01From.calls k _ _ l0 t433 t434 t435 w _ ?side1 ?side2 ?side3 A2.out).mono ?_); (case side1 => exact bl2 HB.out GE431.out GE432.out); (case side2 => exact HR0.out); (case side3 => exact HC0.out); rintro e w7 ⟨g436, rfl, hi, hb, hb2⟩; refine ⟨_, rfl, ?_⟩; have n_ := (⟨am (blk_below (bf0 BK431.out) hb2), am (blk_below (bf0 BK432.out) hb2), am (hb), am (hi), am (IsS57.ne_blk hi (blk_below (bf0 BK431.out) hb2) (by decide)), am (Ne.symm (IsS57.ne_blk hi (blk_below (bf0 BK431.out) hb2) (by decide))), am (IsS57.ne_blk hi (blk_below (bf0 BK432.out) hb2) (by decide)), am (Ne.symm (IsS57.ne_blk hi (blk_below (bf0 BK432.out) hb2) (by decide)))⟩ : _ ∧ _ ∧ _ ∧ _ ∧ _ ∧ _ ∧ _ ∧ _); clear BK431 BK432 HB; obtain ⟨BK431, BK432, HB, HI436, NB436_431, NB431_436, NB436_432, NB432_436⟩ := n_; (try clear hb); (try clear hb2); (try clear hk); (try clear hi)) | ((with_reducible refine gate_callee (f := 24) rfl ?_); refine goesL_ (some 9) rfl rfl Tryd.func24 (by kernel_rfl) rfl #[.pointer (some ⟨g436, 0, none⟩)] rfl lnp ?_; (with_reducible refine (spec_l29DrawMachine.calls k g436 t433 t434 t435 t437 t438 t439 t440 t441 t442 w _ ?side1 ?side2 A3.out).mono ?_); (case side1 => exact st57_2 HI436.out NB436_431.out NB436_432.out); (case side2 => exact bl3 HB.out (IsS57.ge HI436.out) GE431.out GE432.out); rintro e w8 ⟨rfl, hi, hb, hk⟩; refine ⟨_, rfl, ?_⟩; have n_ := (⟨am (KeepBut.blk hk (g' := gb431) (o := .cells #[.int .i64 0, .int .i64 0, .int .i64 0, .int .i64 0] 29 (0, 0)) (bf0 BK431.out) NB431_436.out (by simp)), am (KeepBut.blk hk (g' := gb432) (o := .cells #[.int .i64 0, .int .i64 0] 31 (0, 0)) (bf0 BK432.out) NB432_436.out (by simp)), am (hb), am (hi)⟩ : _ ∧ _ ∧ _ ∧ _); clear BK431 BK432 HB HI436; obtain ⟨BK431, BK432, HB, HI436⟩ := n_; (try clear hb); (try clear hb2); (try clear hk); (try clear hi)) | ((with_reducible refine gate_dst (N := 5) rfl ?_); refine box_event ?hg (N := 5) ?hd (cs := #[.int .i64 0, .int .i64 0, .int .i64 0, .int .i64 0]) (t := 29) ?hr ?_; (case hd => rfl); (case hg => rfl); (case hr => first | (go_simp; done) | (go_simp; rfl)); intro gb443 hg w9 hbox hb; have n_ := (⟨am (blk_below (bf0 BK431.out) hb), am (blk_below (bf0 BK432.out) hb), am (IsS57.below (st57_2 HI436.out NB436_431.out NB436_432.out) hb), am (below_step (bl3 HB.out (IsS57.ge HI436.out) GE431.out GE432.out) hb), am (hbox), am ((gw hg (bl3 HB.out (IsS57.ge HI436.out) GE431.out GE432.out) : w.heap.size ≤ gb443)), am ((gw hg (bl3 HB.out (IsS57.ge HI436.out) GE431.out GE432.out) : w.heap.size ≤ gb443)), am ((nl hg (bf0 BK431.out) : gb431 ≠ gb443)), am ((ng hg (bf0 BK431.out) : gb443 ≠ gb431)), am ((nl hg (bf0 BK432.out) : gb432 ≠ gb443)), am ((ng hg (bf0 BK432.out) : gb443 ≠ gb432)), am ((by rw [hg]; exact Nat.ne_of_lt (IsS57.lt (show IsS57 w _ g436 t433 t441 t442 from st57_2 HI436.out NB436_431.out NB436_432.out)) : g436 ≠ gb443)), am ((by rw [hg]; exact Nat.ne_of_gt (IsS57.lt (show IsS57 w _ g436 t433 t441 t442 from st57_2 HI436.out NB436_431.out NB436_432.out)) : gb443 ≠ g436))⟩ : _ ∧ _ ∧ _ ∧ _ ∧ _ ∧ _ ∧ _ ∧ _ ∧ _ ∧ _ ∧ _ ∧ _ ∧ _); clear BK431 BK432 HI436 HB; obtain ⟨BK431, BK432, HI436, HB, BK443, GW443, GE443, NB431_443, NB443_431, NB432_443, NB443_432, NB436_443, NB443_436⟩ := n_; clear hb hbox hg; have hnb10 := NB443_431.out; have hnc10 := NB431_443.out; have hnb11 := NB443_432.out; have hnc11 := NB432_443.out; have hnb12 := NB443_436.out; have hnc12 := NB436_443.out; obtain ⟨hcz13_0, hcz13_1, hcz13_2, hcz13_3, hfz13_0, hfz13_1, hfz13_2, hfz13_3⟩ := cs4 BK443.out))
 have n0_ : Aside0 (((((w9.setCell ⟨gb443, 0, none⟩ (.int .i64 t437)).setCell ⟨gb443, 1, none⟩ (.int .i64 t438)).setCell ⟨gb443, 2, none⟩ (.int .i64 t439)).setCell ⟨gb443, 3, none⟩ (.int .i64 t440)).heap[gb431]? = some (.cells #[.int .i64 0, .int .i64 0, .int .i64 0, .int .i64 0] 29 (0, 0))) := ⟨bf1 BK431.out NB431_443.out⟩
 have n1_ : Aside0 (((((w9.setCell ⟨gb443, 0, none⟩ (.int .i64 t437)).setCell ⟨gb443, 1, none⟩ (.int .i64 t438)).setCell ⟨gb443, 2, none⟩ (.int .i64 t439)).setCell ⟨gb443, 3, none⟩ (.int .i64 t440)).heap[gb432]? = some (.cells #[.int .i64 0, .int .i64 0] 31 (0, 0))) := ⟨bf1 BK432.out NB432_443.out⟩
 have n2_ : Aside0 (((((w9.setCell ⟨gb443, 0, none⟩ (.int .i64 t437)).setCell ⟨gb443, 1, none⟩ (.int .i64 t438)).setCell ⟨gb443, 2, none⟩ (.int .i64 t439)).setCell ⟨gb443, 3, none⟩ (.int .i64 t440)).heap[gb443]? = some (.cells #[.int .i64 t437, .int .i64 t438, .int .i64 t439, .int .i64 t440] 29 (0, 0))) := ⟨by (with_reducible repeat (first | refine blk_drewN ?_ _ | refine blk_drew ?_ | refine blk_alloc ?_ _)); refine blk_put (cs := #[.int .i64 t437, .int .i64 t438, .int .i64 t439, .int .i64 0]) ?_ 3 _ rfl; (with_reducible repeat (first | refine blk_drewN ?_ _ | refine blk_drew ?_ | refine blk_alloc ?_ _)); refine blk_put (cs := #[.int .i64 t437, .int .i64 t438, .int .i64 0, .int .i64 0]) ?_ 2 _ rfl; (with_reducible repeat (first | refine blk_drewN ?_ _ | refine blk_drew ?_ | refine blk_alloc ?_ _)); refine blk_put (cs := #[.int .i64 t437, .int .i64 0, .int .i64 0, .int .i64 0]) ?_ 1 _ rfl; (with_reducible repeat (first | refine blk_drewN ?_ _ | refine blk_drew ?_ | refine blk_alloc ?_ _)); refine blk_put (cs := #[.int .i64 0, .int .i64 0, .int .i64 0, .int .i64 0]) ?_ 0 _ rfl; exact bf0 BK443.out⟩
 have n3_ : Aside0 (IsS57 w ((((w9.setCell ⟨gb443, 0, none⟩ (.int .i64 t437)).setCell ⟨gb443, 1, none⟩ (.int .i64 t438)).setCell ⟨gb443, 2, none⟩ (.int .i64 t439)).setCell ⟨gb443, 3, none⟩ (.int .i64 t440)) g436 t433 t441 t442) := ⟨st57_3 HI436.out NB436_431.out NB436_432.out NB436_443.out⟩
 have n4_ : Aside0 (Below w.heap.size w ((((w9.setCell ⟨gb443, 0, none⟩ (.int .i64 t437)).setCell ⟨gb443, 1, none⟩ (.int .i64 t438)).setCell ⟨gb443, 2, none⟩ (.int .i64 t439)).setCell ⟨gb443, 3, none⟩ (.int .i64 t440))) := ⟨bl4 HB.out (IsS57.ge HI436.out) GE431.out GE432.out GE443.out⟩
 (try clear BK431)
 (try clear BK432)
 (try clear BK443)
 (try clear HI436)
 (try clear HB)
 generalize ((((w9.setCell ⟨gb443, 0, none⟩ (.int .i64 t437)).setCell ⟨gb443, 1, none⟩ (.int .i64 t438)).setCell ⟨gb443, 2, none⟩ (.int .i64 t439)).setCell ⟨gb443, 3, none⟩ (.int .i64 t440)) = w14 at n0_ n1_ n2_ n3_ n4_ ⊢
 have BK431 := n0_
 have BK432 := n1_
 have BK443 := n2_
 have HI436 := n3_
 have HB := n4_
 clear n0_ n1_ n2_ n3_ n4_
 have n_ := (⟨am (blk_drew BK431.out), am (blk_drew BK432.out), am (blk_drew BK443.out), am (IsS57.drew HI436.out), am (below_drew1 HB.out)⟩ : _ ∧ _ ∧ _ ∧ _ ∧ _)
 clear BK431
 clear BK432
 clear BK443
 clear HI436
 clear HB
 obtain ⟨BK431, BK432, BK443, HI436, HB⟩ := n_
 refine start_ (n := 6) (S := fun w' => w'.cell? ⟨gb443, 0, none⟩ = some (.int .i64 t437) ∧ w'.cell? ⟨gb443, 1, none⟩ = some (.int .i64 t438) ∧ w'.cell? ⟨gb443, 2, none⟩ = some (.int .i64 t439) ∧ w'.cell? ⟨gb443, 3, none⟩ = some (.int .i64 t440)) (ds := []) #[false, false, false, false, false, false] (by kernel_rfl) rfl rfl ⟨(blk_cell BK443.out 0).trans rfl, (blk_cell BK443.out 1).trans rfl, (blk_cell BK443.out 2).trans rfl, (blk_cell BK443.out 3).trans rfl⟩ (fun hHeld => ?_)
 generalize w14.drew = w15 at BK431 BK432 BK443 HI436 HB hHeld ⊢
 refine pure_ (i := 1) (N := some 11) (v := ?_) (a' := ?_) #[false, true, false, false, false, false] rfl rfl (by kernel_rfl) (fun _ _ _ h => h) (Or.inl ⟨by rfl, ?_⟩) ?_ ?_
 rotate_left; (focus exact gs); rotate_left; (focus exact pt)
 refine take_ (i := 0) (N := some 10) (v := ?_) (a' := ?_) #[true, true, false, false, false, false] rfl rfl (by kernel_rfl) (fun _ _ _ h => h) (Or.inl ⟨by rfl, ?_⟩) hHeld ?_ ?_
 rotate_left
 ·rintro w' ⟨s0, s1, s2, s3⟩
  go_simp
  with_reducible rfl
 rotate_left
 ·exact pt
 refine take_ (i := 2) (N := some 12) (v := ?_) (a' := ?_) #[true, true, true, false, false, false] rfl rfl (by kernel_rfl) (fun _ _ _ h => h) (Or.inl ⟨by rfl, ?_⟩) hHeld ?_ ?_
 rotate_left
 ·rintro w' ⟨s0, s1, s2, s3⟩
  go_simp
  with_reducible rfl
 rotate_left
 ·exact pt
 refine one_ (i := 3) (N := some 13) #[true, true, true, true, false, false] rfl rfl (by kernel_rfl) (by decide) (fun K hK => ?_)
 refine goes_ Tryd.func25 (by kernel_rfl) rfl #[.pointer (some ⟨g436, 0, none⟩), .agg #[.int .i64 t437, .int .i64 t438, .int .i64 t439, .int .i64 t440]] (by rfl) rfl rfl lnp ?_
 with_reducible refine (spec_l29DrawEntry.calls k g436 t433 t441 t442 t437 t438 t439 t440 t444 t445 t446 t447 w _ ?side1 ?side2 A4.out).mono ?_
 (case side1 => exact st57_3 HI436.out NB436_431.out NB436_432.out NB436_443.out)
 (case side2 => exact bl4 HB.out (IsS57.ge HI436.out) GE431.out GE432.out GE443.out)
 rintro e w16 ⟨rfl, hi, hb, hk⟩
 refine ⟨_, rfl, ?_⟩
 have n_ := (⟨am (KeepBut.blk hk (g' := gb431) (o := .cells #[.int .i64 0, .int .i64 0, .int .i64 0, .int .i64 0] 29 (0, 0)) (bf0 BK431.out) NB431_436.out (by simp)), am (KeepBut.blk hk (g' := gb432) (o := .cells #[.int .i64 0, .int .i64 0] 31 (0, 0)) (bf0 BK432.out) NB432_436.out (by simp)), am (KeepBut.blk hk (g' := gb443) (o := .cells #[.int .i64 t437, .int .i64 t438, .int .i64 t439, .int .i64 t440] 29 (0, 0)) (bf0 BK443.out) NB443_436.out (by simp)), am (hb), am (hi)⟩ : _ ∧ _ ∧ _ ∧ _ ∧ _)
 clear BK431
 clear BK432
 clear BK443
 clear HB
 clear HI436
 obtain ⟨BK431, BK432, BK443, HB, HI436⟩ := n_
 (try clear hb)
 (try clear hb2)
 (try clear hk)
 (try clear hi)
 refine hK.out _ _ ⟨(blk_cell BK443.out 0).trans rfl, (blk_cell BK443.out 1).trans rfl, (blk_cell BK443.out 2).trans rfl, (blk_cell BK443.out 3).trans rfl⟩ (fun hHeld => ?_)
 clear hK K
 refine norm_ (a' := ?_) ?_ ?_
 rotate_left
 ·show Act.put _ (some 13) _ = _
  simp only [Act.put, List.setIfInBounds_toArray, List.set_cons_zero, List.set_cons_succ, i64_w, i32_w]
  rfl
 refine one_ (i := 4) (N := none) #[true, true, true, true, true, false] rfl rfl (by kernel_rfl) (by decide) (fun K hK => ?_)
 have hs17 := bc BK431.out 0 (.int .i64 0)
 have hfs17 := bz BK431.out 0
 have hns17_1 := NB432_431.out
 have hns17_2 := NB443_431.out
 have hms17_1 := NB431_432.out
 have hms17_2 := NB431_443.out
 have hs18 := bc BK431.out 1 (.int .i64 0)
 have hfs18 := bz BK431.out 1
 have hns18_1 := NB432_431.out
 have hns18_2 := NB443_431.out
 have hms18_1 := NB431_432.out
 have hms18_2 := NB431_443.out
 have hs19 := bc BK431.out 2 (.int .i64 0)
 have hfs19 := bz BK431.out 2
 have hns19_1 := NB432_431.out
 have hns19_2 := NB443_431.out
 have hms19_1 := NB431_432.out
 have hms19_2 := NB431_443.out
 have hs20 := bc BK431.out 3 (.int .i64 0)
 have hfs20 := bz BK431.out 3
 have hns20_1 := NB432_431.out
 have hns20_2 := NB443_431.out
 have hms20_1 := NB431_432.out
 have hms20_2 := NB431_443.out
 refine skip_ (w1 := ?_) (by rfl) rfl ?_ ?_
 rotate_left
 ·go_simp
  rfl
 refine hK.out _ _ ⟨((cell_far (p := ⟨gb431, _, none⟩) NB443_431.out _).trans (((cell_far (p := ⟨gb431, _, none⟩) NB443_431.out _).trans (((cell_far (p := ⟨gb431, _, none⟩) NB443_431.out _).trans (((cell_far (p := ⟨gb431, _, none⟩) NB443_431.out _).trans (hHeld.1)))))))), ((cell_far (p := ⟨gb431, _, none⟩) NB443_431.out _).trans (((cell_far (p := ⟨gb431, _, none⟩) NB443_431.out _).trans (((cell_far (p := ⟨gb431, _, none⟩) NB443_431.out _).trans (((cell_far (p := ⟨gb431, _, none⟩) NB443_431.out _).trans (hHeld.2.1)))))))), ((cell_far (p := ⟨gb431, _, none⟩) NB443_431.out _).trans (((cell_far (p := ⟨gb431, _, none⟩) NB443_431.out _).trans (((cell_far (p := ⟨gb431, _, none⟩) NB443_431.out _).trans (((cell_far (p := ⟨gb431, _, none⟩) NB443_431.out _).trans (hHeld.2.2.1)))))))), ((cell_far (p := ⟨gb431, _, none⟩) NB443_431.out _).trans (((cell_far (p := ⟨gb431, _, none⟩) NB443_431.out _).trans (((cell_far (p := ⟨gb431, _, none⟩) NB443_431.out _).trans (((cell_far (p := ⟨gb431, _, none⟩) NB443_431.out _).trans (hHeld.2.2.2))))))))⟩ (fun hHeld => ?_)
 clear hK K
 refine one_ (i := 5) (N := none) #[true, true, true, true, true, true] rfl rfl (by kernel_rfl) (by decide) (fun K hK => ?_)
 have hs21 := bc BK432.out 0 (.int .i64 0)
 have hfs21 := bz BK432.out 0
 have hns21_0 := NB431_432.out
 have hns21_2 := NB443_432.out
 have hms21_0 := NB432_431.out
 have hms21_2 := NB432_443.out
 have hs22 := bc BK432.out 1 (.int .i64 0)
 have hfs22 := bz BK432.out 1
 have hns22_0 := NB431_432.out
 have hns22_2 := NB443_432.out
 have hms22_0 := NB432_431.out
 have hms22_2 := NB432_443.out
 refine skip_ (w1 := ?_) (by rfl) rfl ?_ ?_
 rotate_left
 ·go_simp
  rfl
 refine hK.out _ _ ⟨((cell_far (p := ⟨gb432, _, none⟩) NB443_432.out _).trans (((cell_far (p := ⟨gb432, _, none⟩) NB443_432.out _).trans (hHeld.1)))), ((cell_far (p := ⟨gb432, _, none⟩) NB443_432.out _).trans (((cell_far (p := ⟨gb432, _, none⟩) NB443_432.out _).trans (hHeld.2.1)))), ((cell_far (p := ⟨gb432, _, none⟩) NB443_432.out _).trans (((cell_far (p := ⟨gb432, _, none⟩) NB443_432.out _).trans (hHeld.2.2.1)))), ((cell_far (p := ⟨gb432, _, none⟩) NB443_432.out _).trans (((cell_far (p := ⟨gb432, _, none⟩) NB443_432.out _).trans (hHeld.2.2.2))))⟩ (fun hHeld => ?_)
 clear hK K
 refine done_ (by kernel_rfl) ?_
 try go_wp2
 refine bodyPost_ret (results_cc rfl _ _ gb431 gb432 29 31 #[.int .i64 t437, .int .i64 t438, .int .i64 t439, .int .i64 t440] #[.int .i64 t444, .int .i64 t445] (0, 0) (0, 0) _ _ rfl (bp1 BK431.out NB431_432.out) Tryd.underlying29 rfl (by kernel_rfl) rfl (bp1 BK432.out NB432_431.out) Tryd.underlying31 rfl (by kernel_rfl)) rfl ?_
 exact ⟨er, bl4 HB.out (IsS57.ge HI436.out) GE431.out GE432.out GE443.out⟩

/-! ### impl_IsMachine: function 11 -/
def impl_IsMachine.f (a0_0 : Int) (a0_1 : Int) (a0_2 : Int) (a0_3 : Int) : Option (Bool) := (impl_inRange.f a0_0 0 1000000000).bind fun t449 => (if t449 = true then ((impl_isRun.f a0_1).bind fun t450 => (if t450 = true then ((impl_isRun.f a0_2).bind fun t451 => (if t451 = true then ((impl_inRange.f a0_3 0 1000000000).bind fun t452 => (if t452 = true then (if a0_0 = 0 then (if a0_1 = 0 then (some (a0_2 == 0)) else (some false)) else (some true)) else (some false))) else (some false))) else (some false))) else (some false))
theorem impl_IsMachine.calls (a0_0 : Int) (a0_1 : Int) (a0_2 : Int) (a0_3 : Int) (r : Bool) (w : World) (h : impl_IsMachine.f a0_0 a0_1 a0_2 a0_3 = some r) :
  Calls Tryd.prog 11 #[.agg #[.int .i64 a0_0, .int .i64 a0_1, .int .i64 a0_2, .int .i64 a0_3]] w fun e w' => e = .returned (.bool r) ∧ Below w.heap.size w w' := by
 have hu29 := Tryd.underlying29
 have HB := am (Below.refl w.heap.size w)
 have H : ((impl_inRange.f a0_0 0 1000000000).bind fun t449 => (if t449 = true then ((impl_isRun.f a0_1).bind fun t450 => (if t450 = true then ((impl_isRun.f a0_2).bind fun t451 => (if t451 = true then ((impl_inRange.f a0_3 0 1000000000).bind fun t452 => (if t452 = true then (if a0_0 = 0 then (if a0_1 = 0 then (some (a0_2 == 0)) else (some false)) else (some true)) else (some false))) else (some false))) else (some false))) else (some false))) = some r := h
 clear h
 replace H := Option.bind_eq_some_iff.mp H
 obtain ⟨t449, A20, H⟩ := H
 replace H : (if t449 = true then ((impl_isRun.f a0_1).bind fun t450 => (if t450 = true then ((impl_isRun.f a0_2).bind fun t451 => (if t451 = true then ((impl_inRange.f a0_3 0 1000000000).bind fun t452 => (if t452 = true then (if a0_0 = 0 then (if a0_1 = 0 then (some (a0_2 == 0)) else (some false)) else (some true)) else (some false))) else (some false))) else (some false))) else (some false)) = some r := H
 have A2 := Aside0.mk A20
 clear A20
 by_cases c3 : t449 = true
 ·subst c3
  have H1 : ((impl_isRun.f a0_1).bind fun t450 => (if t450 = true then ((impl_isRun.f a0_2).bind fun t451 => (if t451 = true then ((impl_inRange.f a0_3 0 1000000000).bind fun t452 => (if t452 = true then (if a0_0 = 0 then (if a0_1 = 0 then (some (a0_2 == 0)) else (some false)) else (some true)) else (some false))) else (some false))) else (some false))) = some r := by rw [if_pos rfl] at H; exact H
  clear H
  have H := H1
  clear H1
  replace H := Option.bind_eq_some_iff.mp H
  obtain ⟨t450, A40, H⟩ := H
  replace H : (if t450 = true then ((impl_isRun.f a0_2).bind fun t451 => (if t451 = true then ((impl_inRange.f a0_3 0 1000000000).bind fun t452 => (if t452 = true then (if a0_0 = 0 then (if a0_1 = 0 then (some (a0_2 == 0)) else (some false)) else (some true)) else (some false))) else (some false))) else (some false)) = some r := H
  have A4 := Aside0.mk A40
  clear A40
  by_cases c5 : t450 = true
  ·subst c5
   have H1 : ((impl_isRun.f a0_2).bind fun t451 => (if t451 = true then ((impl_inRange.f a0_3 0 1000000000).bind fun t452 => (if t452 = true then (if a0_0 = 0 then (if a0_1 = 0 then (some (a0_2 == 0)) else (some false)) else (some true)) else (some false))) else (some false))) = some r := by rw [if_pos rfl] at H; exact H
   clear H
   have H := H1
   clear H1
   replace H := Option.bind_eq_some_iff.mp H
   obtain ⟨t451, A60, H⟩ := H
   replace H : (if t451 = true then ((impl_inRange.f a0_3 0 1000000000).bind fun t452 => (if t452 = true then (if a0_0 = 0 then (if a0_1 = 0 then (some (a0_2 == 0)) else (some false)) else (some true)) else (some false))) else (some false)) = some r := H
   have A6 := Aside0.mk A60
   clear A60
   by_cases c7 : t451 = true
   ·subst c7
    have H1 : ((impl_inRange.f a0_3 0 1000000000).bind fun t452 => (if t452 = true then (if a0_0 = 0 then (if a0_1 = 0 then (some (a0_2 == 0)) else (some false)) else (some true)) else (some false))) = some r := by rw [if_pos rfl] at H; exact H
    clear H
    have H := H1
    clear H1
    replace H := Option.bind_eq_some_iff.mp H
    obtain ⟨t452, A80, H⟩ := H
    replace H : (if t452 = true then (if a0_0 = 0 then (if a0_1 = 0 then (some (a0_2 == 0)) else (some false)) else (some true)) else (some false)) = some r := H
    have A8 := Aside0.mk A80
    clear A80
    by_cases c9 : t452 = true
    ·subst c9
     have H1 : (if a0_0 = 0 then (if a0_1 = 0 then (some (a0_2 == 0)) else (some false)) else (some true)) = some r := by rw [if_pos rfl] at H; exact H
     clear H
     have H := H1
     clear H1
     by_cases c10 : a0_0 = 0
     ·rw [if_pos c10] at H
      have c10b0 : (a0_0 == 0) = true := beq_iff_eq.mpr c10
      have c10b1 : (a0_0 != 0) = false := bne_eq_false_iff_eq.mpr c10
      clear c10
      by_cases c11 : a0_1 = 0
      ·rw [if_pos c11] at H
       have c11b0 : (a0_1 == 0) = true := beq_iff_eq.mpr c11
       have c11b1 : (a0_1 != 0) = false := bne_eq_false_iff_eq.mpr c11
       clear c11
       obtain rfl := Option.some.inj H
       go_enter Tryd.func11, Tryd.ntmps11
       go_wp2_with (first | ((with_reducible refine gate_dst (N := 1) rfl ?_); refine box_event ?hg (N := 1) ?hd (cs := #[.int .i64 a0_0, .int .i64 a0_1, .int .i64 a0_2, .int .i64 a0_3]) (t := 29) ?hr ?_; (case hd => rfl); (case hg => rfl); (case hr => first | (go_simp; done) | (go_simp; rfl)); intro gb448 hg w12 hbox hb; have n_ := (⟨am (below_step (bl0 HB.out) hb), am (hbox), am ((gw hg (bl0 HB.out) : w.heap.size ≤ gb448)), am ((gw hg (bl0 HB.out) : w.heap.size ≤ gb448))⟩ : _ ∧ _ ∧ _ ∧ _); clear HB; obtain ⟨HB, BK448, GW448, GE448⟩ := n_; clear hb hbox hg; obtain ⟨hcz13_0, hcz13_1, hcz13_2, hcz13_3, hfz13_0, hfz13_1, hfz13_2, hfz13_3⟩ := cs4 BK448.out) | ((with_reducible refine gate_callee (f := 28) rfl ?_); refine goesL_ (some 5) rfl rfl Tryd.func28 (by kernel_rfl) rfl #[.int .i64 a0_0, .int .i64 0, .int .i64 1000000000] rfl lnp ?_; (with_reducible refine (impl_inRange.calls a0_0 0 1000000000 true _ A2.out).mono ?_); rintro e w' ⟨rfl, ⟨nd, rfl⟩⟩; refine ⟨_, rfl, ?_⟩) | (go_at_call 19; (with_reducible refine (impl_isRun.calls a0_1 true _ A4.out).mono ?_); rintro e w' ⟨rfl, ⟨nd, rfl⟩⟩) | (go_at_call 19; (with_reducible refine (impl_isRun.calls a0_2 true _ A6.out).mono ?_); rintro e w' ⟨rfl, ⟨nd, rfl⟩⟩) | (go_at_call 28; (with_reducible refine (impl_inRange.calls a0_3 0 1000000000 true _ A8.out).mono ?_); rintro e w' ⟨rfl, ⟨nd, rfl⟩⟩))
       go_ret
       exact ⟨er, bl1 HB.out GE448.out⟩
      ·rw [if_neg c11] at H
       have c11b0 : (a0_1 == 0) = false := beq_eq_false_iff_ne.mpr c11
       have c11b1 : (a0_1 != 0) = true := bne_iff_ne.mpr c11
       obtain rfl := Option.some.inj H
       go_enter Tryd.func11, Tryd.ntmps11
       go_wp2_with (first | ((with_reducible refine gate_dst (N := 1) rfl ?_); refine box_event ?hg (N := 1) ?hd (cs := #[.int .i64 a0_0, .int .i64 a0_1, .int .i64 a0_2, .int .i64 a0_3]) (t := 29) ?hr ?_; (case hd => rfl); (case hg => rfl); (case hr => first | (go_simp; done) | (go_simp; rfl)); intro gb448 hg w14 hbox hb; have n_ := (⟨am (below_step (bl0 HB.out) hb), am (hbox), am ((gw hg (bl0 HB.out) : w.heap.size ≤ gb448)), am ((gw hg (bl0 HB.out) : w.heap.size ≤ gb448))⟩ : _ ∧ _ ∧ _ ∧ _); clear HB; obtain ⟨HB, BK448, GW448, GE448⟩ := n_; clear hb hbox hg; obtain ⟨hcz15_0, hcz15_1, hcz15_2, hcz15_3, hfz15_0, hfz15_1, hfz15_2, hfz15_3⟩ := cs4 BK448.out) | ((with_reducible refine gate_callee (f := 28) rfl ?_); refine goesL_ (some 5) rfl rfl Tryd.func28 (by kernel_rfl) rfl #[.int .i64 a0_0, .int .i64 0, .int .i64 1000000000] rfl lnp ?_; (with_reducible refine (impl_inRange.calls a0_0 0 1000000000 true _ A2.out).mono ?_); rintro e w' ⟨rfl, ⟨nd, rfl⟩⟩; refine ⟨_, rfl, ?_⟩) | (go_at_call 19; (with_reducible refine (impl_isRun.calls a0_1 true _ A4.out).mono ?_); rintro e w' ⟨rfl, ⟨nd, rfl⟩⟩) | (go_at_call 19; (with_reducible refine (impl_isRun.calls a0_2 true _ A6.out).mono ?_); rintro e w' ⟨rfl, ⟨nd, rfl⟩⟩) | (go_at_call 28; (with_reducible refine (impl_inRange.calls a0_3 0 1000000000 true _ A8.out).mono ?_); rintro e w' ⟨rfl, ⟨nd, rfl⟩⟩))
       go_ret
       exact ⟨er, bl1 HB.out GE448.out⟩
     ·rw [if_neg c10] at H
      have c10b0 : (a0_0 == 0) = false := beq_eq_false_iff_ne.mpr c10
      have c10b1 : (a0_0 != 0) = true := bne_iff_ne.mpr c10
      obtain rfl := Option.some.inj H
      go_enter Tryd.func11, Tryd.ntmps11
      go_wp2_with (first | ((with_reducible refine gate_dst (N := 1) rfl ?_); refine box_event ?hg (N := 1) ?hd (cs := #[.int .i64 a0_0, .int .i64 a0_1, .int .i64 a0_2, .int .i64 a0_3]) (t := 29) ?hr ?_; (case hd => rfl); (case hg => rfl); (case hr => first | (go_simp; done) | (go_simp; rfl)); intro gb448 hg w16 hbox hb; have n_ := (⟨am (below_step (bl0 HB.out) hb), am (hbox), am ((gw hg (bl0 HB.out) : w.heap.size ≤ gb448)), am ((gw hg (bl0 HB.out) : w.heap.size ≤ gb448))⟩ : _ ∧ _ ∧ _ ∧ _); clear HB; obtain ⟨HB, BK448, GW448, GE448⟩ := n_; clear hb hbox hg; obtain ⟨hcz17_0, hcz17_1, hcz17_2, hcz17_3, hfz17_0, hfz17_1, hfz17_2, hfz17_3⟩ := cs4 BK448.out) | ((with_reducible refine gate_callee (f := 28) rfl ?_); refine goesL_ (some 5) rfl rfl Tryd.func28 (by kernel_rfl) rfl #[.int .i64 a0_0, .int .i64 0, .int .i64 1000000000] rfl lnp ?_; (with_reducible refine (impl_inRange.calls a0_0 0 1000000000 true _ A2.out).mono ?_); rintro e w' ⟨rfl, ⟨nd, rfl⟩⟩; refine ⟨_, rfl, ?_⟩) | (go_at_call 19; (with_reducible refine (impl_isRun.calls a0_1 true _ A4.out).mono ?_); rintro e w' ⟨rfl, ⟨nd, rfl⟩⟩) | (go_at_call 19; (with_reducible refine (impl_isRun.calls a0_2 true _ A6.out).mono ?_); rintro e w' ⟨rfl, ⟨nd, rfl⟩⟩) | (go_at_call 28; (with_reducible refine (impl_inRange.calls a0_3 0 1000000000 true _ A8.out).mono ?_); rintro e w' ⟨rfl, ⟨nd, rfl⟩⟩))
      go_ret
      exact ⟨er, bl1 HB.out GE448.out⟩
    ·replace c9 := Bool.eq_false_iff.mpr c9
     subst c9
     have H1 : (some false) = some r := by rw [if_neg (show ¬ (false = true) by decide)] at H; exact H
     clear H
     have H := H1
     clear H1
     obtain rfl := Option.some.inj H
     go_enter Tryd.func11, Tryd.ntmps11
     go_wp2_with (first | ((with_reducible refine gate_dst (N := 1) rfl ?_); refine box_event ?hg (N := 1) ?hd (cs := #[.int .i64 a0_0, .int .i64 a0_1, .int .i64 a0_2, .int .i64 a0_3]) (t := 29) ?hr ?_; (case hd => rfl); (case hg => rfl); (case hr => first | (go_simp; done) | (go_simp; rfl)); intro gb448 hg w18 hbox hb; have n_ := (⟨am (below_step (bl0 HB.out) hb), am (hbox), am ((gw hg (bl0 HB.out) : w.heap.size ≤ gb448)), am ((gw hg (bl0 HB.out) : w.heap.size ≤ gb448))⟩ : _ ∧ _ ∧ _ ∧ _); clear HB; obtain ⟨HB, BK448, GW448, GE448⟩ := n_; clear hb hbox hg; obtain ⟨hcz19_0, hcz19_1, hcz19_2, hcz19_3, hfz19_0, hfz19_1, hfz19_2, hfz19_3⟩ := cs4 BK448.out) | ((with_reducible refine gate_callee (f := 28) rfl ?_); refine goesL_ (some 5) rfl rfl Tryd.func28 (by kernel_rfl) rfl #[.int .i64 a0_0, .int .i64 0, .int .i64 1000000000] rfl lnp ?_; (with_reducible refine (impl_inRange.calls a0_0 0 1000000000 true _ A2.out).mono ?_); rintro e w' ⟨rfl, ⟨nd, rfl⟩⟩; refine ⟨_, rfl, ?_⟩) | (go_at_call 19; (with_reducible refine (impl_isRun.calls a0_1 true _ A4.out).mono ?_); rintro e w' ⟨rfl, ⟨nd, rfl⟩⟩) | (go_at_call 19; (with_reducible refine (impl_isRun.calls a0_2 true _ A6.out).mono ?_); rintro e w' ⟨rfl, ⟨nd, rfl⟩⟩) | (go_at_call 28; (with_reducible refine (impl_inRange.calls a0_3 0 1000000000 false _ A8.out).mono ?_); rintro e w' ⟨rfl, ⟨nd, rfl⟩⟩))
     go_ret
     exact ⟨er, bl1 HB.out GE448.out⟩
   ·replace c7 := Bool.eq_false_iff.mpr c7
    subst c7
    have H1 : (some false) = some r := by rw [if_neg (show ¬ (false = true) by decide)] at H; exact H
    clear H
    have H := H1
    clear H1
    obtain rfl := Option.some.inj H
    go_enter Tryd.func11, Tryd.ntmps11
    go_wp2_with (first | ((with_reducible refine gate_dst (N := 1) rfl ?_); refine box_event ?hg (N := 1) ?hd (cs := #[.int .i64 a0_0, .int .i64 a0_1, .int .i64 a0_2, .int .i64 a0_3]) (t := 29) ?hr ?_; (case hd => rfl); (case hg => rfl); (case hr => first | (go_simp; done) | (go_simp; rfl)); intro gb448 hg w20 hbox hb; have n_ := (⟨am (below_step (bl0 HB.out) hb), am (hbox), am ((gw hg (bl0 HB.out) : w.heap.size ≤ gb448)), am ((gw hg (bl0 HB.out) : w.heap.size ≤ gb448))⟩ : _ ∧ _ ∧ _ ∧ _); clear HB; obtain ⟨HB, BK448, GW448, GE448⟩ := n_; clear hb hbox hg; obtain ⟨hcz21_0, hcz21_1, hcz21_2, hcz21_3, hfz21_0, hfz21_1, hfz21_2, hfz21_3⟩ := cs4 BK448.out) | ((with_reducible refine gate_callee (f := 28) rfl ?_); refine goesL_ (some 5) rfl rfl Tryd.func28 (by kernel_rfl) rfl #[.int .i64 a0_0, .int .i64 0, .int .i64 1000000000] rfl lnp ?_; (with_reducible refine (impl_inRange.calls a0_0 0 1000000000 true _ A2.out).mono ?_); rintro e w' ⟨rfl, ⟨nd, rfl⟩⟩; refine ⟨_, rfl, ?_⟩) | (go_at_call 19; (with_reducible refine (impl_isRun.calls a0_1 true _ A4.out).mono ?_); rintro e w' ⟨rfl, ⟨nd, rfl⟩⟩) | (go_at_call 19; (with_reducible refine (impl_isRun.calls a0_2 false _ A6.out).mono ?_); rintro e w' ⟨rfl, ⟨nd, rfl⟩⟩))
    go_ret
    exact ⟨er, bl1 HB.out GE448.out⟩
  ·replace c5 := Bool.eq_false_iff.mpr c5
   subst c5
   have H1 : (some false) = some r := by rw [if_neg (show ¬ (false = true) by decide)] at H; exact H
   clear H
   have H := H1
   clear H1
   obtain rfl := Option.some.inj H
   go_enter Tryd.func11, Tryd.ntmps11
   go_wp2_with (first | ((with_reducible refine gate_dst (N := 1) rfl ?_); refine box_event ?hg (N := 1) ?hd (cs := #[.int .i64 a0_0, .int .i64 a0_1, .int .i64 a0_2, .int .i64 a0_3]) (t := 29) ?hr ?_; (case hd => rfl); (case hg => rfl); (case hr => first | (go_simp; done) | (go_simp; rfl)); intro gb448 hg w22 hbox hb; have n_ := (⟨am (below_step (bl0 HB.out) hb), am (hbox), am ((gw hg (bl0 HB.out) : w.heap.size ≤ gb448)), am ((gw hg (bl0 HB.out) : w.heap.size ≤ gb448))⟩ : _ ∧ _ ∧ _ ∧ _); clear HB; obtain ⟨HB, BK448, GW448, GE448⟩ := n_; clear hb hbox hg; obtain ⟨hcz23_0, hcz23_1, hcz23_2, hcz23_3, hfz23_0, hfz23_1, hfz23_2, hfz23_3⟩ := cs4 BK448.out) | ((with_reducible refine gate_callee (f := 28) rfl ?_); refine goesL_ (some 5) rfl rfl Tryd.func28 (by kernel_rfl) rfl #[.int .i64 a0_0, .int .i64 0, .int .i64 1000000000] rfl lnp ?_; (with_reducible refine (impl_inRange.calls a0_0 0 1000000000 true _ A2.out).mono ?_); rintro e w' ⟨rfl, ⟨nd, rfl⟩⟩; refine ⟨_, rfl, ?_⟩) | (go_at_call 19; (with_reducible refine (impl_isRun.calls a0_1 false _ A4.out).mono ?_); rintro e w' ⟨rfl, ⟨nd, rfl⟩⟩))
   go_ret
   exact ⟨er, bl1 HB.out GE448.out⟩
 ·replace c3 := Bool.eq_false_iff.mpr c3
  subst c3
  have H1 : (some false) = some r := by rw [if_neg (show ¬ (false = true) by decide)] at H; exact H
  clear H
  have H := H1
  clear H1
  obtain rfl := Option.some.inj H
  go_enter Tryd.func11, Tryd.ntmps11
  go_wp2_with (first | ((with_reducible refine gate_dst (N := 1) rfl ?_); refine box_event ?hg (N := 1) ?hd (cs := #[.int .i64 a0_0, .int .i64 a0_1, .int .i64 a0_2, .int .i64 a0_3]) (t := 29) ?hr ?_; (case hd => rfl); (case hg => rfl); (case hr => first | (go_simp; done) | (go_simp; rfl)); intro gb448 hg w24 hbox hb; have n_ := (⟨am (below_step (bl0 HB.out) hb), am (hbox), am ((gw hg (bl0 HB.out) : w.heap.size ≤ gb448)), am ((gw hg (bl0 HB.out) : w.heap.size ≤ gb448))⟩ : _ ∧ _ ∧ _ ∧ _); clear HB; obtain ⟨HB, BK448, GW448, GE448⟩ := n_; clear hb hbox hg; obtain ⟨hcz25_0, hcz25_1, hcz25_2, hcz25_3, hfz25_0, hfz25_1, hfz25_2, hfz25_3⟩ := cs4 BK448.out) | ((with_reducible refine gate_callee (f := 28) rfl ?_); refine goesL_ (some 5) rfl rfl Tryd.func28 (by kernel_rfl) rfl #[.int .i64 a0_0, .int .i64 0, .int .i64 1000000000] rfl lnp ?_; (with_reducible refine (impl_inRange.calls a0_0 0 1000000000 false _ A2.out).mono ?_); rintro e w' ⟨rfl, ⟨nd, rfl⟩⟩; refine ⟨_, rfl, ?_⟩))
  go_ret
  exact ⟨er, bl1 HB.out GE448.out⟩

/-! ### impl_MakeEntry: function 9 -/
def impl_MakeEntry.f (k : Nat) (a0_0 : Int) (a0_1 : Int) (a0_2 : Int) (a0_3 : Int) (a1_0 : Int) (a1_1 : Int) : Option (Int × Int × Int × Int × Int) := (impl_IsMachine.f a0_0 a0_1 a0_2 a0_3).bind fun t456 => (if t456 = true then ((impl_after.f k a0_0 a0_1 a0_2 a0_3 a1_0 a1_1).bind fun bt457 => (if bt457.2.2.2.2 = true then (some (bt457.1, bt457.2.1, bt457.2.2.1, bt457.2.2.2.1, 0)) else (some (0, 0, 0, 0, 5)))) else (some (0, 0, 0, 0, 1)))
theorem impl_MakeEntry.mono : ∀ a0 a1 a2 a3 a4 a5 k, LeO (impl_MakeEntry.f k a0 a1 a2 a3 a4 a5) (impl_MakeEntry.f (k + 1) a0 a1 a2 a3 a4 a5) := by
 intro a0 a1 a2 a3 a4 a5 k
 unfold impl_MakeEntry.f
 repeat' first | (with_reducible first | exact impl_after.mono _ _ _ _ _ _ _ | exact LeO.refl _ | exact LeO.none _ | refine LeO.ite ?_ ?_ | refine LeO.bind ?_ (fun _ => ?_)) | exact impl_after.mono _ _ _ _ _ _ _ | exact LeO.none _ | refine LeO.ite ?_ ?_ | refine LeO.bind ?_ (fun _ => ?_)
theorem impl_MakeEntry.calls (k : Nat) (a0_0 : Int) (a0_1 : Int) (a0_2 : Int) (a0_3 : Int) (a1_0 : Int) (a1_1 : Int) (r1 : Int) (r2 : Int) (r3 : Int) (r4 : Int) (r5 : Int) (w : World) (h : impl_MakeEntry.f k a0_0 a0_1 a0_2 a0_3 a1_0 a1_1 = some (r1, r2, r3, r4, r5)) :
  Calls Tryd.prog 9 #[.agg #[.int .i64 a0_0, .int .i64 a0_1, .int .i64 a0_2, .int .i64 a0_3], .agg #[.int .i64 a1_0, .int .i64 a1_1]] w fun e w' => e = .returned (.tuple #[.agg #[.int .i64 r1, .int .i64 r2, .int .i64 r3, .int .i64 r4], .int .i64 r5]) ∧ Below w.heap.size w w' := by
 have hu29 := Tryd.underlying29
 have hu31 := Tryd.underlying31
 have HB := am (Below.refl w.heap.size w)
 have H : ((impl_IsMachine.f a0_0 a0_1 a0_2 a0_3).bind fun t456 => (if t456 = true then ((impl_after.f k a0_0 a0_1 a0_2 a0_3 a1_0 a1_1).bind fun bt457 => (if bt457.2.2.2.2 = true then (some (bt457.1, bt457.2.1, bt457.2.2.1, bt457.2.2.2.1, 0)) else (some (0, 0, 0, 0, 5)))) else (some (0, 0, 0, 0, 1)))) = some (r1, r2, r3, r4, r5) := h
 clear h
 replace H := Option.bind_eq_some_iff.mp H
 obtain ⟨t456, A30, H⟩ := H
 replace H : (if t456 = true then ((impl_after.f k a0_0 a0_1 a0_2 a0_3 a1_0 a1_1).bind fun bt457 => (if bt457.2.2.2.2 = true then (some (bt457.1, bt457.2.1, bt457.2.2.1, bt457.2.2.2.1, 0)) else (some (0, 0, 0, 0, 5)))) else (some (0, 0, 0, 0, 1))) = some (r1, r2, r3, r4, r5) := H
 have A3 := Aside0.mk A30
 clear A30
 by_cases c4 : t456 = true
 ·subst c4
  have H1 : ((impl_after.f k a0_0 a0_1 a0_2 a0_3 a1_0 a1_1).bind fun bt457 => (if bt457.2.2.2.2 = true then (some (bt457.1, bt457.2.1, bt457.2.2.1, bt457.2.2.2.1, 0)) else (some (0, 0, 0, 0, 5)))) = some (r1, r2, r3, r4, r5) := by rw [if_pos rfl] at H; exact H
  clear H
  have H := H1
  clear H1
  replace H := Option.bind_eq_some_iff.mp H
  obtain ⟨⟨t457, t458, t459, t460, t461⟩, A50, H⟩ := H
  replace H : (if t461 = true then (some (t457, t458, t459, t460, 0)) else (some (0, 0, 0, 0, 5))) = some (r1, r2, r3, r4, r5) := H
  have A5 := Aside0.mk A50
  clear A50
  by_cases c6 : t461 = true
  ·subst c6
   have H1 : (some (t457, t458, t459, t460, 0)) = some (r1, r2, r3, r4, r5) := by rw [if_pos rfl] at H; exact H
   clear H
   have H := H1
   clear H1
   simp only [Option.some.injEq, Prod.mk.injEq] at H
   obtain ⟨rfl, rfl, rfl, rfl, rfl⟩ := H
   go_enter Tryd.func9, Tryd.ntmps9
   go_wp2_with (first | ((with_reducible refine gate_dst (N := 2) rfl ?_); refine box_event ?hg (N := 2) ?hd (cs := #[.int .i64 a0_0, .int .i64 a0_1, .int .i64 a0_2, .int .i64 a0_3]) (t := 29) ?hr ?_; (case hd => rfl); (case hg => rfl); (case hr => first | (go_simp; done) | (go_simp; rfl)); intro gb453 hg w7 hbox hb; have n_ := (⟨am (below_step (bl0 HB.out) hb), am (hbox), am ((gw hg (bl0 HB.out) : w.heap.size ≤ gb453)), am ((gw hg (bl0 HB.out) : w.heap.size ≤ gb453))⟩ : _ ∧ _ ∧ _ ∧ _); clear HB; obtain ⟨HB, BK453, GW453, GE453⟩ := n_; clear hb hbox hg) | ((with_reducible refine gate_dst (N := 3) rfl ?_); refine box_event ?hg (N := 3) ?hd (cs := #[.int .i64 a1_0, .int .i64 a1_1]) (t := 31) ?hr ?_; (case hd => rfl); (case hg => rfl); (case hr => first | (go_simp; done) | (go_simp; rfl)); intro gb454 hg w8 hbox hb; have n_ := (⟨am (blk_below (bf0 BK453.out) hb), am (below_step (bl1 HB.out GE453.out) hb), am (hbox), am ((gw hg (bl1 HB.out GE453.out) : w.heap.size ≤ gb454)), am ((gw hg (bl1 HB.out GE453.out) : w.heap.size ≤ gb454)), am ((nl hg (bf0 BK453.out) : gb453 ≠ gb454)), am ((ng hg (bf0 BK453.out) : gb454 ≠ gb453))⟩ : _ ∧ _ ∧ _ ∧ _ ∧ _ ∧ _ ∧ _); clear BK453 HB; obtain ⟨BK453, HB, BK454, GW454, GE454, NB453_454, NB454_453⟩ := n_; clear hb hbox hg) | ((with_reducible refine gate_dst (N := 4) rfl ?_); refine box_event ?hg (N := 4) ?hd (cs := #[.int .i64 0, .int .i64 0, .int .i64 0, .int .i64 0]) (t := 29) ?hr ?_; (case hd => rfl); (case hg => rfl); (case hr => first | (go_simp; done) | (go_simp; rfl)); intro gb455 hg w9 hbox hb; have n_ := (⟨am (blk_below (bf0 BK453.out) hb), am (blk_below (bf0 BK454.out) hb), am (below_step (bl2 HB.out GE453.out GE454.out) hb), am (hbox), am ((gw hg (bl2 HB.out GE453.out GE454.out) : w.heap.size ≤ gb455)), am ((gw hg (bl2 HB.out GE453.out GE454.out) : w.heap.size ≤ gb455)), am ((nl hg (bf0 BK453.out) : gb453 ≠ gb455)), am ((ng hg (bf0 BK453.out) : gb455 ≠ gb453)), am ((nl hg (bf0 BK454.out) : gb454 ≠ gb455)), am ((ng hg (bf0 BK454.out) : gb455 ≠ gb454))⟩ : _ ∧ _ ∧ _ ∧ _ ∧ _ ∧ _ ∧ _ ∧ _ ∧ _ ∧ _); clear BK453 BK454 HB; obtain ⟨BK453, BK454, HB, BK455, GW455, GE455, NB453_455, NB455_453, NB454_455, NB455_454⟩ := n_; clear hb hbox hg; have hnb10 := NB453_454.out; have hnc10 := NB454_453.out; have hnb11 := NB453_455.out; have hnc11 := NB455_453.out; obtain ⟨hcz12_0, hcz12_1, hcz12_2, hcz12_3, hfz12_0, hfz12_1, hfz12_2, hfz12_3⟩ := cs4 BK453.out) | ((with_reducible refine gate_callee (f := 11) rfl ?_); refine goesL_ (some 9) rfl rfl Tryd.func11 (by kernel_rfl) rfl #[.agg #[.int .i64 a0_0, .int .i64 a0_1, .int .i64 a0_2, .int .i64 a0_3]] rfl lnp ?_; (with_reducible refine (impl_IsMachine.calls a0_0 a0_1 a0_2 a0_3 true _ A3.out).mono ?_); rintro e w13 ⟨rfl, hb⟩; refine ⟨_, rfl, ?_⟩; have n_ := (⟨am (blk_below (bf0 BK453.out) hb), am (blk_below (bf0 BK454.out) hb), am (blk_below (bf0 BK455.out) hb), am (below_step (bl3 HB.out GE453.out GE454.out GE455.out) hb)⟩ : _ ∧ _ ∧ _ ∧ _); clear BK453 BK454 BK455 HB; obtain ⟨BK453, BK454, BK455, HB⟩ := n_; (try clear hb); (try clear hb2); (try clear hk); (try clear hi); obtain ⟨hcz14_0, hcz14_1, hcz14_2, hcz14_3, hfz14_0, hfz14_1, hfz14_2, hfz14_3⟩ := cs4 BK453.out; have hnb15 := NB454_455.out; have hnc15 := NB455_454.out; obtain ⟨hcz16_0, hcz16_1, hfz16_0, hfz16_1⟩ := cs2 BK454.out) | ((with_reducible refine gate_callee (f := 26) rfl ?_); refine goesL_ (some 15) rfl rfl Tryd.func26 (by kernel_rfl) rfl #[.agg #[.int .i64 a0_0, .int .i64 a0_1, .int .i64 a0_2, .int .i64 a0_3], .agg #[.int .i64 a1_0, .int .i64 a1_1]] rfl lnp ?_; (with_reducible refine (impl_after.calls k a0_0 a0_1 a0_2 a0_3 a1_0 a1_1 t457 t458 t459 t460 true _ A5.out).mono ?_); rintro e w17 ⟨rfl, hb⟩; refine ⟨_, rfl, ?_⟩; have n_ := (⟨am (blk_below (bf0 BK453.out) hb), am (blk_below (bf0 BK454.out) hb), am (blk_below (bf0 BK455.out) hb), am (below_step (bl3 HB.out GE453.out GE454.out GE455.out) hb)⟩ : _ ∧ _ ∧ _ ∧ _); clear BK453 BK454 BK455 HB; obtain ⟨BK453, BK454, BK455, HB⟩ := n_; (try clear hb); (try clear hb2); (try clear hk); (try clear hi)) | ((with_reducible refine gate_dst (N := 6) rfl ?_); refine box_event ?hg (N := 6) ?hd (cs := #[.int .i64 0, .int .i64 0, .int .i64 0, .int .i64 0]) (t := 29) ?hr ?_; (case hd => rfl); (case hg => rfl); (case hr => first | (go_simp; done) | (go_simp; rfl)); intro gb462 hg w18 hbox hb; have n_ := (⟨am (blk_below (bf0 BK453.out) hb), am (blk_below (bf0 BK454.out) hb), am (blk_below (bf0 BK455.out) hb), am (below_step (bl3 HB.out GE453.out GE454.out GE455.out) hb), am (hbox), am ((gw hg (bl3 HB.out GE453.out GE454.out GE455.out) : w.heap.size ≤ gb462)), am ((gw hg (bl3 HB.out GE453.out GE454.out GE455.out) : w.heap.size ≤ gb462)), am ((nl hg (bf0 BK453.out) : gb453 ≠ gb462)), am ((ng hg (bf0 BK453.out) : gb462 ≠ gb453)), am ((nl hg (bf0 BK454.out) : gb454 ≠ gb462)), am ((ng hg (bf0 BK454.out) : gb462 ≠ gb454)), am ((nl hg (bf0 BK455.out) : gb455 ≠ gb462)), am ((ng hg (bf0 BK455.out) : gb462 ≠ gb455))⟩ : _ ∧ _ ∧ _ ∧ _ ∧ _ ∧ _ ∧ _ ∧ _ ∧ _ ∧ _ ∧ _ ∧ _ ∧ _); clear BK453 BK454 BK455 HB; obtain ⟨BK453, BK454, BK455, HB, BK462, GW462, GE462, NB453_462, NB462_453, NB454_462, NB462_454, NB455_462, NB462_455⟩ := n_; clear hb hbox hg; have hnb19 := NB462_453.out; have hnc19 := NB453_462.out; have hnb20 := NB462_454.out; have hnc20 := NB454_462.out; have hnb21 := NB462_455.out; have hnc21 := NB455_462.out; obtain ⟨hcz22_0, hcz22_1, hcz22_2, hcz22_3, hfz22_0, hfz22_1, hfz22_2, hfz22_3⟩ := cs4 BK462.out; obtain ⟨hcz23_0, hcz23_1, hcz23_2, hcz23_3, hfz23_0, hfz23_1, hfz23_2, hfz23_3⟩ := cs4 BK455.out))
   refine bodyPost_ret (results_ct rfl _ _ gb455 29 #[.int .i64 t457, .int .i64 t458, .int .i64 t459, .int .i64 t460] (0, 0) _ rfl (bp1 BK455.out NB455_462.out) Tryd.underlying29 rfl (by kernel_rfl)) rfl ?_
   exact ⟨er, bl4 HB.out GE453.out GE454.out GE455.out GE462.out⟩
  ·replace c6 := Bool.eq_false_iff.mpr c6
   subst c6
   have H1 : (some (0, 0, 0, 0, 5)) = some (r1, r2, r3, r4, r5) := by rw [if_neg (show ¬ (false = true) by decide)] at H; exact H
   clear H
   have H := H1
   clear H1
   simp only [Option.some.injEq, Prod.mk.injEq] at H
   obtain ⟨rfl, rfl, rfl, rfl, rfl⟩ := H
   go_enter Tryd.func9, Tryd.ntmps9
   go_wp2_with (first | ((with_reducible refine gate_dst (N := 2) rfl ?_); refine box_event ?hg (N := 2) ?hd (cs := #[.int .i64 a0_0, .int .i64 a0_1, .int .i64 a0_2, .int .i64 a0_3]) (t := 29) ?hr ?_; (case hd => rfl); (case hg => rfl); (case hr => first | (go_simp; done) | (go_simp; rfl)); intro gb453 hg w24 hbox hb; have n_ := (⟨am (below_step (bl0 HB.out) hb), am (hbox), am ((gw hg (bl0 HB.out) : w.heap.size ≤ gb453)), am ((gw hg (bl0 HB.out) : w.heap.size ≤ gb453))⟩ : _ ∧ _ ∧ _ ∧ _); clear HB; obtain ⟨HB, BK453, GW453, GE453⟩ := n_; clear hb hbox hg) | ((with_reducible refine gate_dst (N := 3) rfl ?_); refine box_event ?hg (N := 3) ?hd (cs := #[.int .i64 a1_0, .int .i64 a1_1]) (t := 31) ?hr ?_; (case hd => rfl); (case hg => rfl); (case hr => first | (go_simp; done) | (go_simp; rfl)); intro gb454 hg w25 hbox hb; have n_ := (⟨am (blk_below (bf0 BK453.out) hb), am (below_step (bl1 HB.out GE453.out) hb), am (hbox), am ((gw hg (bl1 HB.out GE453.out) : w.heap.size ≤ gb454)), am ((gw hg (bl1 HB.out GE453.out) : w.heap.size ≤ gb454)), am ((nl hg (bf0 BK453.out) : gb453 ≠ gb454)), am ((ng hg (bf0 BK453.out) : gb454 ≠ gb453))⟩ : _ ∧ _ ∧ _ ∧ _ ∧ _ ∧ _ ∧ _); clear BK453 HB; obtain ⟨BK453, HB, BK454, GW454, GE454, NB453_454, NB454_453⟩ := n_; clear hb hbox hg) | ((with_reducible refine gate_dst (N := 4) rfl ?_); refine box_event ?hg (N := 4) ?hd (cs := #[.int .i64 0, .int .i64 0, .int .i64 0, .int .i64 0]) (t := 29) ?hr ?_; (case hd => rfl); (case hg => rfl); (case hr => first | (go_simp; done) | (go_simp; rfl)); intro gb455 hg w26 hbox hb; have n_ := (⟨am (blk_below (bf0 BK453.out) hb), am (blk_below (bf0 BK454.out) hb), am (below_step (bl2 HB.out GE453.out GE454.out) hb), am (hbox), am ((gw hg (bl2 HB.out GE453.out GE454.out) : w.heap.size ≤ gb455)), am ((gw hg (bl2 HB.out GE453.out GE454.out) : w.heap.size ≤ gb455)), am ((nl hg (bf0 BK453.out) : gb453 ≠ gb455)), am ((ng hg (bf0 BK453.out) : gb455 ≠ gb453)), am ((nl hg (bf0 BK454.out) : gb454 ≠ gb455)), am ((ng hg (bf0 BK454.out) : gb455 ≠ gb454))⟩ : _ ∧ _ ∧ _ ∧ _ ∧ _ ∧ _ ∧ _ ∧ _ ∧ _ ∧ _); clear BK453 BK454 HB; obtain ⟨BK453, BK454, HB, BK455, GW455, GE455, NB453_455, NB455_453, NB454_455, NB455_454⟩ := n_; clear hb hbox hg; have hnb27 := NB453_454.out; have hnc27 := NB454_453.out; have hnb28 := NB453_455.out; have hnc28 := NB455_453.out; obtain ⟨hcz29_0, hcz29_1, hcz29_2, hcz29_3, hfz29_0, hfz29_1, hfz29_2, hfz29_3⟩ := cs4 BK453.out) | ((with_reducible refine gate_callee (f := 11) rfl ?_); refine goesL_ (some 9) rfl rfl Tryd.func11 (by kernel_rfl) rfl #[.agg #[.int .i64 a0_0, .int .i64 a0_1, .int .i64 a0_2, .int .i64 a0_3]] rfl lnp ?_; (with_reducible refine (impl_IsMachine.calls a0_0 a0_1 a0_2 a0_3 true _ A3.out).mono ?_); rintro e w30 ⟨rfl, hb⟩; refine ⟨_, rfl, ?_⟩; have n_ := (⟨am (blk_below (bf0 BK453.out) hb), am (blk_below (bf0 BK454.out) hb), am (blk_below (bf0 BK455.out) hb), am (below_step (bl3 HB.out GE453.out GE454.out GE455.out) hb)⟩ : _ ∧ _ ∧ _ ∧ _); clear BK453 BK454 BK455 HB; obtain ⟨BK453, BK454, BK455, HB⟩ := n_; (try clear hb); (try clear hb2); (try clear hk); (try clear hi); obtain ⟨hcz31_0, hcz31_1, hcz31_2, hcz31_3, hfz31_0, hfz31_1, hfz31_2, hfz31_3⟩ := cs4 BK453.out; have hnb32 := NB454_455.out; have hnc32 := NB455_454.out; obtain ⟨hcz33_0, hcz33_1, hfz33_0, hfz33_1⟩ := cs2 BK454.out) | ((with_reducible refine gate_callee (f := 26) rfl ?_); refine goesL_ (some 15) rfl rfl Tryd.func26 (by kernel_rfl) rfl #[.agg #[.int .i64 a0_0, .int .i64 a0_1, .int .i64 a0_2, .int .i64 a0_3], .agg #[.int .i64 a1_0, .int .i64 a1_1]] rfl lnp ?_; (with_reducible refine (impl_after.calls k a0_0 a0_1 a0_2 a0_3 a1_0 a1_1 t457 t458 t459 t460 false _ A5.out).mono ?_); rintro e w34 ⟨rfl, hb⟩; refine ⟨_, rfl, ?_⟩; have n_ := (⟨am (blk_below (bf0 BK453.out) hb), am (blk_below (bf0 BK454.out) hb), am (blk_below (bf0 BK455.out) hb), am (below_step (bl3 HB.out GE453.out GE454.out GE455.out) hb)⟩ : _ ∧ _ ∧ _ ∧ _); clear BK453 BK454 BK455 HB; obtain ⟨BK453, BK454, BK455, HB⟩ := n_; (try clear hb); (try clear hb2); (try clear hk); (try clear hi)) | ((with_reducible refine gate_dst (N := 6) rfl ?_); refine box_event ?hg (N := 6) ?hd (cs := #[.int .i64 0, .int .i64 0, .int .i64 0, .int .i64 0]) (t := 29) ?hr ?_; (case hd => rfl); (case hg => rfl); (case hr => first | (go_simp; done) | (go_simp; rfl)); intro gb462 hg w35 hbox hb; have n_ := (⟨am (blk_below (bf0 BK453.out) hb), am (blk_below (bf0 BK454.out) hb), am (blk_below (bf0 BK455.out) hb), am (below_step (bl3 HB.out GE453.out GE454.out GE455.out) hb), am (hbox), am ((gw hg (bl3 HB.out GE453.out GE454.out GE455.out) : w.heap.size ≤ gb462)), am ((gw hg (bl3 HB.out GE453.out GE454.out GE455.out) : w.heap.size ≤ gb462)), am ((nl hg (bf0 BK453.out) : gb453 ≠ gb462)), am ((ng hg (bf0 BK453.out) : gb462 ≠ gb453)), am ((nl hg (bf0 BK454.out) : gb454 ≠ gb462)), am ((ng hg (bf0 BK454.out) : gb462 ≠ gb454)), am ((nl hg (bf0 BK455.out) : gb455 ≠ gb462)), am ((ng hg (bf0 BK455.out) : gb462 ≠ gb455))⟩ : _ ∧ _ ∧ _ ∧ _ ∧ _ ∧ _ ∧ _ ∧ _ ∧ _ ∧ _ ∧ _ ∧ _ ∧ _); clear BK453 BK454 BK455 HB; obtain ⟨BK453, BK454, BK455, HB, BK462, GW462, GE462, NB453_462, NB462_453, NB454_462, NB462_454, NB455_462, NB462_455⟩ := n_; clear hb hbox hg; have hnb36 := NB462_453.out; have hnc36 := NB453_462.out; have hnb37 := NB462_454.out; have hnc37 := NB454_462.out; have hnb38 := NB462_455.out; have hnc38 := NB455_462.out; obtain ⟨hcz39_0, hcz39_1, hcz39_2, hcz39_3, hfz39_0, hfz39_1, hfz39_2, hfz39_3⟩ := cs4 BK462.out; obtain ⟨hcz40_0, hcz40_1, hcz40_2, hcz40_3, hfz40_0, hfz40_1, hfz40_2, hfz40_3⟩ := cs4 BK455.out))
   refine bodyPost_ret (results_ct rfl _ _ gb455 29 #[.int .i64 0, .int .i64 0, .int .i64 0, .int .i64 0] (0, 0) _ rfl (bp1 BK455.out NB455_462.out) Tryd.underlying29 rfl (by kernel_rfl)) rfl ?_
   exact ⟨er, bl4 HB.out GE453.out GE454.out GE455.out GE462.out⟩
 ·replace c4 := Bool.eq_false_iff.mpr c4
  subst c4
  have H1 : (some (0, 0, 0, 0, 1)) = some (r1, r2, r3, r4, r5) := by rw [if_neg (show ¬ (false = true) by decide)] at H; exact H
  clear H
  have H := H1
  clear H1
  simp only [Option.some.injEq, Prod.mk.injEq] at H
  obtain ⟨rfl, rfl, rfl, rfl, rfl⟩ := H
  go_enter Tryd.func9, Tryd.ntmps9
  go_wp2_with (first | ((with_reducible refine gate_dst (N := 2) rfl ?_); refine box_event ?hg (N := 2) ?hd (cs := #[.int .i64 a0_0, .int .i64 a0_1, .int .i64 a0_2, .int .i64 a0_3]) (t := 29) ?hr ?_; (case hd => rfl); (case hg => rfl); (case hr => first | (go_simp; done) | (go_simp; rfl)); intro gb453 hg w41 hbox hb; have n_ := (⟨am (below_step (bl0 HB.out) hb), am (hbox), am ((gw hg (bl0 HB.out) : w.heap.size ≤ gb453)), am ((gw hg (bl0 HB.out) : w.heap.size ≤ gb453))⟩ : _ ∧ _ ∧ _ ∧ _); clear HB; obtain ⟨HB, BK453, GW453, GE453⟩ := n_; clear hb hbox hg) | ((with_reducible refine gate_dst (N := 3) rfl ?_); refine box_event ?hg (N := 3) ?hd (cs := #[.int .i64 a1_0, .int .i64 a1_1]) (t := 31) ?hr ?_; (case hd => rfl); (case hg => rfl); (case hr => first | (go_simp; done) | (go_simp; rfl)); intro gb454 hg w42 hbox hb; have n_ := (⟨am (blk_below (bf0 BK453.out) hb), am (below_step (bl1 HB.out GE453.out) hb), am (hbox), am ((gw hg (bl1 HB.out GE453.out) : w.heap.size ≤ gb454)), am ((gw hg (bl1 HB.out GE453.out) : w.heap.size ≤ gb454)), am ((nl hg (bf0 BK453.out) : gb453 ≠ gb454)), am ((ng hg (bf0 BK453.out) : gb454 ≠ gb453))⟩ : _ ∧ _ ∧ _ ∧ _ ∧ _ ∧ _ ∧ _); clear BK453 HB; obtain ⟨BK453, HB, BK454, GW454, GE454, NB453_454, NB454_453⟩ := n_; clear hb hbox hg) | ((with_reducible refine gate_dst (N := 4) rfl ?_); refine box_event ?hg (N := 4) ?hd (cs := #[.int .i64 0, .int .i64 0, .int .i64 0, .int .i64 0]) (t := 29) ?hr ?_; (case hd => rfl); (case hg => rfl); (case hr => first | (go_simp; done) | (go_simp; rfl)); intro gb455 hg w43 hbox hb; have n_ := (⟨am (blk_below (bf0 BK453.out) hb), am (blk_below (bf0 BK454.out) hb), am (below_step (bl2 HB.out GE453.out GE454.out) hb), am (hbox), am ((gw hg (bl2 HB.out GE453.out GE454.out) : w.heap.size ≤ gb455)), am ((gw hg (bl2 HB.out GE453.out GE454.out) : w.heap.size ≤ gb455)), am ((nl hg (bf0 BK453.out) : gb453 ≠ gb455)), am ((ng hg (bf0 BK453.out) : gb455 ≠ gb453)), am ((nl hg (bf0 BK454.out) : gb454 ≠ gb455)), am ((ng hg (bf0 BK454.out) : gb455 ≠ gb454))⟩ : _ ∧ _ ∧ _ ∧ _ ∧ _ ∧ _ ∧ _ ∧ _ ∧ _ ∧ _); clear BK453 BK454 HB; obtain ⟨BK453, BK454, HB, BK455, GW455, GE455, NB453_455, NB455_453, NB454_455, NB455_454⟩ := n_; clear hb hbox hg; have hnb44 := NB453_454.out; have hnc44 := NB454_453.out; have hnb45 := NB453_455.out; have hnc45 := NB455_453.out; obtain ⟨hcz46_0, hcz46_1, hcz46_2, hcz46_3, hfz46_0, hfz46_1, hfz46_2, hfz46_3⟩ := cs4 BK453.out) | ((with_reducible refine gate_callee (f := 11) rfl ?_); refine goesL_ (some 9) rfl rfl Tryd.func11 (by kernel_rfl) rfl #[.agg #[.int .i64 a0_0, .int .i64 a0_1, .int .i64 a0_2, .int .i64 a0_3]] rfl lnp ?_; (with_reducible refine (impl_IsMachine.calls a0_0 a0_1 a0_2 a0_3 false _ A3.out).mono ?_); rintro e w47 ⟨rfl, hb⟩; refine ⟨_, rfl, ?_⟩; have n_ := (⟨am (blk_below (bf0 BK453.out) hb), am (blk_below (bf0 BK454.out) hb), am (blk_below (bf0 BK455.out) hb), am (below_step (bl3 HB.out GE453.out GE454.out GE455.out) hb)⟩ : _ ∧ _ ∧ _ ∧ _); clear BK453 BK454 BK455 HB; obtain ⟨BK453, BK454, BK455, HB⟩ := n_; (try clear hb); (try clear hb2); (try clear hk); (try clear hi); have hnb48 := NB455_454.out; have hnc48 := NB454_455.out; obtain ⟨hcz49_0, hcz49_1, hcz49_2, hcz49_3, hfz49_0, hfz49_1, hfz49_2, hfz49_3⟩ := cs4 BK455.out))
  refine bodyPost_ret (results_ct rfl _ _ gb455 29 #[.int .i64 0, .int .i64 0, .int .i64 0, .int .i64 0] (0, 0) _ rfl (bp0 BK455.out) Tryd.underlying29 rfl (by kernel_rfl)) rfl ?_
  exact ⟨er, bl3 HB.out GE453.out GE454.out GE455.out⟩

/-! ### spec_IsMachine: function 12 -/
def spec_IsMachine.f (a0_0 : Int) (a0_1 : Int) (a0_2 : Int) (a0_3 : Int) : Option (Bool) := (spec_l01In.f a0_0 0 1000000000).bind fun t464 => (if t464 = true then ((spec_l01In.f a0_1 0 1000000).bind fun t465 => (if t465 = true then ((spec_l01In.f a0_2 0 1000000).bind fun t466 => (if t466 = true then ((spec_l01In.f a0_3 0 1000000000).bind fun t467 => (if t467 = true then (if a0_0 > 0 then (some true) else (if a0_1 = 0 then (some (a0_2 == 0)) else (some false))) else (some false))) else (some false))) else (some false))) else (some false))
theorem spec_IsMachine.calls (a0_0 : Int) (a0_1 : Int) (a0_2 : Int) (a0_3 : Int) (r : Bool) (w : World) (h : spec_IsMachine.f a0_0 a0_1 a0_2 a0_3 = some r) :
  Calls Tryd.prog 12 #[.agg #[.int .i64 a0_0, .int .i64 a0_1, .int .i64 a0_2, .int .i64 a0_3]] w fun e w' => e = .returned (.bool r) ∧ Below w.heap.size w w' := by
 have hu29 := Tryd.underlying29
 have HB := am (Below.refl w.heap.size w)
 have H : ((spec_l01In.f a0_0 0 1000000000).bind fun t464 => (if t464 = true then ((spec_l01In.f a0_1 0 1000000).bind fun t465 => (if t465 = true then ((spec_l01In.f a0_2 0 1000000).bind fun t466 => (if t466 = true then ((spec_l01In.f a0_3 0 1000000000).bind fun t467 => (if t467 = true then (if a0_0 > 0 then (some true) else (if a0_1 = 0 then (some (a0_2 == 0)) else (some false))) else (some false))) else (some false))) else (some false))) else (some false))) = some r := h
 clear h
 replace H := Option.bind_eq_some_iff.mp H
 obtain ⟨t464, A20, H⟩ := H
 replace H : (if t464 = true then ((spec_l01In.f a0_1 0 1000000).bind fun t465 => (if t465 = true then ((spec_l01In.f a0_2 0 1000000).bind fun t466 => (if t466 = true then ((spec_l01In.f a0_3 0 1000000000).bind fun t467 => (if t467 = true then (if a0_0 > 0 then (some true) else (if a0_1 = 0 then (some (a0_2 == 0)) else (some false))) else (some false))) else (some false))) else (some false))) else (some false)) = some r := H
 have A2 := Aside0.mk A20
 clear A20
 by_cases c3 : t464 = true
 ·subst c3
  have H1 : ((spec_l01In.f a0_1 0 1000000).bind fun t465 => (if t465 = true then ((spec_l01In.f a0_2 0 1000000).bind fun t466 => (if t466 = true then ((spec_l01In.f a0_3 0 1000000000).bind fun t467 => (if t467 = true then (if a0_0 > 0 then (some true) else (if a0_1 = 0 then (some (a0_2 == 0)) else (some false))) else (some false))) else (some false))) else (some false))) = some r := by rw [if_pos rfl] at H; exact H
  clear H
  have H := H1
  clear H1
  replace H := Option.bind_eq_some_iff.mp H
  obtain ⟨t465, A40, H⟩ := H
  replace H : (if t465 = true then ((spec_l01In.f a0_2 0 1000000).bind fun t466 => (if t466 = true then ((spec_l01In.f a0_3 0 1000000000).bind fun t467 => (if t467 = true then (if a0_0 > 0 then (some true) else (if a0_1 = 0 then (some (a0_2 == 0)) else (some false))) else (some false))) else (some false))) else (some false)) = some r := H
  have A4 := Aside0.mk A40
  clear A40
  by_cases c5 : t465 = true
  ·subst c5
   have H1 : ((spec_l01In.f a0_2 0 1000000).bind fun t466 => (if t466 = true then ((spec_l01In.f a0_3 0 1000000000).bind fun t467 => (if t467 = true then (if a0_0 > 0 then (some true) else (if a0_1 = 0 then (some (a0_2 == 0)) else (some false))) else (some false))) else (some false))) = some r := by rw [if_pos rfl] at H; exact H
   clear H
   have H := H1
   clear H1
   replace H := Option.bind_eq_some_iff.mp H
   obtain ⟨t466, A60, H⟩ := H
   replace H : (if t466 = true then ((spec_l01In.f a0_3 0 1000000000).bind fun t467 => (if t467 = true then (if a0_0 > 0 then (some true) else (if a0_1 = 0 then (some (a0_2 == 0)) else (some false))) else (some false))) else (some false)) = some r := H
   have A6 := Aside0.mk A60
   clear A60
   by_cases c7 : t466 = true
   ·subst c7
    have H1 : ((spec_l01In.f a0_3 0 1000000000).bind fun t467 => (if t467 = true then (if a0_0 > 0 then (some true) else (if a0_1 = 0 then (some (a0_2 == 0)) else (some false))) else (some false))) = some r := by rw [if_pos rfl] at H; exact H
    clear H
    have H := H1
    clear H1
    replace H := Option.bind_eq_some_iff.mp H
    obtain ⟨t467, A80, H⟩ := H
    replace H : (if t467 = true then (if a0_0 > 0 then (some true) else (if a0_1 = 0 then (some (a0_2 == 0)) else (some false))) else (some false)) = some r := H
    have A8 := Aside0.mk A80
    clear A80
    by_cases c9 : t467 = true
    ·subst c9
     have H1 : (if a0_0 > 0 then (some true) else (if a0_1 = 0 then (some (a0_2 == 0)) else (some false))) = some r := by rw [if_pos rfl] at H; exact H
     clear H
     have H := H1
     clear H1
     by_cases c10 : a0_0 > 0
     ·rw [if_pos c10] at H
      have c10b0 : decide (0 < a0_0) = true := decide_eq_true c10
      clear c10
      obtain rfl := Option.some.inj H
      go_enter Tryd.func12, Tryd.ntmps12
      go_wp2_with (first | ((with_reducible refine gate_dst (N := 1) rfl ?_); refine box_event ?hg (N := 1) ?hd (cs := #[.int .i64 a0_0, .int .i64 a0_1, .int .i64 a0_2, .int .i64 a0_3]) (t := 29) ?hr ?_; (case hd => rfl); (case hg => rfl); (case hr => first | (go_simp; done) | (go_simp; rfl)); intro gb463 hg w11 hbox hb; have n_ := (⟨am (below_step (bl0 HB.out) hb), am (hbox), am ((gw hg (bl0 HB.out) : w.heap.size ≤ gb463)), am ((gw hg (bl0 HB.out) : w.heap.size ≤ gb463))⟩ : _ ∧ _ ∧ _ ∧ _); clear HB; obtain ⟨HB, BK463, GW463, GE463⟩ := n_; clear hb hbox hg; obtain ⟨hcz12_0, hcz12_1, hcz12_2, hcz12_3, hfz12_0, hfz12_1, hfz12_2, hfz12_3⟩ := cs4 BK463.out) | ((with_reducible refine gate_callee (f := 21) rfl ?_); refine goesL_ (some 5) rfl rfl Tryd.func21 (by kernel_rfl) rfl #[.int .i64 a0_0, .int .i64 0, .int .i64 1000000000] rfl lnp ?_; (with_reducible refine (spec_l01In.calls a0_0 0 1000000000 true _ A2.out).mono ?_); rintro e w' ⟨rfl, ⟨nd, rfl⟩⟩; refine ⟨_, rfl, ?_⟩) | (go_at_call 21; (with_reducible refine (spec_l01In.calls a0_1 0 1000000 true _ A4.out).mono ?_); rintro e w' ⟨rfl, ⟨nd, rfl⟩⟩) | (go_at_call 21; (with_reducible refine (spec_l01In.calls a0_2 0 1000000 true _ A6.out).mono ?_); rintro e w' ⟨rfl, ⟨nd, rfl⟩⟩) | (go_at_call 21; (with_reducible refine (spec_l01In.calls a0_3 0 1000000000 true _ A8.out).mono ?_); rintro e w' ⟨rfl, ⟨nd, rfl⟩⟩))
      go_ret
      exact ⟨er, bl1 HB.out GE463.out⟩
     ·rw [if_neg c10] at H
      have c10b0 : decide (0 < a0_0) = false := decide_eq_false c10
      clear c10
      by_cases c13 : a0_1 = 0
      ·rw [if_pos c13] at H
       have c13b0 : (a0_1 == 0) = true := beq_iff_eq.mpr c13
       have c13b1 : (a0_1 != 0) = false := bne_eq_false_iff_eq.mpr c13
       clear c13
       obtain rfl := Option.some.inj H
       go_enter Tryd.func12, Tryd.ntmps12
       go_wp2_with (first | ((with_reducible refine gate_dst (N := 1) rfl ?_); refine box_event ?hg (N := 1) ?hd (cs := #[.int .i64 a0_0, .int .i64 a0_1, .int .i64 a0_2, .int .i64 a0_3]) (t := 29) ?hr ?_; (case hd => rfl); (case hg => rfl); (case hr => first | (go_simp; done) | (go_simp; rfl)); intro gb463 hg w14 hbox hb; have n_ := (⟨am (below_step (bl0 HB.out) hb), am (hbox), am ((gw hg (bl0 HB.out) : w.heap.size ≤ gb463)), am ((gw hg (bl0 HB.out) : w.heap.size ≤ gb463))⟩ : _ ∧ _ ∧ _ ∧ _); clear HB; obtain ⟨HB, BK463, GW463, GE463⟩ := n_; clear hb hbox hg; obtain ⟨hcz15_0, hcz15_1, hcz15_2, hcz15_3, hfz15_0, hfz15_1, hfz15_2, hfz15_3⟩ := cs4 BK463.out) | ((with_reducible refine gate_callee (f := 21) rfl ?_); refine goesL_ (some 5) rfl rfl Tryd.func21 (by kernel_rfl) rfl #[.int .i64 a0_0, .int .i64 0, .int .i64 1000000000] rfl lnp ?_; (with_reducible refine (spec_l01In.calls a0_0 0 1000000000 true _ A2.out).mono ?_); rintro e w' ⟨rfl, ⟨nd, rfl⟩⟩; refine ⟨_, rfl, ?_⟩) | (go_at_call 21; (with_reducible refine (spec_l01In.calls a0_1 0 1000000 true _ A4.out).mono ?_); rintro e w' ⟨rfl, ⟨nd, rfl⟩⟩) | (go_at_call 21; (with_reducible refine (spec_l01In.calls a0_2 0 1000000 true _ A6.out).mono ?_); rintro e w' ⟨rfl, ⟨nd, rfl⟩⟩) | (go_at_call 21; (with_reducible refine (spec_l01In.calls a0_3 0 1000000000 true _ A8.out).mono ?_); rintro e w' ⟨rfl, ⟨nd, rfl⟩⟩))
       go_ret
       exact ⟨er, bl1 HB.out GE463.out⟩
      ·rw [if_neg c13] at H
       have c13b0 : (a0_1 == 0) = false := beq_eq_false_iff_ne.mpr c13
       have c13b1 : (a0_1 != 0) = true := bne_iff_ne.mpr c13
       obtain rfl := Option.some.inj H
       go_enter Tryd.func12, Tryd.ntmps12
       go_wp2_with (first | ((with_reducible refine gate_dst (N := 1) rfl ?_); refine box_event ?hg (N := 1) ?hd (cs := #[.int .i64 a0_0, .int .i64 a0_1, .int .i64 a0_2, .int .i64 a0_3]) (t := 29) ?hr ?_; (case hd => rfl); (case hg => rfl); (case hr => first | (go_simp; done) | (go_simp; rfl)); intro gb463 hg w16 hbox hb; have n_ := (⟨am (below_step (bl0 HB.out) hb), am (hbox), am ((gw hg (bl0 HB.out) : w.heap.size ≤ gb463)), am ((gw hg (bl0 HB.out) : w.heap.size ≤ gb463))⟩ : _ ∧ _ ∧ _ ∧ _); clear HB; obtain ⟨HB, BK463, GW463, GE463⟩ := n_; clear hb hbox hg; obtain ⟨hcz17_0, hcz17_1, hcz17_2, hcz17_3, hfz17_0, hfz17_1, hfz17_2, hfz17_3⟩ := cs4 BK463.out) | ((with_reducible refine gate_callee (f := 21) rfl ?_); refine goesL_ (some 5) rfl rfl Tryd.func21 (by kernel_rfl) rfl #[.int .i64 a0_0, .int .i64 0, .int .i64 1000000000] rfl lnp ?_; (with_reducible refine (spec_l01In.calls a0_0 0 1000000000 true _ A2.out).mono ?_); rintro e w' ⟨rfl, ⟨nd, rfl⟩⟩; refine ⟨_, rfl, ?_⟩) | (go_at_call 21; (with_reducible refine (spec_l01In.calls a0_1 0 1000000 true _ A4.out).mono ?_); rintro e w' ⟨rfl, ⟨nd, rfl⟩⟩) | (go_at_call 21; (with_reducible refine (spec_l01In.calls a0_2 0 1000000 true _ A6.out).mono ?_); rintro e w' ⟨rfl, ⟨nd, rfl⟩⟩) | (go_at_call 21; (with_reducible refine (spec_l01In.calls a0_3 0 1000000000 true _ A8.out).mono ?_); rintro e w' ⟨rfl, ⟨nd, rfl⟩⟩))
       go_ret
       exact ⟨er, bl1 HB.out GE463.out⟩
    ·replace c9 := Bool.eq_false_iff.mpr c9
     subst c9
     have H1 : (some false) = some r := by rw [if_neg (show ¬ (false = true) by decide)] at H; exact H
     clear H
     have H := H1
     clear H1
     obtain rfl := Option.some.inj H
     go_enter Tryd.func12, Tryd.ntmps12
     go_wp2_with (first | ((with_reducible refine gate_dst (N := 1) rfl ?_); refine box_event ?hg (N := 1) ?hd (cs := #[.int .i64 a0_0, .int .i64 a0_1, .int .i64 a0_2, .int .i64 a0_3]) (t := 29) ?hr ?_; (case hd => rfl); (case hg => rfl); (case hr => first | (go_simp; done) | (go_simp; rfl)); intro gb463 hg w18 hbox hb; have n_ := (⟨am (below_step (bl0 HB.out) hb), am (hbox), am ((gw hg (bl0 HB.out) : w.heap.size ≤ gb463)), am ((gw hg (bl0 HB.out) : w.heap.size ≤ gb463))⟩ : _ ∧ _ ∧ _ ∧ _); clear HB; obtain ⟨HB, BK463, GW463, GE463⟩ := n_; clear hb hbox hg; obtain ⟨hcz19_0, hcz19_1, hcz19_2, hcz19_3, hfz19_0, hfz19_1, hfz19_2, hfz19_3⟩ := cs4 BK463.out) | ((with_reducible refine gate_callee (f := 21) rfl ?_); refine goesL_ (some 5) rfl rfl Tryd.func21 (by kernel_rfl) rfl #[.int .i64 a0_0, .int .i64 0, .int .i64 1000000000] rfl lnp ?_; (with_reducible refine (spec_l01In.calls a0_0 0 1000000000 true _ A2.out).mono ?_); rintro e w' ⟨rfl, ⟨nd, rfl⟩⟩; refine ⟨_, rfl, ?_⟩) | (go_at_call 21; (with_reducible refine (spec_l01In.calls a0_1 0 1000000 true _ A4.out).mono ?_); rintro e w' ⟨rfl, ⟨nd, rfl⟩⟩) | (go_at_call 21; (with_reducible refine (spec_l01In.calls a0_2 0 1000000 true _ A6.out).mono ?_); rintro e w' ⟨rfl, ⟨nd, rfl⟩⟩) | (go_at_call 21; (with_reducible refine (spec_l01In.calls a0_3 0 1000000000 false _ A8.out).mono ?_); rintro e w' ⟨rfl, ⟨nd, rfl⟩⟩))
     go_ret
     exact ⟨er, bl1 HB.out GE463.out⟩
   ·replace c7 := Bool.eq_false_iff.mpr c7
    subst c7
    have H1 : (some false) = some r := by rw [if_neg (show ¬ (false = true) by decide)] at H; exact H
    clear H
    have H := H1
    clear H1
    obtain rfl := Option.some.inj H
    go_enter Tryd.func12, Tryd.ntmps12
    go_wp2_with (first | ((with_reducible refine gate_dst (N := 1) rfl ?_); refine box_event ?hg (N := 1) ?hd (cs := #[.int .i64 a0_0, .int .i64 a0_1, .int .i64 a0_2, .int .i64 a0_3]) (t := 29) ?hr ?_; (case hd => rfl); (case hg => rfl); (case hr => first | (go_simp; done) | (go_simp; rfl)); intro gb463 hg w20 hbox hb; have n_ := (⟨am (below_step (bl0 HB.out) hb), am (hbox), am ((gw hg (bl0 HB.out) : w.heap.size ≤ gb463)), am ((gw hg (bl0 HB.out) : w.heap.size ≤ gb463))⟩ : _ ∧ _ ∧ _ ∧ _); clear HB; obtain ⟨HB, BK463, GW463, GE463⟩ := n_; clear hb hbox hg; obtain ⟨hcz21_0, hcz21_1, hcz21_2, hcz21_3, hfz21_0, hfz21_1, hfz21_2, hfz21_3⟩ := cs4 BK463.out) | ((with_reducible refine gate_callee (f := 21) rfl ?_); refine goesL_ (some 5) rfl rfl Tryd.func21 (by kernel_rfl) rfl #[.int .i64 a0_0, .int .i64 0, .int .i64 1000000000] rfl lnp ?_; (with_reducible refine (spec_l01In.calls a0_0 0 1000000000 true _ A2.out).mono ?_); rintro e w' ⟨rfl, ⟨nd, rfl⟩⟩; refine ⟨_, rfl, ?_⟩) | (go_at_call 21; (with_reducible refine (spec_l01In.calls a0_1 0 1000000 true _ A4.out).mono ?_); rintro e w' ⟨rfl, ⟨nd, rfl⟩⟩) | (go_at_call 21; (with_reducible refine (spec_l01In.calls a0_2 0 1000000 false _ A6.out).mono ?_); rintro e w' ⟨rfl, ⟨nd, rfl⟩⟩))
    go_ret
    exact ⟨er, bl1 HB.out GE463.out⟩
  ·replace c5 := Bool.eq_false_iff.mpr c5
   subst c5
   have H1 : (some false) = some r := by rw [if_neg (show ¬ (false = true) by decide)] at H; exact H
   clear H
   have H := H1
   clear H1
   obtain rfl := Option.some.inj H
   go_enter Tryd.func12, Tryd.ntmps12
   go_wp2_with (first | ((with_reducible refine gate_dst (N := 1) rfl ?_); refine box_event ?hg (N := 1) ?hd (cs := #[.int .i64 a0_0, .int .i64 a0_1, .int .i64 a0_2, .int .i64 a0_3]) (t := 29) ?hr ?_; (case hd => rfl); (case hg => rfl); (case hr => first | (go_simp; done) | (go_simp; rfl)); intro gb463 hg w22 hbox hb; have n_ := (⟨am (below_step (bl0 HB.out) hb), am (hbox), am ((gw hg (bl0 HB.out) : w.heap.size ≤ gb463)), am ((gw hg (bl0 HB.out) : w.heap.size ≤ gb463))⟩ : _ ∧ _ ∧ _ ∧ _); clear HB; obtain ⟨HB, BK463, GW463, GE463⟩ := n_; clear hb hbox hg; obtain ⟨hcz23_0, hcz23_1, hcz23_2, hcz23_3, hfz23_0, hfz23_1, hfz23_2, hfz23_3⟩ := cs4 BK463.out) | ((with_reducible refine gate_callee (f := 21) rfl ?_); refine goesL_ (some 5) rfl rfl Tryd.func21 (by kernel_rfl) rfl #[.int .i64 a0_0, .int .i64 0, .int .i64 1000000000] rfl lnp ?_; (with_reducible refine (spec_l01In.calls a0_0 0 1000000000 true _ A2.out).mono ?_); rintro e w' ⟨rfl, ⟨nd, rfl⟩⟩; refine ⟨_, rfl, ?_⟩) | (go_at_call 21; (with_reducible refine (spec_l01In.calls a0_1 0 1000000 false _ A4.out).mono ?_); rintro e w' ⟨rfl, ⟨nd, rfl⟩⟩))
   go_ret
   exact ⟨er, bl1 HB.out GE463.out⟩
 ·replace c3 := Bool.eq_false_iff.mpr c3
  subst c3
  have H1 : (some false) = some r := by rw [if_neg (show ¬ (false = true) by decide)] at H; exact H
  clear H
  have H := H1
  clear H1
  obtain rfl := Option.some.inj H
  go_enter Tryd.func12, Tryd.ntmps12
  go_wp2_with (first | ((with_reducible refine gate_dst (N := 1) rfl ?_); refine box_event ?hg (N := 1) ?hd (cs := #[.int .i64 a0_0, .int .i64 a0_1, .int .i64 a0_2, .int .i64 a0_3]) (t := 29) ?hr ?_; (case hd => rfl); (case hg => rfl); (case hr => first | (go_simp; done) | (go_simp; rfl)); intro gb463 hg w24 hbox hb; have n_ := (⟨am (below_step (bl0 HB.out) hb), am (hbox), am ((gw hg (bl0 HB.out) : w.heap.size ≤ gb463)), am ((gw hg (bl0 HB.out) : w.heap.size ≤ gb463))⟩ : _ ∧ _ ∧ _ ∧ _); clear HB; obtain ⟨HB, BK463, GW463, GE463⟩ := n_; clear hb hbox hg; obtain ⟨hcz25_0, hcz25_1, hcz25_2, hcz25_3, hfz25_0, hfz25_1, hfz25_2, hfz25_3⟩ := cs4 BK463.out) | ((with_reducible refine gate_callee (f := 21) rfl ?_); refine goesL_ (some 5) rfl rfl Tryd.func21 (by kernel_rfl) rfl #[.int .i64 a0_0, .int .i64 0, .int .i64 1000000000] rfl lnp ?_; (with_reducible refine (spec_l01In.calls a0_0 0 1000000000 false _ A2.out).mono ?_); rintro e w' ⟨rfl, ⟨nd, rfl⟩⟩; refine ⟨_, rfl, ?_⟩))
  go_ret
  exact ⟨er, bl1 HB.out GE463.out⟩

end Go.Proofs.YthfmhfgckhkgjaaDoor.PFnResumed
