-- Laid by wip/mk/mk.py out of the translation. Not trusted: Lean checks it.
import Derived.Test.YthfmhfgckhkgjaaDoorPFnResumedx0
import Derived.Test.YthfmhfgckhkgjaaDoorPFnResumedx2
import Derived.Test.YthfmhfgckhkgjaaDoorPFnResumedx3
import Derived.Test.YthfmhfgckhkgjaaDoorPFnResumedx5
namespace Go.Proofs.YthfmhfgckhkgjaaDoor.PFnResumed
open Go.RowKit Go.Proofs.YthfmhfgckhkgjaaDoorW.PrintWords Go.Proofs.YthfmhfgckhkgjaaDoorW.PrintLast Go.Proofs.YthfmhfgckhkgjaaDoorW.PrintMore
attribute [local go_sem] max2_int min2_int max_two min_two max_three min_three max_four min_four   -- for this text's walks alone
set_option linter.unusedVariables false
set_option maxHeartbeats 8000000
set_option maxRecDepth 100000
set_option linter.unusedSimpArgs false

/-! ### spec_l29DrawEntry: function 25 -/
def spec_l29DrawEntry.j0 : Nat → Bool → List Int → Int → Int → Option (Int × Int × Int × Int)
 | 0, _, _, _, _ => none
 | k + 1, x28, x1000, x1001, x1002 => if x28 = true then ((spec_l01Next.f x1000 x1001 x1002 5).bind fun bt174 => (some (3, bt174.1, bt174.2.1, bt174.2.2))) else ((spec_l01Next.f x1000 x1001 x1002 60).bind fun bt177 => (some (2, bt177.1, bt177.2.1, bt177.2.2)))
def spec_l29DrawEntry.f (k : Nat) (s0_0 : List Int) (s0_1 : Int) (s0_2 : Int) (a1_0 : Int) (a1_1 : Int) (a1_2 : Int) (a1_3 : Int) : Option (Int × Int × Int × Int) := (spec_l01Next.f s0_0 s0_1 s0_2 20).bind fun bt156 => (if bt156.1 = 0 then ((spec_l01Next.f s0_0 bt156.2.1 bt156.2.2 6).bind fun bt159 => ((spec_l01Pick.f s0_0 bt159.2.1 bt159.2.2 (([(-1), 0, 12, 1000000000, 1000000001, 1000000] : List Int))).bind fun bt165 => (some (bt159.1, bt165.1, bt165.2.1, bt165.2.2)))) else (if a1_0 = 0 then ((spec_l01Next.f s0_0 bt156.2.1 bt156.2.2 40).bind fun bt168 => (some (1, wrap64 (1 + bt168.1), bt168.2.1, bt168.2.2))) else ((spec_l01Next.f s0_0 bt156.2.1 bt156.2.2 6).bind fun bt171 => (if bt171.1 = 0 then (some (4, a1_1, bt171.2.1, bt171.2.2)) else (if bt171.1 = 1 then (spec_l29DrawEntry.j0 k (bt171.1 == 1) s0_0 bt171.2.1 bt171.2.2) else (spec_l29DrawEntry.j0 k (bt171.1 == 2) s0_0 bt171.2.1 bt171.2.2))))))
theorem spec_l29DrawEntry.mono_l : ∀ k, (∀ y0 y1 y2 y3, LeO (spec_l29DrawEntry.j0 k y0 y1 y2 y3) (spec_l29DrawEntry.j0 (k + 1) y0 y1 y2 y3))
 | 0 => fun _ _ _ _ r h => by simp [spec_l29DrawEntry.j0] at h
 | k + 1 => by
  have ih0 := spec_l29DrawEntry.mono_l k
  ·intro y0 y1 y2 y3
   unfold spec_l29DrawEntry.j0
   repeat' first | (with_reducible first | exact ih0 _ _ _ _ | exact LeO.refl _ | exact LeO.none _ | refine LeO.ite ?_ ?_ | refine LeO.bind ?_ (fun _ => ?_)) | exact ih0 _ _ _ _ | exact LeO.none _ | refine LeO.ite ?_ ?_ | refine LeO.bind ?_ (fun _ => ?_)
theorem spec_l29DrawEntry.mono : ∀ a0 a1 a2 a3 a4 a5 a6 k, LeO (spec_l29DrawEntry.f k a0 a1 a2 a3 a4 a5 a6) (spec_l29DrawEntry.f (k + 1) a0 a1 a2 a3 a4 a5 a6) := by
 intro a0 a1 a2 a3 a4 a5 a6 k
 have ih0 := spec_l29DrawEntry.mono_l k
 unfold spec_l29DrawEntry.f
 repeat' first | (with_reducible first | exact ih0 _ _ _ _ | exact LeO.refl _ | exact LeO.none _ | refine LeO.ite ?_ ?_ | refine LeO.bind ?_ (fun _ => ?_)) | exact ih0 _ _ _ _ | exact LeO.none _ | refine LeO.ite ?_ ?_ | refine LeO.bind ?_ (fun _ => ?_)
theorem spec_l29DrawEntry.calls (k : Nat) (g : Nat) (s0_0 : List Int) (s0_1 : Int) (s0_2 : Int) (a1_0 : Int) (a1_1 : Int) (a1_2 : Int) (a1_3 : Int) (r1 : Int) (r2 : Int) (r3 : Int) (r4 : Int) (w0 w : World) (hI : IsS57 w0 w g s0_0 s0_1 s0_2) (hB : Below w0.heap.size w0 w) (h : spec_l29DrawEntry.f k s0_0 s0_1 s0_2 a1_0 a1_1 a1_2 a1_3 = some (r1, r2, r3, r4)) :
  Calls Tryd.prog 25 #[.pointer (some ⟨g, 0, none⟩), .agg #[.int .i64 a1_0, .int .i64 a1_1, .int .i64 a1_2, .int .i64 a1_3]] w fun e w' => e = .returned (.agg #[.int .i64 r1, .int .i64 r2]) ∧ IsS57 w0 w' g s0_0 r3 r4 ∧ Below w0.heap.size w0 w' ∧ KeepBut w w' g none := by
 have hu29 := Tryd.underlying29
 have hu31 := Tryd.underlying31
 have HI0 := Aside0.mk hI
 have HK := am (KeepBut.refl w g none)
 have HL := Aside0.mk hB.size
 clear hI
 have HW0 := Aside0.mk hB.size
 have HB := Aside0.mk hB
 clear hB
 have H : ((spec_l01Next.f s0_0 s0_1 s0_2 20).bind fun bt156 => (if bt156.1 = 0 then ((spec_l01Next.f s0_0 bt156.2.1 bt156.2.2 6).bind fun bt159 => ((spec_l01Pick.f s0_0 bt159.2.1 bt159.2.2 (([(-1), 0, 12, 1000000000, 1000000001, 1000000] : List Int))).bind fun bt165 => (some (bt159.1, bt165.1, bt165.2.1, bt165.2.2)))) else (if a1_0 = 0 then ((spec_l01Next.f s0_0 bt156.2.1 bt156.2.2 40).bind fun bt168 => (some (1, wrap64 (1 + bt168.1), bt168.2.1, bt168.2.2))) else ((spec_l01Next.f s0_0 bt156.2.1 bt156.2.2 6).bind fun bt171 => (if bt171.1 = 0 then (some (4, a1_1, bt171.2.1, bt171.2.2)) else (if bt171.1 = 1 then (spec_l29DrawEntry.j0 k (bt171.1 == 1) s0_0 bt171.2.1 bt171.2.2) else (spec_l29DrawEntry.j0 k (bt171.1 == 2) s0_0 bt171.2.1 bt171.2.2))))))) = some (r1, r2, r3, r4) := h
 clear h
 replace H := Option.bind_eq_some_iff.mp H
 obtain ⟨⟨t156, t157, t158⟩, A30, H⟩ := H
 replace H : (if t156 = 0 then ((spec_l01Next.f s0_0 t157 t158 6).bind fun bt159 => ((spec_l01Pick.f s0_0 bt159.2.1 bt159.2.2 (([(-1), 0, 12, 1000000000, 1000000001, 1000000] : List Int))).bind fun bt165 => (some (bt159.1, bt165.1, bt165.2.1, bt165.2.2)))) else (if a1_0 = 0 then ((spec_l01Next.f s0_0 t157 t158 40).bind fun bt168 => (some (1, wrap64 (1 + bt168.1), bt168.2.1, bt168.2.2))) else ((spec_l01Next.f s0_0 t157 t158 6).bind fun bt171 => (if bt171.1 = 0 then (some (4, a1_1, bt171.2.1, bt171.2.2)) else (if bt171.1 = 1 then (spec_l29DrawEntry.j0 k (bt171.1 == 1) s0_0 bt171.2.1 bt171.2.2) else (spec_l29DrawEntry.j0 k (bt171.1 == 2) s0_0 bt171.2.1 bt171.2.2)))))) = some (r1, r2, r3, r4) := H
 have A3 := Aside0.mk A30
 clear A30
 by_cases c4 : t156 = 0
 ·rw [if_pos c4] at H
  have c4b0 : (t156 == 0) = true := beq_iff_eq.mpr c4
  have c4b1 : (t156 != 0) = false := bne_eq_false_iff_eq.mpr c4
  clear c4
  replace H := Option.bind_eq_some_iff.mp H
  obtain ⟨⟨t159, t160, t161⟩, A50, H⟩ := H
  replace H : ((spec_l01Pick.f s0_0 t160 t161 (([(-1), 0, 12, 1000000000, 1000000001, 1000000] : List Int))).bind fun bt165 => (some (t159, bt165.1, bt165.2.1, bt165.2.2))) = some (r1, r2, r3, r4) := H
  have A5 := Aside0.mk A50
  clear A50
  obtain ⟨y162, hy162⟩ : ∃ y_ : List Int, y_ = (([(-1), 0, 12, 1000000000, 1000000001, 1000000] : List Int)) := ⟨_, rfl⟩
  replace H : ((spec_l01Pick.f s0_0 t160 t161 y162).bind fun bt165 => (some (t159, bt165.1, bt165.2.1, bt165.2.2))) = some (r1, r2, r3, r4) := by first | (rw [hy162]; with_reducible exact H) | (have H2_ := (Option.bind_some _ _).symm.trans H; rw [hy162]; with_reducible exact H2_) | (have H2_ := (Option.bind_some _ _).symm.trans H; with_reducible exact H2_) | with_reducible exact H | (rw [hy162]; exact H) | exact H
  have Ny162 := Aside0.mk hy162
  clear hy162
  replace H := Option.bind_eq_some_iff.mp H
  obtain ⟨⟨t165, t166, t167⟩, A60, H⟩ := H
  replace H : (some (t159, t165, t166, t167)) = some (r1, r2, r3, r4) := H
  have A6 := Aside0.mk A60
  clear A60
  simp only [Option.some.injEq, Prod.mk.injEq] at H
  obtain ⟨rfl, rfl, rfl, rfl⟩ := H
  go_enter Tryd.func25, Tryd.ntmps25
  go_wp2_with (first | ((with_reducible refine gate_dst (N := 3) rfl ?_); refine box_event ?hg (N := 3) ?hd (cs := #[.int .i64 a1_0, .int .i64 a1_1, .int .i64 a1_2, .int .i64 a1_3]) (t := 29) ?hr ?_; (case hd => rfl); (case hg => rfl); (case hr => first | (go_simp; done) | (go_simp; rfl)); intro gb154 hg w7 hbox hb; have n_ := (⟨am (IsS57.below (st57_0 HI0.out) hb), am (KeepBut.trans (kb0 HK.out) (KeepBut.of_below hb g none) (.inl rfl)), am (below_step (bl1 HB.out (IsS57.ge HI0.out)) hb), am (hbox), am ((by rw [hg]; exact (keep_size (w := w) (g := g) (row := none) (kb0 HK.out)) : w.heap.size ≤ gb154)), am ((Nat.le_trans HW0.out (by rw [hg]; exact (keep_size (w := w) (g := g) (row := none) (kb0 HK.out)) : w.heap.size ≤ gb154) : w0.heap.size ≤ gb154)), am ((by rw [hg]; exact Nat.ne_of_lt (IsS57.lt (show IsS57 w0 _ g s0_0 s0_1 s0_2 from st57_0 HI0.out)) : g ≠ gb154)), am ((by rw [hg]; exact Nat.ne_of_gt (IsS57.lt (show IsS57 w0 _ g s0_0 s0_1 s0_2 from st57_0 HI0.out)) : gb154 ≠ g))⟩ : _ ∧ _ ∧ _ ∧ _ ∧ _ ∧ _ ∧ _ ∧ _); clear HI0 HK HB; obtain ⟨HI0, HK, HB, BK154, GW154, GE154, NB0_154, NB154_0⟩ := n_; clear hb hbox hg) | ((with_reducible refine gate_dst (N := 4) rfl ?_); refine box_event ?hg (N := 4) ?hd (cs := #[.int .i64 0, .int .i64 0]) (t := 31) ?hr ?_; (case hd => rfl); (case hg => rfl); (case hr => first | (go_simp; done) | (go_simp; rfl)); intro gb155 hg w8 hbox hb; have n_ := (⟨am (IsS57.below (st57_1 HI0.out NB0_154.out) hb), am (blk_below (bf0 BK154.out) hb), am (KeepBut.trans (kb1 HK.out GW154.out) (KeepBut.of_below hb g none) (.inl rfl)), am (below_step (bl2 HB.out (IsS57.ge HI0.out) GE154.out) hb), am (hbox), am ((by rw [hg]; exact (keep_size (w := w) (g := g) (row := none) (kb1 HK.out GW154.out)) : w.heap.size ≤ gb155)), am ((Nat.le_trans HW0.out (by rw [hg]; exact (keep_size (w := w) (g := g) (row := none) (kb1 HK.out GW154.out)) : w.heap.size ≤ gb155) : w0.heap.size ≤ gb155)), am ((nl hg (bf0 BK154.out) : gb154 ≠ gb155)), am ((ng hg (bf0 BK154.out) : gb155 ≠ gb154)), am ((by rw [hg]; exact Nat.ne_of_lt (IsS57.lt (show IsS57 w0 _ g s0_0 s0_1 s0_2 from st57_1 HI0.out NB0_154.out)) : g ≠ gb155)), am ((by rw [hg]; exact Nat.ne_of_gt (IsS57.lt (show IsS57 w0 _ g s0_0 s0_1 s0_2 from st57_1 HI0.out NB0_154.out)) : gb155 ≠ g))⟩ : _ ∧ _ ∧ _ ∧ _ ∧ _ ∧ _ ∧ _ ∧ _ ∧ _ ∧ _ ∧ _); clear HI0 BK154 HK HB; obtain ⟨HI0, BK154, HK, HB, BK155, GW155, GE155, NB154_155, NB155_154, NB0_155, NB155_0⟩ := n_; clear hb hbox hg) | ((with_reducible refine gate_callee (f := 18) rfl ?_); refine goesL_ (some 6) rfl rfl Tryd.func18 (by kernel_rfl) rfl #[.pointer (some ⟨g, 0, none⟩), .int .i64 20] rfl lnp ?_; (with_reducible refine (spec_l01Next.calls g s0_0 s0_1 s0_2 20 t156 t157 t158 w0 _ ?side1 ?side2 A3.out).mono ?_); (case side1 => exact st57_2 HI0.out NB0_154.out NB0_155.out); (case side2 => exact bl3 HB.out (IsS57.ge HI0.out) GE154.out GE155.out); rintro e w9 ⟨rfl, hi, hb, hk⟩; refine ⟨_, rfl, ?_⟩; have n_ := (⟨am (KeepBut.blk hk (g' := gb154) (o := .cells #[.int .i64 a1_0, .int .i64 a1_1, .int .i64 a1_2, .int .i64 a1_3] 29 (0, 0)) (bf0 BK154.out) NB154_0.out (by simp)), am (KeepBut.blk hk (g' := gb155) (o := .cells #[.int .i64 0, .int .i64 0] 31 (0, 0)) (bf0 BK155.out) NB155_0.out (by simp)), am (KeepBut.trans (kb2 HK.out GW154.out GW155.out) hk (.inl rfl)), am (hb), am (hi)⟩ : _ ∧ _ ∧ _ ∧ _ ∧ _); clear BK154 BK155 HK HB HI0; obtain ⟨BK154, BK155, HK, HB, HI0⟩ := n_; (try clear hb); (try clear hb2); (try clear hk); (try clear hi)) | ((with_reducible refine gate_callee (f := 18) rfl ?_); refine goesL_ (some 9) rfl rfl Tryd.func18 (by kernel_rfl) rfl #[.pointer (some ⟨g, 0, none⟩), .int .i64 6] rfl lnp ?_; (with_reducible refine (spec_l01Next.calls g s0_0 t157 t158 6 t159 t160 t161 w0 _ ?side1 ?side2 A5.out).mono ?_); (case side1 => exact st57_2 HI0.out NB0_154.out NB0_155.out); (case side2 => exact bl3 HB.out (IsS57.ge HI0.out) GE154.out GE155.out); rintro e w10 ⟨rfl, hi, hb, hk⟩; refine ⟨_, rfl, ?_⟩; have n_ := (⟨am (KeepBut.blk hk (g' := gb154) (o := .cells #[.int .i64 a1_0, .int .i64 a1_1, .int .i64 a1_2, .int .i64 a1_3] 29 (0, 0)) (bf0 BK154.out) NB154_0.out (by simp)), am (KeepBut.blk hk (g' := gb155) (o := .cells #[.int .i64 0, .int .i64 0] 31 (0, 0)) (bf0 BK155.out) NB155_0.out (by simp)), am (KeepBut.trans (kb2 HK.out GW154.out GW155.out) hk (.inl rfl)), am (hb), am (hi)⟩ : _ ∧ _ ∧ _ ∧ _ ∧ _); clear BK154 BK155 HK HB HI0; obtain ⟨BK154, BK155, HK, HB, HI0⟩ := n_; (try clear hb); (try clear hb2); (try clear hk); (try clear hi)) | ((with_reducible refine gate_dst (N := 11) rfl ?_); refine Kd.R_lit (Kd.int .i64) _ 2 ?hg (N := 11) ?hd (xs := ([(-1), 0, 12, 1000000000, 1000000001, 1000000] : List Int)) (inner := [.int .i64 (-1), .int .i64 0, .int .i64 12, .int .i64 1000000000, .int .i64 1000000001, .int .i64 1000000]) (ok := fun _ => True) (okp := fun _ => True) ?hr ?hp (fun _ hk => hk) trivial (Below.refl _ _) (Nat.le_refl _) (by simp) ?_; (case hd => rfl); (case hg => rfl); (case hr => first | (go_simp; done) | (go_simp; rfl)); (case hp => exact (Reps.one (show Kd.M (Kd.int .i64) _ _ _ (-1) [.int .i64 (-1)] from rfl) (Reps.one (show Kd.M (Kd.int .i64) _ _ _ 0 [.int .i64 0] from rfl) (Reps.one (show Kd.M (Kd.int .i64) _ _ _ 12 [.int .i64 12] from rfl) (Reps.one (show Kd.M (Kd.int .i64) _ _ _ 1000000000 [.int .i64 1000000000] from rfl) (Reps.one (show Kd.M (Kd.int .i64) _ _ _ 1000000001 [.int .i64 1000000001] from rfl) (Reps.one (show Kd.M (Kd.int .i64) _ _ _ 1000000 [.int .i64 1000000] from rfl) (Reps.none _ _)))))))); intro v163 w11 ho12 hb hg_ hnew_; clear hg_ hnew_; (first | rw [← Ny162.out] at ho12 | (simp only [Int.reduceToNat] at ho12; rw [← Ny162.out] at ho12)); have n_ := (⟨am (Kd.R_lower ho12 (keep_size (w := w) (g := g) (row := none) (kb2 HK.out GW154.out GW155.out))), am (IsS57.below (st57_2 HI0.out NB0_154.out NB0_155.out) hb), am (blk_below (bf0 BK154.out) hb), am (blk_below (bf0 BK155.out) hb), am (KeepBut.trans (kb2 HK.out GW154.out GW155.out) (KeepBut.of_below hb g none) (.inl rfl)), am (below_step (bl3 HB.out (IsS57.ge HI0.out) GE154.out GE155.out) hb)⟩ : _ ∧ _ ∧ _ ∧ _ ∧ _ ∧ _); clear HI0 BK154 BK155 HK HB; obtain ⟨HO164, HI0, BK154, BK155, HK, HB⟩ := n_; clear hb ho12; obtain ⟨Ao13, co13, eo13⟩ := Kd.R_slice HO164.out; subst eo13) | ((with_reducible refine gate_callee (f := 17) rfl ?_); refine goesL_ (some 12) rfl rfl Tryd.func17 (by kernel_rfl) rfl #[.pointer (some ⟨g, 0, none⟩), .slice Ao13 y162.length co13] rfl lnp ?_; (with_reducible refine (spec_l01Pick.calls g s0_0 t160 t161 _ _ y162 t165 t166 t167 w0 _ ?side1 ?side2 ?side3 ?side4 ?side5 A6.out).mono ?_); (case side1 => exact st57_2 HI0.out NB0_154.out NB0_155.out); (case side2 => exact bl3 HB.out (IsS57.ge HI0.out) GE154.out GE155.out); (case side3 => repeat (first | exact (Kd.R_reads' HO164.out).2.2 | (with_reducible refine Kd.C_alloc ?_ _) | (with_reducible refine Kd.C_drewN ?_ _) | (with_reducible refine Kd.C_drew ?_))); (case side4 => exact (Kd.R_reads' HO164.out).2.1); (case side5 => exact far_slice (IsS57.own_ne HI0.out HO164.out (by decide))); rintro e w14 ⟨rfl, hi, hb, hk⟩; refine ⟨_, rfl, ?_⟩; have n_ := (⟨am (KeepBut.blk hk (g' := gb154) (o := .cells #[.int .i64 a1_0, .int .i64 a1_1, .int .i64 a1_2, .int .i64 a1_3] 29 (0, 0)) (bf0 BK154.out) NB154_0.out (by simp)), am (KeepBut.blk hk (g' := gb155) (o := .cells #[.int .i64 0, .int .i64 0] 31 (0, 0)) (bf0 BK155.out) NB155_0.out (by simp)), am (Kd.R_mono (Kd.R_keep (IsS57.apart (show IsS57 w0 _ g s0_0 t160 t161 from st57_2 HI0.out NB0_154.out NB0_155.out) (rqR HO164.out) (by decide)) hk (fun _ h => h.2)) (fun _ h => h.1)), am (KeepBut.trans (kb2 HK.out GW154.out GW155.out) hk (.inl rfl)), am (hb), am (hi)⟩ : _ ∧ _ ∧ _ ∧ _ ∧ _ ∧ _); clear BK154 BK155 HO164 HK HB HI0; obtain ⟨BK154, BK155, HO164, HK, HB, HI0⟩ := n_; (try clear hb); (try clear hb2); (try clear hk); (try clear hi); have hnb15 := NB155_154.out; have hnc15 := NB154_155.out; have hnb16 := NB155_0.out; have hnc16 := NB0_155.out; obtain ⟨hcz17_0, hcz17_1, hfz17_0, hfz17_1⟩ := cs2 BK155.out))
  refine bodyPost_ret (results_cell_row rfl _ _ gb155 31 #[.int .i64 t159, .int .i64 t165] (0, 0) _ rfl (bp0 BK155.out) Tryd.underlying31 rfl (by kernel_rfl)) rfl ?_
  exact ⟨er, st57_2 HI0.out NB0_154.out NB0_155.out, bl3 HB.out (IsS57.ge HI0.out) GE154.out GE155.out, kb2 HK.out GW154.out GW155.out⟩
 ·rw [if_neg c4] at H
  have c4b0 : (t156 == 0) = false := beq_eq_false_iff_ne.mpr c4
  have c4b1 : (t156 != 0) = true := bne_iff_ne.mpr c4
  by_cases c18 : a1_0 = 0
  ·rw [if_pos c18] at H
   have c18b0 : (a1_0 == 0) = true := beq_iff_eq.mpr c18
   have c18b1 : (a1_0 != 0) = false := bne_eq_false_iff_eq.mpr c18
   clear c18
   replace H := Option.bind_eq_some_iff.mp H
   obtain ⟨⟨t168, t169, t170⟩, A190, H⟩ := H
   replace H : (some (1, wrap64 (1 + t168), t169, t170)) = some (r1, r2, r3, r4) := H
   have A19 := Aside0.mk A190
   clear A190
   simp only [Option.some.injEq, Prod.mk.injEq] at H
   obtain ⟨rfl, rfl, rfl, rfl⟩ := H
   go_enter Tryd.func25, Tryd.ntmps25
   go_wp2_with (first | ((with_reducible refine gate_dst (N := 3) rfl ?_); refine box_event ?hg (N := 3) ?hd (cs := #[.int .i64 a1_0, .int .i64 a1_1, .int .i64 a1_2, .int .i64 a1_3]) (t := 29) ?hr ?_; (case hd => rfl); (case hg => rfl); (case hr => first | (go_simp; done) | (go_simp; rfl)); intro gb154 hg w20 hbox hb; have n_ := (⟨am (IsS57.below (st57_0 HI0.out) hb), am (KeepBut.trans (kb0 HK.out) (KeepBut.of_below hb g none) (.inl rfl)), am (below_step (bl1 HB.out (IsS57.ge HI0.out)) hb), am (hbox), am ((by rw [hg]; exact (keep_size (w := w) (g := g) (row := none) (kb0 HK.out)) : w.heap.size ≤ gb154)), am ((Nat.le_trans HW0.out (by rw [hg]; exact (keep_size (w := w) (g := g) (row := none) (kb0 HK.out)) : w.heap.size ≤ gb154) : w0.heap.size ≤ gb154)), am ((by rw [hg]; exact Nat.ne_of_lt (IsS57.lt (show IsS57 w0 _ g s0_0 s0_1 s0_2 from st57_0 HI0.out)) : g ≠ gb154)), am ((by rw [hg]; exact Nat.ne_of_gt (IsS57.lt (show IsS57 w0 _ g s0_0 s0_1 s0_2 from st57_0 HI0.out)) : gb154 ≠ g))⟩ : _ ∧ _ ∧ _ ∧ _ ∧ _ ∧ _ ∧ _ ∧ _); clear HI0 HK HB; obtain ⟨HI0, HK, HB, BK154, GW154, GE154, NB0_154, NB154_0⟩ := n_; clear hb hbox hg) | ((with_reducible refine gate_dst (N := 4) rfl ?_); refine box_event ?hg (N := 4) ?hd (cs := #[.int .i64 0, .int .i64 0]) (t := 31) ?hr ?_; (case hd => rfl); (case hg => rfl); (case hr => first | (go_simp; done) | (go_simp; rfl)); intro gb155 hg w21 hbox hb; have n_ := (⟨am (IsS57.below (st57_1 HI0.out NB0_154.out) hb), am (blk_below (bf0 BK154.out) hb), am (KeepBut.trans (kb1 HK.out GW154.out) (KeepBut.of_below hb g none) (.inl rfl)), am (below_step (bl2 HB.out (IsS57.ge HI0.out) GE154.out) hb), am (hbox), am ((by rw [hg]; exact (keep_size (w := w) (g := g) (row := none) (kb1 HK.out GW154.out)) : w.heap.size ≤ gb155)), am ((Nat.le_trans HW0.out (by rw [hg]; exact (keep_size (w := w) (g := g) (row := none) (kb1 HK.out GW154.out)) : w.heap.size ≤ gb155) : w0.heap.size ≤ gb155)), am ((nl hg (bf0 BK154.out) : gb154 ≠ gb155)), am ((ng hg (bf0 BK154.out) : gb155 ≠ gb154)), am ((by rw [hg]; exact Nat.ne_of_lt (IsS57.lt (show IsS57 w0 _ g s0_0 s0_1 s0_2 from st57_1 HI0.out NB0_154.out)) : g ≠ gb155)), am ((by rw [hg]; exact Nat.ne_of_gt (IsS57.lt (show IsS57 w0 _ g s0_0 s0_1 s0_2 from st57_1 HI0.out NB0_154.out)) : gb155 ≠ g))⟩ : _ ∧ _ ∧ _ ∧ _ ∧ _ ∧ _ ∧ _ ∧ _ ∧ _ ∧ _ ∧ _); clear HI0 BK154 HK HB; obtain ⟨HI0, BK154, HK, HB, BK155, GW155, GE155, NB154_155, NB155_154, NB0_155, NB155_0⟩ := n_; clear hb hbox hg) | ((with_reducible refine gate_callee (f := 18) rfl ?_); refine goesL_ (some 6) rfl rfl Tryd.func18 (by kernel_rfl) rfl #[.pointer (some ⟨g, 0, none⟩), .int .i64 20] rfl lnp ?_; (with_reducible refine (spec_l01Next.calls g s0_0 s0_1 s0_2 20 t156 t157 t158 w0 _ ?side1 ?side2 A3.out).mono ?_); (case side1 => exact st57_2 HI0.out NB0_154.out NB0_155.out); (case side2 => exact bl3 HB.out (IsS57.ge HI0.out) GE154.out GE155.out); rintro e w22 ⟨rfl, hi, hb, hk⟩; refine ⟨_, rfl, ?_⟩; have n_ := (⟨am (KeepBut.blk hk (g' := gb154) (o := .cells #[.int .i64 a1_0, .int .i64 a1_1, .int .i64 a1_2, .int .i64 a1_3] 29 (0, 0)) (bf0 BK154.out) NB154_0.out (by simp)), am (KeepBut.blk hk (g' := gb155) (o := .cells #[.int .i64 0, .int .i64 0] 31 (0, 0)) (bf0 BK155.out) NB155_0.out (by simp)), am (KeepBut.trans (kb2 HK.out GW154.out GW155.out) hk (.inl rfl)), am (hb), am (hi)⟩ : _ ∧ _ ∧ _ ∧ _ ∧ _); clear BK154 BK155 HK HB HI0; obtain ⟨BK154, BK155, HK, HB, HI0⟩ := n_; (try clear hb); (try clear hb2); (try clear hk); (try clear hi); have hnb23 := NB154_155.out; have hnc23 := NB155_154.out; have hnb24 := NB154_0.out; have hnc24 := NB0_154.out; obtain ⟨hcz25_0, hcz25_1, hcz25_2, hcz25_3, hfz25_0, hfz25_1, hfz25_2, hfz25_3⟩ := cs4 BK154.out) | ((with_reducible refine gate_callee (f := 18) rfl ?_); refine goesL_ (some 18) rfl rfl Tryd.func18 (by kernel_rfl) rfl #[.pointer (some ⟨g, 0, none⟩), .int .i64 40] rfl lnp ?_; (with_reducible refine (spec_l01Next.calls g s0_0 t157 t158 40 t168 t169 t170 w0 _ ?side1 ?side2 A19.out).mono ?_); (case side1 => exact st57_2 HI0.out NB0_154.out NB0_155.out); (case side2 => exact bl3 HB.out (IsS57.ge HI0.out) GE154.out GE155.out); rintro e w26 ⟨rfl, hi, hb, hk⟩; refine ⟨_, rfl, ?_⟩; have n_ := (⟨am (KeepBut.blk hk (g' := gb154) (o := .cells #[.int .i64 a1_0, .int .i64 a1_1, .int .i64 a1_2, .int .i64 a1_3] 29 (0, 0)) (bf0 BK154.out) NB154_0.out (by simp)), am (KeepBut.blk hk (g' := gb155) (o := .cells #[.int .i64 0, .int .i64 0] 31 (0, 0)) (bf0 BK155.out) NB155_0.out (by simp)), am (KeepBut.trans (kb2 HK.out GW154.out GW155.out) hk (.inl rfl)), am (hb), am (hi)⟩ : _ ∧ _ ∧ _ ∧ _ ∧ _); clear BK154 BK155 HK HB HI0; obtain ⟨BK154, BK155, HK, HB, HI0⟩ := n_; (try clear hb); (try clear hb2); (try clear hk); (try clear hi); have hnb27 := NB155_0.out; have hnc27 := NB0_155.out; obtain ⟨hcz28_0, hcz28_1, hfz28_0, hfz28_1⟩ := cs2 BK155.out))
   refine bodyPost_ret (results_cell_row rfl _ _ gb155 31 #[.int .i64 1, .int .i64 (wrap64 (1 + t168))] (0, 0) _ rfl (bp0 BK155.out) Tryd.underlying31 rfl (by kernel_rfl)) rfl ?_
   exact ⟨er, st57_2 HI0.out NB0_154.out NB0_155.out, bl3 HB.out (IsS57.ge HI0.out) GE154.out GE155.out, kb2 HK.out GW154.out GW155.out⟩
  ·rw [if_neg c18] at H
   have c18b0 : (a1_0 == 0) = false := beq_eq_false_iff_ne.mpr c18
   have c18b1 : (a1_0 != 0) = true := bne_iff_ne.mpr c18
   replace H := Option.bind_eq_some_iff.mp H
   obtain ⟨⟨t171, t172, t173⟩, A290, H⟩ := H
   replace H : (if t171 = 0 then (some (4, a1_1, t172, t173)) else (if t171 = 1 then (spec_l29DrawEntry.j0 k (t171 == 1) s0_0 t172 t173) else (spec_l29DrawEntry.j0 k (t171 == 2) s0_0 t172 t173))) = some (r1, r2, r3, r4) := H
   have A29 := Aside0.mk A290
   clear A290
   by_cases c30 : t171 = 0
   ·rw [if_pos c30] at H
    have c30b0 : (t171 == 0) = true := beq_iff_eq.mpr c30
    have c30b1 : (t171 != 0) = false := bne_eq_false_iff_eq.mpr c30
    clear c30
    simp only [Option.some.injEq, Prod.mk.injEq] at H
    obtain ⟨rfl, rfl, rfl, rfl⟩ := H
    go_enter Tryd.func25, Tryd.ntmps25
    go_wp2_with (first | ((with_reducible refine gate_dst (N := 3) rfl ?_); refine box_event ?hg (N := 3) ?hd (cs := #[.int .i64 a1_0, .int .i64 a1_1, .int .i64 a1_2, .int .i64 a1_3]) (t := 29) ?hr ?_; (case hd => rfl); (case hg => rfl); (case hr => first | (go_simp; done) | (go_simp; rfl)); intro gb154 hg w31 hbox hb; have n_ := (⟨am (IsS57.below (st57_0 HI0.out) hb), am (KeepBut.trans (kb0 HK.out) (KeepBut.of_below hb g none) (.inl rfl)), am (below_step (bl1 HB.out (IsS57.ge HI0.out)) hb), am (hbox), am ((by rw [hg]; exact (keep_size (w := w) (g := g) (row := none) (kb0 HK.out)) : w.heap.size ≤ gb154)), am ((Nat.le_trans HW0.out (by rw [hg]; exact (keep_size (w := w) (g := g) (row := none) (kb0 HK.out)) : w.heap.size ≤ gb154) : w0.heap.size ≤ gb154)), am ((by rw [hg]; exact Nat.ne_of_lt (IsS57.lt (show IsS57 w0 _ g s0_0 s0_1 s0_2 from st57_0 HI0.out)) : g ≠ gb154)), am ((by rw [hg]; exact Nat.ne_of_gt (IsS57.lt (show IsS57 w0 _ g s0_0 s0_1 s0_2 from st57_0 HI0.out)) : gb154 ≠ g))⟩ : _ ∧ _ ∧ _ ∧ _ ∧ _ ∧ _ ∧ _ ∧ _); clear HI0 HK HB; obtain ⟨HI0, HK, HB, BK154, GW154, GE154, NB0_154, NB154_0⟩ := n_; clear hb hbox hg) | ((with_reducible refine gate_dst (N := 4) rfl ?_); refine box_event ?hg (N := 4) ?hd (cs := #[.int .i64 0, .int .i64 0]) (t := 31) ?hr ?_; (case hd => rfl); (case hg => rfl); (case hr => first | (go_simp; done) | (go_simp; rfl)); intro gb155 hg w32 hbox hb; have n_ := (⟨am (IsS57.below (st57_1 HI0.out NB0_154.out) hb), am (blk_below (bf0 BK154.out) hb), am (KeepBut.trans (kb1 HK.out GW154.out) (KeepBut.of_below hb g none) (.inl rfl)), am (below_step (bl2 HB.out (IsS57.ge HI0.out) GE154.out) hb), am (hbox), am ((by rw [hg]; exact (keep_size (w := w) (g := g) (row := none) (kb1 HK.out GW154.out)) : w.heap.size ≤ gb155)), am ((Nat.le_trans HW0.out (by rw [hg]; exact (keep_size (w := w) (g := g) (row := none) (kb1 HK.out GW154.out)) : w.heap.size ≤ gb155) : w0.heap.size ≤ gb155)), am ((nl hg (bf0 BK154.out) : gb154 ≠ gb155)), am ((ng hg (bf0 BK154.out) : gb155 ≠ gb154)), am ((by rw [hg]; exact Nat.ne_of_lt (IsS57.lt (show IsS57 w0 _ g s0_0 s0_1 s0_2 from st57_1 HI0.out NB0_154.out)) : g ≠ gb155)), am ((by rw [hg]; exact Nat.ne_of_gt (IsS57.lt (show IsS57 w0 _ g s0_0 s0_1 s0_2 from st57_1 HI0.out NB0_154.out)) : gb155 ≠ g))⟩ : _ ∧ _ ∧ _ ∧ _ ∧ _ ∧ _ ∧ _ ∧ _ ∧ _ ∧ _ ∧ _); clear HI0 BK154 HK HB; obtain ⟨HI0, BK154, HK, HB, BK155, GW155, GE155, NB154_155, NB155_154, NB0_155, NB155_0⟩ := n_; clear hb hbox hg) | ((with_reducible refine gate_callee (f := 18) rfl ?_); refine goesL_ (some 6) rfl rfl Tryd.func18 (by kernel_rfl) rfl #[.pointer (some ⟨g, 0, none⟩), .int .i64 20] rfl lnp ?_; (with_reducible refine (spec_l01Next.calls g s0_0 s0_1 s0_2 20 t156 t157 t158 w0 _ ?side1 ?side2 A3.out).mono ?_); (case side1 => exact st57_2 HI0.out NB0_154.out NB0_155.out); (case side2 => exact bl3 HB.out (IsS57.ge HI0.out) GE154.out GE155.out); rintro e w33 ⟨rfl, hi, hb, hk⟩; refine ⟨_, rfl, ?_⟩; have n_ := (⟨am (KeepBut.blk hk (g' := gb154) (o := .cells #[.int .i64 a1_0, .int .i64 a1_1, .int .i64 a1_2, .int .i64 a1_3] 29 (0, 0)) (bf0 BK154.out) NB154_0.out (by simp)), am (KeepBut.blk hk (g' := gb155) (o := .cells #[.int .i64 0, .int .i64 0] 31 (0, 0)) (bf0 BK155.out) NB155_0.out (by simp)), am (KeepBut.trans (kb2 HK.out GW154.out GW155.out) hk (.inl rfl)), am (hb), am (hi)⟩ : _ ∧ _ ∧ _ ∧ _ ∧ _); clear BK154 BK155 HK HB HI0; obtain ⟨BK154, BK155, HK, HB, HI0⟩ := n_; (try clear hb); (try clear hb2); (try clear hk); (try clear hi); have hnb34 := NB154_155.out; have hnc34 := NB155_154.out; have hnb35 := NB154_0.out; have hnc35 := NB0_154.out; obtain ⟨hcz36_0, hcz36_1, hcz36_2, hcz36_3, hfz36_0, hfz36_1, hfz36_2, hfz36_3⟩ := cs4 BK154.out) | ((with_reducible refine gate_callee (f := 18) rfl ?_); refine goesL_ (some 22) rfl rfl Tryd.func18 (by kernel_rfl) rfl #[.pointer (some ⟨g, 0, none⟩), .int .i64 6] rfl lnp ?_; (with_reducible refine (spec_l01Next.calls g s0_0 t157 t158 6 t171 t172 t173 w0 _ ?side1 ?side2 A29.out).mono ?_); (case side1 => exact st57_2 HI0.out NB0_154.out NB0_155.out); (case side2 => exact bl3 HB.out (IsS57.ge HI0.out) GE154.out GE155.out); rintro e w37 ⟨rfl, hi, hb, hk⟩; refine ⟨_, rfl, ?_⟩; have n_ := (⟨am (KeepBut.blk hk (g' := gb154) (o := .cells #[.int .i64 a1_0, .int .i64 a1_1, .int .i64 a1_2, .int .i64 a1_3] 29 (0, 0)) (bf0 BK154.out) NB154_0.out (by simp)), am (KeepBut.blk hk (g' := gb155) (o := .cells #[.int .i64 0, .int .i64 0] 31 (0, 0)) (bf0 BK155.out) NB155_0.out (by simp)), am (KeepBut.trans (kb2 HK.out GW154.out GW155.out) hk (.inl rfl)), am (hb), am (hi)⟩ : _ ∧ _ ∧ _ ∧ _ ∧ _); clear BK154 BK155 HK HB HI0; obtain ⟨BK154, BK155, HK, HB, HI0⟩ := n_; (try clear hb); (try clear hb2); (try clear hk); (try clear hi); obtain ⟨hcz38_0, hcz38_1, hcz38_2, hcz38_3, hfz38_0, hfz38_1, hfz38_2, hfz38_3⟩ := cs4 BK154.out; have hnb39 := NB155_0.out; have hnc39 := NB0_155.out; obtain ⟨hcz40_0, hcz40_1, hfz40_0, hfz40_1⟩ := cs2 BK155.out))
    refine bodyPost_ret (results_cell_row rfl _ _ gb155 31 #[.int .i64 4, .int .i64 a1_1] (0, 0) _ rfl (bp0 BK155.out) Tryd.underlying31 rfl (by kernel_rfl)) rfl ?_
    exact ⟨er, st57_2 HI0.out NB0_154.out NB0_155.out, bl3 HB.out (IsS57.ge HI0.out) GE154.out GE155.out, kb2 HK.out GW154.out GW155.out⟩
   ·rw [if_neg c30] at H
    have c30b0 : (t171 == 0) = false := beq_eq_false_iff_ne.mpr c30
    have c30b1 : (t171 != 0) = true := bne_iff_ne.mpr c30
    have HC41 := Aside0.mk H
    clear H
    go_enter Tryd.func25, Tryd.ntmps25
    go_upto_if 28 with (first | ((with_reducible refine gate_dst (N := 3) rfl ?_); refine box_event ?hg (N := 3) ?hd (cs := #[.int .i64 a1_0, .int .i64 a1_1, .int .i64 a1_2, .int .i64 a1_3]) (t := 29) ?hr ?_; (case hd => rfl); (case hg => rfl); (case hr => first | (go_simp; done) | (go_simp; rfl)); intro gb154 hg w42 hbox hb; have n_ := (⟨am (IsS57.below (st57_0 HI0.out) hb), am (KeepBut.trans (kb0 HK.out) (KeepBut.of_below hb g none) (.inl rfl)), am (below_step (bl1 HB.out (IsS57.ge HI0.out)) hb), am (hbox), am ((by rw [hg]; exact (keep_size (w := w) (g := g) (row := none) (kb0 HK.out)) : w.heap.size ≤ gb154)), am ((Nat.le_trans HW0.out (by rw [hg]; exact (keep_size (w := w) (g := g) (row := none) (kb0 HK.out)) : w.heap.size ≤ gb154) : w0.heap.size ≤ gb154)), am ((by rw [hg]; exact Nat.ne_of_lt (IsS57.lt (show IsS57 w0 _ g s0_0 s0_1 s0_2 from st57_0 HI0.out)) : g ≠ gb154)), am ((by rw [hg]; exact Nat.ne_of_gt (IsS57.lt (show IsS57 w0 _ g s0_0 s0_1 s0_2 from st57_0 HI0.out)) : gb154 ≠ g))⟩ : _ ∧ _ ∧ _ ∧ _ ∧ _ ∧ _ ∧ _ ∧ _); clear HI0 HK HB; obtain ⟨HI0, HK, HB, BK154, GW154, GE154, NB0_154, NB154_0⟩ := n_; clear hb hbox hg) | ((with_reducible refine gate_dst (N := 4) rfl ?_); refine box_event ?hg (N := 4) ?hd (cs := #[.int .i64 0, .int .i64 0]) (t := 31) ?hr ?_; (case hd => rfl); (case hg => rfl); (case hr => first | (go_simp; done) | (go_simp; rfl)); intro gb155 hg w43 hbox hb; have n_ := (⟨am (IsS57.below (st57_1 HI0.out NB0_154.out) hb), am (blk_below (bf0 BK154.out) hb), am (KeepBut.trans (kb1 HK.out GW154.out) (KeepBut.of_below hb g none) (.inl rfl)), am (below_step (bl2 HB.out (IsS57.ge HI0.out) GE154.out) hb), am (hbox), am ((by rw [hg]; exact (keep_size (w := w) (g := g) (row := none) (kb1 HK.out GW154.out)) : w.heap.size ≤ gb155)), am ((Nat.le_trans HW0.out (by rw [hg]; exact (keep_size (w := w) (g := g) (row := none) (kb1 HK.out GW154.out)) : w.heap.size ≤ gb155) : w0.heap.size ≤ gb155)), am ((nl hg (bf0 BK154.out) : gb154 ≠ gb155)), am ((ng hg (bf0 BK154.out) : gb155 ≠ gb154)), am ((by rw [hg]; exact Nat.ne_of_lt (IsS57.lt (show IsS57 w0 _ g s0_0 s0_1 s0_2 from st57_1 HI0.out NB0_154.out)) : g ≠ gb155)), am ((by rw [hg]; exact Nat.ne_of_gt (IsS57.lt (show IsS57 w0 _ g s0_0 s0_1 s0_2 from st57_1 HI0.out NB0_154.out)) : gb155 ≠ g))⟩ : _ ∧ _ ∧ _ ∧ _ ∧ _ ∧ _ ∧ _ ∧ _ ∧ _ ∧ _ ∧ _); clear HI0 BK154 HK HB; obtain ⟨HI0, BK154, HK, HB, BK155, GW155, GE155, NB154_155, NB155_154, NB0_155, NB155_0⟩ := n_; clear hb hbox hg) | ((with_reducible refine gate_callee (f := 18) rfl ?_); refine goesL_ (some 6) rfl rfl Tryd.func18 (by kernel_rfl) rfl #[.pointer (some ⟨g, 0, none⟩), .int .i64 20] rfl lnp ?_; (with_reducible refine (spec_l01Next.calls g s0_0 s0_1 s0_2 20 t156 t157 t158 w0 _ ?side1 ?side2 A3.out).mono ?_); (case side1 => exact st57_2 HI0.out NB0_154.out NB0_155.out); (case side2 => exact bl3 HB.out (IsS57.ge HI0.out) GE154.out GE155.out); rintro e w44 ⟨rfl, hi, hb, hk⟩; refine ⟨_, rfl, ?_⟩; have n_ := (⟨am (KeepBut.blk hk (g' := gb154) (o := .cells #[.int .i64 a1_0, .int .i64 a1_1, .int .i64 a1_2, .int .i64 a1_3] 29 (0, 0)) (bf0 BK154.out) NB154_0.out (by simp)), am (KeepBut.blk hk (g' := gb155) (o := .cells #[.int .i64 0, .int .i64 0] 31 (0, 0)) (bf0 BK155.out) NB155_0.out (by simp)), am (KeepBut.trans (kb2 HK.out GW154.out GW155.out) hk (.inl rfl)), am (hb), am (hi)⟩ : _ ∧ _ ∧ _ ∧ _ ∧ _); clear BK154 BK155 HK HB HI0; obtain ⟨BK154, BK155, HK, HB, HI0⟩ := n_; (try clear hb); (try clear hb2); (try clear hk); (try clear hi); have hnb45 := NB154_155.out; have hnc45 := NB155_154.out; have hnb46 := NB154_0.out; have hnc46 := NB0_154.out; obtain ⟨hcz47_0, hcz47_1, hcz47_2, hcz47_3, hfz47_0, hfz47_1, hfz47_2, hfz47_3⟩ := cs4 BK154.out) | ((with_reducible refine gate_callee (f := 18) rfl ?_); refine goesL_ (some 22) rfl rfl Tryd.func18 (by kernel_rfl) rfl #[.pointer (some ⟨g, 0, none⟩), .int .i64 6] rfl lnp ?_; (with_reducible refine (spec_l01Next.calls g s0_0 t157 t158 6 t171 t172 t173 w0 _ ?side1 ?side2 A29.out).mono ?_); (case side1 => exact st57_2 HI0.out NB0_154.out NB0_155.out); (case side2 => exact bl3 HB.out (IsS57.ge HI0.out) GE154.out GE155.out); rintro e w48 ⟨rfl, hi, hb, hk⟩; refine ⟨_, rfl, ?_⟩; have n_ := (⟨am (KeepBut.blk hk (g' := gb154) (o := .cells #[.int .i64 a1_0, .int .i64 a1_1, .int .i64 a1_2, .int .i64 a1_3] 29 (0, 0)) (bf0 BK154.out) NB154_0.out (by simp)), am (KeepBut.blk hk (g' := gb155) (o := .cells #[.int .i64 0, .int .i64 0] 31 (0, 0)) (bf0 BK155.out) NB155_0.out (by simp)), am (KeepBut.trans (kb2 HK.out GW154.out GW155.out) hk (.inl rfl)), am (hb), am (hi)⟩ : _ ∧ _ ∧ _ ∧ _ ∧ _); clear BK154 BK155 HK HB HI0; obtain ⟨BK154, BK155, HK, HB, HI0⟩ := n_; (try clear hb); (try clear hb2); (try clear hk); (try clear hi)))
    (try simp only [Act.put, List.setIfInBounds_toArray, List.set_cons_zero, List.set_cons_succ])
    go_cut [28] (fun v28 wc => ∃ (kq : Nat) (x28_40 : Bool), v28 = .bool x28_40 ∧ Aside0 (spec_l29DrawEntry.j0 kq x28_40 s0_0 t172 t173 = some (r1, r2, r3, r4)) ∧ Aside0 (kq ≤ k) ∧ Aside0 (wc.heap[gb154]? = some (.cells #[.int .i64 a1_0, .int .i64 a1_1, .int .i64 a1_2, .int .i64 a1_3] 29 (0, 0))) ∧ Aside0 (wc.heap[gb155]? = some (.cells #[.int .i64 0, .int .i64 0] 31 (0, 0))) ∧ Aside0 (IsS57 w0 wc g s0_0 t172 t173) ∧ Aside0 (KeepBut w wc g none) ∧ Aside0 (Below w0.heap.size w0 wc))
    case first =>
     have H := HC41.out
     clear HC41
     by_cases c49 : t171 = 1
     ·rw [if_pos c49] at H
      have c49b0 : (t171 == 1) = true := beq_iff_eq.mpr c49
      have c49b1 : (t171 != 1) = false := bne_eq_false_iff_eq.mpr c49
      clear c49
      (first | rw [c49b0] | (simp only [i64_w, i32_w]; rw [c49b0]) | skip)
      have H' := Aside0.mk H
      clear H
      go_wp2
      go_meet
      case rel => exact ⟨_, ((t171 == 1)), (by first | rfl | (simp; done) | (simp [*]; done)), H', ⟨by first | omega | exact Nat.le_refl _⟩, ⟨bf0 BK154.out⟩, ⟨bf0 BK155.out⟩, ⟨st57_2 HI0.out NB0_154.out NB0_155.out⟩, ⟨kb2 HK.out GW154.out GW155.out⟩, ⟨bl3 HB.out (IsS57.ge HI0.out) GE154.out GE155.out⟩⟩
     ·rw [if_neg c49] at H
      have c49b0 : (t171 == 1) = false := beq_eq_false_iff_ne.mpr c49
      have c49b1 : (t171 != 1) = true := bne_iff_ne.mpr c49
      (first | rw [c49b0] | (simp only [i64_w, i32_w]; rw [c49b0]) | skip)
      have H' := Aside0.mk H
      clear H
      go_wp2
      go_meet
      case rel => exact ⟨_, ((t171 == 2)), (by first | rfl | (simp; done) | (simp [*]; done)), H', ⟨by first | omega | exact Nat.le_refl _⟩, ⟨bf0 BK154.out⟩, ⟨bf0 BK155.out⟩, ⟨st57_2 HI0.out NB0_154.out NB0_155.out⟩, ⟨kb2 HK.out GW154.out GW155.out⟩, ⟨bl3 HB.out (IsS57.ge HI0.out) GE154.out GE155.out⟩⟩
    case rest =>
     clear HC41
     try clear c1
     try clear c2
     try clear p2
     try clear c3
     try clear c4
     try clear c4b0
     try clear c4b1
     try clear p6
     try clear c15
     try clear c16
     try clear c17
     try clear c18
     try clear c18b0
     try clear c18b1
     try clear c23
     try clear c24
     try clear c25
     try clear c27
     try clear c30
     try clear c30b0
     try clear c30b1
     try clear c34
     try clear c35
     try clear c39
     try clear c45
     try clear c46
     try clear c49
     try clear c49b0
     try clear c49b1
     try clear hcz17_0
     try clear hcz17_1
     try clear hcz25_0
     try clear hcz25_1
     try clear hcz25_2
     try clear hcz25_3
     try clear hcz28_0
     try clear hcz28_1
     try clear hcz36_0
     try clear hcz36_1
     try clear hcz36_2
     try clear hcz36_3
     try clear hcz38_0
     try clear hcz38_1
     try clear hcz38_2
     try clear hcz38_3
     try clear hcz40_0
     try clear hcz40_1
     try clear hcz47_0
     try clear hcz47_1
     try clear hcz47_2
     try clear hcz47_3
     try clear hfz17_0
     try clear hfz17_1
     try clear hfz25_0
     try clear hfz25_1
     try clear hfz25_2
     try clear hfz25_3
     try clear hfz28_0
     try clear hfz28_1
     try clear hfz36_0
     try clear hfz36_1
     try clear hfz36_2
     try clear hfz36_3
     try clear hfz38_0
     try clear hfz38_1
     try clear hfz38_2
     try clear hfz38_3
     try clear hfz40_0
     try clear hfz40_1
     try clear hfz47_0
     try clear hfz47_1
     try clear hfz47_2
     try clear hfz47_3
     obtain ⟨kq, x28_40, rfl, HA, HJ40, BK154, BK155, HI0, HK, HB⟩ := hcut
     cases kq with
     | zero => exact absurd HA.out (by simp [spec_l29DrawEntry.j0])
     | succ kj40 =>
      have H := HA.out
      clear HA
      simp only [spec_l29DrawEntry.j0] at H
      by_cases c50 : x28_40 = true
      ·subst c50
       have H1 : ((spec_l01Next.f s0_0 t172 t173 5).bind fun bt174 => (some (3, bt174.1, bt174.2.1, bt174.2.2))) = some (r1, r2, r3, r4) := by rw [if_pos rfl] at H; exact H
       clear H
       have H := H1
       clear H1
       replace H := Option.bind_eq_some_iff.mp H
       obtain ⟨⟨t174, t175, t176⟩, A510, H⟩ := H
       replace H : (some (3, t174, t175, t176)) = some (r1, r2, r3, r4) := H
       have A51 := Aside0.mk A510
       clear A510
       simp only [Option.some.injEq, Prod.mk.injEq] at H
       obtain ⟨rfl, rfl, rfl, rfl⟩ := H
       go_wp2_with (first | ((with_reducible refine gate_callee (f := 18) rfl ?_); refine goesL_ (some 32) rfl rfl Tryd.func18 (by kernel_rfl) rfl #[.pointer (some ⟨g, 0, none⟩), .int .i64 5] rfl lnp ?_; (with_reducible refine (spec_l01Next.calls g s0_0 t172 t173 5 t174 t175 t176 w0 _ ?side1 ?side2 A51.out).mono ?_); (case side1 => exact st57_2 HI0.out NB0_154.out NB0_155.out); (case side2 => exact bl3 HB.out (IsS57.ge HI0.out) GE154.out GE155.out); rintro e w52 ⟨rfl, hi, hb, hk⟩; refine ⟨_, rfl, ?_⟩; have n_ := (⟨am (KeepBut.blk hk (g' := gb154) (o := .cells #[.int .i64 a1_0, .int .i64 a1_1, .int .i64 a1_2, .int .i64 a1_3] 29 (0, 0)) (bf0 BK154.out) NB154_0.out (by simp)), am (KeepBut.blk hk (g' := gb155) (o := .cells #[.int .i64 0, .int .i64 0] 31 (0, 0)) (bf0 BK155.out) NB155_0.out (by simp)), am (KeepBut.trans (kb2 HK.out GW154.out GW155.out) hk (.inl rfl)), am (hb), am (hi)⟩ : _ ∧ _ ∧ _ ∧ _ ∧ _); clear BK154 BK155 HK HB HI0; obtain ⟨BK154, BK155, HK, HB, HI0⟩ := n_; (try clear hb); (try clear hb2); (try clear hk); (try clear hi); have hnb53 := NB155_154.out; have hnc53 := NB154_155.out; have hnb54 := NB155_0.out; have hnc54 := NB0_155.out; obtain ⟨hcz55_0, hcz55_1, hfz55_0, hfz55_1⟩ := cs2 BK155.out))
       refine bodyPost_ret (results_cell_row rfl _ _ gb155 31 #[.int .i64 3, .int .i64 t174] (0, 0) _ rfl (bp0 BK155.out) Tryd.underlying31 rfl (by kernel_rfl)) rfl ?_
       exact ⟨er, st57_2 HI0.out NB0_154.out NB0_155.out, bl3 HB.out (IsS57.ge HI0.out) GE154.out GE155.out, kb2 HK.out GW154.out GW155.out⟩
      ·replace c50 := Bool.eq_false_iff.mpr c50
       subst c50
       have H1 : ((spec_l01Next.f s0_0 t172 t173 60).bind fun bt177 => (some (2, bt177.1, bt177.2.1, bt177.2.2))) = some (r1, r2, r3, r4) := by rw [if_neg (show ¬ (false = true) by decide)] at H; exact H
       clear H
       have H := H1
       clear H1
       replace H := Option.bind_eq_some_iff.mp H
       obtain ⟨⟨t177, t178, t179⟩, A560, H⟩ := H
       replace H : (some (2, t177, t178, t179)) = some (r1, r2, r3, r4) := H
       have A56 := Aside0.mk A560
       clear A560
       simp only [Option.some.injEq, Prod.mk.injEq] at H
       obtain ⟨rfl, rfl, rfl, rfl⟩ := H
       go_wp2_with (first | ((with_reducible refine gate_callee (f := 18) rfl ?_); refine goesL_ (some 35) rfl rfl Tryd.func18 (by kernel_rfl) rfl #[.pointer (some ⟨g, 0, none⟩), .int .i64 60] rfl lnp ?_; (with_reducible refine (spec_l01Next.calls g s0_0 t172 t173 60 t177 t178 t179 w0 _ ?side1 ?side2 A56.out).mono ?_); (case side1 => exact st57_2 HI0.out NB0_154.out NB0_155.out); (case side2 => exact bl3 HB.out (IsS57.ge HI0.out) GE154.out GE155.out); rintro e w57 ⟨rfl, hi, hb, hk⟩; refine ⟨_, rfl, ?_⟩; have n_ := (⟨am (KeepBut.blk hk (g' := gb154) (o := .cells #[.int .i64 a1_0, .int .i64 a1_1, .int .i64 a1_2, .int .i64 a1_3] 29 (0, 0)) (bf0 BK154.out) NB154_0.out (by simp)), am (KeepBut.blk hk (g' := gb155) (o := .cells #[.int .i64 0, .int .i64 0] 31 (0, 0)) (bf0 BK155.out) NB155_0.out (by simp)), am (KeepBut.trans (kb2 HK.out GW154.out GW155.out) hk (.inl rfl)), am (hb), am (hi)⟩ : _ ∧ _ ∧ _ ∧ _ ∧ _); clear BK154 BK155 HK HB HI0; obtain ⟨BK154, BK155, HK, HB, HI0⟩ := n_; (try clear hb); (try clear hb2); (try clear hk); (try clear hi); have hnb58 := NB155_154.out; have hnc58 := NB154_155.out; have hnb59 := NB155_0.out; have hnc59 := NB0_155.out; obtain ⟨hcz60_0, hcz60_1, hfz60_0, hfz60_1⟩ := cs2 BK155.out))
       refine bodyPost_ret (results_cell_row rfl _ _ gb155 31 #[.int .i64 2, .int .i64 t177] (0, 0) _ rfl (bp0 BK155.out) Tryd.underlying31 rfl (by kernel_rfl)) rfl ?_
       exact ⟨er, st57_2 HI0.out NB0_154.out NB0_155.out, bl3 HB.out (IsS57.ge HI0.out) GE154.out GE155.out, kb2 HK.out GW154.out GW155.out⟩

/-! ### spec_l29Draw: function 31 -/
mutual
def spec_l29Draw.l0 : Nat → List (S31) → Int → List Int → Int → Int → Int → Int → Int → Int → Option ((List (S31)) × Int × Int)
 | 0, _, _, _, _, _, _, _, _, _ => none
 | k + 1, x3, x5, x1000, x1001, x1002, x184000, x184001, x184002, x184003 => if x5 > 0 then ((spec_l29DrawEntry.f k x1000 x1001 x1002 x184000 x184001 x184002 x184003).bind fun bt187 => ((spec_l29Make.f x184000 x184001 x184002 x184003 bt187.1 bt187.2.1).bind fun bt192 => (if bt192.2.2.2.2 = true then (if x3.length < 8796093022208 then (spec_l29Draw.l0 k (x3 ++ [(⟨bt187.1, bt187.2.1⟩ : S31)]) (wrap64 (x5 - 1)) x1000 bt187.2.2.1 bt187.2.2.2 bt192.1 bt192.2.1 bt192.2.2.1 bt192.2.2.2.1) else (none)) else ((spec_l01Next.f x1000 bt187.2.2.1 bt187.2.2.2 6).bind fun bt201 => (if bt201.1 > 0 then (spec_l29Draw.l0 k x3 (wrap64 (x5 - 1)) x1000 bt201.2.1 bt201.2.2 x184000 x184001 x184002 x184003) else (if x3.length < 8796093022208 then (spec_l29Draw.l0 k (x3 ++ [(⟨bt187.1, bt187.2.1⟩ : S31)]) (wrap64 (x5 - 1)) x1000 bt201.2.1 bt201.2.2 x184000 x184001 x184002 x184003) else (none))))))) else ((spec_l01Next.f x1000 x1001 x1002 50).bind fun bt207 => (if bt207.1 = 0 then ((spec_l01Next.f x1000 bt207.2.1 bt207.2.2 2).bind fun bt213 => (spec_l29Draw.l1 k (([(⟨1, 1⟩ : S31)] : List (S31))) (wrap64 (199 + bt213.1)) x1000 bt213.2.1 bt213.2.2)) else (some (x3, bt207.2.1, bt207.2.2))))
def spec_l29Draw.l1 : Nat → List (S31) → Int → List Int → Int → Int → Option ((List (S31)) × Int × Int)
 | 0, _, _, _, _, _ => none
 | k + 1, x3, x9, x1000, x1001, x1002 => if x9 > 0 then (if x3.length < 8796093022208 then (spec_l29Draw.l1 k (x3 ++ [(⟨2, x9⟩ : S31)]) (wrap64 (x9 - 1)) x1000 x1001 x1002) else (none)) else (some (x3, x1001, x1002))
end
def spec_l29Draw.f (k : Nat) (s0_0 : List Int) (s0_1 : Int) (s0_2 : Int) : Option ((List (S31)) × Int × Int) := (spec_l01Next.f s0_0 s0_1 s0_2 14).bind fun bt184 => (spec_l29Draw.l0 k (([] : List (S31))) bt184.1 s0_0 bt184.2.1 bt184.2.2 0 0 0 0)
theorem spec_l29Draw.mono_l : ∀ k, (∀ y0 y1 y2 y3 y4 y5 y6 y7 y8, LeO (spec_l29Draw.l0 k y0 y1 y2 y3 y4 y5 y6 y7 y8) (spec_l29Draw.l0 (k + 1) y0 y1 y2 y3 y4 y5 y6 y7 y8)) ∧ (∀ y0 y1 y2 y3 y4, LeO (spec_l29Draw.l1 k y0 y1 y2 y3 y4) (spec_l29Draw.l1 (k + 1) y0 y1 y2 y3 y4))
 | 0 => ⟨fun _ _ _ _ _ _ _ _ _ r h => by simp [spec_l29Draw.l0] at h, fun _ _ _ _ _ r h => by simp [spec_l29Draw.l1] at h⟩
 | k + 1 => by
  obtain ⟨ih0, ih1⟩ := spec_l29Draw.mono_l k
  refine ⟨?_, ?_⟩
  ·intro y0 y1 y2 y3 y4 y5 y6 y7 y8
   unfold spec_l29Draw.l0
   repeat' first | (with_reducible first | exact ih0 _ _ _ _ _ _ _ _ _ | exact ih1 _ _ _ _ _ | exact spec_l29DrawEntry.mono _ _ _ _ _ _ _ _ | exact LeO.refl _ | exact LeO.none _ | refine LeO.ite ?_ ?_ | refine LeO.bind ?_ (fun _ => ?_)) | exact ih0 _ _ _ _ _ _ _ _ _ | exact ih1 _ _ _ _ _ | exact spec_l29DrawEntry.mono _ _ _ _ _ _ _ _ | exact LeO.none _ | refine LeO.ite ?_ ?_ | refine LeO.bind ?_ (fun _ => ?_)
  ·intro y0 y1 y2 y3 y4
   unfold spec_l29Draw.l1
   repeat' first | (with_reducible first | exact ih0 _ _ _ _ _ _ _ _ _ | exact ih1 _ _ _ _ _ | exact spec_l29DrawEntry.mono _ _ _ _ _ _ _ _ | exact LeO.refl _ | exact LeO.none _ | refine LeO.ite ?_ ?_ | refine LeO.bind ?_ (fun _ => ?_)) | exact ih0 _ _ _ _ _ _ _ _ _ | exact ih1 _ _ _ _ _ | exact spec_l29DrawEntry.mono _ _ _ _ _ _ _ _ | exact LeO.none _ | refine LeO.ite ?_ ?_ | refine LeO.bind ?_ (fun _ => ?_)
theorem spec_l29Draw.mono : ∀ a0 a1 a2 k, LeO (spec_l29Draw.f k a0 a1 a2) (spec_l29Draw.f (k + 1) a0 a1 a2) := by
 intro a0 a1 a2 k
 obtain ⟨ih0, ih1⟩ := spec_l29Draw.mono_l k
 unfold spec_l29Draw.f
 repeat' first | (with_reducible first | exact ih0 _ _ _ _ _ _ _ _ _ | exact ih1 _ _ _ _ _ | exact spec_l29DrawEntry.mono _ _ _ _ _ _ _ _ | exact LeO.refl _ | exact LeO.none _ | refine LeO.ite ?_ ?_ | refine LeO.bind ?_ (fun _ => ?_)) | exact ih0 _ _ _ _ _ _ _ _ _ | exact ih1 _ _ _ _ _ | exact spec_l29DrawEntry.mono _ _ _ _ _ _ _ _ | exact LeO.none _ | refine LeO.ite ?_ ?_ | refine LeO.bind ?_ (fun _ => ?_)
theorem spec_l29Draw.calls (k : Nat) (g : Nat) (s0_0 : List Int) (s0_1 : Int) (s0_2 : Int) (r1 : List (S31)) (r2 : Int) (r3 : Int) (w0 w : World) (hI : IsS57 w0 w g s0_0 s0_1 s0_2) (hB : Below w0.heap.size w0 w) (h : spec_l29Draw.f k s0_0 s0_1 s0_2 = some (r1, r2, r3)) :
  Calls Tryd.prog 31 #[.pointer (some ⟨g, 0, none⟩)] w fun e w' => ∃ v0_ : Value, e = .returned (v0_) ∧ Kd.R k31 31 w' w.heap.size (fun _ => True) v0_ r1 ∧ IsS57 w0 w' g s0_0 r2 r3 ∧ Below w0.heap.size w0 w' ∧ KeepBut w w' g none := by
 have hu29 := Tryd.underlying29
 have hu31 := Tryd.underlying31
 have HI0 := Aside0.mk hI
 have HK := am (KeepBut.refl w g none)
 have HL := Aside0.mk hB.size
 clear hI
 have HW0 := Aside0.mk hB.size
 have HB := Aside0.mk hB
 clear hB
 have H : ((spec_l01Next.f s0_0 s0_1 s0_2 14).bind fun bt184 => (spec_l29Draw.l0 k (([] : List (S31))) bt184.1 s0_0 bt184.2.1 bt184.2.2 0 0 0 0)) = some (r1, r2, r3) := h
 clear h
 obtain ⟨y180, hy180⟩ : ∃ y_ : List (S31), y_ = (([] : List (S31))) := ⟨_, rfl⟩
 replace H : ((spec_l01Next.f s0_0 s0_1 s0_2 14).bind fun bt184 => (spec_l29Draw.l0 k y180 bt184.1 s0_0 bt184.2.1 bt184.2.2 0 0 0 0)) = some (r1, r2, r3) := by first | (rw [hy180]; with_reducible exact H) | (have H2_ := (Option.bind_some _ _).symm.trans H; rw [hy180]; with_reducible exact H2_) | (have H2_ := (Option.bind_some _ _).symm.trans H; with_reducible exact H2_) | with_reducible exact H | (rw [hy180]; exact H) | exact H
 have Ny180 := Aside0.mk hy180
 clear hy180
 replace H := Option.bind_eq_some_iff.mp H
 obtain ⟨⟨t184, t185, t186⟩, A20, H⟩ := H
 replace H : (spec_l29Draw.l0 k y180 t184 s0_0 t185 t186 0 0 0 0) = some (r1, r2, r3) := H
 have A2 := Aside0.mk A20
 clear A20
 have H' := Aside0.mk H
 clear H
 go_enter Tryd.func31, Tryd.ntmps31
 go_wp2_with (first | ((with_reducible refine gate_dst (N := 10) rfl ?_); refine Kd.R_lit k31 _ 31 ?hg (N := 10) ?hd (xs := ([] : List (S31))) (inner := []) (ok := fun _ => True) (okp := fun _ => True) ?hr ?hp (fun _ hk => hk) trivial (Below.refl _ _) (Nat.le_refl _) (by simp) ?_; (case hd => rfl); (case hg => rfl); (case hr => first | (go_simp; done) | (go_simp; rfl)); (case hp => exact (Reps.none _ _)); intro v181 w3 ho4 hb hg_ hnew_; clear hg_ hnew_; (first | rw [← Ny180.out] at ho4 | (simp only [Int.reduceToNat] at ho4; rw [← Ny180.out] at ho4)); have n_ := (⟨am (Kd.R_lower ho4 (keep_size (w := w) (g := g) (row := none) (kb0 HK.out))), am (IsS57.below (st57_0 HI0.out) hb), am (KeepBut.trans (kb0 HK.out) (KeepBut.of_below hb g none) (.inl rfl)), am (below_step (bl1 HB.out (IsS57.ge HI0.out)) hb)⟩ : _ ∧ _ ∧ _ ∧ _); clear HI0 HK HB; obtain ⟨HO182, HI0, HK, HB⟩ := n_; clear hb ho4) | ((with_reducible refine gate_dst (N := 4) rfl ?_); refine box_event ?hg (N := 4) ?hd (cs := #[.int .i64 0, .int .i64 0, .int .i64 0, .int .i64 0]) (t := 29) ?hr ?_; (case hd => rfl); (case hg => rfl); (case hr => first | (go_simp; done) | (go_simp; rfl)); intro gb183 hg w5 hbox hb; have n_ := (⟨am (Kd.R_below (rqR HO182.out) hb), am (IsS57.below (st57_0 HI0.out) hb), am (KeepBut.trans (kb0 HK.out) (KeepBut.of_below hb g none) (.inl rfl)), am (below_step (bl1 HB.out (IsS57.ge HI0.out)) hb), am (hbox), am ((by rw [hg]; exact (keep_size (w := w) (g := g) (row := none) (kb0 HK.out)) : w.heap.size ≤ gb183)), am ((Nat.le_trans HW0.out (by rw [hg]; exact (keep_size (w := w) (g := g) (row := none) (kb0 HK.out)) : w.heap.size ≤ gb183) : w0.heap.size ≤ gb183)), am ((by rw [hg]; exact Nat.ne_of_lt (IsS57.lt (show IsS57 w0 _ g s0_0 s0_1 s0_2 from st57_0 HI0.out)) : g ≠ gb183)), am ((by rw [hg]; exact Nat.ne_of_gt (IsS57.lt (show IsS57 w0 _ g s0_0 s0_1 s0_2 from st57_0 HI0.out)) : gb183 ≠ g))⟩ : _ ∧ _ ∧ _ ∧ _ ∧ _ ∧ _ ∧ _ ∧ _ ∧ _); clear HO182 HI0 HK HB; obtain ⟨HO182, HI0, HK, HB, BK183, GW183, GE183, NB0_183, NB183_0⟩ := n_; clear hb hbox hg; have hnb6 := NB183_0.out; have hnc6 := NB0_183.out; obtain ⟨hcz7_0, hcz7_1, hcz7_2, hcz7_3, hfz7_0, hfz7_1, hfz7_2, hfz7_3⟩ := cs4 BK183.out) | ((with_reducible refine gate_callee (f := 18) rfl ?_); refine goesL_ (some 13) rfl rfl Tryd.func18 (by kernel_rfl) rfl #[.pointer (some ⟨g, 0, none⟩), .int .i64 14] rfl lnp ?_; (with_reducible refine (spec_l01Next.calls g s0_0 s0_1 s0_2 14 t184 t185 t186 w0 _ ?side1 ?side2 A2.out).mono ?_); (case side1 => exact st57_1 HI0.out NB0_183.out); (case side2 => exact bl2 HB.out (IsS57.ge HI0.out) GE183.out); rintro e w8 ⟨rfl, hi, hb, hk⟩; refine ⟨_, rfl, ?_⟩; have n_ := (⟨am (Kd.R_mono (Kd.R_keep (IsS57.apart (show IsS57 w0 _ g s0_0 s0_1 s0_2 from st57_1 HI0.out NB0_183.out) (by (with_reducible repeat (first | apply Kd.R_alloc | apply Kd.R_drewN | apply Kd.R_drew)); exact (Kd.R_mono (Kd.R_far (p := ⟨gb183, 3, none⟩) (Kd.R_far (p := ⟨gb183, 2, none⟩) (Kd.R_far (p := ⟨gb183, 1, none⟩) (Kd.R_far (p := ⟨gb183, 0, none⟩) (Kd.R_types HO182.out BK183.out (by decide)) (fun _ hk => hk.2) (.int .i64 0)) (fun _ hk => hk.2) (.int .i64 0)) (fun _ hk => hk.2) (.int .i64 0)) (fun _ hk => hk.2) (.int .i64 0)) (fun _ h_ => h_.1))) (by decide)) hk (fun _ h => h.2)) (fun _ h => h.1)), am (KeepBut.blk hk (g' := gb183) (o := .cells #[.int .i64 0, .int .i64 0, .int .i64 0, .int .i64 0] 29 (0, 0)) (bp0 BK183.out) NB183_0.out (by simp)), am (KeepBut.trans (kb1 HK.out GW183.out) hk (.inl rfl)), am (hb), am (hi)⟩ : _ ∧ _ ∧ _ ∧ _ ∧ _); clear HO182 BK183 HK HB HI0; obtain ⟨HO182, BK183, HK, HB, HI0⟩ := n_; (try clear hb); (try clear hb2); (try clear hk); (try clear hi)))
 go_loopg [3, 5] k (fun kq v3 v5 w' => ∃ (x3_1 : List (S31)) (x5_1 : Int) (x1001_1 : Int) (x1002_1 : Int) (x184000_1 : Int) (x184001_1 : Int) (x184002_1 : Int) (x184003_1 : Int), v5 = .int .i64 x5_1 ∧ Aside0 (spec_l29Draw.l0 kq x3_1 x5_1 s0_0 x1001_1 x1002_1 x184000_1 x184001_1 x184002_1 x184003_1 = some (r1, r2, r3)) ∧ Aside0 (kq ≤ k) ∧ Aside0 (Kd.R k31 31 w' w.heap.size (fun _ => True) v3 x3_1) ∧ Aside0 (w'.heap[gb183]? = some (.cells #[.int .i64 x184000_1, .int .i64 x184001_1, .int .i64 x184002_1, .int .i64 x184003_1] 29 (0, 0))) ∧ Aside0 (IsS57 w0 w' g s0_0 x1001_1 x1002_1) ∧ Aside0 (KeepBut w w' g none) ∧ Aside0 (Below w0.heap.size w0 w'))
 case atStart => exact ⟨(y180), (t184), (t185), (t186), (0), (0), (0), (0), (by first | rfl | (simp; done) | (simp [*]; done)), H', ⟨Nat.le_refl _⟩, ⟨by (with_reducible repeat (first | apply Kd.R_alloc | apply Kd.R_drewN | apply Kd.R_drew)); exact HO182.out⟩, ⟨bf0 BK183.out⟩, ⟨st57_1 HI0.out NB0_183.out⟩, ⟨kb1 HK.out GW183.out⟩, ⟨bl2 HB.out (IsS57.ge HI0.out) GE183.out⟩⟩
 case round =>
  clear H'
  try clear c1
  try clear p2
  try clear c3
  try clear c6
  try clear hcz7_0
  try clear hcz7_1
  try clear hcz7_2
  try clear hcz7_3
  try clear hfz7_0
  try clear hfz7_1
  try clear hfz7_2
  try clear hfz7_3
  obtain ⟨x3_1, x5_1, x1001_1, x1002_1, x184000_1, x184001_1, x184002_1, x184003_1, rfl, HA, HK1, HO_3, BK183, HI0, HK, HB⟩ := hrel
  cases gk with
  | zero => exact absurd HA.out (by simp [spec_l29Draw.l0])
  | succ k1 =>
   have H := HA.out
   clear HA
   simp only [spec_l29Draw.l0] at H
   by_cases c9 : x5_1 > 0
   ·rw [if_pos c9] at H
    have c9b0 : decide (0 < x5_1) = true := decide_eq_true c9
    clear c9
    replace H := Option.bind_eq_some_iff.mp H
    obtain ⟨⟨t187, t188, t189, t190⟩, A100, H⟩ := H
    replace H : ((spec_l29Make.f x184000_1 x184001_1 x184002_1 x184003_1 t187 t188).bind fun bt192 => (if bt192.2.2.2.2 = true then (if x3_1.length < 8796093022208 then (spec_l29Draw.l0 k1 (x3_1 ++ [(⟨t187, t188⟩ : S31)]) (wrap64 (x5_1 - 1)) s0_0 t189 t190 bt192.1 bt192.2.1 bt192.2.2.1 bt192.2.2.2.1) else (none)) else ((spec_l01Next.f s0_0 t189 t190 6).bind fun bt201 => (if bt201.1 > 0 then (spec_l29Draw.l0 k1 x3_1 (wrap64 (x5_1 - 1)) s0_0 bt201.2.1 bt201.2.2 x184000_1 x184001_1 x184002_1 x184003_1) else (if x3_1.length < 8796093022208 then (spec_l29Draw.l0 k1 (x3_1 ++ [(⟨t187, t188⟩ : S31)]) (wrap64 (x5_1 - 1)) s0_0 bt201.2.1 bt201.2.2 x184000_1 x184001_1 x184002_1 x184003_1) else (none)))))) = some (r1, r2, r3) := H
    have A10 := Aside0.mk A100
    clear A100
    replace H := Option.bind_eq_some_iff.mp H
    obtain ⟨⟨t192, t193, t194, t195, t196⟩, A110, H⟩ := H
    replace H : (if t196 = true then (if x3_1.length < 8796093022208 then (spec_l29Draw.l0 k1 (x3_1 ++ [(⟨t187, t188⟩ : S31)]) (wrap64 (x5_1 - 1)) s0_0 t189 t190 t192 t193 t194 t195) else (none)) else ((spec_l01Next.f s0_0 t189 t190 6).bind fun bt201 => (if bt201.1 > 0 then (spec_l29Draw.l0 k1 x3_1 (wrap64 (x5_1 - 1)) s0_0 bt201.2.1 bt201.2.2 x184000_1 x184001_1 x184002_1 x184003_1) else (if x3_1.length < 8796093022208 then (spec_l29Draw.l0 k1 (x3_1 ++ [(⟨t187, t188⟩ : S31)]) (wrap64 (x5_1 - 1)) s0_0 bt201.2.1 bt201.2.2 x184000_1 x184001_1 x184002_1 x184003_1) else (none))))) = some (r1, r2, r3) := H
    have A11 := Aside0.mk A110
    clear A110
    by_cases c12 : t196 = true
    ·subst c12
     have H1 : (if x3_1.length < 8796093022208 then (spec_l29Draw.l0 k1 (x3_1 ++ [(⟨t187, t188⟩ : S31)]) (wrap64 (x5_1 - 1)) s0_0 t189 t190 t192 t193 t194 t195) else (none)) = some (r1, r2, r3) := by rw [if_pos rfl] at H; exact H
     clear H
     have H := H1
     clear H1
     by_cases c13 : x3_1.length < 8796093022208
     ·rw [if_pos c13] at H
      have LMc13 := Aside0.mk c13
      clear c13
      obtain ⟨y198, hy198⟩ : ∃ y_ : List (S31), y_ = (x3_1 ++ [(⟨t187, t188⟩ : S31)]) := ⟨_, rfl⟩
      replace H : (spec_l29Draw.l0 k1 y198 (wrap64 (x5_1 - 1)) s0_0 t189 t190 t192 t193 t194 t195) = some (r1, r2, r3) := by first | (rw [hy198]; with_reducible exact H) | (have H2_ := (Option.bind_some _ _).symm.trans H; rw [hy198]; with_reducible exact H2_) | (have H2_ := (Option.bind_some _ _).symm.trans H; with_reducible exact H2_) | with_reducible exact H | (rw [hy198]; exact H) | exact H
      have Ny198 := Aside0.mk hy198
      clear hy198
      have H' := Aside0.mk H
      clear H
      have hnb14 := NB183_0.out
      have hnc14 := NB0_183.out
      obtain ⟨hcz15_0, hcz15_1, hcz15_2, hcz15_3, hfz15_0, hfz15_1, hfz15_2, hfz15_3⟩ := cs4 BK183.out
      go_wp2_with (first | ((with_reducible refine gate_callee (f := 25) rfl ?_); refine goesL_ (some 20) rfl rfl Tryd.func25 (by kernel_rfl) rfl #[.pointer (some ⟨g, 0, none⟩), .agg #[.int .i64 x184000_1, .int .i64 x184001_1, .int .i64 x184002_1, .int .i64 x184003_1]] rfl lnp ?_; (with_reducible refine (spec_l29DrawEntry.calls k1 g s0_0 x1001_1 x1002_1 x184000_1 x184001_1 x184002_1 x184003_1 t187 t188 t189 t190 w0 _ ?side1 ?side2 A10.out).mono ?_); (case side1 => exact st57_1 HI0.out NB0_183.out); (case side2 => exact bl2 HB.out (IsS57.ge HI0.out) GE183.out); rintro e w16 ⟨rfl, hi, hb, hk⟩; refine ⟨_, rfl, ?_⟩; have n_ := (⟨am (Kd.R_mono (Kd.R_keep (IsS57.apart (show IsS57 w0 _ g s0_0 x1001_1 x1002_1 from st57_1 HI0.out NB0_183.out) (rqR HO_3.out) (by decide)) hk (fun _ h => h.2)) (fun _ h => h.1)), am (KeepBut.blk hk (g' := gb183) (o := .cells #[.int .i64 x184000_1, .int .i64 x184001_1, .int .i64 x184002_1, .int .i64 x184003_1] 29 (0, 0)) (bf0 BK183.out) NB183_0.out (by simp)), am (KeepBut.trans (kb1 HK.out GW183.out) hk (.inl rfl)), am (hb), am (hi)⟩ : _ ∧ _ ∧ _ ∧ _ ∧ _); clear HO_3 BK183 HK HB HI0; obtain ⟨HO_3, BK183, HK, HB, HI0⟩ := n_; (try clear hb); (try clear hb2); (try clear hk); (try clear hi)) | ((with_reducible refine gate_dst (N := 6) rfl ?_); refine box_event ?hg (N := 6) ?hd (cs := #[.int .i64 0, .int .i64 0]) (t := 31) ?hr ?_; (case hd => rfl); (case hg => rfl); (case hr => first | (go_simp; done) | (go_simp; rfl)); intro gb191 hg w17 hbox hb; have n_ := (⟨am (Kd.R_below (Kd.R_elderB (rqR HO_3.out) gb191 (Nat.le_of_eq hg.symm)) hb), am (blk_below (bf0 BK183.out) hb), am (IsS57.below (st57_1 HI0.out NB0_183.out) hb), am (KeepBut.trans (kb1 HK.out GW183.out) (KeepBut.of_below hb g none) (.inl rfl)), am (below_step (bl2 HB.out (IsS57.ge HI0.out) GE183.out) hb), am (hbox), am ((by rw [hg]; exact (keep_size (w := w) (g := g) (row := none) (kb1 HK.out GW183.out)) : w.heap.size ≤ gb191)), am ((Nat.le_trans HW0.out (by rw [hg]; exact (keep_size (w := w) (g := g) (row := none) (kb1 HK.out GW183.out)) : w.heap.size ≤ gb191) : w0.heap.size ≤ gb191)), am ((nl hg (bf0 BK183.out) : gb183 ≠ gb191)), am ((ng hg (bf0 BK183.out) : gb191 ≠ gb183)), am ((by rw [hg]; exact Nat.ne_of_lt (IsS57.lt (show IsS57 w0 _ g s0_0 t189 t190 from st57_1 HI0.out NB0_183.out)) : g ≠ gb191)), am ((by rw [hg]; exact Nat.ne_of_gt (IsS57.lt (show IsS57 w0 _ g s0_0 t189 t190 from st57_1 HI0.out NB0_183.out)) : gb191 ≠ g))⟩ : _ ∧ _ ∧ _ ∧ _ ∧ _ ∧ _ ∧ _ ∧ _ ∧ _ ∧ _ ∧ _ ∧ _); clear HO_3 BK183 HI0 HK HB; obtain ⟨HO_3, BK183, HI0, HK, HB, BK191, GW191, GE191, NB183_191, NB191_183, NB0_191, NB191_0⟩ := n_; clear hb hbox hg; have hnb18 := NB191_183.out; have hnc18 := NB183_191.out; have hnb19 := NB191_0.out; have hnc19 := NB0_191.out; obtain ⟨hcz20_0, hcz20_1, hfz20_0, hfz20_1⟩ := cs2 BK191.out; obtain ⟨hcz21_0, hcz21_1, hcz21_2, hcz21_3, hfz21_0, hfz21_1, hfz21_2, hfz21_3⟩ := cs4 BK183.out) | ((with_reducible refine gate_callee (f := 27) rfl ?_); refine goesL_ (some 24) rfl rfl Tryd.func27 (by kernel_rfl) rfl #[.agg #[.int .i64 x184000_1, .int .i64 x184001_1, .int .i64 x184002_1, .int .i64 x184003_1], .agg #[.int .i64 t187, .int .i64 t188]] rfl lnp ?_; (with_reducible refine (spec_l29Make.calls x184000_1 x184001_1 x184002_1 x184003_1 t187 t188 t192 t193 t194 t195 true _ A11.out).mono ?_); rintro e w22 ⟨rfl, hb⟩; refine ⟨_, rfl, ?_⟩; have n_ := (⟨am (Kd.R_below (by (with_reducible repeat (first | apply Kd.R_alloc | apply Kd.R_drewN | apply Kd.R_drew)); exact (Kd.R_mono (Kd.R_far (p := ⟨gb191, 1, none⟩) (Kd.R_far (p := ⟨gb191, 0, none⟩) (Kd.R_mono HO_3.out (fun k_ hk => (⟨hk, hk.2⟩ : _ ∧ k_ ≠ gb191))) (fun _ hk => hk.2) (.int .i64 t187)) (fun _ hk => hk.2) (.int .i64 t188)) (fun _ h_ => h_.1))) hb), am (blk_below (bf1 BK183.out NB183_191.out) hb), am (IsS57.below (show IsS57 w0 ((w17.setCell ⟨gb191, 0, none⟩ (.int .i64 t187)).setCell ⟨gb191, 1, none⟩ (.int .i64 t188)) g s0_0 t189 t190 from st57_2 HI0.out NB0_183.out NB0_191.out) hb), am (blk_below (g := gb191) (o := .cells #[.int .i64 t187, .int .i64 t188] 31 (0, 0)) (bp0 BK191.out) hb), am (KeepBut.trans (kb2 HK.out GW183.out GW191.out) (KeepBut.of_below hb g none) (.inl rfl)), am (below_step (bl3 HB.out (IsS57.ge HI0.out) GE183.out GE191.out) hb)⟩ : _ ∧ _ ∧ _ ∧ _ ∧ _ ∧ _); clear HO_3 BK183 HI0 BK191 HK HB; obtain ⟨HO_3, BK183, HI0, BK191, HK, HB⟩ := n_; (try clear hb); (try clear hb2); (try clear hk); (try clear hi)) | ((with_reducible refine gate_dst (N := 7) rfl ?_); refine box_event ?hg (N := 7) ?hd (cs := #[.int .i64 0, .int .i64 0, .int .i64 0, .int .i64 0]) (t := 29) ?hr ?_; (case hd => rfl); (case hg => rfl); (case hr => first | (go_simp; done) | (go_simp; rfl)); intro gb197 hg w23 hbox hb; have n_ := (⟨am (Kd.R_below (rqR HO_3.out) hb), am (blk_below (bf0 BK183.out) hb), am (IsS57.below (st57_2 HI0.out NB0_183.out NB0_191.out) hb), am (blk_below (bf0 BK191.out) hb), am (KeepBut.trans (kb2 HK.out GW183.out GW191.out) (KeepBut.of_below hb g none) (.inl rfl)), am (below_step (bl3 HB.out (IsS57.ge HI0.out) GE183.out GE191.out) hb), am (hbox), am ((by rw [hg]; exact (keep_size (w := w) (g := g) (row := none) (kb2 HK.out GW183.out GW191.out)) : w.heap.size ≤ gb197)), am ((Nat.le_trans HW0.out (by rw [hg]; exact (keep_size (w := w) (g := g) (row := none) (kb2 HK.out GW183.out GW191.out)) : w.heap.size ≤ gb197) : w0.heap.size ≤ gb197)), am ((nl hg (bf0 BK183.out) : gb183 ≠ gb197)), am ((ng hg (bf0 BK183.out) : gb197 ≠ gb183)), am ((nl hg (bf0 BK191.out) : gb191 ≠ gb197)), am ((ng hg (bf0 BK191.out) : gb197 ≠ gb191)), am ((by rw [hg]; exact Nat.ne_of_lt (IsS57.lt (show IsS57 w0 _ g s0_0 t189 t190 from st57_2 HI0.out NB0_183.out NB0_191.out)) : g ≠ gb197)), am ((by rw [hg]; exact Nat.ne_of_gt (IsS57.lt (show IsS57 w0 _ g s0_0 t189 t190 from st57_2 HI0.out NB0_183.out NB0_191.out)) : gb197 ≠ g))⟩ : _ ∧ _ ∧ _ ∧ _ ∧ _ ∧ _ ∧ _ ∧ _ ∧ _ ∧ _ ∧ _ ∧ _ ∧ _ ∧ _ ∧ _); clear HO_3 BK183 HI0 BK191 HK HB; obtain ⟨HO_3, BK183, HI0, BK191, HK, HB, BK197, GW197, GE197, NB183_197, NB197_183, NB191_197, NB197_191, NB0_197, NB197_0⟩ := n_; clear hb hbox hg; have hnb24 := NB197_183.out; have hnc24 := NB183_197.out; have hnb25 := NB197_191.out; have hnc25 := NB191_197.out; have hnb26 := NB197_0.out; have hnc26 := NB0_197.out; obtain ⟨hcz27_0, hcz27_1, hcz27_2, hcz27_3, hfz27_0, hfz27_1, hfz27_2, hfz27_3⟩ := cs4 BK197.out; obtain ⟨hcz28_0, hcz28_1, hcz28_2, hcz28_3, hfz28_0, hfz28_1, hfz28_2, hfz28_3⟩ := cs4 BK183.out; obtain ⟨hcz29_0, hcz29_1, hfz29_0, hfz29_1⟩ := cs2 BK191.out) | ((with_reducible refine gate_builtin (b := .append) (xs := #[.tmp 32, .tmp 34]) rfl ?_); at_builtin; refine Kd.R_append k31 w.heap.size rfl (.tmp 32) (.tmp 34) 37 31 (.agg #[(.int .i64 0), (.int .i64 0)]) 16 rfl Tryd.underlying37 info31 rfl (by decide) (by omega) u3 x3_1 (⟨t187, t188⟩ : S31) [.int .i64 t187, .int .i64 t188] (fun k_ => k_ ≠ gb191) (fun _ => False) rfl (by first | (go_simp; done) | (go_simp; rfl)) ?aP (fun _ hk => hk.elim) ?aF ?aO (Below.refl _ _) ?aS ?aL ?_; (case aP => exact k31_mkM _ _ _ (⟨t187, t188⟩ : S31)); (case aF => exact (fun k_ hk => Kd.freshB (g := gb191) (o := .cells #[.int .i64 t187, .int .i64 t188] 31 (0, 0)) (bf2 BK191.out NB191_183.out NB191_197.out) k_ hk)); (case aO => exact (by (with_reducible repeat (first | apply Kd.R_alloc | apply Kd.R_drewN | apply Kd.R_drew)); exact Kd.R_mono (Kd.R_far (p := ⟨gb183, 3, none⟩) (Kd.R_far (p := ⟨gb183, 2, none⟩) (Kd.R_far (p := ⟨gb183, 1, none⟩) (Kd.R_far (p := ⟨gb183, 0, none⟩) (Kd.R_far (p := ⟨gb197, 3, none⟩) (Kd.R_far (p := ⟨gb197, 2, none⟩) (Kd.R_far (p := ⟨gb197, 1, none⟩) (Kd.R_far (p := ⟨gb197, 0, none⟩) (Kd.R_types (Kd.R_types HO_3.out BK197.out (by decide)) BK183.out (by decide)) (fun _ hk => hk.1.2) (.int .i64 t192)) (fun _ hk => hk.1.2) (.int .i64 t193)) (fun _ hk => hk.1.2) (.int .i64 t194)) (fun _ hk => hk.1.2) (.int .i64 t195)) (fun _ hk => hk.2) (.int .i64 t192)) (fun _ hk => hk.2) (.int .i64 t193)) (fun _ hk => hk.2) (.int .i64 t194)) (fun _ hk => hk.2) (.int .i64 t195)) (fun _ hk => hk.1.1.2))); (case aS => exact (keep_size (w := w) (g := g) (row := none) (kb3 HK.out GW183.out GW191.out GW197.out))); (case aL => have := LMc13.out; omega); intro v199 w30 ho hb hg hat; rw [← Ny198.out] at ho; have n_ := (⟨am (blk_grown (g := gb183) (o := .cells #[.int .i64 t192, .int .i64 t193, .int .i64 t194, .int .i64 t195] 29 (0, 0)) (bp1 BK183.out NB183_197.out) hg (Kd.R_ne HO_3.out BK183.out (by decide))), am (IsS57.grown (show IsS57 w0 _ g s0_0 t189 t190 from st57_3 HI0.out NB0_183.out NB0_191.out NB0_197.out) hg (IsS57.own_ne HI0.out HO_3.out (by decide))), am (blk_grown (bf2 BK191.out NB191_183.out NB191_197.out) hg (Kd.R_away HO_3.out (fun _ hk => hk.2))), am (blk_grown (g := gb197) (o := .cells #[.int .i64 t192, .int .i64 t193, .int .i64 t194, .int .i64 t195] 29 (0, 0)) (bp1 BK197.out NB197_183.out) hg (Kd.R_ne HO_3.out BK197.out (by decide))), am (below_weaken (bl4 HB.out (IsS57.ge HI0.out) GE183.out GE191.out GE197.out) HL.out hb), am (KeepBut.trans (kb3 HK.out GW183.out GW191.out GW197.out) (KeepBut.of_grown hg g) (Kd.R_base2 HO_3.out)), am (ho)⟩ : _ ∧ _ ∧ _ ∧ _ ∧ _ ∧ _ ∧ _); clear BK183 HI0 BK191 BK197 HB HK HO_3; obtain ⟨BK183, HI0, BK191, BK197, HB, HK, HO200⟩ := n_; clear ho hb hg hat))
      go_roundg k1
      case measure => have := HK1.out; omega
      case rel => exact ⟨(y198), (wrap64 (x5_1 - 1)), (t189), (t190), (t192), (t193), (t194), (t195), (by first | rfl | (simp; done) | (simp [*]; done)), H', ⟨by have := HK1.out; omega⟩, ⟨by (with_reducible repeat (first | apply Kd.R_alloc | apply Kd.R_drewN | apply Kd.R_drew)); exact Kd.R_mono HO200.out (fun _ hk => trivial)⟩, ⟨bf0 BK183.out⟩, ⟨st57_3 HI0.out NB0_183.out NB0_191.out NB0_197.out⟩, ⟨kb3 HK.out GW183.out GW191.out GW197.out⟩, ⟨bl4 HB.out (IsS57.ge HI0.out) GE183.out GE191.out GE197.out⟩⟩
     ·rw [if_neg c13] at H
      exact absurd H (by simp)
    ·replace c12 := Bool.eq_false_iff.mpr c12
     subst c12
     have H1 : ((spec_l01Next.f s0_0 t189 t190 6).bind fun bt201 => (if bt201.1 > 0 then (spec_l29Draw.l0 k1 x3_1 (wrap64 (x5_1 - 1)) s0_0 bt201.2.1 bt201.2.2 x184000_1 x184001_1 x184002_1 x184003_1) else (if x3_1.length < 8796093022208 then (spec_l29Draw.l0 k1 (x3_1 ++ [(⟨t187, t188⟩ : S31)]) (wrap64 (x5_1 - 1)) s0_0 bt201.2.1 bt201.2.2 x184000_1 x184001_1 x184002_1 x184003_1) else (none)))) = some (r1, r2, r3) := by rw [if_neg (show ¬ (false = true) by decide)] at H; exact H
     clear H
     have H := H1
     clear H1
     replace H := Option.bind_eq_some_iff.mp H
     obtain ⟨⟨t201, t202, t203⟩, A310, H⟩ := H
     replace H : (if t201 > 0 then (spec_l29Draw.l0 k1 x3_1 (wrap64 (x5_1 - 1)) s0_0 t202 t203 x184000_1 x184001_1 x184002_1 x184003_1) else (if x3_1.length < 8796093022208 then (spec_l29Draw.l0 k1 (x3_1 ++ [(⟨t187, t188⟩ : S31)]) (wrap64 (x5_1 - 1)) s0_0 t202 t203 x184000_1 x184001_1 x184002_1 x184003_1) else (none))) = some (r1, r2, r3) := H
     have A31 := Aside0.mk A310
     clear A310
     by_cases c32 : t201 > 0
     ·rw [if_pos c32] at H
      have c32b0 : decide (0 < t201) = true := decide_eq_true c32
      clear c32
      have H' := Aside0.mk H
      clear H
      have hnb33 := NB183_0.out
      have hnc33 := NB0_183.out
      obtain ⟨hcz34_0, hcz34_1, hcz34_2, hcz34_3, hfz34_0, hfz34_1, hfz34_2, hfz34_3⟩ := cs4 BK183.out
      go_wp2_with (first | ((with_reducible refine gate_callee (f := 25) rfl ?_); refine goesL_ (some 20) rfl rfl Tryd.func25 (by kernel_rfl) rfl #[.pointer (some ⟨g, 0, none⟩), .agg #[.int .i64 x184000_1, .int .i64 x184001_1, .int .i64 x184002_1, .int .i64 x184003_1]] rfl lnp ?_; (with_reducible refine (spec_l29DrawEntry.calls k1 g s0_0 x1001_1 x1002_1 x184000_1 x184001_1 x184002_1 x184003_1 t187 t188 t189 t190 w0 _ ?side1 ?side2 A10.out).mono ?_); (case side1 => exact st57_1 HI0.out NB0_183.out); (case side2 => exact bl2 HB.out (IsS57.ge HI0.out) GE183.out); rintro e w35 ⟨rfl, hi, hb, hk⟩; refine ⟨_, rfl, ?_⟩; have n_ := (⟨am (Kd.R_mono (Kd.R_keep (IsS57.apart (show IsS57 w0 _ g s0_0 x1001_1 x1002_1 from st57_1 HI0.out NB0_183.out) (rqR HO_3.out) (by decide)) hk (fun _ h => h.2)) (fun _ h => h.1)), am (KeepBut.blk hk (g' := gb183) (o := .cells #[.int .i64 x184000_1, .int .i64 x184001_1, .int .i64 x184002_1, .int .i64 x184003_1] 29 (0, 0)) (bf0 BK183.out) NB183_0.out (by simp)), am (KeepBut.trans (kb1 HK.out GW183.out) hk (.inl rfl)), am (hb), am (hi)⟩ : _ ∧ _ ∧ _ ∧ _ ∧ _); clear HO_3 BK183 HK HB HI0; obtain ⟨HO_3, BK183, HK, HB, HI0⟩ := n_; (try clear hb); (try clear hb2); (try clear hk); (try clear hi)) | ((with_reducible refine gate_dst (N := 6) rfl ?_); refine box_event ?hg (N := 6) ?hd (cs := #[.int .i64 0, .int .i64 0]) (t := 31) ?hr ?_; (case hd => rfl); (case hg => rfl); (case hr => first | (go_simp; done) | (go_simp; rfl)); intro gb191 hg w36 hbox hb; have n_ := (⟨am (Kd.R_below (Kd.R_elderB (rqR HO_3.out) gb191 (Nat.le_of_eq hg.symm)) hb), am (blk_below (bf0 BK183.out) hb), am (IsS57.below (st57_1 HI0.out NB0_183.out) hb), am (KeepBut.trans (kb1 HK.out GW183.out) (KeepBut.of_below hb g none) (.inl rfl)), am (below_step (bl2 HB.out (IsS57.ge HI0.out) GE183.out) hb), am (hbox), am ((by rw [hg]; exact (keep_size (w := w) (g := g) (row := none) (kb1 HK.out GW183.out)) : w.heap.size ≤ gb191)), am ((Nat.le_trans HW0.out (by rw [hg]; exact (keep_size (w := w) (g := g) (row := none) (kb1 HK.out GW183.out)) : w.heap.size ≤ gb191) : w0.heap.size ≤ gb191)), am ((nl hg (bf0 BK183.out) : gb183 ≠ gb191)), am ((ng hg (bf0 BK183.out) : gb191 ≠ gb183)), am ((by rw [hg]; exact Nat.ne_of_lt (IsS57.lt (show IsS57 w0 _ g s0_0 t189 t190 from st57_1 HI0.out NB0_183.out)) : g ≠ gb191)), am ((by rw [hg]; exact Nat.ne_of_gt (IsS57.lt (show IsS57 w0 _ g s0_0 t189 t190 from st57_1 HI0.out NB0_183.out)) : gb191 ≠ g))⟩ : _ ∧ _ ∧ _ ∧ _ ∧ _ ∧ _ ∧ _ ∧ _ ∧ _ ∧ _ ∧ _ ∧ _); clear HO_3 BK183 HI0 HK HB; obtain ⟨HO_3, BK183, HI0, HK, HB, BK191, GW191, GE191, NB183_191, NB191_183, NB0_191, NB191_0⟩ := n_; clear hb hbox hg; have hnb37 := NB191_183.out; have hnc37 := NB183_191.out; have hnb38 := NB191_0.out; have hnc38 := NB0_191.out; obtain ⟨hcz39_0, hcz39_1, hfz39_0, hfz39_1⟩ := cs2 BK191.out; obtain ⟨hcz40_0, hcz40_1, hcz40_2, hcz40_3, hfz40_0, hfz40_1, hfz40_2, hfz40_3⟩ := cs4 BK183.out) | ((with_reducible refine gate_callee (f := 27) rfl ?_); refine goesL_ (some 24) rfl rfl Tryd.func27 (by kernel_rfl) rfl #[.agg #[.int .i64 x184000_1, .int .i64 x184001_1, .int .i64 x184002_1, .int .i64 x184003_1], .agg #[.int .i64 t187, .int .i64 t188]] rfl lnp ?_; (with_reducible refine (spec_l29Make.calls x184000_1 x184001_1 x184002_1 x184003_1 t187 t188 t192 t193 t194 t195 false _ A11.out).mono ?_); rintro e w41 ⟨rfl, hb⟩; refine ⟨_, rfl, ?_⟩; have n_ := (⟨am (Kd.R_below (by (with_reducible repeat (first | apply Kd.R_alloc | apply Kd.R_drewN | apply Kd.R_drew)); exact (Kd.R_mono (Kd.R_far (p := ⟨gb191, 1, none⟩) (Kd.R_far (p := ⟨gb191, 0, none⟩) (Kd.R_mono HO_3.out (fun k_ hk => (⟨hk, hk.2⟩ : _ ∧ k_ ≠ gb191))) (fun _ hk => hk.2) (.int .i64 t187)) (fun _ hk => hk.2) (.int .i64 t188)) (fun _ h_ => h_.1))) hb), am (blk_below (bf1 BK183.out NB183_191.out) hb), am (IsS57.below (show IsS57 w0 ((w36.setCell ⟨gb191, 0, none⟩ (.int .i64 t187)).setCell ⟨gb191, 1, none⟩ (.int .i64 t188)) g s0_0 t189 t190 from st57_2 HI0.out NB0_183.out NB0_191.out) hb), am (blk_below (g := gb191) (o := .cells #[.int .i64 t187, .int .i64 t188] 31 (0, 0)) (bp0 BK191.out) hb), am (KeepBut.trans (kb2 HK.out GW183.out GW191.out) (KeepBut.of_below hb g none) (.inl rfl)), am (below_step (bl3 HB.out (IsS57.ge HI0.out) GE183.out GE191.out) hb)⟩ : _ ∧ _ ∧ _ ∧ _ ∧ _ ∧ _); clear HO_3 BK183 HI0 BK191 HK HB; obtain ⟨HO_3, BK183, HI0, BK191, HK, HB⟩ := n_; (try clear hb); (try clear hb2); (try clear hk); (try clear hi)) | ((with_reducible refine gate_dst (N := 7) rfl ?_); refine box_event ?hg (N := 7) ?hd (cs := #[.int .i64 0, .int .i64 0, .int .i64 0, .int .i64 0]) (t := 29) ?hr ?_; (case hd => rfl); (case hg => rfl); (case hr => first | (go_simp; done) | (go_simp; rfl)); intro gb197 hg w42 hbox hb; have n_ := (⟨am (Kd.R_below (rqR HO_3.out) hb), am (blk_below (bf0 BK183.out) hb), am (IsS57.below (st57_2 HI0.out NB0_183.out NB0_191.out) hb), am (blk_below (bf0 BK191.out) hb), am (KeepBut.trans (kb2 HK.out GW183.out GW191.out) (KeepBut.of_below hb g none) (.inl rfl)), am (below_step (bl3 HB.out (IsS57.ge HI0.out) GE183.out GE191.out) hb), am (hbox), am ((by rw [hg]; exact (keep_size (w := w) (g := g) (row := none) (kb2 HK.out GW183.out GW191.out)) : w.heap.size ≤ gb197)), am ((Nat.le_trans HW0.out (by rw [hg]; exact (keep_size (w := w) (g := g) (row := none) (kb2 HK.out GW183.out GW191.out)) : w.heap.size ≤ gb197) : w0.heap.size ≤ gb197)), am ((nl hg (bf0 BK183.out) : gb183 ≠ gb197)), am ((ng hg (bf0 BK183.out) : gb197 ≠ gb183)), am ((nl hg (bf0 BK191.out) : gb191 ≠ gb197)), am ((ng hg (bf0 BK191.out) : gb197 ≠ gb191)), am ((by rw [hg]; exact Nat.ne_of_lt (IsS57.lt (show IsS57 w0 _ g s0_0 t189 t190 from st57_2 HI0.out NB0_183.out NB0_191.out)) : g ≠ gb197)), am ((by rw [hg]; exact Nat.ne_of_gt (IsS57.lt (show IsS57 w0 _ g s0_0 t189 t190 from st57_2 HI0.out NB0_183.out NB0_191.out)) : gb197 ≠ g))⟩ : _ ∧ _ ∧ _ ∧ _ ∧ _ ∧ _ ∧ _ ∧ _ ∧ _ ∧ _ ∧ _ ∧ _ ∧ _ ∧ _ ∧ _); clear HO_3 BK183 HI0 BK191 HK HB; obtain ⟨HO_3, BK183, HI0, BK191, HK, HB, BK197, GW197, GE197, NB183_197, NB197_183, NB191_197, NB197_191, NB0_197, NB197_0⟩ := n_; clear hb hbox hg; have hnb43 := NB197_183.out; have hnc43 := NB183_197.out; have hnb44 := NB197_191.out; have hnc44 := NB191_197.out; have hnb45 := NB197_0.out; have hnc45 := NB0_197.out; obtain ⟨hcz46_0, hcz46_1, hcz46_2, hcz46_3, hfz46_0, hfz46_1, hfz46_2, hfz46_3⟩ := cs4 BK197.out) | ((with_reducible refine gate_callee (f := 18) rfl ?_); refine goesL_ (some 30) rfl rfl Tryd.func18 (by kernel_rfl) rfl #[.pointer (some ⟨g, 0, none⟩), .int .i64 6] rfl lnp ?_; (with_reducible refine (spec_l01Next.calls g s0_0 t189 t190 6 t201 t202 t203 w0 _ ?side1 ?side2 A31.out).mono ?_); (case side1 => exact st57_3 HI0.out NB0_183.out NB0_191.out NB0_197.out); (case side2 => exact bl4 HB.out (IsS57.ge HI0.out) GE183.out GE191.out GE197.out); rintro e w47 ⟨rfl, hi, hb, hk⟩; refine ⟨_, rfl, ?_⟩; have n_ := (⟨am (Kd.R_mono (Kd.R_keep (IsS57.apart (show IsS57 w0 _ g s0_0 t189 t190 from st57_3 HI0.out NB0_183.out NB0_191.out NB0_197.out) (by (with_reducible repeat (first | apply Kd.R_alloc | apply Kd.R_drewN | apply Kd.R_drew)); exact (Kd.R_mono (Kd.R_far (p := ⟨gb197, 3, none⟩) (Kd.R_far (p := ⟨gb197, 2, none⟩) (Kd.R_far (p := ⟨gb197, 1, none⟩) (Kd.R_far (p := ⟨gb197, 0, none⟩) (Kd.R_types HO_3.out BK197.out (by decide)) (fun _ hk => hk.2) (.int .i64 t192)) (fun _ hk => hk.2) (.int .i64 t193)) (fun _ hk => hk.2) (.int .i64 t194)) (fun _ hk => hk.2) (.int .i64 t195)) (fun _ h_ => h_.1))) (by decide)) hk (fun _ h => h.2)) (fun _ h => h.1)), am (KeepBut.blk hk (g' := gb183) (o := .cells #[.int .i64 x184000_1, .int .i64 x184001_1, .int .i64 x184002_1, .int .i64 x184003_1] 29 (0, 0)) (bf1 BK183.out NB183_197.out) NB183_0.out (by simp)), am (KeepBut.blk hk (g' := gb191) (o := .cells #[.int .i64 t187, .int .i64 t188] 31 (0, 0)) (bf1 BK191.out NB191_197.out) NB191_0.out (by simp)), am (KeepBut.blk hk (g' := gb197) (o := .cells #[.int .i64 t192, .int .i64 t193, .int .i64 t194, .int .i64 t195] 29 (0, 0)) (bp0 BK197.out) NB197_0.out (by simp)), am (KeepBut.trans (kb3 HK.out GW183.out GW191.out GW197.out) hk (.inl rfl)), am (hb), am (hi)⟩ : _ ∧ _ ∧ _ ∧ _ ∧ _ ∧ _ ∧ _); clear HO_3 BK183 BK191 BK197 HK HB HI0; obtain ⟨HO_3, BK183, BK191, BK197, HK, HB, HI0⟩ := n_; (try clear hb); (try clear hb2); (try clear hk); (try clear hi)))
      go_roundg k1
      case measure => have := HK1.out; omega
      case rel => exact ⟨(x3_1), (wrap64 (x5_1 - 1)), (t202), (t203), (x184000_1), (x184001_1), (x184002_1), (x184003_1), (by first | rfl | (simp; done) | (simp [*]; done)), H', ⟨by have := HK1.out; omega⟩, ⟨by (with_reducible repeat (first | apply Kd.R_alloc | apply Kd.R_drewN | apply Kd.R_drew)); exact Kd.R_mono HO_3.out (fun _ hk => trivial)⟩, ⟨bf0 BK183.out⟩, ⟨st57_3 HI0.out NB0_183.out NB0_191.out NB0_197.out⟩, ⟨kb3 HK.out GW183.out GW191.out GW197.out⟩, ⟨bl4 HB.out (IsS57.ge HI0.out) GE183.out GE191.out GE197.out⟩⟩
     ·rw [if_neg c32] at H
      have c32b0 : decide (0 < t201) = false := decide_eq_false c32
      clear c32
      by_cases c48 : x3_1.length < 8796093022208
      ·rw [if_pos c48] at H
       have LMc48 := Aside0.mk c48
       clear c48
       obtain ⟨y204, hy204⟩ : ∃ y_ : List (S31), y_ = (x3_1 ++ [(⟨t187, t188⟩ : S31)]) := ⟨_, rfl⟩
       replace H : (spec_l29Draw.l0 k1 y204 (wrap64 (x5_1 - 1)) s0_0 t202 t203 x184000_1 x184001_1 x184002_1 x184003_1) = some (r1, r2, r3) := by first | (rw [hy204]; with_reducible exact H) | (have H2_ := (Option.bind_some _ _).symm.trans H; rw [hy204]; with_reducible exact H2_) | (have H2_ := (Option.bind_some _ _).symm.trans H; with_reducible exact H2_) | with_reducible exact H | (rw [hy204]; exact H) | exact H
       have Ny204 := Aside0.mk hy204
       clear hy204
       have H' := Aside0.mk H
       clear H
       have hnb49 := NB183_0.out
       have hnc49 := NB0_183.out
       obtain ⟨hcz50_0, hcz50_1, hcz50_2, hcz50_3, hfz50_0, hfz50_1, hfz50_2, hfz50_3⟩ := cs4 BK183.out
       go_wp2_with (first | ((with_reducible refine gate_callee (f := 25) rfl ?_); refine goesL_ (some 20) rfl rfl Tryd.func25 (by kernel_rfl) rfl #[.pointer (some ⟨g, 0, none⟩), .agg #[.int .i64 x184000_1, .int .i64 x184001_1, .int .i64 x184002_1, .int .i64 x184003_1]] rfl lnp ?_; (with_reducible refine (spec_l29DrawEntry.calls k1 g s0_0 x1001_1 x1002_1 x184000_1 x184001_1 x184002_1 x184003_1 t187 t188 t189 t190 w0 _ ?side1 ?side2 A10.out).mono ?_); (case side1 => exact st57_1 HI0.out NB0_183.out); (case side2 => exact bl2 HB.out (IsS57.ge HI0.out) GE183.out); rintro e w51 ⟨rfl, hi, hb, hk⟩; refine ⟨_, rfl, ?_⟩; have n_ := (⟨am (Kd.R_mono (Kd.R_keep (IsS57.apart (show IsS57 w0 _ g s0_0 x1001_1 x1002_1 from st57_1 HI0.out NB0_183.out) (rqR HO_3.out) (by decide)) hk (fun _ h => h.2)) (fun _ h => h.1)), am (KeepBut.blk hk (g' := gb183) (o := .cells #[.int .i64 x184000_1, .int .i64 x184001_1, .int .i64 x184002_1, .int .i64 x184003_1] 29 (0, 0)) (bf0 BK183.out) NB183_0.out (by simp)), am (KeepBut.trans (kb1 HK.out GW183.out) hk (.inl rfl)), am (hb), am (hi)⟩ : _ ∧ _ ∧ _ ∧ _ ∧ _); clear HO_3 BK183 HK HB HI0; obtain ⟨HO_3, BK183, HK, HB, HI0⟩ := n_; (try clear hb); (try clear hb2); (try clear hk); (try clear hi)) | ((with_reducible refine gate_dst (N := 6) rfl ?_); refine box_event ?hg (N := 6) ?hd (cs := #[.int .i64 0, .int .i64 0]) (t := 31) ?hr ?_; (case hd => rfl); (case hg => rfl); (case hr => first | (go_simp; done) | (go_simp; rfl)); intro gb191 hg w52 hbox hb; have n_ := (⟨am (Kd.R_below (Kd.R_elderB (rqR HO_3.out) gb191 (Nat.le_of_eq hg.symm)) hb), am (blk_below (bf0 BK183.out) hb), am (IsS57.below (st57_1 HI0.out NB0_183.out) hb), am (KeepBut.trans (kb1 HK.out GW183.out) (KeepBut.of_below hb g none) (.inl rfl)), am (below_step (bl2 HB.out (IsS57.ge HI0.out) GE183.out) hb), am (hbox), am ((by rw [hg]; exact (keep_size (w := w) (g := g) (row := none) (kb1 HK.out GW183.out)) : w.heap.size ≤ gb191)), am ((Nat.le_trans HW0.out (by rw [hg]; exact (keep_size (w := w) (g := g) (row := none) (kb1 HK.out GW183.out)) : w.heap.size ≤ gb191) : w0.heap.size ≤ gb191)), am ((nl hg (bf0 BK183.out) : gb183 ≠ gb191)), am ((ng hg (bf0 BK183.out) : gb191 ≠ gb183)), am ((by rw [hg]; exact Nat.ne_of_lt (IsS57.lt (show IsS57 w0 _ g s0_0 t189 t190 from st57_1 HI0.out NB0_183.out)) : g ≠ gb191)), am ((by rw [hg]; exact Nat.ne_of_gt (IsS57.lt (show IsS57 w0 _ g s0_0 t189 t190 from st57_1 HI0.out NB0_183.out)) : gb191 ≠ g))⟩ : _ ∧ _ ∧ _ ∧ _ ∧ _ ∧ _ ∧ _ ∧ _ ∧ _ ∧ _ ∧ _ ∧ _); clear HO_3 BK183 HI0 HK HB; obtain ⟨HO_3, BK183, HI0, HK, HB, BK191, GW191, GE191, NB183_191, NB191_183, NB0_191, NB191_0⟩ := n_; clear hb hbox hg; have hnb53 := NB191_183.out; have hnc53 := NB183_191.out; have hnb54 := NB191_0.out; have hnc54 := NB0_191.out; obtain ⟨hcz55_0, hcz55_1, hfz55_0, hfz55_1⟩ := cs2 BK191.out; obtain ⟨hcz56_0, hcz56_1, hcz56_2, hcz56_3, hfz56_0, hfz56_1, hfz56_2, hfz56_3⟩ := cs4 BK183.out) | ((with_reducible refine gate_callee (f := 27) rfl ?_); refine goesL_ (some 24) rfl rfl Tryd.func27 (by kernel_rfl) rfl #[.agg #[.int .i64 x184000_1, .int .i64 x184001_1, .int .i64 x184002_1, .int .i64 x184003_1], .agg #[.int .i64 t187, .int .i64 t188]] rfl lnp ?_; (with_reducible refine (spec_l29Make.calls x184000_1 x184001_1 x184002_1 x184003_1 t187 t188 t192 t193 t194 t195 false _ A11.out).mono ?_); rintro e w57 ⟨rfl, hb⟩; refine ⟨_, rfl, ?_⟩; have n_ := (⟨am (Kd.R_below (by (with_reducible repeat (first | apply Kd.R_alloc | apply Kd.R_drewN | apply Kd.R_drew)); exact (Kd.R_mono (Kd.R_far (p := ⟨gb191, 1, none⟩) (Kd.R_far (p := ⟨gb191, 0, none⟩) (Kd.R_mono HO_3.out (fun k_ hk => (⟨hk, hk.2⟩ : _ ∧ k_ ≠ gb191))) (fun _ hk => hk.2) (.int .i64 t187)) (fun _ hk => hk.2) (.int .i64 t188)) (fun _ h_ => h_.1))) hb), am (blk_below (bf1 BK183.out NB183_191.out) hb), am (IsS57.below (show IsS57 w0 ((w52.setCell ⟨gb191, 0, none⟩ (.int .i64 t187)).setCell ⟨gb191, 1, none⟩ (.int .i64 t188)) g s0_0 t189 t190 from st57_2 HI0.out NB0_183.out NB0_191.out) hb), am (blk_below (g := gb191) (o := .cells #[.int .i64 t187, .int .i64 t188] 31 (0, 0)) (bp0 BK191.out) hb), am (KeepBut.trans (kb2 HK.out GW183.out GW191.out) (KeepBut.of_below hb g none) (.inl rfl)), am (below_step (bl3 HB.out (IsS57.ge HI0.out) GE183.out GE191.out) hb)⟩ : _ ∧ _ ∧ _ ∧ _ ∧ _ ∧ _); clear HO_3 BK183 HI0 BK191 HK HB; obtain ⟨HO_3, BK183, HI0, BK191, HK, HB⟩ := n_; (try clear hb); (try clear hb2); (try clear hk); (try clear hi)) | ((with_reducible refine gate_dst (N := 7) rfl ?_); refine box_event ?hg (N := 7) ?hd (cs := #[.int .i64 0, .int .i64 0, .int .i64 0, .int .i64 0]) (t := 29) ?hr ?_; (case hd => rfl); (case hg => rfl); (case hr => first | (go_simp; done) | (go_simp; rfl)); intro gb197 hg w58 hbox hb; have n_ := (⟨am (Kd.R_below (rqR HO_3.out) hb), am (blk_below (bf0 BK183.out) hb), am (IsS57.below (st57_2 HI0.out NB0_183.out NB0_191.out) hb), am (blk_below (bf0 BK191.out) hb), am (KeepBut.trans (kb2 HK.out GW183.out GW191.out) (KeepBut.of_below hb g none) (.inl rfl)), am (below_step (bl3 HB.out (IsS57.ge HI0.out) GE183.out GE191.out) hb), am (hbox), am ((by rw [hg]; exact (keep_size (w := w) (g := g) (row := none) (kb2 HK.out GW183.out GW191.out)) : w.heap.size ≤ gb197)), am ((Nat.le_trans HW0.out (by rw [hg]; exact (keep_size (w := w) (g := g) (row := none) (kb2 HK.out GW183.out GW191.out)) : w.heap.size ≤ gb197) : w0.heap.size ≤ gb197)), am ((nl hg (bf0 BK183.out) : gb183 ≠ gb197)), am ((ng hg (bf0 BK183.out) : gb197 ≠ gb183)), am ((nl hg (bf0 BK191.out) : gb191 ≠ gb197)), am ((ng hg (bf0 BK191.out) : gb197 ≠ gb191)), am ((by rw [hg]; exact Nat.ne_of_lt (IsS57.lt (show IsS57 w0 _ g s0_0 t189 t190 from st57_2 HI0.out NB0_183.out NB0_191.out)) : g ≠ gb197)), am ((by rw [hg]; exact Nat.ne_of_gt (IsS57.lt (show IsS57 w0 _ g s0_0 t189 t190 from st57_2 HI0.out NB0_183.out NB0_191.out)) : gb197 ≠ g))⟩ : _ ∧ _ ∧ _ ∧ _ ∧ _ ∧ _ ∧ _ ∧ _ ∧ _ ∧ _ ∧ _ ∧ _ ∧ _ ∧ _ ∧ _); clear HO_3 BK183 HI0 BK191 HK HB; obtain ⟨HO_3, BK183, HI0, BK191, HK, HB, BK197, GW197, GE197, NB183_197, NB197_183, NB191_197, NB197_191, NB0_197, NB197_0⟩ := n_; clear hb hbox hg; have hnb59 := NB197_183.out; have hnc59 := NB183_197.out; have hnb60 := NB197_191.out; have hnc60 := NB191_197.out; have hnb61 := NB197_0.out; have hnc61 := NB0_197.out; obtain ⟨hcz62_0, hcz62_1, hcz62_2, hcz62_3, hfz62_0, hfz62_1, hfz62_2, hfz62_3⟩ := cs4 BK197.out) | ((with_reducible refine gate_callee (f := 18) rfl ?_); refine goesL_ (some 30) rfl rfl Tryd.func18 (by kernel_rfl) rfl #[.pointer (some ⟨g, 0, none⟩), .int .i64 6] rfl lnp ?_; (with_reducible refine (spec_l01Next.calls g s0_0 t189 t190 6 t201 t202 t203 w0 _ ?side1 ?side2 A31.out).mono ?_); (case side1 => exact st57_3 HI0.out NB0_183.out NB0_191.out NB0_197.out); (case side2 => exact bl4 HB.out (IsS57.ge HI0.out) GE183.out GE191.out GE197.out); rintro e w63 ⟨rfl, hi, hb, hk⟩; refine ⟨_, rfl, ?_⟩; have n_ := (⟨am (Kd.R_mono (Kd.R_keep (IsS57.apart (show IsS57 w0 _ g s0_0 t189 t190 from st57_3 HI0.out NB0_183.out NB0_191.out NB0_197.out) (by (with_reducible repeat (first | apply Kd.R_alloc | apply Kd.R_drewN | apply Kd.R_drew)); exact (Kd.R_mono (Kd.R_far (p := ⟨gb197, 3, none⟩) (Kd.R_far (p := ⟨gb197, 2, none⟩) (Kd.R_far (p := ⟨gb197, 1, none⟩) (Kd.R_far (p := ⟨gb197, 0, none⟩) (Kd.R_types HO_3.out BK197.out (by decide)) (fun _ hk => hk.2) (.int .i64 t192)) (fun _ hk => hk.2) (.int .i64 t193)) (fun _ hk => hk.2) (.int .i64 t194)) (fun _ hk => hk.2) (.int .i64 t195)) (fun _ h_ => h_.1))) (by decide)) hk (fun _ h => h.2)) (fun _ h => h.1)), am (KeepBut.blk hk (g' := gb183) (o := .cells #[.int .i64 x184000_1, .int .i64 x184001_1, .int .i64 x184002_1, .int .i64 x184003_1] 29 (0, 0)) (bf1 BK183.out NB183_197.out) NB183_0.out (by simp)), am (KeepBut.blk hk (g' := gb191) (o := .cells #[.int .i64 t187, .int .i64 t188] 31 (0, 0)) (bf1 BK191.out NB191_197.out) NB191_0.out (by simp)), am (KeepBut.blk hk (g' := gb197) (o := .cells #[.int .i64 t192, .int .i64 t193, .int .i64 t194, .int .i64 t195] 29 (0, 0)) (bp0 BK197.out) NB197_0.out (by simp)), am (KeepBut.trans (kb3 HK.out GW183.out GW191.out GW197.out) hk (.inl rfl)), am (hb), am (hi)⟩ : _ ∧ _ ∧ _ ∧ _ ∧ _ ∧ _ ∧ _); clear HO_3 BK183 BK191 BK197 HK HB HI0; obtain ⟨HO_3, BK183, BK191, BK197, HK, HB, HI0⟩ := n_; (try clear hb); (try clear hb2); (try clear hk); (try clear hi); obtain ⟨hcz64_0, hcz64_1, hfz64_0, hfz64_1⟩ := cs2 BK191.out) | ((with_reducible refine gate_builtin (b := .append) (xs := #[.tmp 32, .tmp 34]) rfl ?_); at_builtin; refine Kd.R_append k31 w.heap.size rfl (.tmp 32) (.tmp 34) 37 31 (.agg #[(.int .i64 0), (.int .i64 0)]) 16 rfl Tryd.underlying37 info31 rfl (by decide) (by omega) u3 x3_1 (⟨t187, t188⟩ : S31) [.int .i64 t187, .int .i64 t188] (fun k_ => k_ ≠ gb191) (fun _ => False) rfl rfl ?aP (fun _ hk => hk.elim) ?aF ?aO (Below.refl _ _) ?aS ?aL ?_; (case aP => exact k31_mkM _ _ _ (⟨t187, t188⟩ : S31)); (case aF => exact (fun k_ hk => Kd.freshB (g := gb191) (o := .cells #[.int .i64 t187, .int .i64 t188] 31 (0, 0)) (bf0 BK191.out) k_ hk)); (case aO => exact (by (with_reducible repeat (first | apply Kd.R_alloc | apply Kd.R_drewN | apply Kd.R_drew)); exact Kd.R_mono HO_3.out (fun _ hk => hk.2))); (case aS => exact (keep_size (w := w) (g := g) (row := none) (kb3 HK.out GW183.out GW191.out GW197.out))); (case aL => have := LMc48.out; omega); intro v205 w65 ho hb hg hat; rw [← Ny204.out] at ho; have n_ := (⟨am (blk_grown (bf0 BK183.out) hg (Kd.R_ne HO_3.out BK183.out (by decide))), am (IsS57.grown (show IsS57 w0 _ g s0_0 t202 t203 from st57_3 HI0.out NB0_183.out NB0_191.out NB0_197.out) hg (IsS57.own_ne HI0.out HO_3.out (by decide))), am (blk_grown (bf0 BK191.out) hg (Kd.R_away HO_3.out (fun _ hk => hk.2))), am (blk_grown (bf0 BK197.out) hg (Kd.R_ne HO_3.out BK197.out (by decide))), am (below_weaken (bl4 HB.out (IsS57.ge HI0.out) GE183.out GE191.out GE197.out) HL.out hb), am (KeepBut.trans (kb3 HK.out GW183.out GW191.out GW197.out) (KeepBut.of_grown hg g) (Kd.R_base2 HO_3.out)), am (ho)⟩ : _ ∧ _ ∧ _ ∧ _ ∧ _ ∧ _ ∧ _); clear BK183 HI0 BK191 BK197 HB HK HO_3; obtain ⟨BK183, HI0, BK191, BK197, HB, HK, HO206⟩ := n_; clear ho hb hg hat))
       go_roundg k1
       case measure => have := HK1.out; omega
       case rel => exact ⟨(y204), (wrap64 (x5_1 - 1)), (t202), (t203), (x184000_1), (x184001_1), (x184002_1), (x184003_1), (by first | rfl | (simp; done) | (simp [*]; done)), H', ⟨by have := HK1.out; omega⟩, ⟨by (with_reducible repeat (first | apply Kd.R_alloc | apply Kd.R_drewN | apply Kd.R_drew)); exact Kd.R_mono HO206.out (fun _ hk => trivial)⟩, ⟨bf0 BK183.out⟩, ⟨st57_3 HI0.out NB0_183.out NB0_191.out NB0_197.out⟩, ⟨kb3 HK.out GW183.out GW191.out GW197.out⟩, ⟨bl4 HB.out (IsS57.ge HI0.out) GE183.out GE191.out GE197.out⟩⟩
      ·rw [if_neg c48] at H
       exact absurd H (by simp)
   ·rw [if_neg c9] at H
    have c9b0 : decide (0 < x5_1) = false := decide_eq_false c9
    clear c9
    replace H := Option.bind_eq_some_iff.mp H
    obtain ⟨⟨t207, t208, t209⟩, A660, H⟩ := H
    replace H : (if t207 = 0 then ((spec_l01Next.f s0_0 t208 t209 2).bind fun bt213 => (spec_l29Draw.l1 k1 (([(⟨1, 1⟩ : S31)] : List (S31))) (wrap64 (199 + bt213.1)) s0_0 bt213.2.1 bt213.2.2)) else (some (x3_1, t208, t209))) = some (r1, r2, r3) := H
    have A66 := Aside0.mk A660
    clear A660
    by_cases c67 : t207 = 0
    ·rw [if_pos c67] at H
     have c67b0 : (t207 == 0) = true := beq_iff_eq.mpr c67
     have c67b1 : (t207 != 0) = false := bne_eq_false_iff_eq.mpr c67
     clear c67
     obtain ⟨y210, hy210⟩ : ∃ y_ : List (S31), y_ = (([(⟨1, 1⟩ : S31)] : List (S31))) := ⟨_, rfl⟩
     replace H : ((spec_l01Next.f s0_0 t208 t209 2).bind fun bt213 => (spec_l29Draw.l1 k1 y210 (wrap64 (199 + bt213.1)) s0_0 bt213.2.1 bt213.2.2)) = some (r1, r2, r3) := by first | (rw [hy210]; with_reducible exact H) | (have H2_ := (Option.bind_some _ _).symm.trans H; rw [hy210]; with_reducible exact H2_) | (have H2_ := (Option.bind_some _ _).symm.trans H; with_reducible exact H2_) | with_reducible exact H | (rw [hy210]; exact H) | exact H
     have Ny210 := Aside0.mk hy210
     clear hy210
     replace H := Option.bind_eq_some_iff.mp H
     obtain ⟨⟨t213, t214, t215⟩, A680, H⟩ := H
     replace H : (spec_l29Draw.l1 k1 y210 (wrap64 (199 + t213)) s0_0 t214 t215) = some (r1, r2, r3) := H
     have A68 := Aside0.mk A680
     clear A680
     have H' := Aside0.mk H
     clear H
     go_wp2_with (first | ((with_reducible refine gate_callee (f := 18) rfl ?_); refine goesL_ (some 37) rfl rfl Tryd.func18 (by kernel_rfl) rfl #[.pointer (some ⟨g, 0, none⟩), .int .i64 50] rfl lnp ?_; (with_reducible refine (spec_l01Next.calls g s0_0 x1001_1 x1002_1 50 t207 t208 t209 w0 _ ?side1 ?side2 A66.out).mono ?_); (case side1 => exact st57_1 HI0.out NB0_183.out); (case side2 => exact bl2 HB.out (IsS57.ge HI0.out) GE183.out); rintro e w69 ⟨rfl, hi, hb, hk⟩; refine ⟨_, rfl, ?_⟩; have n_ := (⟨am (Kd.R_mono (Kd.R_keep (IsS57.apart (show IsS57 w0 _ g s0_0 x1001_1 x1002_1 from st57_1 HI0.out NB0_183.out) (rqR HO_3.out) (by decide)) hk (fun _ h => h.2)) (fun _ h => h.1)), am (KeepBut.blk hk (g' := gb183) (o := .cells #[.int .i64 x184000_1, .int .i64 x184001_1, .int .i64 x184002_1, .int .i64 x184003_1] 29 (0, 0)) (bf0 BK183.out) NB183_0.out (by simp)), am (KeepBut.trans (kb1 HK.out GW183.out) hk (.inl rfl)), am (hb), am (hi)⟩ : _ ∧ _ ∧ _ ∧ _ ∧ _); clear HO_3 BK183 HK HB HI0; obtain ⟨HO_3, BK183, HK, HB, HI0⟩ := n_; (try clear hb); (try clear hb2); (try clear hk); (try clear hi)) | ((with_reducible refine gate_dst (N := 40) rfl ?_); refine Kd.R_lit k31 _ 31 ?hg (N := 40) ?hd (xs := ([(⟨1, 1⟩ : S31)] : List (S31))) (inner := [.int .i64 1, .int .i64 1]) (ok := fun _ => True) (okp := fun _ => True) ?hr ?hp (fun _ hk => hk) trivial (Below.refl _ _) (Nat.le_refl _) (by simp) ?_; (case hd => rfl); (case hg => rfl); (case hr => first | (go_simp; done) | (go_simp; rfl)); (case hp => exact (Reps.c2 (show Kd.M k31 _ _ _ (⟨1, 1⟩ : S31) [.int .i64 1, .int .i64 1] from (k31_mkM _ _ _ (⟨1, 1⟩ : S31) )) (Reps.none _ _))); intro v211 w70 ho71 hb hg_ hnew_; clear hg_ hnew_; (first | rw [← Ny210.out] at ho71 | (simp only [Int.reduceToNat] at ho71; rw [← Ny210.out] at ho71)); have n_ := (⟨am (Kd.R_elder' (rqR HO_3.out) (Kd.R_base ho71) hb), am (Kd.R_lower (Kd.R_new' ho71 (Kd.R_lt (rqR HO_3.out))) (keep_size (w := w) (g := g) (row := none) (kb1 HK.out GW183.out))), am (blk_below (bf0 BK183.out) hb), am (IsS57.below (st57_1 HI0.out NB0_183.out) hb), am (KeepBut.trans (kb1 HK.out GW183.out) (KeepBut.of_below hb g none) (.inl rfl)), am (below_step (bl2 HB.out (IsS57.ge HI0.out) GE183.out) hb)⟩ : _ ∧ _ ∧ _ ∧ _ ∧ _ ∧ _); clear HO_3 BK183 HI0 HK HB; obtain ⟨HO_3, HO212, BK183, HI0, HK, HB⟩ := n_; clear hb ho71) | ((with_reducible refine gate_callee (f := 18) rfl ?_); refine goesL_ (some 42) rfl rfl Tryd.func18 (by kernel_rfl) rfl #[.pointer (some ⟨g, 0, none⟩), .int .i64 2] rfl lnp ?_; (with_reducible refine (spec_l01Next.calls g s0_0 t208 t209 2 t213 t214 t215 w0 _ ?side1 ?side2 A68.out).mono ?_); (case side1 => exact st57_1 HI0.out NB0_183.out); (case side2 => exact bl2 HB.out (IsS57.ge HI0.out) GE183.out); rintro e w72 ⟨rfl, hi, hb, hk⟩; refine ⟨_, rfl, ?_⟩; have n_ := (⟨am (Kd.R_mono (Kd.R_keep (IsS57.apart (show IsS57 w0 _ g s0_0 t208 t209 from st57_1 HI0.out NB0_183.out) (rqR HO_3.out) (by decide)) hk (fun _ h => h.2)) (fun _ h => h.1)), am (KeepBut.blk hk (g' := gb183) (o := .cells #[.int .i64 x184000_1, .int .i64 x184001_1, .int .i64 x184002_1, .int .i64 x184003_1] 29 (0, 0)) (bf0 BK183.out) NB183_0.out (by simp)), am (Kd.R_mono (Kd.R_keep (IsS57.apart (show IsS57 w0 _ g s0_0 t208 t209 from st57_1 HI0.out NB0_183.out) (rqR HO212.out) (by decide)) hk (fun _ h => h.2)) (fun _ h => h.1)), am (KeepBut.trans (kb1 HK.out GW183.out) hk (.inl rfl)), am (hb), am (hi)⟩ : _ ∧ _ ∧ _ ∧ _ ∧ _ ∧ _); clear HO_3 BK183 HO212 HK HB HI0; obtain ⟨HO_3, BK183, HO212, HK, HB, HI0⟩ := n_; (try clear hb); (try clear hb2); (try clear hk); (try clear hi)))
     go_loopg [3, 9] k1 (fun kq v3 v9 w' => ∃ (x3_2 : List (S31)) (x9_2 : Int), v9 = .int .i64 x9_2 ∧ Aside0 (spec_l29Draw.l1 kq x3_2 x9_2 s0_0 t214 t215 = some (r1, r2, r3)) ∧ Aside0 (kq ≤ k1) ∧ Aside0 (Kd.R k31 31 w' w.heap.size (fun _ => True) v3 x3_2) ∧ Aside0 (w'.heap[gb183]? = some (.cells #[.int .i64 x184000_1, .int .i64 x184001_1, .int .i64 x184002_1, .int .i64 x184003_1] 29 (0, 0))) ∧ Aside0 (IsS57 w0 w' g s0_0 t214 t215) ∧ Aside0 (KeepBut w w' g none) ∧ Aside0 (Below w0.heap.size w0 w'))
     case atStart => exact ⟨(y210), (wrap64 (199 + t213)), (by first | rfl | (simp; done) | (simp [*]; done)), H', ⟨Nat.le_refl _⟩, ⟨by (with_reducible repeat (first | apply Kd.R_alloc | apply Kd.R_drewN | apply Kd.R_drew)); exact Kd.R_mono HO212.out (fun _ hk => trivial)⟩, ⟨bf0 BK183.out⟩, ⟨st57_1 HI0.out NB0_183.out⟩, ⟨kb1 HK.out GW183.out⟩, ⟨bl2 HB.out (IsS57.ge HI0.out) GE183.out⟩⟩
     case round =>
      clear H'
      try clear c1
      try clear c2
      try clear p2
      try clear c3
      try clear c4
      try clear c5
      try clear c6
      try clear p6
      try clear c9
      try clear c9b0
      try clear c12
      try clear c13
      try clear c14
      try clear c18
      try clear c19
      try clear c24
      try clear c25
      try clear c26
      try clear c27
      try clear c31
      try clear c32
      try clear c32b0
      try clear c33
      try clear c37
      try clear c38
      try clear c43
      try clear c44
      try clear c45
      try clear c48
      try clear c49
      try clear c53
      try clear c54
      try clear c59
      try clear c60
      try clear c61
      try clear p64
      try clear c67
      try clear c67b0
      try clear c67b1
      try clear hcz15_0
      try clear hcz15_1
      try clear hcz15_2
      try clear hcz15_3
      try clear hcz20_0
      try clear hcz20_1
      try clear hcz21_0
      try clear hcz21_1
      try clear hcz21_2
      try clear hcz21_3
      try clear hcz27_0
      try clear hcz27_1
      try clear hcz27_2
      try clear hcz27_3
      try clear hcz28_0
      try clear hcz28_1
      try clear hcz28_2
      try clear hcz28_3
      try clear hcz29_0
      try clear hcz29_1
      try clear hcz34_0
      try clear hcz34_1
      try clear hcz34_2
      try clear hcz34_3
      try clear hcz39_0
      try clear hcz39_1
      try clear hcz40_0
      try clear hcz40_1
      try clear hcz40_2
      try clear hcz40_3
      try clear hcz46_0
      try clear hcz46_1
      try clear hcz46_2
      try clear hcz46_3
      try clear hcz50_0
      try clear hcz50_1
      try clear hcz50_2
      try clear hcz50_3
      try clear hcz55_0
      try clear hcz55_1
      try clear hcz56_0
      try clear hcz56_1
      try clear hcz56_2
      try clear hcz56_3
      try clear hcz62_0
      try clear hcz62_1
      try clear hcz62_2
      try clear hcz62_3
      try clear hcz64_0
      try clear hcz64_1
      try clear hcz7_0
      try clear hcz7_1
      try clear hcz7_2
      try clear hcz7_3
      try clear hfz15_0
      try clear hfz15_1
      try clear hfz15_2
      try clear hfz15_3
      try clear hfz20_0
      try clear hfz20_1
      try clear hfz21_0
      try clear hfz21_1
      try clear hfz21_2
      try clear hfz21_3
      try clear hfz27_0
      try clear hfz27_1
      try clear hfz27_2
      try clear hfz27_3
      try clear hfz28_0
      try clear hfz28_1
      try clear hfz28_2
      try clear hfz28_3
      try clear hfz29_0
      try clear hfz29_1
      try clear hfz34_0
      try clear hfz34_1
      try clear hfz34_2
      try clear hfz34_3
      try clear hfz39_0
      try clear hfz39_1
      try clear hfz40_0
      try clear hfz40_1
      try clear hfz40_2
      try clear hfz40_3
      try clear hfz46_0
      try clear hfz46_1
      try clear hfz46_2
      try clear hfz46_3
      try clear hfz50_0
      try clear hfz50_1
      try clear hfz50_2
      try clear hfz50_3
      try clear hfz55_0
      try clear hfz55_1
      try clear hfz56_0
      try clear hfz56_1
      try clear hfz56_2
      try clear hfz56_3
      try clear hfz62_0
      try clear hfz62_1
      try clear hfz62_2
      try clear hfz62_3
      try clear hfz64_0
      try clear hfz64_1
      try clear hfz7_0
      try clear hfz7_1
      try clear hfz7_2
      try clear hfz7_3
      try clear p2
      obtain ⟨x3_2, x9_2, rfl, HA, HK2, HO_3, BK183, HI0, HK, HB⟩ := hrel
      cases gk with
      | zero => exact absurd HA.out (by simp [spec_l29Draw.l1])
      | succ k2 =>
       have H := HA.out
       clear HA
       simp only [spec_l29Draw.l1] at H
       by_cases c73 : x9_2 > 0
       ·rw [if_pos c73] at H
        have c73b0 : decide (0 < x9_2) = true := decide_eq_true c73
        clear c73
        by_cases c74 : x3_2.length < 8796093022208
        ·rw [if_pos c74] at H
         have LMc74 := Aside0.mk c74
         clear c74
         obtain ⟨y216, hy216⟩ : ∃ y_ : List (S31), y_ = (x3_2 ++ [(⟨2, x9_2⟩ : S31)]) := ⟨_, rfl⟩
         replace H : (spec_l29Draw.l1 k2 y216 (wrap64 (x9_2 - 1)) s0_0 t214 t215) = some (r1, r2, r3) := by first | (rw [hy216]; with_reducible exact H) | (have H2_ := (Option.bind_some _ _).symm.trans H; rw [hy216]; with_reducible exact H2_) | (have H2_ := (Option.bind_some _ _).symm.trans H; with_reducible exact H2_) | with_reducible exact H | (rw [hy216]; exact H) | exact H
         have Ny216 := Aside0.mk hy216
         clear hy216
         have H' := Aside0.mk H
         clear H
         go_wp2_with (first | ((with_reducible refine gate_builtin (b := .append) (xs := #[.tmp 48, .tmp 51]) rfl ?_); at_builtin; refine Kd.R_append k31 w.heap.size rfl (.tmp 48) (.tmp 51) 37 31 (.agg #[(.int .i64 0), (.int .i64 0)]) 16 rfl Tryd.underlying37 info31 rfl (by decide) (by omega) u3 x3_2 (⟨2, x9_2⟩ : S31) [.int .i64 2, .int .i64 x9_2] (fun _ => True) (fun _ => False) rfl rfl ?aP (fun _ hk => hk.elim) ?aF ?aO (Below.refl _ _) ?aS ?aL ?_; (case aP => exact k31_mkM _ _ _ (⟨2, x9_2⟩ : S31)); (case aF => exact (fun _ _ => trivial)); (case aO => exact (rqR HO_3.out)); (case aS => exact (keep_size (w := w) (g := g) (row := none) (kb1 HK.out GW183.out))); (case aL => have := LMc74.out; omega); intro v217 w75 ho hb hg hat; rw [← Ny216.out] at ho; have n_ := (⟨am (blk_grown (bf0 BK183.out) hg (Kd.R_ne HO_3.out BK183.out (by decide))), am (IsS57.grown (show IsS57 w0 _ g s0_0 t214 t215 from st57_1 HI0.out NB0_183.out) hg (IsS57.own_ne HI0.out HO_3.out (by decide))), am (below_weaken (bl2 HB.out (IsS57.ge HI0.out) GE183.out) HL.out hb), am (KeepBut.trans (kb1 HK.out GW183.out) (KeepBut.of_grown hg g) (Kd.R_base2 HO_3.out)), am (ho)⟩ : _ ∧ _ ∧ _ ∧ _ ∧ _); clear BK183 HI0 HB HK HO_3; obtain ⟨BK183, HI0, HB, HK, HO218⟩ := n_; clear ho hb hg hat))
         go_roundg k2
         case measure => have := HK1.out; have := HK2.out; omega
         case rel => exact ⟨(y216), (wrap64 (x9_2 - 1)), (by first | rfl | (simp; done) | (simp [*]; done)), H', ⟨by have := HK1.out; have := HK2.out; omega⟩, ⟨by (with_reducible repeat (first | apply Kd.R_alloc | apply Kd.R_drewN | apply Kd.R_drew)); exact HO218.out⟩, ⟨bf0 BK183.out⟩, ⟨st57_1 HI0.out NB0_183.out⟩, ⟨kb1 HK.out GW183.out⟩, ⟨bl2 HB.out (IsS57.ge HI0.out) GE183.out⟩⟩
        ·rw [if_neg c74] at H
         exact absurd H (by simp)
       ·rw [if_neg c73] at H
        have c73b0 : decide (0 < x9_2) = false := decide_eq_false c73
        clear c73
        simp only [Option.some.injEq, Prod.mk.injEq] at H
        obtain ⟨rfl, rfl, rfl⟩ := H
        go_wp2
        go_ret
        exact ⟨_, by first | rfl | (simp [errW_none, errW_some] <;> rfl) | (simp [*, errW_none, errW_some] <;> rfl), by (with_reducible repeat (first | apply Kd.R_alloc | apply Kd.R_drewN | apply Kd.R_drew)); exact HO_3.out, st57_1 HI0.out NB0_183.out, bl2 HB.out (IsS57.ge HI0.out) GE183.out, kb1 HK.out GW183.out⟩
    ·rw [if_neg c67] at H
     have c67b0 : (t207 == 0) = false := beq_eq_false_iff_ne.mpr c67
     have c67b1 : (t207 != 0) = true := bne_iff_ne.mpr c67
     simp only [Option.some.injEq, Prod.mk.injEq] at H
     obtain ⟨rfl, rfl, rfl⟩ := H
     go_wp2_with (first | ((with_reducible refine gate_callee (f := 18) rfl ?_); refine goesL_ (some 37) rfl rfl Tryd.func18 (by kernel_rfl) rfl #[.pointer (some ⟨g, 0, none⟩), .int .i64 50] rfl lnp ?_; (with_reducible refine (spec_l01Next.calls g s0_0 x1001_1 x1002_1 50 t207 t208 t209 w0 _ ?side1 ?side2 A66.out).mono ?_); (case side1 => exact st57_1 HI0.out NB0_183.out); (case side2 => exact bl2 HB.out (IsS57.ge HI0.out) GE183.out); rintro e w76 ⟨rfl, hi, hb, hk⟩; refine ⟨_, rfl, ?_⟩; have n_ := (⟨am (Kd.R_mono (Kd.R_keep (IsS57.apart (show IsS57 w0 _ g s0_0 x1001_1 x1002_1 from st57_1 HI0.out NB0_183.out) (rqR HO_3.out) (by decide)) hk (fun _ h => h.2)) (fun _ h => h.1)), am (KeepBut.blk hk (g' := gb183) (o := .cells #[.int .i64 x184000_1, .int .i64 x184001_1, .int .i64 x184002_1, .int .i64 x184003_1] 29 (0, 0)) (bf0 BK183.out) NB183_0.out (by simp)), am (KeepBut.trans (kb1 HK.out GW183.out) hk (.inl rfl)), am (hb), am (hi)⟩ : _ ∧ _ ∧ _ ∧ _ ∧ _); clear HO_3 BK183 HK HB HI0; obtain ⟨HO_3, BK183, HK, HB, HI0⟩ := n_; (try clear hb); (try clear hb2); (try clear hk); (try clear hi)))
     go_ret
     exact ⟨_, by first | rfl | (simp [errW_none, errW_some] <;> rfl) | (simp [*, errW_none, errW_some] <;> rfl), by (with_reducible repeat (first | apply Kd.R_alloc | apply Kd.R_drewN | apply Kd.R_drew)); exact HO_3.out, st57_1 HI0.out NB0_183.out, bl2 HB.out (IsS57.ge HI0.out) GE183.out, kb1 HK.out GW183.out⟩

end Go.Proofs.YthfmhfgckhkgjaaDoor.PFnResumed
