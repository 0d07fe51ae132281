-- Laid by wip/mk/mk.py out of the translation. Not trusted: Lean checks it.
import Derived.Test.YthfmhfgckhkgjaaDoorPFnResumedx0
import Derived.Test.YthfmhfgckhkgjaaDoorPFnResumedx8
import Derived.Test.YthfmhfgckhkgjaaDoorPFnResumedx9
import Derived.Test.YthfmhfgckhkgjaaDoorPFnResumedx11
import Derived.Test.YthfmhfgckhkgjaaDoorPFnResumedx12
namespace Go.Proofs.YthfmhfgckhkgjaaDoor.PFnResumed
open Go.RowKit Go.Proofs.YthfmhfgckhkgjaaDoorW.PrintWords Go.Proofs.YthfmhfgckhkgjaaDoorW.PrintLast Go.Proofs.YthfmhfgckhkgjaaDoorW.PrintMore
attribute [local go_sem] max2_int min2_int max_two min_two max_three min_three max_four min_four   -- for this text's walks alone
set_option linter.unusedVariables false
set_option linter.unusedSimpArgs false

/-! ### impl_recovered: function 20 -/
mutual
def impl_recovered.l0 : Nat → List (S31) → List ByteArray → Int → Int → Int → Int → Int → Int → Option ((List (S31)) × Int × Int × Int × Int)
 | 0, _, _, _, _, _, _, _, _ => none
 | k + 1, x4, x25, x26, x27, x293000, x293001, x293002, x293003 => if x27 < x26 then (if 0 ≤ x27 then (if x27 < (x25.length : Int) then ((strings_Split.f (rdOf ByteArray.empty x25 x27) (⟨#[32]⟩ : ByteArray)).bind fun t302 => (if (t302.length : Int) = 3 then (impl_recovered.j1 k x4 x27 (rdOf ByteArray.empty x25 x27) t302 x25 x26 x27 ((x4.length : Int) == 200) x293000 x293001 x293002 x293003) else (impl_recovered.j1 k x4 x27 (rdOf ByteArray.empty x25 x27) t302 x25 x26 x27 true x293000 x293001 x293002 x293003))) else (none)) else (none)) else (some (x4, x293000, x293001, x293002, x293003))
def impl_recovered.j1 : Nat → List (S31) → Int → ByteArray → List ByteArray → List ByteArray → Int → Int → Bool → Int → Int → Int → Int → Option ((List (S31)) × Int × Int × Int × Int)
 | 0, _, _, _, _, _, _, _, _, _, _, _, _ => none
 | k + 1, x4, x7, x8, x9, x25, x26, x27, x41, x293000, x293001, x293002, x293003 => if x41 = true then (some (x4, x293000, x293001, x293002, x293003)) else (if 0 < (x9.length : Int) then ((impl_readDecimal.f (rdOf ByteArray.empty x9 0)).bind fun bt306 => (if 1 < (x9.length : Int) then ((impl_readDecimal.f (rdOf ByteArray.empty x9 1)).bind fun bt309 => ((impl_after.f k x293000 x293001 x293002 x293003 bt306.1 bt309.1).bind fun bt312 => (if bt306.2 = true then (if bt309.2 = true then (if bt312.2.2.2.2 = true then ((impl_entryLine.f bt306.1 bt309.1 x7).bind fun t318 => (if t318.toList = x8.toList then (if x4.length < 8796093022208 then (impl_recovered.l0 k (x4 ++ [(⟨bt306.1, bt309.1⟩ : S31)]) x25 x26 (wrap64 (x27 + 1)) bt312.1 bt312.2.1 bt312.2.2.1 bt312.2.2.2.1) else (none)) else (some (x4, x293000, x293001, x293002, x293003)))) else (some (x4, x293000, x293001, x293002, x293003))) else (some (x4, x293000, x293001, x293002, x293003))) else (some (x4, x293000, x293001, x293002, x293003))))) else (none))) else (none))
end
def impl_recovered.f (k : Nat) (a0 : ByteArray) : Option ((List (S31)) × Int × Int × Int × Int) := (strings_Split.f a0 (⟨#[10]⟩ : ByteArray)).bind fun t293 => (if 0 ≤ (wrap64 ((t293.length : Int) - 1)) then (if (wrap64 ((t293.length : Int) - 1)) ≤ (t293.length : Int) then ((some (t293.take ((wrap64 ((t293.length : Int) - 1)) : Int).toNat : List ByteArray)).bind fun y296 => (impl_recovered.l0 k (([] : List (S31))) y296 (y296.length : Int) 0 0 0 0 0)) else (none)) else (none))
theorem impl_recovered.mono_l : ∀ k, (∀ y0 y1 y2 y3 y4 y5 y6 y7, LeO (impl_recovered.l0 k y0 y1 y2 y3 y4 y5 y6 y7) (impl_recovered.l0 (k + 1) y0 y1 y2 y3 y4 y5 y6 y7)) ∧ (∀ y0 y1 y2 y3 y4 y5 y6 y7 y8 y9 y10 y11, LeO (impl_recovered.j1 k y0 y1 y2 y3 y4 y5 y6 y7 y8 y9 y10 y11) (impl_recovered.j1 (k + 1) y0 y1 y2 y3 y4 y5 y6 y7 y8 y9 y10 y11))
 | 0 => ⟨fun _ _ _ _ _ _ _ _ r h => by simp [impl_recovered.l0] at h, fun _ _ _ _ _ _ _ _ _ _ _ _ r h => by simp [impl_recovered.j1] at h⟩
 | k + 1 => by
  obtain ⟨ih0, ih1⟩ := impl_recovered.mono_l k
  refine ⟨?_, ?_⟩
  ·intro y0 y1 y2 y3 y4 y5 y6 y7
   unfold impl_recovered.l0
   repeat' first | (with_reducible first | exact ih0 _ _ _ _ _ _ _ _ | exact ih1 _ _ _ _ _ _ _ _ _ _ _ _ | exact impl_after.mono _ _ _ _ _ _ _ | exact LeO.refl _ | exact LeO.none _ | refine LeO.ite ?_ ?_ | refine LeO.bind ?_ (fun _ => ?_)) | exact ih0 _ _ _ _ _ _ _ _ | exact ih1 _ _ _ _ _ _ _ _ _ _ _ _ | exact impl_after.mono _ _ _ _ _ _ _ | exact LeO.none _ | refine LeO.ite ?_ ?_ | refine LeO.bind ?_ (fun _ => ?_)
  ·intro y0 y1 y2 y3 y4 y5 y6 y7 y8 y9 y10 y11
   unfold impl_recovered.j1
   repeat' first | (with_reducible first | exact ih0 _ _ _ _ _ _ _ _ | exact ih1 _ _ _ _ _ _ _ _ _ _ _ _ | exact impl_after.mono _ _ _ _ _ _ _ | exact LeO.refl _ | exact LeO.none _ | refine LeO.ite ?_ ?_ | refine LeO.bind ?_ (fun _ => ?_)) | exact ih0 _ _ _ _ _ _ _ _ | exact ih1 _ _ _ _ _ _ _ _ _ _ _ _ | exact impl_after.mono _ _ _ _ _ _ _ | exact LeO.none _ | refine LeO.ite ?_ ?_ | refine LeO.bind ?_ (fun _ => ?_)
theorem impl_recovered.mono : ∀ a0 k, LeO (impl_recovered.f k a0) (impl_recovered.f (k + 1) a0) := by
 intro a0 k
 obtain ⟨ih0, ih1⟩ := impl_recovered.mono_l k
 unfold impl_recovered.f
 repeat' first | (with_reducible first | exact ih0 _ _ _ _ _ _ _ _ | exact ih1 _ _ _ _ _ _ _ _ _ _ _ _ | exact impl_after.mono _ _ _ _ _ _ _ | exact LeO.refl _ | exact LeO.none _ | refine LeO.ite ?_ ?_ | refine LeO.bind ?_ (fun _ => ?_)) | exact ih0 _ _ _ _ _ _ _ _ | exact ih1 _ _ _ _ _ _ _ _ _ _ _ _ | exact impl_after.mono _ _ _ _ _ _ _ | exact LeO.none _ | refine LeO.ite ?_ ?_ | refine LeO.bind ?_ (fun _ => ?_)
set_option maxHeartbeats 8000000 in
set_option maxRecDepth 100000 in
theorem impl_recovered.calls (k : Nat) (a0 : ByteArray) (r1 : List (S31)) (r2 : Int) (r3 : Int) (r4 : Int) (r5 : Int) (w : World) (h : impl_recovered.f k a0 = some (r1, r2, r3, r4, r5)) (hG : Gl w) :
  Calls Tryd.prog 20 #[.string a0] w fun e w' => ∃ v0_ : Value, e = .returned (.tuple #[v0_, .agg #[.int .i64 r2, .int .i64 r3, .int .i64 r4, .int .i64 r5]]) ∧ Kd.R k31 31 w' w.heap.size (fun _ => True) v0_ r1 ∧ Below w.heap.size w w' := by
 have HG := Aside0.mk hG
 clear hG
 have hu29 := Tryd.underlying29
 have hu31 := Tryd.underlying31
 have HB := am (Below.refl w.heap.size w)
 have H : ((strings_Split.f a0 (⟨#[10]⟩ : ByteArray)).bind fun t293 => (if 0 ≤ (wrap64 ((t293.length : Int) - 1)) then (if (wrap64 ((t293.length : Int) - 1)) ≤ (t293.length : Int) then ((some (t293.take ((wrap64 ((t293.length : Int) - 1)) : Int).toNat : List ByteArray)).bind fun y296 => (impl_recovered.l0 k (([] : List (S31))) y296 (y296.length : Int) 0 0 0 0 0)) else (none)) else (none))) = some (r1, r2, r3, r4, r5) := h
 clear h
 obtain ⟨y289, hy289⟩ : ∃ y_ : List (S31), y_ = (([] : List (S31))) := ⟨_, rfl⟩
 replace H : ((strings_Split.f a0 (⟨#[10]⟩ : ByteArray)).bind fun t293 => (if 0 ≤ (wrap64 ((t293.length : Int) - 1)) then (if (wrap64 ((t293.length : Int) - 1)) ≤ (t293.length : Int) then ((some (t293.take ((wrap64 ((t293.length : Int) - 1)) : Int).toNat : List ByteArray)).bind fun y296 => (impl_recovered.l0 k y289 y296 (y296.length : Int) 0 0 0 0 0)) else (none)) else (none))) = some (r1, r2, r3, r4, r5) := by first | (rw [hy289]; with_reducible exact H) | (have H2_ := (Option.bind_some _ _).symm.trans H; rw [hy289]; with_reducible exact H2_) | (have H2_ := (Option.bind_some _ _).symm.trans H; with_reducible exact H2_) | with_reducible exact H | (rw [hy289]; exact H) | exact H
 have Ny289 := Aside0.mk hy289
 clear hy289
 replace H := Option.bind_eq_some_iff.mp H
 obtain ⟨t293, A20, H⟩ := H
 replace H : (if 0 ≤ (wrap64 ((t293.length : Int) - 1)) then (if (wrap64 ((t293.length : Int) - 1)) ≤ (t293.length : Int) then ((some (t293.take ((wrap64 ((t293.length : Int) - 1)) : Int).toNat : List ByteArray)).bind fun y296 => (impl_recovered.l0 k y289 y296 (y296.length : Int) 0 0 0 0 0)) else (none)) else (none)) = some (r1, r2, r3, r4, r5) := H
 have A2 := Aside0.mk A20
 clear A20
 obtain ⟨ji3, hji3⟩ : ∃ j_ : Int, (wrap64 ((t293.length : Int) - 1)) = j_ := ⟨_, rfl⟩
 replace H : (if 0 ≤ (ji3) then (if (ji3) ≤ (t293.length : Int) then ((some (t293.take ((ji3) : Int).toNat : List ByteArray)).bind fun y296 => (impl_recovered.l0 k y289 y296 (y296.length : Int) 0 0 0 0 0)) else (none)) else (none)) = some (r1, r2, r3, r4, r5) := by first | (rw [hji3] at H; exact H) | (simp only [hji3] at H ⊢; exact H)
 (try rw [hji3] at A2)
 have hji3w : (IntKind.i64.wrap ((t293.length : Int) - 1)) = ji3 := (i64_w _).trans hji3
 by_cases c4 : 0 ≤ (ji3)
 ·rw [if_pos c4] at H
  have c4b0 := eq_true c4
  have c4b1 : decide (0 ≤ (ji3)) = true := decide_eq_true c4
  clear c4
  by_cases c5 : (ji3) ≤ (t293.length : Int)
  ·rw [if_pos c5] at H
   have c5b0 := eq_true c5
   have c5b1 : decide ((ji3) ≤ (t293.length : Int)) = true := decide_eq_true c5
   clear c5
   obtain ⟨y296, hy296⟩ : ∃ y_ : List ByteArray, y_ = (t293.take ((ji3) : Int).toNat) := ⟨_, rfl⟩
   replace H : (impl_recovered.l0 k y289 y296 (y296.length : Int) 0 0 0 0 0) = some (r1, r2, r3, r4, r5) := by first | (rw [hy296]; with_reducible exact H) | (have H2_ := (Option.bind_some _ _).symm.trans H; rw [hy296]; with_reducible exact H2_) | (have H2_ := (Option.bind_some _ _).symm.trans H; with_reducible exact H2_) | with_reducible exact H | (rw [hy296]; exact H) | exact H
   have Ny296 := Aside0.mk hy296
   clear hy296
   have H' := Aside0.mk H
   clear H
   go_enter Tryd.func20, Tryd.ntmps20
   go_wp2_with (first | ((with_reducible refine gate_dst (N := 3) rfl ?_); (try (refine gate_guard (by rfl) ?_; dsimp only)); refine box_event ?hg (N := 3) ?hd (cs := #[.int .i64 0, .int .i64 0, .int .i64 0, .int .i64 0]) (t := 29) ?hr ?_; (case hd => rfl); (case hg => rfl); (case hr => first | (go_simp; done) | (go_simp; rfl)); intro gb288 hg w6 hbox hb; have n_ := (⟨am (below_step (bl0 HB.out) hb), am (hbox), am ((gw hg (bl0 HB.out) : w.heap.size ≤ gb288)), am ((gw hg (bl0 HB.out) : w.heap.size ≤ gb288))⟩ : _ ∧ _ ∧ _ ∧ _); clear HB; obtain ⟨HB, BK288, GW288, GE288⟩ := n_; clear hb hbox hg) | ((with_reducible refine gate_dst (N := 17) rfl ?_); (try (refine gate_guard (by rfl) ?_; dsimp only)); refine Kd.R_lit k31 _ 31 ?hg (N := 17) ?hd (xs := ([] : List (S31))) (inner := []) (ok := fun _ => True) (okp := fun _ => True) ?hr ?hp (fun _ hk => hk) trivial (Below.refl _ _) (Nat.le_refl _) (by simp) ?_; (case hd => rfl); (case hg => rfl); (case hr => first | (go_simp; done) | (go_simp; rfl)); (case hp => exact (Reps.none _ _)); intro v290 w7 ho8 hb hg_ hnew_; clear hg_ hnew_; (first | rw [← Ny289.out] at ho8 | (simp only [Int.reduceToNat] at ho8; rw [← Ny289.out] at ho8)); have n_ := (⟨am (Kd.R_lower ho8 (below_size (bl1 HB.out GE288.out))), am (blk_below (bf0 BK288.out) hb), am (below_step (bl1 HB.out GE288.out) hb)⟩ : _ ∧ _ ∧ _); clear BK288 HB; obtain ⟨HO291, BK288, HB⟩ := n_; clear hb ho8) | ((with_reducible refine gate_dst (N := 5) rfl ?_); (try (refine gate_guard (by rfl) ?_; dsimp only)); refine box_event ?hg (N := 5) ?hd (cs := #[.int .i64 0, .int .i64 0, .int .i64 0, .int .i64 0]) (t := 29) ?hr ?_; (case hd => rfl); (case hg => rfl); (case hr => first | (go_simp; done) | (go_simp; rfl)); intro gb292 hg w9 hbox hb; have n_ := (⟨am (Kd.R_below (rqR HO291.out) hb), am (blk_below (bf0 BK288.out) hb), am (below_step (bl1 HB.out GE288.out) hb), am (hbox), am ((gw hg (bl1 HB.out GE288.out) : w.heap.size ≤ gb292)), am ((gw hg (bl1 HB.out GE288.out) : w.heap.size ≤ gb292)), am ((nl hg (bf0 BK288.out) : gb288 ≠ gb292)), am ((ng hg (bf0 BK288.out) : gb292 ≠ gb288))⟩ : _ ∧ _ ∧ _ ∧ _ ∧ _ ∧ _ ∧ _ ∧ _); clear HO291 BK288 HB; obtain ⟨HO291, BK288, HB, BK292, GW292, GE292, NB288_292, NB292_288⟩ := n_; clear hb hbox hg; have hnb10 := NB292_288.out; have hnc10 := NB288_292.out; obtain ⟨hcz11_0, hcz11_1, hcz11_2, hcz11_3, hfz11_0, hfz11_1, hfz11_2, hfz11_3⟩ := cs4 BK292.out) | ((with_reducible refine gate_callee (f := 33) rfl ?_); refine goesL_ (some 20) rfl rfl Tryd.func33 (by kernel_rfl) rfl #[.string a0, .string (⟨#[10]⟩ : ByteArray)] rfl lnp ?_; (with_reducible refine (strings_Split.calls a0 (⟨#[10]⟩ : ByteArray) t293 _ A2.out ?gl_).mono ?_); (case gl_ => exact Gl.below HG.out (bl2 HB.out GE288.out GE292.out)); rintro e w12 ⟨v294, rfl, ho0, hb⟩; refine ⟨_, rfl, ?_⟩; have n_ := (⟨am (Kd.R_below (by (with_reducible repeat (first | apply Kd.R_alloc | apply Kd.R_drewN | apply Kd.R_drew)); exact (Kd.R_mono (Kd.R_far (p := ⟨gb292, 3, none⟩) (Kd.R_far (p := ⟨gb292, 2, none⟩) (Kd.R_far (p := ⟨gb292, 1, none⟩) (Kd.R_far (p := ⟨gb292, 0, none⟩) (Kd.R_types HO291.out BK292.out (by decide)) (fun _ hk => hk.2) (.int .i64 0)) (fun _ hk => hk.2) (.int .i64 0)) (fun _ hk => hk.2) (.int .i64 0)) (fun _ hk => hk.2) (.int .i64 0)) (fun _ h_ => h_.1))) hb), am (Kd.V_lower (Kd.V_mono (ok' := fun k_ => some k_ ≠ (v290 : Value).ownBlock ∧ k_ ≠ gb288 ∧ k_ ≠ gb292) ho0 (fun k_ hk_ => ⟨(Kd.fresh' (Kd.R_lt (by (with_reducible repeat (first | apply Kd.R_alloc | apply Kd.R_drewN | apply Kd.R_drew)); exact (Kd.R_mono (Kd.R_far (p := ⟨gb292, 3, none⟩) (Kd.R_far (p := ⟨gb292, 2, none⟩) (Kd.R_far (p := ⟨gb292, 1, none⟩) (Kd.R_far (p := ⟨gb292, 0, none⟩) (Kd.R_types HO291.out BK292.out (by decide)) (fun _ hk => hk.2) (.int .i64 0)) (fun _ hk => hk.2) (.int .i64 0)) (fun _ hk => hk.2) (.int .i64 0)) (fun _ hk => hk.2) (.int .i64 0)) (fun _ h_ => h_.1)))) k_ hk_), (Kd.freshB (g := gb288) (o := .cells #[.int .i64 0, .int .i64 0, .int .i64 0, .int .i64 0] 29 (0, 0)) (bf1 BK288.out NB288_292.out) k_ hk_), (Kd.freshB (g := gb292) (o := .cells #[.int .i64 0, .int .i64 0, .int .i64 0, .int .i64 0] 29 (0, 0)) (bp0 BK292.out) k_ hk_)⟩)) (below_size (bl2 HB.out GE288.out GE292.out))), am (blk_below (bf1 BK288.out NB288_292.out) hb), am (blk_below (g := gb292) (o := .cells #[.int .i64 0, .int .i64 0, .int .i64 0, .int .i64 0] 29 (0, 0)) (bp0 BK292.out) hb), am (below_step (bl2 HB.out GE288.out GE292.out) hb)⟩ : _ ∧ _ ∧ _ ∧ _ ∧ _); clear HO291 BK288 BK292 HB; obtain ⟨HO291, HO295, BK288, BK292, HB⟩ := n_; (try clear hb); (try clear hb2); (try clear hk); (try clear hi); (try clear ho0); obtain ⟨Ao13, co13, eo13⟩ := Kd.V_slice HO295.out; subst eo13; have q14 : ((ji3) : Int) ≤ ((t293.length : Int) : Int) := of_decide_eq_true (by first | (with_reducible assumption) | assumption); obtain ⟨i014, hi014, _, hsz14, _⟩ := info_parts info9; have hroom14 : t293.length ≤ co13 := (Kd.V_reads' HO295.out).2.1; have hC14 : Kd.F Kd.string _ _ Ao13 t293.length t293 := (Kd.V_at (base := w.heap.size) HO295.out).2.2; have hcut14 := cut_to (P := Tryd.prog) 62 9 .i64 Tryd.underlying62 hi014 Ao13 t293.length co13 (ji3) (of_decide_eq_true (by first | (with_reducible assumption) | assumption)) q14 hroom14; have hr14 := Kd.F_take (m := ((ji3) : Int).toNat) hC14 (by omega); have hy14 : y296.length = ((ji3) : Int).toNat := (by rw [Ny296.out, List.length_take]; omega); rw [← Ny296.out] at hr14; rw [← hy14] at hcut14; have HO300 := am (show Kd.V Kd.string 9 _ w.heap.size _ (.slice Ao13 y296.length co13) y296 from Kd.V_mk (by omega) hr14); have HC300 := am (show y296.length ≤ co13 from by omega); clear hr14 hC14 hroom14 hi014 hsz14; have KY14 := Aside0.mk hy14; clear hy14; replace q14 := eq_true q14))
   go_loopg [4, 27] k (fun kq v4 v27 w' => ∃ (x4_1 : List (S31)) (x27_1 : Int) (x293000_1 : Int) (x293001_1 : Int) (x293002_1 : Int) (x293003_1 : Int), v27 = .int .i64 x27_1 ∧ Aside0 (impl_recovered.l0 kq x4_1 y296 (y296.length : Int) x27_1 x293000_1 x293001_1 x293002_1 x293003_1 = some (r1, r2, r3, r4, r5)) ∧ Aside0 (kq ≤ k) ∧ Aside0 (Kd.R k31 31 w' w.heap.size (fun _ => True) v4 x4_1) ∧ Aside0 (Kd.V Kd.string 9 w' w.heap.size (fun k_ => some k_ ≠ (v4 : Value).ownBlock ∧ k_ ≠ gb288 ∧ k_ ≠ gb292) (.slice Ao13 y296.length co13) y296) ∧ Aside0 (w'.heap[gb288]? = some (.cells #[.int .i64 0, .int .i64 0, .int .i64 0, .int .i64 0] 29 (0, 0))) ∧ Aside0 (w'.heap[gb292]? = some (.cells #[.int .i64 x293000_1, .int .i64 x293001_1, .int .i64 x293002_1, .int .i64 x293003_1] 29 (0, 0))) ∧ Aside0 (Below w.heap.size w w'))
   case atStart => exact ⟨(y289), (0), (0), (0), (0), (0), (by first | rfl | (simp; done) | (simp [*]; done)), H', ⟨Nat.le_refl _⟩, ⟨by (with_reducible repeat (first | apply Kd.R_alloc | apply Kd.R_drewN | apply Kd.R_drew)); exact HO291.out⟩, ⟨by (with_reducible repeat (first | apply Kd.V_alloc | apply Kd.V_drewN | apply Kd.V_drew)); exact HO300.out⟩, ⟨bf0 BK288.out⟩, ⟨bf0 BK292.out⟩, ⟨bl2 HB.out GE288.out GE292.out⟩⟩
   case round =>
    clear H'
    try clear c1
    try clear q1
    try clear c2
    try clear p2
    try clear c3
    try clear c4
    try clear c4b0
    try clear c4b1
    try clear c5
    try clear c5b0
    try clear c5b1
    try clear p6
    try clear c10
    try clear q14
    try clear hcz11_0
    try clear hcz11_1
    try clear hcz11_2
    try clear hcz11_3
    try clear hfz11_0
    try clear hfz11_1
    try clear hfz11_2
    try clear hfz11_3
    try clear q14
    obtain ⟨x4_1, x27_1, x293000_1, x293001_1, x293002_1, x293003_1, rfl, HA, HK1, HO_4, HO_25, BK288, BK292, HB⟩ := hrel
    cases gk with
    | zero => exact absurd HA.out (by simp [impl_recovered.l0])
    | succ k1 =>
     have H := HA.out
     clear HA
     simp only [impl_recovered.l0] at H
     by_cases c15 : x27_1 < (y296.length : Int)
     ·rw [if_pos c15] at H
      have c15b0 : decide (x27_1 < (y296.length : Int)) = true := decide_eq_true c15
      clear c15
      by_cases c16 : 0 ≤ x27_1
      ·rw [if_pos c16] at H
       have c16b0 : decide (0 ≤ x27_1) = true := decide_eq_true c16
       clear c16
       by_cases c17 : x27_1 < (y296.length : Int)
       ·rw [if_pos c17] at H
        have c17b0 : decide (x27_1 < (y296.length : Int)) = true := decide_eq_true c17
        clear c17
        replace H := Option.bind_eq_some_iff.mp H
        obtain ⟨t302, A180, H⟩ := H
        replace H : (if (t302.length : Int) = 3 then (impl_recovered.j1 k1 x4_1 x27_1 (rdOf ByteArray.empty y296 x27_1) t302 y296 (y296.length : Int) x27_1 ((x4_1.length : Int) == 200) x293000_1 x293001_1 x293002_1 x293003_1) else (impl_recovered.j1 k1 x4_1 x27_1 (rdOf ByteArray.empty y296 x27_1) t302 y296 (y296.length : Int) x27_1 true x293000_1 x293001_1 x293002_1 x293003_1)) = some (r1, r2, r3, r4, r5) := H
        have A18 := Aside0.mk A180
        clear A180
        have HC19 := Aside0.mk H
        clear H
        have p301 : 0 ≤ (x27_1 : Int) := of_decide_eq_true (by first | (with_reducible assumption) | assumption)
        have q301 : x27_1 < (y296.length : Int) := of_decide_eq_true (by first | (with_reducible assumption) | assumption)
        obtain ⟨ad301, e301, hx301_0⟩ := Kd.at_string (Kd.V_reads' HO_25.out).2.2 x27_1 p301 q301
        cases e301
        replace p301 := eq_true p301
        replace q301 := eq_true q301
        go_upto_region 7 with (first | ((with_reducible refine gate_callee (f := 33) rfl ?_); refine goesL_ (some 33) rfl rfl Tryd.func33 (by kernel_rfl) rfl #[.string (rdOf ByteArray.empty y296 x27_1), .string (⟨#[32]⟩ : ByteArray)] rfl lnp ?_; (with_reducible refine (strings_Split.calls (rdOf ByteArray.empty y296 x27_1) (⟨#[32]⟩ : ByteArray) t302 _ A18.out ?gl_).mono ?_); (case gl_ => exact Gl.below HG.out (bl2 HB.out GE288.out GE292.out)); rintro e w20 ⟨v303, rfl, ho0, hb⟩; refine ⟨_, rfl, ?_⟩; have n_ := (⟨am (Kd.R_below (rqR HO_4.out) hb), am (Kd.V_below (rqV HO_25.out) hb), am (Kd.V_lower (Kd.V_mono (ok' := fun k_ => some k_ ≠ (u4 : Value).ownBlock ∧ k_ ≠ gb288 ∧ k_ ≠ gb292) ho0 (fun k_ hk_ => ⟨(Kd.fresh' (Kd.R_lt (rqR HO_4.out)) k_ hk_), (Kd.freshB (g := gb288) (o := .cells #[.int .i64 0, .int .i64 0, .int .i64 0, .int .i64 0] 29 (0, 0)) (bf0 BK288.out) k_ hk_), (Kd.freshB (g := gb292) (o := .cells #[.int .i64 x293000_1, .int .i64 x293001_1, .int .i64 x293002_1, .int .i64 x293003_1] 29 (0, 0)) (bf0 BK292.out) k_ hk_)⟩)) (below_size (bl2 HB.out GE288.out GE292.out))), am (blk_below (bf0 BK288.out) hb), am (blk_below (bf0 BK292.out) hb), am (below_step (bl2 HB.out GE288.out GE292.out) hb)⟩ : _ ∧ _ ∧ _ ∧ _ ∧ _ ∧ _); clear HO_4 HO_25 BK288 BK292 HB; obtain ⟨HO_4, HO_25, HO304, BK288, BK292, HB⟩ := n_; (try clear hb); (try clear hb2); (try clear hk); (try clear hi); (try clear ho0)))
        (try simp only [Act.put, List.setIfInBounds_toArray, List.set_cons_zero, List.set_cons_succ])
        go_cut [41] (fun v41 wc => ∃ (kq : Nat) (x41_18 : Bool), v41 = .bool x41_18 ∧ Aside0 (impl_recovered.j1 kq x4_1 x27_1 (rdOf ByteArray.empty y296 x27_1) t302 y296 (y296.length : Int) x27_1 x41_18 x293000_1 x293001_1 x293002_1 x293003_1 = some (r1, r2, r3, r4, r5)) ∧ Aside0 (kq ≤ k1) ∧ Aside0 (Kd.R k31 31 wc w.heap.size (fun _ => True) u4 x4_1) ∧ Aside0 (Kd.V Kd.string 9 wc w.heap.size (fun k_ => some k_ ≠ (u4 : Value).ownBlock ∧ k_ ≠ gb288 ∧ k_ ≠ gb292) v303 t302) ∧ Aside0 (Kd.V Kd.string 9 wc w.heap.size (fun k_ => some k_ ≠ (u4 : Value).ownBlock ∧ k_ ≠ gb288 ∧ k_ ≠ gb292) (.slice (some ad301) y296.length co13) y296) ∧ Aside0 (wc.heap[gb288]? = some (.cells #[.int .i64 0, .int .i64 0, .int .i64 0, .int .i64 0] 29 (0, 0))) ∧ Aside0 (wc.heap[gb292]? = some (.cells #[.int .i64 x293000_1, .int .i64 x293001_1, .int .i64 x293002_1, .int .i64 x293003_1] 29 (0, 0))) ∧ Aside0 (Below w.heap.size w wc))
        case first =>
         have H := HC19.out
         clear HC19
         by_cases c21 : (t302.length : Int) = 3
         ·rw [if_pos c21] at H
          have c21b0 : ((t302.length : Int) == 3) = true := beq_iff_eq.mpr c21
          have c21b1 : ((t302.length : Int) != 3) = false := bne_eq_false_iff_eq.mpr c21
          clear c21
          (first | rw [c21b0] | (simp only [i64_w, i32_w]; rw [c21b0]) | skip)
          have H' := Aside0.mk H
          clear H
          obtain ⟨Ao22, co22, eo22⟩ := Kd.V_slice HO304.out
          subst eo22
          obtain ⟨Ao23, co23, eo23⟩ := Kd.R_slice HO_4.out
          subst eo23
          go_wp2
          go_meet
          case rel => exact ⟨_, (((x4_1.length : Int) == 200)), (by first | rfl | (simp; done) | (simp [*]; done)), H', ⟨by have := HK1.out; first | omega | exact Nat.le_refl _⟩, ⟨by (with_reducible repeat (first | apply Kd.R_alloc | apply Kd.R_drewN | apply Kd.R_drew)); exact HO_4.out⟩, ⟨by (with_reducible repeat (first | apply Kd.V_alloc | apply Kd.V_drewN | apply Kd.V_drew)); exact HO304.out⟩, ⟨by (with_reducible repeat (first | apply Kd.V_alloc | apply Kd.V_drewN | apply Kd.V_drew)); exact HO_25.out⟩, ⟨bf0 BK288.out⟩, ⟨bf0 BK292.out⟩, ⟨bl2 HB.out GE288.out GE292.out⟩⟩
         ·rw [if_neg c21] at H
          have c21b0 : ((t302.length : Int) == 3) = false := beq_eq_false_iff_ne.mpr c21
          have c21b1 : ((t302.length : Int) != 3) = true := bne_iff_ne.mpr c21
          (first | rw [c21b0] | (simp only [i64_w, i32_w]; rw [c21b0]) | skip)
          have H' := Aside0.mk H
          clear H
          obtain ⟨Ao24, co24, eo24⟩ := Kd.V_slice HO304.out
          subst eo24
          go_wp2
          go_meet
          case rel => exact ⟨_, (true), (by first | rfl | (simp; done) | (simp [*]; done)), H', ⟨by have := HK1.out; first | omega | exact Nat.le_refl _⟩, ⟨by (with_reducible repeat (first | apply Kd.R_alloc | apply Kd.R_drewN | apply Kd.R_drew)); exact HO_4.out⟩, ⟨by (with_reducible repeat (first | apply Kd.V_alloc | apply Kd.V_drewN | apply Kd.V_drew)); exact HO304.out⟩, ⟨by (with_reducible repeat (first | apply Kd.V_alloc | apply Kd.V_drewN | apply Kd.V_drew)); exact HO_25.out⟩, ⟨bf0 BK288.out⟩, ⟨bf0 BK292.out⟩, ⟨bl2 HB.out GE288.out GE292.out⟩⟩
        case rest =>
         clear HC19
         try clear c1
         try clear q1
         try clear c2
         try clear p2
         try clear c3
         try clear p3
         try clear q3
         try clear hx3
         try clear c4
         try clear c4b0
         try clear c4b1
         try clear c5
         try clear c5b0
         try clear c5b1
         try clear p6
         try clear c10
         try clear q14
         try clear c15
         try clear c15b0
         try clear c16
         try clear c16b0
         try clear c17
         try clear c17b0
         try clear c20
         try clear c21
         try clear c21b0
         try clear c21b1
         try clear hcz11_0
         try clear hcz11_1
         try clear hcz11_2
         try clear hcz11_3
         try clear hfz11_0
         try clear hfz11_1
         try clear hfz11_2
         try clear hfz11_3
         try clear hx301_0
         try clear p2
         try clear p301
         try clear p6
         try clear q1
         try clear q14
         try clear q301
         obtain ⟨kq, x41_18, rfl, HA, HJ18, HO_4, HO_9, HO_25, BK288, BK292, HB⟩ := hcut
         cases kq with
         | zero => exact absurd HA.out (by simp [impl_recovered.j1])
         | succ kj18 =>
          have H := HA.out
          clear HA
          simp only [impl_recovered.j1] at H
          by_cases c25 : x41_18 = true
          ·subst c25
           have H1 : (some (x4_1, x293000_1, x293001_1, x293002_1, x293003_1)) = some (r1, r2, r3, r4, r5) := by rw [if_pos rfl] at H; exact H
           clear H
           have H := H1
           clear H1
           simp only [Option.some.injEq, Prod.mk.injEq] at H
           obtain ⟨rfl, rfl, rfl, rfl, rfl⟩ := H
           try go_wp2
           have n_ := (⟨am (Kd.R_drew HO_4.out), am (Kd.V_drew HO_9.out), am (Kd.V_drew HO_25.out), am (blk_drew BK288.out), am (blk_drew BK292.out), am (below_drew1 HB.out)⟩ : _ ∧ _ ∧ _ ∧ _ ∧ _ ∧ _)
           clear HO_4
           clear HO_9
           clear HO_25
           clear BK288
           clear BK292
           clear HB
           obtain ⟨HO_4, HO_9, HO_25, BK288, BK292, HB⟩ := n_
           refine start_ (n := 4) (S := fun w' => w'.cell? ⟨gb292, 0, none⟩ = some (.int .i64 x293000_1) ∧ w'.cell? ⟨gb292, 1, none⟩ = some (.int .i64 x293001_1) ∧ w'.cell? ⟨gb292, 2, none⟩ = some (.int .i64 x293002_1) ∧ w'.cell? ⟨gb292, 3, none⟩ = some (.int .i64 x293003_1)) (ds := []) #[false, false, false, false] (by kernel_rfl) rfl rfl ⟨(blk_cell BK292.out 0).trans rfl, (blk_cell BK292.out 1).trans rfl, (blk_cell BK292.out 2).trans rfl, (blk_cell BK292.out 3).trans rfl⟩ (fun hHeld => ?_)
           generalize wc.drew = w26 at HO_4 HO_9 HO_25 BK288 BK292 HB hHeld ⊢
           refine pure_ (i := 0) (N := some 88) (v := ?_) (a' := ?_) #[true, false, false, false] rfl rfl (by kernel_rfl) (fun _ _ _ h => h) (Or.inl ⟨by rfl, ?_⟩) ?_ ?_
           rotate_left; (focus exact gs); rotate_left; (focus exact pt)
           refine pure_ (i := 2) (N := some 2) (v := ?_) (a' := ?_) #[true, false, true, false] rfl rfl (by kernel_rfl) (fun _ _ _ h => h) (Or.inl ⟨by rfl, ?_⟩) ?_ ?_
           rotate_left; (focus exact gs); rotate_left; (focus exact pt)
           refine take_ (i := 1) (N := some 89) (v := ?_) (a' := ?_) #[true, true, true, false] rfl rfl (by kernel_rfl) (fun _ _ _ h => h) (Or.inl ⟨by rfl, ?_⟩) hHeld ?_ ?_
           rotate_left
           ·rintro w' ⟨s0, s1, s2, s3⟩
            go_simp
            with_reducible rfl
           rotate_left
           ·exact pt
           refine one_ (i := 3) (N := none) #[true, true, true, true] rfl rfl (by kernel_rfl) (by decide) (fun K hK => ?_)
           have hs27 := bc BK288.out 0 (.int .i64 0)
           have hfs27 := bz BK288.out 0
           have hns27_1 := NB292_288.out
           have hms27_1 := NB288_292.out
           have hs28 := bc BK288.out 1 (.int .i64 0)
           have hfs28 := bz BK288.out 1
           have hns28_1 := NB292_288.out
           have hms28_1 := NB288_292.out
           have hs29 := bc BK288.out 2 (.int .i64 0)
           have hfs29 := bz BK288.out 2
           have hns29_1 := NB292_288.out
           have hms29_1 := NB288_292.out
           have hs30 := bc BK288.out 3 (.int .i64 0)
           have hfs30 := bz BK288.out 3
           have hns30_1 := NB292_288.out
           have hms30_1 := NB288_292.out
           refine skip_ (w1 := ?_) (by rfl) rfl ?_ ?_
           rotate_left
           ·go_simp
            rfl
           refine hK.out _ _ ⟨((cell_far (p := ⟨gb288, _, none⟩) NB292_288.out _).trans (((cell_far (p := ⟨gb288, _, none⟩) NB292_288.out _).trans (((cell_far (p := ⟨gb288, _, none⟩) NB292_288.out _).trans (((cell_far (p := ⟨gb288, _, none⟩) NB292_288.out _).trans (hHeld.1)))))))), ((cell_far (p := ⟨gb288, _, none⟩) NB292_288.out _).trans (((cell_far (p := ⟨gb288, _, none⟩) NB292_288.out _).trans (((cell_far (p := ⟨gb288, _, none⟩) NB292_288.out _).trans (((cell_far (p := ⟨gb288, _, none⟩) NB292_288.out _).trans (hHeld.2.1)))))))), ((cell_far (p := ⟨gb288, _, none⟩) NB292_288.out _).trans (((cell_far (p := ⟨gb288, _, none⟩) NB292_288.out _).trans (((cell_far (p := ⟨gb288, _, none⟩) NB292_288.out _).trans (((cell_far (p := ⟨gb288, _, none⟩) NB292_288.out _).trans (hHeld.2.2.1)))))))), ((cell_far (p := ⟨gb288, _, none⟩) NB292_288.out _).trans (((cell_far (p := ⟨gb288, _, none⟩) NB292_288.out _).trans (((cell_far (p := ⟨gb288, _, none⟩) NB292_288.out _).trans (((cell_far (p := ⟨gb288, _, none⟩) NB292_288.out _).trans (hHeld.2.2.2))))))))⟩ (fun hHeld => ?_)
           clear hK K
           refine done_ (by kernel_rfl) ?_
           try go_wp2
           refine bodyPost_ret (results_tc rfl _ _ gb288 29 #[.int .i64 x293000_1, .int .i64 x293001_1, .int .i64 x293002_1, .int .i64 x293003_1] (0, 0) _ rfl (bp0 BK288.out) Tryd.underlying29 rfl (by kernel_rfl)) rfl ?_
           exact ⟨_, by first | rfl | (simp [errW_none, errW_some] <;> rfl) | (simp only [← hji3]; first | rfl | (simp [errW_none, errW_some] <;> rfl)) | (simp [*, errW_none, errW_some] <;> rfl), by (with_reducible repeat (first | apply Kd.R_alloc | apply Kd.R_drewN | apply Kd.R_drew)); exact Kd.R_mono (Kd.R_far (p := ⟨gb288, 3, none⟩) (Kd.R_far (p := ⟨gb288, 2, none⟩) (Kd.R_far (p := ⟨gb288, 1, none⟩) (Kd.R_far (p := ⟨gb288, 0, none⟩) (Kd.R_types HO_4.out BK288.out (by decide)) (fun _ hk => hk.2) (.int .i64 x293000_1)) (fun _ hk => hk.2) (.int .i64 x293001_1)) (fun _ hk => hk.2) (.int .i64 x293002_1)) (fun _ hk => hk.2) (.int .i64 x293003_1)) (fun _ hk => trivial), bl2 HB.out GE288.out GE292.out⟩
          ·replace c25 := Bool.eq_false_iff.mpr c25
           subst c25
           have H1 : (if 0 < (t302.length : Int) then ((impl_readDecimal.f (rdOf ByteArray.empty t302 0)).bind fun bt306 => (if 1 < (t302.length : Int) then ((impl_readDecimal.f (rdOf ByteArray.empty t302 1)).bind fun bt309 => ((impl_after.f kj18 x293000_1 x293001_1 x293002_1 x293003_1 bt306.1 bt309.1).bind fun bt312 => (if bt306.2 = true then (if bt309.2 = true then (if bt312.2.2.2.2 = true then ((impl_entryLine.f bt306.1 bt309.1 x27_1).bind fun t318 => (if t318.toList = (rdOf ByteArray.empty y296 x27_1).toList then (if x4_1.length < 8796093022208 then (impl_recovered.l0 kj18 (x4_1 ++ [(⟨bt306.1, bt309.1⟩ : S31)]) y296 (y296.length : Int) (wrap64 (x27_1 + 1)) bt312.1 bt312.2.1 bt312.2.2.1 bt312.2.2.2.1) else (none)) else (some (x4_1, x293000_1, x293001_1, x293002_1, x293003_1)))) else (some (x4_1, x293000_1, x293001_1, x293002_1, x293003_1))) else (some (x4_1, x293000_1, x293001_1, x293002_1, x293003_1))) else (some (x4_1, x293000_1, x293001_1, x293002_1, x293003_1))))) else (none))) else (none)) = some (r1, r2, r3, r4, r5) := by rw [if_neg (show ¬ (false = true) by decide)] at H; exact H
           clear H
           have H := H1
           clear H1
           by_cases c31 : 0 < (t302.length : Int)
           ·rw [if_pos c31] at H
            have c31b0 : decide (0 < (t302.length : Int)) = true := decide_eq_true c31
            have c31b1 : decide (0 < t302.length) = true := decide_eq_true (by omega)
            clear c31
            replace H := Option.bind_eq_some_iff.mp H
            obtain ⟨⟨t306, t307⟩, A320, H⟩ := H
            replace H : (if 1 < (t302.length : Int) then ((impl_readDecimal.f (rdOf ByteArray.empty t302 1)).bind fun bt309 => ((impl_after.f kj18 x293000_1 x293001_1 x293002_1 x293003_1 t306 bt309.1).bind fun bt312 => (if t307 = true then (if bt309.2 = true then (if bt312.2.2.2.2 = true then ((impl_entryLine.f t306 bt309.1 x27_1).bind fun t318 => (if t318.toList = (rdOf ByteArray.empty y296 x27_1).toList then (if x4_1.length < 8796093022208 then (impl_recovered.l0 kj18 (x4_1 ++ [(⟨t306, bt309.1⟩ : S31)]) y296 (y296.length : Int) (wrap64 (x27_1 + 1)) bt312.1 bt312.2.1 bt312.2.2.1 bt312.2.2.2.1) else (none)) else (some (x4_1, x293000_1, x293001_1, x293002_1, x293003_1)))) else (some (x4_1, x293000_1, x293001_1, x293002_1, x293003_1))) else (some (x4_1, x293000_1, x293001_1, x293002_1, x293003_1))) else (some (x4_1, x293000_1, x293001_1, x293002_1, x293003_1))))) else (none)) = some (r1, r2, r3, r4, r5) := H
            have A32 := Aside0.mk A320
            clear A320
            by_cases c33 : 1 < (t302.length : Int)
            ·rw [if_pos c33] at H
             have c33b0 : decide (1 < (t302.length : Int)) = true := decide_eq_true c33
             have c33b1 : decide (1 < t302.length) = true := decide_eq_true (by omega)
             clear c33
             replace H := Option.bind_eq_some_iff.mp H
             obtain ⟨⟨t309, t310⟩, A340, H⟩ := H
             replace H : ((impl_after.f kj18 x293000_1 x293001_1 x293002_1 x293003_1 t306 t309).bind fun bt312 => (if t307 = true then (if t310 = true then (if bt312.2.2.2.2 = true then ((impl_entryLine.f t306 t309 x27_1).bind fun t318 => (if t318.toList = (rdOf ByteArray.empty y296 x27_1).toList then (if x4_1.length < 8796093022208 then (impl_recovered.l0 kj18 (x4_1 ++ [(⟨t306, t309⟩ : S31)]) y296 (y296.length : Int) (wrap64 (x27_1 + 1)) bt312.1 bt312.2.1 bt312.2.2.1 bt312.2.2.2.1) else (none)) else (some (x4_1, x293000_1, x293001_1, x293002_1, x293003_1)))) else (some (x4_1, x293000_1, x293001_1, x293002_1, x293003_1))) else (some (x4_1, x293000_1, x293001_1, x293002_1, x293003_1))) else (some (x4_1, x293000_1, x293001_1, x293002_1, x293003_1)))) = some (r1, r2, r3, r4, r5) := H
             have A34 := Aside0.mk A340
             clear A340
             replace H := Option.bind_eq_some_iff.mp H
             obtain ⟨⟨t312, t313, t314, t315, t316⟩, A350, H⟩ := H
             replace H : (if t307 = true then (if t310 = true then (if t316 = true then ((impl_entryLine.f t306 t309 x27_1).bind fun t318 => (if t318.toList = (rdOf ByteArray.empty y296 x27_1).toList then (if x4_1.length < 8796093022208 then (impl_recovered.l0 kj18 (x4_1 ++ [(⟨t306, t309⟩ : S31)]) y296 (y296.length : Int) (wrap64 (x27_1 + 1)) t312 t313 t314 t315) else (none)) else (some (x4_1, x293000_1, x293001_1, x293002_1, x293003_1)))) else (some (x4_1, x293000_1, x293001_1, x293002_1, x293003_1))) else (some (x4_1, x293000_1, x293001_1, x293002_1, x293003_1))) else (some (x4_1, x293000_1, x293001_1, x293002_1, x293003_1))) = some (r1, r2, r3, r4, r5) := H
             have A35 := Aside0.mk A350
             clear A350
             by_cases c36 : t307 = true
             ·subst c36
              have H1 : (if t310 = true then (if t316 = true then ((impl_entryLine.f t306 t309 x27_1).bind fun t318 => (if t318.toList = (rdOf ByteArray.empty y296 x27_1).toList then (if x4_1.length < 8796093022208 then (impl_recovered.l0 kj18 (x4_1 ++ [(⟨t306, t309⟩ : S31)]) y296 (y296.length : Int) (wrap64 (x27_1 + 1)) t312 t313 t314 t315) else (none)) else (some (x4_1, x293000_1, x293001_1, x293002_1, x293003_1)))) else (some (x4_1, x293000_1, x293001_1, x293002_1, x293003_1))) else (some (x4_1, x293000_1, x293001_1, x293002_1, x293003_1))) = some (r1, r2, r3, r4, r5) := by rw [if_pos rfl] at H; exact H
              clear H
              have H := H1
              clear H1
              by_cases c37 : t310 = true
              ·subst c37
               have H1 : (if t316 = true then ((impl_entryLine.f t306 t309 x27_1).bind fun t318 => (if t318.toList = (rdOf ByteArray.empty y296 x27_1).toList then (if x4_1.length < 8796093022208 then (impl_recovered.l0 kj18 (x4_1 ++ [(⟨t306, t309⟩ : S31)]) y296 (y296.length : Int) (wrap64 (x27_1 + 1)) t312 t313 t314 t315) else (none)) else (some (x4_1, x293000_1, x293001_1, x293002_1, x293003_1)))) else (some (x4_1, x293000_1, x293001_1, x293002_1, x293003_1))) = some (r1, r2, r3, r4, r5) := by rw [if_pos rfl] at H; exact H
               clear H
               have H := H1
               clear H1
               by_cases c38 : t316 = true
               ·subst c38
                have H1 : ((impl_entryLine.f t306 t309 x27_1).bind fun t318 => (if t318.toList = (rdOf ByteArray.empty y296 x27_1).toList then (if x4_1.length < 8796093022208 then (impl_recovered.l0 kj18 (x4_1 ++ [(⟨t306, t309⟩ : S31)]) y296 (y296.length : Int) (wrap64 (x27_1 + 1)) t312 t313 t314 t315) else (none)) else (some (x4_1, x293000_1, x293001_1, x293002_1, x293003_1)))) = some (r1, r2, r3, r4, r5) := by rw [if_pos rfl] at H; exact H
                clear H
                have H := H1
                clear H1
                replace H := Option.bind_eq_some_iff.mp H
                obtain ⟨t318, A390, H⟩ := H
                replace H : (if t318.toList = (rdOf ByteArray.empty y296 x27_1).toList then (if x4_1.length < 8796093022208 then (impl_recovered.l0 kj18 (x4_1 ++ [(⟨t306, t309⟩ : S31)]) y296 (y296.length : Int) (wrap64 (x27_1 + 1)) t312 t313 t314 t315) else (none)) else (some (x4_1, x293000_1, x293001_1, x293002_1, x293003_1))) = some (r1, r2, r3, r4, r5) := H
                have A39 := Aside0.mk A390
                clear A390
                by_cases c40 : t318.toList = (rdOf ByteArray.empty y296 x27_1).toList
                ·rw [if_pos c40] at H
                 have c40b0 : (t318.toList == (rdOf ByteArray.empty y296 x27_1).toList) = true := beq_iff_eq.mpr c40
                 have c40b1 : (t318.toList != (rdOf ByteArray.empty y296 x27_1).toList) = false := bne_eq_false_iff_eq.mpr c40
                 clear c40
                 by_cases c41 : x4_1.length < 8796093022208
                 ·rw [if_pos c41] at H
                  have LMc41 := Aside0.mk c41
                  clear c41
                  obtain ⟨y319, hy319⟩ : ∃ y_ : List (S31), y_ = (x4_1 ++ [(⟨t306, t309⟩ : S31)]) := ⟨_, rfl⟩
                  replace H : (impl_recovered.l0 kj18 y319 y296 (y296.length : Int) (wrap64 (x27_1 + 1)) t312 t313 t314 t315) = some (r1, r2, r3, r4, r5) := by first | (rw [hy319]; with_reducible exact H) | (have H2_ := (Option.bind_some _ _).symm.trans H; rw [hy319]; with_reducible exact H2_) | (have H2_ := (Option.bind_some _ _).symm.trans H; with_reducible exact H2_) | with_reducible exact H | (rw [hy319]; exact H) | exact H
                  have Ny319 := Aside0.mk hy319
                  clear hy319
                  have H' := Aside0.mk H
                  clear H
                  obtain ⟨Ao42, co42, eo42⟩ := Kd.V_slice HO_9.out
                  subst eo42
                  have p305 : 0 ≤ (0 : Int) := (by omega)
                  have q305 : 0 < (t302.length : Int) := of_decide_eq_true (by first | (with_reducible assumption) | assumption)
                  obtain ⟨ad305, e305, hx305_0⟩ := Kd.at_string (Kd.V_reads' HO_9.out).2.2 0 p305 q305
                  cases e305
                  have qi305 : (0 < t302.length) = True := eq_true (by omega)
                  (try rw [show ((0 : Int)).toNat = 0 from rfl] at hx305_0)
                  (try rw [Addr.add_zero'] at hx305_0)
                  replace p305 := eq_true p305
                  replace q305 := eq_true q305
                  try go_wp2_with (first | ((with_reducible refine gate_callee (f := 34) rfl ?_); refine goesL_ (some 46) rfl rfl Tryd.func34 (by kernel_rfl) rfl #[.string (rdOf ByteArray.empty t302 0)] rfl lnp ?_; (with_reducible refine (impl_readDecimal.calls (rdOf ByteArray.empty t302 0) t306 true _ A32.out ?gl_).mono ?_); (case gl_ => exact Gl.below HG.out (bl2 HB.out GE288.out GE292.out)); rintro e w43 ⟨rfl, hb⟩; refine ⟨_, rfl, ?_⟩; have n_ := (⟨am (Kd.R_below (rqR HO_4.out) hb), am (Kd.V_below (rqV HO_9.out) hb), am (Kd.V_below (rqV HO_25.out) hb), am (blk_below (bf0 BK288.out) hb), am (blk_below (bf0 BK292.out) hb), am (below_step (bl2 HB.out GE288.out GE292.out) hb)⟩ : _ ∧ _ ∧ _ ∧ _ ∧ _ ∧ _); clear HO_4 HO_9 HO_25 BK288 BK292 HB; obtain ⟨HO_4, HO_9, HO_25, BK288, BK292, HB⟩ := n_; (try clear hb); (try clear hb2); (try clear hk); (try clear hi); have p308 : 0 ≤ (1 : Int) := (by omega); have q308 : 1 < (t302.length : Int) := of_decide_eq_true (by first | (with_reducible assumption) | assumption); obtain ⟨ad308, e308, hx308_0⟩ := Kd.at_string (Kd.V_reads' HO_9.out).2.2 1 p308 q308; obtain rfl : ad305 = ad308 := (by injection e308); (try simp only [show (1 : Int).toNat = 1 from rfl, Nat.reduceMul, Nat.reduceEqDiff, Go.Addr.add, ↓reduceIte] at hx308_0); have qi308 : (1 < t302.length) = True := eq_true (by omega); (try rw [show ((1 : Int)).toNat = 1 from rfl] at hx308_0); replace p308 := eq_true p308; replace q308 := eq_true q308) | ((with_reducible refine gate_callee (f := 34) rfl ?_); refine goesL_ (some 53) rfl rfl Tryd.func34 (by kernel_rfl) rfl #[.string (rdOf ByteArray.empty t302 1)] rfl lnp ?_; (with_reducible refine (impl_readDecimal.calls (rdOf ByteArray.empty t302 1) t309 true _ A34.out ?gl_).mono ?_); (case gl_ => exact Gl.below HG.out (bl2 HB.out GE288.out GE292.out)); rintro e w44 ⟨rfl, hb⟩; refine ⟨_, rfl, ?_⟩; have n_ := (⟨am (Kd.R_below (rqR HO_4.out) hb), am (Kd.V_below (rqV HO_9.out) hb), am (Kd.V_below (rqV HO_25.out) hb), am (blk_below (bf0 BK288.out) hb), am (blk_below (bf0 BK292.out) hb), am (below_step (bl2 HB.out GE288.out GE292.out) hb)⟩ : _ ∧ _ ∧ _ ∧ _ ∧ _ ∧ _); clear HO_4 HO_9 HO_25 BK288 BK292 HB; obtain ⟨HO_4, HO_9, HO_25, BK288, BK292, HB⟩ := n_; (try clear hb); (try clear hb2); (try clear hk); (try clear hi)) | ((with_reducible refine gate_dst (N := 14) rfl ?_); (try (refine gate_guard (by rfl) ?_; dsimp only)); refine box_event ?hg (N := 14) ?hd (cs := #[.int .i64 0, .int .i64 0]) (t := 31) ?hr ?_; (case hd => rfl); (case hg => rfl); (case hr => first | (go_simp; done) | (go_simp; rfl)); intro gb311 hg w45 hbox hb; have n_ := (⟨am (Kd.R_below (Kd.R_elderB (rqR HO_4.out) gb311 (Nat.le_of_eq hg.symm)) hb), am (Kd.V_below (Kd.V_elderB (rqV HO_9.out) gb311 (Nat.le_of_eq hg.symm)) hb), am (Kd.V_below (Kd.V_elderB (rqV HO_25.out) gb311 (Nat.le_of_eq hg.symm)) hb), am (blk_below (bf0 BK288.out) hb), am (blk_below (bf0 BK292.out) hb), am (below_step (bl2 HB.out GE288.out GE292.out) hb), am (hbox), am ((gw hg (bl2 HB.out GE288.out GE292.out) : w.heap.size ≤ gb311)), am ((gw hg (bl2 HB.out GE288.out GE292.out) : w.heap.size ≤ gb311)), am ((nl hg (bf0 BK288.out) : gb288 ≠ gb311)), am ((ng hg (bf0 BK288.out) : gb311 ≠ gb288)), am ((nl hg (bf0 BK292.out) : gb292 ≠ gb311)), am ((ng hg (bf0 BK292.out) : gb311 ≠ gb292))⟩ : _ ∧ _ ∧ _ ∧ _ ∧ _ ∧ _ ∧ _ ∧ _ ∧ _ ∧ _ ∧ _ ∧ _ ∧ _); clear HO_4 HO_9 HO_25 BK288 BK292 HB; obtain ⟨HO_4, HO_9, HO_25, BK288, BK292, HB, BK311, GW311, GE311, NB288_311, NB311_288, NB292_311, NB311_292⟩ := n_; clear hb hbox hg; have hnb46 := NB311_288.out; have hnc46 := NB288_311.out; have hnb47 := NB311_292.out; have hnc47 := NB292_311.out; obtain ⟨hcz48_0, hcz48_1, hfz48_0, hfz48_1⟩ := cs2 BK311.out; have hnb49 := NB292_288.out; have hnc49 := NB288_292.out; obtain ⟨hcz50_0, hcz50_1, hcz50_2, hcz50_3, hfz50_0, hfz50_1, hfz50_2, hfz50_3⟩ := cs4 BK292.out) | ((with_reducible refine gate_callee (f := 26) rfl ?_); refine goesL_ (some 62) rfl rfl Tryd.func26 (by kernel_rfl) rfl #[.agg #[.int .i64 x293000_1, .int .i64 x293001_1, .int .i64 x293002_1, .int .i64 x293003_1], .agg #[.int .i64 t306, .int .i64 t309]] rfl lnp ?_; (with_reducible refine (impl_after.calls kj18 x293000_1 x293001_1 x293002_1 x293003_1 t306 t309 t312 t313 t314 t315 true _ A35.out).mono ?_); rintro e w51 ⟨rfl, hb⟩; refine ⟨_, rfl, ?_⟩; have n_ := (⟨am (Kd.R_below (by (with_reducible repeat (first | apply Kd.R_alloc | apply Kd.R_drewN | apply Kd.R_drew)); exact (Kd.R_mono (Kd.R_far (p := ⟨gb311, 1, none⟩) (Kd.R_far (p := ⟨gb311, 0, none⟩) (Kd.R_mono HO_4.out (fun k_ hk => (⟨hk, hk.2⟩ : _ ∧ k_ ≠ gb311))) (fun _ hk => hk.2) (.int .i64 t306)) (fun _ hk => hk.2) (.int .i64 t309)) (fun _ h_ => h_.1))) hb), am (Kd.V_below (by (with_reducible repeat (first | apply Kd.V_alloc | apply Kd.V_drewN | apply Kd.V_drew)); exact (Kd.V_mono (Kd.V_far (p := ⟨gb311, 1, none⟩) (Kd.V_far (p := ⟨gb311, 0, none⟩) (Kd.V_mono HO_9.out (fun k_ hk => (⟨hk, hk.2⟩ : _ ∧ k_ ≠ gb311))) (fun _ hk => hk.2) (.int .i64 t306)) (fun _ hk => hk.2) (.int .i64 t309)) (fun _ h_ => h_.1))) hb), am (Kd.V_below (by (with_reducible repeat (first | apply Kd.V_alloc | apply Kd.V_drewN | apply Kd.V_drew)); exact (Kd.V_mono (Kd.V_far (p := ⟨gb311, 1, none⟩) (Kd.V_far (p := ⟨gb311, 0, none⟩) (Kd.V_mono HO_25.out (fun k_ hk => (⟨hk, hk.2⟩ : _ ∧ k_ ≠ gb311))) (fun _ hk => hk.2) (.int .i64 t306)) (fun _ hk => hk.2) (.int .i64 t309)) (fun _ h_ => h_.1))) hb), am (blk_below (bf1 BK288.out NB288_311.out) hb), am (blk_below (bf1 BK292.out NB292_311.out) hb), am (blk_below (g := gb311) (o := .cells #[.int .i64 t306, .int .i64 t309] 31 (0, 0)) (bp0 BK311.out) hb), am (below_step (bl3 HB.out GE288.out GE292.out GE311.out) hb)⟩ : _ ∧ _ ∧ _ ∧ _ ∧ _ ∧ _ ∧ _); clear HO_4 HO_9 HO_25 BK288 BK292 BK311 HB; obtain ⟨HO_4, HO_9, HO_25, BK288, BK292, BK311, HB⟩ := n_; (try clear hb); (try clear hb2); (try clear hk); (try clear hi)) | ((with_reducible refine gate_dst (N := 15) rfl ?_); (try (refine gate_guard (by rfl) ?_; dsimp only)); refine box_event ?hg (N := 15) ?hd (cs := #[.int .i64 0, .int .i64 0, .int .i64 0, .int .i64 0]) (t := 29) ?hr ?_; (case hd => rfl); (case hg => rfl); (case hr => first | (go_simp; done) | (go_simp; rfl)); intro gb317 hg w52 hbox hb; have n_ := (⟨am (Kd.R_below (rqR HO_4.out) hb), am (Kd.V_below (Kd.V_elderB (rqV HO_9.out) gb317 (Nat.le_of_eq hg.symm)) hb), am (Kd.V_below (Kd.V_elderB (rqV HO_25.out) gb317 (Nat.le_of_eq hg.symm)) hb), am (blk_below (bf0 BK288.out) hb), am (blk_below (bf0 BK292.out) hb), am (blk_below (bf0 BK311.out) hb), am (below_step (bl3 HB.out GE288.out GE292.out GE311.out) hb), am (hbox), am ((gw hg (bl3 HB.out GE288.out GE292.out GE311.out) : w.heap.size ≤ gb317)), am ((gw hg (bl3 HB.out GE288.out GE292.out GE311.out) : w.heap.size ≤ gb317)), am ((nl hg (bf0 BK288.out) : gb288 ≠ gb317)), am ((ng hg (bf0 BK288.out) : gb317 ≠ gb288)), am ((nl hg (bf0 BK292.out) : gb292 ≠ gb317)), am ((ng hg (bf0 BK292.out) : gb317 ≠ gb292)), am ((nl hg (bf0 BK311.out) : gb311 ≠ gb317)), am ((ng hg (bf0 BK311.out) : gb317 ≠ gb311))⟩ : _ ∧ _ ∧ _ ∧ _ ∧ _ ∧ _ ∧ _ ∧ _ ∧ _ ∧ _ ∧ _ ∧ _ ∧ _ ∧ _ ∧ _ ∧ _); clear HO_4 HO_9 HO_25 BK288 BK292 BK311 HB; obtain ⟨HO_4, HO_9, HO_25, BK288, BK292, BK311, HB, BK317, GW317, GE317, NB288_317, NB317_288, NB292_317, NB317_292, NB311_317, NB317_311⟩ := n_; clear hb hbox hg; have hnb53 := NB317_288.out; have hnc53 := NB288_317.out; have hnb54 := NB317_292.out; have hnc54 := NB292_317.out; have hnb55 := NB317_311.out; have hnc55 := NB311_317.out; obtain ⟨hcz56_0, hcz56_1, hcz56_2, hcz56_3, hfz56_0, hfz56_1, hfz56_2, hfz56_3⟩ := cs4 BK317.out; obtain ⟨hcz57_0, hcz57_1, hfz57_0, hfz57_1⟩ := cs2 BK311.out) | (go_at_call 35; (with_reducible refine (impl_entryLine.calls t306 t309 x27_1 t318 _ A39.out ?gl_).mono ?_); (case gl_ => exact Gl.below HG.out (bl4 HB.out GE288.out GE292.out GE311.out GE317.out)); rintro e w58 ⟨rfl, hb⟩; have n_ := (⟨am (Kd.R_below (by (with_reducible repeat (first | apply Kd.R_alloc | apply Kd.R_drewN | apply Kd.R_drew)); exact (Kd.R_mono (Kd.R_far (p := ⟨gb317, 3, none⟩) (Kd.R_far (p := ⟨gb317, 2, none⟩) (Kd.R_far (p := ⟨gb317, 1, none⟩) (Kd.R_far (p := ⟨gb317, 0, none⟩) (Kd.R_types HO_4.out BK317.out (by decide)) (fun _ hk => hk.2) (.int .i64 t312)) (fun _ hk => hk.2) (.int .i64 t313)) (fun _ hk => hk.2) (.int .i64 t314)) (fun _ hk => hk.2) (.int .i64 t315)) (fun _ h_ => h_.1))) hb), am (Kd.V_below (by (with_reducible repeat (first | apply Kd.V_alloc | apply Kd.V_drewN | apply Kd.V_drew)); exact (Kd.V_mono (Kd.V_far (p := ⟨gb317, 3, none⟩) (Kd.V_far (p := ⟨gb317, 2, none⟩) (Kd.V_far (p := ⟨gb317, 1, none⟩) (Kd.V_far (p := ⟨gb317, 0, none⟩) (Kd.V_mono HO_9.out (fun k_ hk => (⟨hk, hk.2⟩ : _ ∧ k_ ≠ gb317))) (fun _ hk => hk.2) (.int .i64 t312)) (fun _ hk => hk.2) (.int .i64 t313)) (fun _ hk => hk.2) (.int .i64 t314)) (fun _ hk => hk.2) (.int .i64 t315)) (fun _ h_ => h_.1))) hb), am (Kd.V_below (by (with_reducible repeat (first | apply Kd.V_alloc | apply Kd.V_drewN | apply Kd.V_drew)); exact (Kd.V_mono (Kd.V_far (p := ⟨gb317, 3, none⟩) (Kd.V_far (p := ⟨gb317, 2, none⟩) (Kd.V_far (p := ⟨gb317, 1, none⟩) (Kd.V_far (p := ⟨gb317, 0, none⟩) (Kd.V_mono HO_25.out (fun k_ hk => (⟨hk, hk.2⟩ : _ ∧ k_ ≠ gb317))) (fun _ hk => hk.2) (.int .i64 t312)) (fun _ hk => hk.2) (.int .i64 t313)) (fun _ hk => hk.2) (.int .i64 t314)) (fun _ hk => hk.2) (.int .i64 t315)) (fun _ h_ => h_.1))) hb), am (blk_below (bf1 BK288.out NB288_317.out) hb), am (blk_below (bf1 BK292.out NB292_317.out) hb), am (blk_below (bf1 BK311.out NB311_317.out) hb), am (blk_below (g := gb317) (o := .cells #[.int .i64 t312, .int .i64 t313, .int .i64 t314, .int .i64 t315] 29 (0, 0)) (bp0 BK317.out) hb), am (below_step (bl4 HB.out GE288.out GE292.out GE311.out GE317.out) hb)⟩ : _ ∧ _ ∧ _ ∧ _ ∧ _ ∧ _ ∧ _ ∧ _); clear HO_4 HO_9 HO_25 BK288 BK292 BK311 BK317 HB; obtain ⟨HO_4, HO_9, HO_25, BK288, BK292, BK311, BK317, HB⟩ := n_; (try clear hb); (try clear hb2); (try clear hk); (try clear hi)))
                  have n_ := (⟨am (Kd.R_drew HO_4.out), am (Kd.V_drew HO_9.out), am (Kd.V_drew HO_25.out), am (blk_drew BK288.out), am (blk_drew BK292.out), am (blk_drew BK311.out), am (blk_drew BK317.out), am (below_drew1 HB.out)⟩ : _ ∧ _ ∧ _ ∧ _ ∧ _ ∧ _ ∧ _ ∧ _)
                  clear HO_4
                  clear HO_9
                  clear HO_25
                  clear BK288
                  clear BK292
                  clear BK311
                  clear BK317
                  clear HB
                  obtain ⟨HO_4, HO_9, HO_25, BK288, BK292, BK311, BK317, HB⟩ := n_
                  refine start_ (n := 7) (S := fun w' => w'.cell? ⟨gb311, 0, none⟩ = some (.int .i64 t306) ∧ w'.cell? ⟨gb311, 1, none⟩ = some (.int .i64 t309) ∧ w'.cell? ⟨gb317, 0, none⟩ = some (.int .i64 t312) ∧ w'.cell? ⟨gb317, 1, none⟩ = some (.int .i64 t313) ∧ w'.cell? ⟨gb317, 2, none⟩ = some (.int .i64 t314) ∧ w'.cell? ⟨gb317, 3, none⟩ = some (.int .i64 t315)) (ds := []) #[false, false, false, false, false, false, false] (by kernel_rfl) rfl rfl ⟨(blk_cell BK311.out 0).trans rfl, (blk_cell BK311.out 1).trans rfl, (blk_cell BK317.out 0).trans rfl, (blk_cell BK317.out 1).trans rfl, (blk_cell BK317.out 2).trans rfl, (blk_cell BK317.out 3).trans rfl⟩ (fun hHeld => ?_)
                  generalize w58.drew = w59 at HO_4 HO_9 HO_25 BK288 BK292 BK311 BK317 HB hHeld ⊢
                  refine pure_ (i := 0) (N := some 82) (v := ?_) (a' := ?_) #[true, false, false, false, false, false, false] rfl rfl (by kernel_rfl) (fun _ _ _ h => h) (Or.inl ⟨by rfl, ?_⟩) ?_ ?_
                  rotate_left; (focus exact gs); rotate_left; (focus exact pt)
                  refine take_ (i := 1) (N := some 83) (v := ?_) (a' := ?_) #[true, true, false, false, false, false, false] rfl rfl (by kernel_rfl) (fun _ _ _ h => h) (Or.inl ⟨by rfl, ?_⟩) hHeld ?_ ?_
                  rotate_left
                  ·rintro w' ⟨s0, s1, s2, s3, s4, s5⟩
                   go_simp
                   with_reducible rfl
                  rotate_left
                  ·exact pt
                  refine take_ (i := 4) (N := some 86) (v := ?_) (a' := ?_) #[true, true, false, false, true, false, false] rfl rfl (by kernel_rfl) (fun _ _ _ h => h) (Or.inl ⟨by rfl, ?_⟩) hHeld ?_ ?_
                  rotate_left
                  ·rintro w' ⟨s0, s1, s2, s3, s4, s5⟩
                   go_simp
                   with_reducible rfl
                  rotate_left
                  ·exact pt
                  refine one_ (i := 2) (N := some 84) #[true, true, true, false, true, false, false] rfl rfl (by kernel_rfl) (by decide) (fun K hK => ?_)
                  refine value_ (w1 := ?_) (v := ?_) (by rfl) rfl ?_ ?_
                  rotate_left 2
                  ·go_simp
                   constructor
                   ·rfl
                   ·rfl
                  refine hK.out _ _ ⟨(blk_cell (blk_alloc BK311.out _) 0).trans rfl, (blk_cell (blk_alloc BK311.out _) 1).trans rfl, (blk_cell (blk_alloc BK317.out _) 0).trans rfl, (blk_cell (blk_alloc BK317.out _) 1).trans rfl, (blk_cell (blk_alloc BK317.out _) 2).trans rfl, (blk_cell (blk_alloc BK317.out _) 3).trans rfl⟩ (fun hHeld => ?_)
                  clear hK K
                  refine norm_ (a' := ?_) ?_ ?_
                  rotate_left
                  ·show Act.put _ (some 84) _ = _
                   simp only [Act.put, List.setIfInBounds_toArray, List.set_cons_zero, List.set_cons_succ, i64_w, i32_w]
                   rfl
                  refine one_ (i := 3) (N := some 85) #[true, true, true, true, true, false, false] rfl rfl (by kernel_rfl) (by decide) (fun K hK => ?_)
                  refine Kd.R_append_step k31 (w0 := w) w.heap.size (by rfl) (.tmp 82) (.tmp 84) 37 31 (.agg #[(.int .i64 0), (.int .i64 0)]) 16 rfl Tryd.underlying37 info31 rfl (by decide) (by omega) u4 x4_1 (⟨t306, t309⟩ : S31) [.int .i64 t306, .int .i64 t309] (fun k_ => k_ ≠ gb311) (fun _ => False) rfl rfl ?aP (fun _ hk => hk.elim) ?aF ?aO ?aB ?aS ?aL ?_
                  (case aP => exact k31_mkM _ _ _ (⟨t306, t309⟩ : S31))
                  (case aB => exact (bl4 HB.out GE288.out GE292.out GE311.out GE317.out))
                  (case aF => exact (fun k_ hk => Kd.freshB (g := gb311) (o := .cells #[.int .i64 t306, .int .i64 t309] 31 (0, 0)) (bf0 BK311.out) k_ hk))
                  (case aO => exact (by (with_reducible repeat (first | apply Kd.R_alloc | apply Kd.R_drewN | apply Kd.R_drew)); exact Kd.R_mono HO_4.out (fun _ hk => hk.2)))
                  (case aS => exact (below_size (bl4 HB.out GE288.out GE292.out GE311.out GE317.out)))
                  (case aL => have := LMc41.out; omega)
                  intro v320 w60 ho hb hg hat
                  rw [← Ny319.out] at ho
                  have n_ := (⟨am (Kd.V_afterv (ok := (fun k_ => k_ ≠ gb288 ∧ k_ ≠ gb292 ∧ k_ ≠ gb311 ∧ k_ ≠ gb317)) (by (with_reducible repeat (first | apply Kd.V_alloc | apply Kd.V_drewN | apply Kd.V_drew)); exact Kd.V_mono HO_9.out (fun _ hk => ⟨⟨hk.1.1.2.1, ⟨hk.1.1.2.2, ⟨hk.1.2, hk.2⟩⟩⟩, hk.1.1.1⟩)) hg hat), am (Kd.V_afterv (ok := (fun k_ => k_ ≠ gb288 ∧ k_ ≠ gb292 ∧ k_ ≠ gb311 ∧ k_ ≠ gb317)) (by (with_reducible repeat (first | apply Kd.V_alloc | apply Kd.V_drewN | apply Kd.V_drew)); exact Kd.V_mono HO_25.out (fun _ hk => ⟨⟨hk.1.1.2.1, ⟨hk.1.1.2.2, ⟨hk.1.2, hk.2⟩⟩⟩, hk.1.1.1⟩)) hg hat), am (blk_grown (bf0 BK288.out) hg (Kd.R_ne HO_4.out BK288.out (by decide))), am (blk_grown (bf0 BK292.out) hg (Kd.R_ne HO_4.out BK292.out (by decide))), am (blk_grown (bf0 BK311.out) hg (Kd.R_away HO_4.out (fun _ hk => hk.2))), am (blk_grown (bf0 BK317.out) hg (Kd.R_ne HO_4.out BK317.out (by decide))), am (hb), am (ho)⟩ : _ ∧ _ ∧ _ ∧ _ ∧ _ ∧ _ ∧ _ ∧ _)
                  clear HO_9
                  clear HO_25
                  clear BK288
                  clear BK292
                  clear BK311
                  clear BK317
                  clear HB
                  clear HO_4
                  obtain ⟨HO_9, HO_25, BK288, BK292, BK311, BK317, HB, HO321⟩ := n_
                  clear ho hb hg hat
                  refine hK.out _ _ ⟨(blk_cell BK311.out 0).trans rfl, (blk_cell BK311.out 1).trans rfl, (blk_cell BK317.out 0).trans rfl, (blk_cell BK317.out 1).trans rfl, (blk_cell BK317.out 2).trans rfl, (blk_cell BK317.out 3).trans rfl⟩ (fun hHeld => ?_)
                  clear hK K
                  refine norm_ (a' := ?_) ?_ ?_
                  rotate_left
                  ·show Act.put _ (some 85) _ = _
                   simp only [Act.put, List.setIfInBounds_toArray, List.set_cons_zero, List.set_cons_succ, i64_w, i32_w]
                   rfl
                  refine pure_ (i := 5) (N := some 4) (v := ?_) (a' := ?_) #[true, true, true, true, true, true, false] rfl rfl (by kernel_rfl) (fun _ _ _ h => h) (Or.inl ⟨by rfl, ?_⟩) ?_ ?_
                  rotate_left; (focus exact gs); rotate_left; (focus exact pt)
                  refine one_ (i := 6) (N := none) #[true, true, true, true, true, true, true] rfl rfl (by kernel_rfl) (by decide) (fun K hK => ?_)
                  have hs61 := bc BK292.out 0 (.int .i64 x293000_1)
                  have hfs61 := bz BK292.out 0
                  have hns61_0 := NB288_292.out
                  have hns61_2 := NB311_292.out
                  have hns61_3 := NB317_292.out
                  have hms61_0 := NB292_288.out
                  have hms61_2 := NB292_311.out
                  have hms61_3 := NB292_317.out
                  have hs62 := bc BK292.out 1 (.int .i64 x293001_1)
                  have hfs62 := bz BK292.out 1
                  have hns62_0 := NB288_292.out
                  have hns62_2 := NB311_292.out
                  have hns62_3 := NB317_292.out
                  have hms62_0 := NB292_288.out
                  have hms62_2 := NB292_311.out
                  have hms62_3 := NB292_317.out
                  have hs63 := bc BK292.out 2 (.int .i64 x293002_1)
                  have hfs63 := bz BK292.out 2
                  have hns63_0 := NB288_292.out
                  have hns63_2 := NB311_292.out
                  have hns63_3 := NB317_292.out
                  have hms63_0 := NB292_288.out
                  have hms63_2 := NB292_311.out
                  have hms63_3 := NB292_317.out
                  have hs64 := bc BK292.out 3 (.int .i64 x293003_1)
                  have hfs64 := bz BK292.out 3
                  have hns64_0 := NB288_292.out
                  have hns64_2 := NB311_292.out
                  have hns64_3 := NB317_292.out
                  have hms64_0 := NB292_288.out
                  have hms64_2 := NB292_311.out
                  have hms64_3 := NB292_317.out
                  refine skip_ (w1 := ?_) (by rfl) rfl ?_ ?_
                  rotate_left
                  ·go_simp
                   rfl
                  refine hK.out _ _ ⟨((cell_far (p := ⟨gb292, _, none⟩) NB311_292.out _).trans (((cell_far (p := ⟨gb292, _, none⟩) NB311_292.out _).trans (((cell_far (p := ⟨gb292, _, none⟩) NB311_292.out _).trans (((cell_far (p := ⟨gb292, _, none⟩) NB311_292.out _).trans (hHeld.1)))))))), ((cell_far (p := ⟨gb292, _, none⟩) NB311_292.out _).trans (((cell_far (p := ⟨gb292, _, none⟩) NB311_292.out _).trans (((cell_far (p := ⟨gb292, _, none⟩) NB311_292.out _).trans (((cell_far (p := ⟨gb292, _, none⟩) NB311_292.out _).trans (hHeld.2.1)))))))), ((cell_far (p := ⟨gb292, _, none⟩) NB317_292.out _).trans (((cell_far (p := ⟨gb292, _, none⟩) NB317_292.out _).trans (((cell_far (p := ⟨gb292, _, none⟩) NB317_292.out _).trans (((cell_far (p := ⟨gb292, _, none⟩) NB317_292.out _).trans (hHeld.2.2.1)))))))), ((cell_far (p := ⟨gb292, _, none⟩) NB317_292.out _).trans (((cell_far (p := ⟨gb292, _, none⟩) NB317_292.out _).trans (((cell_far (p := ⟨gb292, _, none⟩) NB317_292.out _).trans (((cell_far (p := ⟨gb292, _, none⟩) NB317_292.out _).trans (hHeld.2.2.2.1)))))))), ((cell_far (p := ⟨gb292, _, none⟩) NB317_292.out _).trans (((cell_far (p := ⟨gb292, _, none⟩) NB317_292.out _).trans (((cell_far (p := ⟨gb292, _, none⟩) NB317_292.out _).trans (((cell_far (p := ⟨gb292, _, none⟩) NB317_292.out _).trans (hHeld.2.2.2.2.1)))))))), ((cell_far (p := ⟨gb292, _, none⟩) NB317_292.out _).trans (((cell_far (p := ⟨gb292, _, none⟩) NB317_292.out _).trans (((cell_far (p := ⟨gb292, _, none⟩) NB317_292.out _).trans (((cell_far (p := ⟨gb292, _, none⟩) NB317_292.out _).trans (hHeld.2.2.2.2.2))))))))⟩ (fun hHeld => ?_)
                  clear hK K
                  refine done_ (by kernel_rfl) ?_
                  try go_wp2
                  go_roundg kj18
                  case measure => have := HK1.out; have := HJ18.out; omega
                  case rel => exact ⟨(y319), (wrap64 (x27_1 + 1)), (t312), (t313), (t314), (t315), (by first | rfl | (simp; done) | (simp [*]; done)), H', ⟨by have := HK1.out; have := HJ18.out; omega⟩, ⟨by (with_reducible repeat (first | apply Kd.R_alloc | apply Kd.R_drewN | apply Kd.R_drew)); exact Kd.R_mono (Kd.R_far (p := ⟨gb292, 3, none⟩) (Kd.R_far (p := ⟨gb292, 2, none⟩) (Kd.R_far (p := ⟨gb292, 1, none⟩) (Kd.R_far (p := ⟨gb292, 0, none⟩) (Kd.R_types HO321.out BK292.out (by decide)) (fun _ hk => hk.2) (.int .i64 t312)) (fun _ hk => hk.2) (.int .i64 t313)) (fun _ hk => hk.2) (.int .i64 t314)) (fun _ hk => hk.2) (.int .i64 t315)) (fun _ hk => trivial)⟩, ⟨by (with_reducible repeat (first | apply Kd.V_alloc | apply Kd.V_drewN | apply Kd.V_drew)); exact Kd.V_mono (Kd.V_far (p := ⟨gb292, 3, none⟩) (Kd.V_far (p := ⟨gb292, 2, none⟩) (Kd.V_far (p := ⟨gb292, 1, none⟩) (Kd.V_far (p := ⟨gb292, 0, none⟩) (Kd.V_mono HO_25.out (fun k_ hk => (⟨hk, hk.1.2.1⟩ : _ ∧ k_ ≠ gb292))) (fun _ hk => hk.2) (.int .i64 t312)) (fun _ hk => hk.2) (.int .i64 t313)) (fun _ hk => hk.2) (.int .i64 t314)) (fun _ hk => hk.2) (.int .i64 t315)) (fun _ hk => ⟨hk.1.2, ⟨hk.1.1.1, hk.1.1.2.1⟩⟩)⟩, ⟨bf1 BK288.out NB288_292.out⟩, ⟨by (with_reducible repeat (first | refine blk_drewN ?_ _ | refine blk_drew ?_ | refine blk_alloc ?_ _)); refine blk_put (cs := #[.int .i64 t312, .int .i64 t313, .int .i64 t314, .int .i64 x293003_1]) ?_ 3 _ rfl; (with_reducible repeat (first | refine blk_drewN ?_ _ | refine blk_drew ?_ | refine blk_alloc ?_ _)); refine blk_put (cs := #[.int .i64 t312, .int .i64 t313, .int .i64 x293002_1, .int .i64 x293003_1]) ?_ 2 _ rfl; (with_reducible repeat (first | refine blk_drewN ?_ _ | refine blk_drew ?_ | refine blk_alloc ?_ _)); refine blk_put (cs := #[.int .i64 t312, .int .i64 x293001_1, .int .i64 x293002_1, .int .i64 x293003_1]) ?_ 1 _ rfl; (with_reducible repeat (first | refine blk_drewN ?_ _ | refine blk_drew ?_ | refine blk_alloc ?_ _)); refine blk_put (cs := #[.int .i64 x293000_1, .int .i64 x293001_1, .int .i64 x293002_1, .int .i64 x293003_1]) ?_ 0 _ rfl; exact bf0 BK292.out⟩, ⟨bl4 HB.out GE288.out GE292.out GE311.out GE317.out⟩⟩
                 ·rw [if_neg c41] at H
                  exact absurd H (by simp)
                ·rw [if_neg c40] at H
                 have c40b0 : (t318.toList == (rdOf ByteArray.empty y296 x27_1).toList) = false := beq_eq_false_iff_ne.mpr c40
                 have c40b1 : (t318.toList != (rdOf ByteArray.empty y296 x27_1).toList) = true := bne_iff_ne.mpr c40
                 simp only [Option.some.injEq, Prod.mk.injEq] at H
                 obtain ⟨rfl, rfl, rfl, rfl, rfl⟩ := H
                 obtain ⟨Ao65, co65, eo65⟩ := Kd.V_slice HO_9.out
                 subst eo65
                 have p305 : 0 ≤ (0 : Int) := (by omega)
                 have q305 : 0 < (t302.length : Int) := of_decide_eq_true (by first | (with_reducible assumption) | assumption)
                 obtain ⟨ad305, e305, hx305_0⟩ := Kd.at_string (Kd.V_reads' HO_9.out).2.2 0 p305 q305
                 cases e305
                 have qi305 : (0 < t302.length) = True := eq_true (by omega)
                 (try rw [show ((0 : Int)).toNat = 0 from rfl] at hx305_0)
                 (try rw [Addr.add_zero'] at hx305_0)
                 replace p305 := eq_true p305
                 replace q305 := eq_true q305
                 try go_wp2_with (first | ((with_reducible refine gate_callee (f := 34) rfl ?_); refine goesL_ (some 46) rfl rfl Tryd.func34 (by kernel_rfl) rfl #[.string (rdOf ByteArray.empty t302 0)] rfl lnp ?_; (with_reducible refine (impl_readDecimal.calls (rdOf ByteArray.empty t302 0) t306 true _ A32.out ?gl_).mono ?_); (case gl_ => exact Gl.below HG.out (bl2 HB.out GE288.out GE292.out)); rintro e w66 ⟨rfl, hb⟩; refine ⟨_, rfl, ?_⟩; have n_ := (⟨am (Kd.R_below (rqR HO_4.out) hb), am (Kd.V_below (rqV HO_9.out) hb), am (Kd.V_below (rqV HO_25.out) hb), am (blk_below (bf0 BK288.out) hb), am (blk_below (bf0 BK292.out) hb), am (below_step (bl2 HB.out GE288.out GE292.out) hb)⟩ : _ ∧ _ ∧ _ ∧ _ ∧ _ ∧ _); clear HO_4 HO_9 HO_25 BK288 BK292 HB; obtain ⟨HO_4, HO_9, HO_25, BK288, BK292, HB⟩ := n_; (try clear hb); (try clear hb2); (try clear hk); (try clear hi); have p308 : 0 ≤ (1 : Int) := (by omega); have q308 : 1 < (t302.length : Int) := of_decide_eq_true (by first | (with_reducible assumption) | assumption); obtain ⟨ad308, e308, hx308_0⟩ := Kd.at_string (Kd.V_reads' HO_9.out).2.2 1 p308 q308; obtain rfl : ad305 = ad308 := (by injection e308); (try simp only [show (1 : Int).toNat = 1 from rfl, Nat.reduceMul, Nat.reduceEqDiff, Go.Addr.add, ↓reduceIte] at hx308_0); have qi308 : (1 < t302.length) = True := eq_true (by omega); (try rw [show ((1 : Int)).toNat = 1 from rfl] at hx308_0); replace p308 := eq_true p308; replace q308 := eq_true q308) | ((with_reducible refine gate_callee (f := 34) rfl ?_); refine goesL_ (some 53) rfl rfl Tryd.func34 (by kernel_rfl) rfl #[.string (rdOf ByteArray.empty t302 1)] rfl lnp ?_; (with_reducible refine (impl_readDecimal.calls (rdOf ByteArray.empty t302 1) t309 true _ A34.out ?gl_).mono ?_); (case gl_ => exact Gl.below HG.out (bl2 HB.out GE288.out GE292.out)); rintro e w67 ⟨rfl, hb⟩; refine ⟨_, rfl, ?_⟩; have n_ := (⟨am (Kd.R_below (rqR HO_4.out) hb), am (Kd.V_below (rqV HO_9.out) hb), am (Kd.V_below (rqV HO_25.out) hb), am (blk_below (bf0 BK288.out) hb), am (blk_below (bf0 BK292.out) hb), am (below_step (bl2 HB.out GE288.out GE292.out) hb)⟩ : _ ∧ _ ∧ _ ∧ _ ∧ _ ∧ _); clear HO_4 HO_9 HO_25 BK288 BK292 HB; obtain ⟨HO_4, HO_9, HO_25, BK288, BK292, HB⟩ := n_; (try clear hb); (try clear hb2); (try clear hk); (try clear hi)) | ((with_reducible refine gate_dst (N := 14) rfl ?_); (try (refine gate_guard (by rfl) ?_; dsimp only)); refine box_event ?hg (N := 14) ?hd (cs := #[.int .i64 0, .int .i64 0]) (t := 31) ?hr ?_; (case hd => rfl); (case hg => rfl); (case hr => first | (go_simp; done) | (go_simp; rfl)); intro gb311 hg w68 hbox hb; have n_ := (⟨am (Kd.R_below (Kd.R_elderB (rqR HO_4.out) gb311 (Nat.le_of_eq hg.symm)) hb), am (Kd.V_below (Kd.V_elderB (rqV HO_9.out) gb311 (Nat.le_of_eq hg.symm)) hb), am (Kd.V_below (Kd.V_elderB (rqV HO_25.out) gb311 (Nat.le_of_eq hg.symm)) hb), am (blk_below (bf0 BK288.out) hb), am (blk_below (bf0 BK292.out) hb), am (below_step (bl2 HB.out GE288.out GE292.out) hb), am (hbox), am ((gw hg (bl2 HB.out GE288.out GE292.out) : w.heap.size ≤ gb311)), am ((gw hg (bl2 HB.out GE288.out GE292.out) : w.heap.size ≤ gb311)), am ((nl hg (bf0 BK288.out) : gb288 ≠ gb311)), am ((ng hg (bf0 BK288.out) : gb311 ≠ gb288)), am ((nl hg (bf0 BK292.out) : gb292 ≠ gb311)), am ((ng hg (bf0 BK292.out) : gb311 ≠ gb292))⟩ : _ ∧ _ ∧ _ ∧ _ ∧ _ ∧ _ ∧ _ ∧ _ ∧ _ ∧ _ ∧ _ ∧ _ ∧ _); clear HO_4 HO_9 HO_25 BK288 BK292 HB; obtain ⟨HO_4, HO_9, HO_25, BK288, BK292, HB, BK311, GW311, GE311, NB288_311, NB311_288, NB292_311, NB311_292⟩ := n_; clear hb hbox hg; have hnb69 := NB311_288.out; have hnc69 := NB288_311.out; have hnb70 := NB311_292.out; have hnc70 := NB292_311.out; obtain ⟨hcz71_0, hcz71_1, hfz71_0, hfz71_1⟩ := cs2 BK311.out; have hnb72 := NB292_288.out; have hnc72 := NB288_292.out; obtain ⟨hcz73_0, hcz73_1, hcz73_2, hcz73_3, hfz73_0, hfz73_1, hfz73_2, hfz73_3⟩ := cs4 BK292.out) | ((with_reducible refine gate_callee (f := 26) rfl ?_); refine goesL_ (some 62) rfl rfl Tryd.func26 (by kernel_rfl) rfl #[.agg #[.int .i64 x293000_1, .int .i64 x293001_1, .int .i64 x293002_1, .int .i64 x293003_1], .agg #[.int .i64 t306, .int .i64 t309]] rfl lnp ?_; (with_reducible refine (impl_after.calls kj18 x293000_1 x293001_1 x293002_1 x293003_1 t306 t309 t312 t313 t314 t315 true _ A35.out).mono ?_); rintro e w74 ⟨rfl, hb⟩; refine ⟨_, rfl, ?_⟩; have n_ := (⟨am (Kd.R_below (by (with_reducible repeat (first | apply Kd.R_alloc | apply Kd.R_drewN | apply Kd.R_drew)); exact (Kd.R_mono (Kd.R_far (p := ⟨gb311, 1, none⟩) (Kd.R_far (p := ⟨gb311, 0, none⟩) (Kd.R_mono HO_4.out (fun k_ hk => (⟨hk, hk.2⟩ : _ ∧ k_ ≠ gb311))) (fun _ hk => hk.2) (.int .i64 t306)) (fun _ hk => hk.2) (.int .i64 t309)) (fun _ h_ => h_.1))) hb), am (Kd.V_below (by (with_reducible repeat (first | apply Kd.V_alloc | apply Kd.V_drewN | apply Kd.V_drew)); exact (Kd.V_mono (Kd.V_far (p := ⟨gb311, 1, none⟩) (Kd.V_far (p := ⟨gb311, 0, none⟩) (Kd.V_mono HO_9.out (fun k_ hk => (⟨hk, hk.2⟩ : _ ∧ k_ ≠ gb311))) (fun _ hk => hk.2) (.int .i64 t306)) (fun _ hk => hk.2) (.int .i64 t309)) (fun _ h_ => h_.1))) hb), am (Kd.V_below (by (with_reducible repeat (first | apply Kd.V_alloc | apply Kd.V_drewN | apply Kd.V_drew)); exact (Kd.V_mono (Kd.V_far (p := ⟨gb311, 1, none⟩) (Kd.V_far (p := ⟨gb311, 0, none⟩) (Kd.V_mono HO_25.out (fun k_ hk => (⟨hk, hk.2⟩ : _ ∧ k_ ≠ gb311))) (fun _ hk => hk.2) (.int .i64 t306)) (fun _ hk => hk.2) (.int .i64 t309)) (fun _ h_ => h_.1))) hb), am (blk_below (bf1 BK288.out NB288_311.out) hb), am (blk_below (bf1 BK292.out NB292_311.out) hb), am (blk_below (g := gb311) (o := .cells #[.int .i64 t306, .int .i64 t309] 31 (0, 0)) (bp0 BK311.out) hb), am (below_step (bl3 HB.out GE288.out GE292.out GE311.out) hb)⟩ : _ ∧ _ ∧ _ ∧ _ ∧ _ ∧ _ ∧ _); clear HO_4 HO_9 HO_25 BK288 BK292 BK311 HB; obtain ⟨HO_4, HO_9, HO_25, BK288, BK292, BK311, HB⟩ := n_; (try clear hb); (try clear hb2); (try clear hk); (try clear hi)) | ((with_reducible refine gate_dst (N := 15) rfl ?_); (try (refine gate_guard (by rfl) ?_; dsimp only)); refine box_event ?hg (N := 15) ?hd (cs := #[.int .i64 0, .int .i64 0, .int .i64 0, .int .i64 0]) (t := 29) ?hr ?_; (case hd => rfl); (case hg => rfl); (case hr => first | (go_simp; done) | (go_simp; rfl)); intro gb317 hg w75 hbox hb; have n_ := (⟨am (Kd.R_below (rqR HO_4.out) hb), am (Kd.V_below (Kd.V_elderB (rqV HO_9.out) gb317 (Nat.le_of_eq hg.symm)) hb), am (Kd.V_below (Kd.V_elderB (rqV HO_25.out) gb317 (Nat.le_of_eq hg.symm)) hb), am (blk_below (bf0 BK288.out) hb), am (blk_below (bf0 BK292.out) hb), am (blk_below (bf0 BK311.out) hb), am (below_step (bl3 HB.out GE288.out GE292.out GE311.out) hb), am (hbox), am ((gw hg (bl3 HB.out GE288.out GE292.out GE311.out) : w.heap.size ≤ gb317)), am ((gw hg (bl3 HB.out GE288.out GE292.out GE311.out) : w.heap.size ≤ gb317)), am ((nl hg (bf0 BK288.out) : gb288 ≠ gb317)), am ((ng hg (bf0 BK288.out) : gb317 ≠ gb288)), am ((nl hg (bf0 BK292.out) : gb292 ≠ gb317)), am ((ng hg (bf0 BK292.out) : gb317 ≠ gb292)), am ((nl hg (bf0 BK311.out) : gb311 ≠ gb317)), am ((ng hg (bf0 BK311.out) : gb317 ≠ gb311))⟩ : _ ∧ _ ∧ _ ∧ _ ∧ _ ∧ _ ∧ _ ∧ _ ∧ _ ∧ _ ∧ _ ∧ _ ∧ _ ∧ _ ∧ _ ∧ _); clear HO_4 HO_9 HO_25 BK288 BK292 BK311 HB; obtain ⟨HO_4, HO_9, HO_25, BK288, BK292, BK311, HB, BK317, GW317, GE317, NB288_317, NB317_288, NB292_317, NB317_292, NB311_317, NB317_311⟩ := n_; clear hb hbox hg; have hnb76 := NB317_288.out; have hnc76 := NB288_317.out; have hnb77 := NB317_292.out; have hnc77 := NB292_317.out; have hnb78 := NB317_311.out; have hnc78 := NB311_317.out; obtain ⟨hcz79_0, hcz79_1, hcz79_2, hcz79_3, hfz79_0, hfz79_1, hfz79_2, hfz79_3⟩ := cs4 BK317.out; obtain ⟨hcz80_0, hcz80_1, hfz80_0, hfz80_1⟩ := cs2 BK311.out) | (go_at_call 35; (with_reducible refine (impl_entryLine.calls t306 t309 x27_1 t318 _ A39.out ?gl_).mono ?_); (case gl_ => exact Gl.below HG.out (bl4 HB.out GE288.out GE292.out GE311.out GE317.out)); rintro e w81 ⟨rfl, hb⟩; have n_ := (⟨am (Kd.R_below (by (with_reducible repeat (first | apply Kd.R_alloc | apply Kd.R_drewN | apply Kd.R_drew)); exact (Kd.R_mono (Kd.R_far (p := ⟨gb317, 3, none⟩) (Kd.R_far (p := ⟨gb317, 2, none⟩) (Kd.R_far (p := ⟨gb317, 1, none⟩) (Kd.R_far (p := ⟨gb317, 0, none⟩) (Kd.R_types HO_4.out BK317.out (by decide)) (fun _ hk => hk.2) (.int .i64 t312)) (fun _ hk => hk.2) (.int .i64 t313)) (fun _ hk => hk.2) (.int .i64 t314)) (fun _ hk => hk.2) (.int .i64 t315)) (fun _ h_ => h_.1))) hb), am (Kd.V_below (by (with_reducible repeat (first | apply Kd.V_alloc | apply Kd.V_drewN | apply Kd.V_drew)); exact (Kd.V_mono (Kd.V_far (p := ⟨gb317, 3, none⟩) (Kd.V_far (p := ⟨gb317, 2, none⟩) (Kd.V_far (p := ⟨gb317, 1, none⟩) (Kd.V_far (p := ⟨gb317, 0, none⟩) (Kd.V_mono HO_9.out (fun k_ hk => (⟨hk, hk.2⟩ : _ ∧ k_ ≠ gb317))) (fun _ hk => hk.2) (.int .i64 t312)) (fun _ hk => hk.2) (.int .i64 t313)) (fun _ hk => hk.2) (.int .i64 t314)) (fun _ hk => hk.2) (.int .i64 t315)) (fun _ h_ => h_.1))) hb), am (Kd.V_below (by (with_reducible repeat (first | apply Kd.V_alloc | apply Kd.V_drewN | apply Kd.V_drew)); exact (Kd.V_mono (Kd.V_far (p := ⟨gb317, 3, none⟩) (Kd.V_far (p := ⟨gb317, 2, none⟩) (Kd.V_far (p := ⟨gb317, 1, none⟩) (Kd.V_far (p := ⟨gb317, 0, none⟩) (Kd.V_mono HO_25.out (fun k_ hk => (⟨hk, hk.2⟩ : _ ∧ k_ ≠ gb317))) (fun _ hk => hk.2) (.int .i64 t312)) (fun _ hk => hk.2) (.int .i64 t313)) (fun _ hk => hk.2) (.int .i64 t314)) (fun _ hk => hk.2) (.int .i64 t315)) (fun _ h_ => h_.1))) hb), am (blk_below (bf1 BK288.out NB288_317.out) hb), am (blk_below (bf1 BK292.out NB292_317.out) hb), am (blk_below (bf1 BK311.out NB311_317.out) hb), am (blk_below (g := gb317) (o := .cells #[.int .i64 t312, .int .i64 t313, .int .i64 t314, .int .i64 t315] 29 (0, 0)) (bp0 BK317.out) hb), am (below_step (bl4 HB.out GE288.out GE292.out GE311.out GE317.out) hb)⟩ : _ ∧ _ ∧ _ ∧ _ ∧ _ ∧ _ ∧ _ ∧ _); clear HO_4 HO_9 HO_25 BK288 BK292 BK311 BK317 HB; obtain ⟨HO_4, HO_9, HO_25, BK288, BK292, BK311, BK317, HB⟩ := n_; (try clear hb); (try clear hb2); (try clear hk); (try clear hi)))
                 have n_ := (⟨am (Kd.R_drew HO_4.out), am (Kd.V_drew HO_9.out), am (Kd.V_drew HO_25.out), am (blk_drew BK288.out), am (blk_drew BK292.out), am (blk_drew BK311.out), am (blk_drew BK317.out), am (below_drew1 HB.out)⟩ : _ ∧ _ ∧ _ ∧ _ ∧ _ ∧ _ ∧ _ ∧ _)
                 clear HO_4
                 clear HO_9
                 clear HO_25
                 clear BK288
                 clear BK292
                 clear BK311
                 clear BK317
                 clear HB
                 obtain ⟨HO_4, HO_9, HO_25, BK288, BK292, BK311, BK317, HB⟩ := n_
                 refine start_ (n := 4) (S := fun w' => w'.cell? ⟨gb292, 0, none⟩ = some (.int .i64 x293000_1) ∧ w'.cell? ⟨gb292, 1, none⟩ = some (.int .i64 x293001_1) ∧ w'.cell? ⟨gb292, 2, none⟩ = some (.int .i64 x293002_1) ∧ w'.cell? ⟨gb292, 3, none⟩ = some (.int .i64 x293003_1)) (ds := []) #[false, false, false, false] (by kernel_rfl) rfl rfl ⟨(blk_cell BK292.out 0).trans rfl, (blk_cell BK292.out 1).trans rfl, (blk_cell BK292.out 2).trans rfl, (blk_cell BK292.out 3).trans rfl⟩ (fun hHeld => ?_)
                 generalize w81.drew = w82 at HO_4 HO_9 HO_25 BK288 BK292 BK311 BK317 HB hHeld ⊢
                 refine pure_ (i := 0) (N := some 88) (v := ?_) (a' := ?_) #[true, false, false, false] rfl rfl (by kernel_rfl) (fun _ _ _ h => h) (Or.inl ⟨by rfl, ?_⟩) ?_ ?_
                 rotate_left; (focus exact gs); rotate_left; (focus exact pt)
                 refine pure_ (i := 2) (N := some 2) (v := ?_) (a' := ?_) #[true, false, true, false] rfl rfl (by kernel_rfl) (fun _ _ _ h => h) (Or.inl ⟨by rfl, ?_⟩) ?_ ?_
                 rotate_left; (focus exact gs); rotate_left; (focus exact pt)
                 refine take_ (i := 1) (N := some 89) (v := ?_) (a' := ?_) #[true, true, true, false] rfl rfl (by kernel_rfl) (fun _ _ _ h => h) (Or.inl ⟨by rfl, ?_⟩) hHeld ?_ ?_
                 rotate_left
                 ·rintro w' ⟨s0, s1, s2, s3⟩
                  go_simp
                  with_reducible rfl
                 rotate_left
                 ·exact pt
                 refine one_ (i := 3) (N := none) #[true, true, true, true] rfl rfl (by kernel_rfl) (by decide) (fun K hK => ?_)
                 have hs83 := bc BK288.out 0 (.int .i64 0)
                 have hfs83 := bz BK288.out 0
                 have hns83_1 := NB292_288.out
                 have hns83_2 := NB311_288.out
                 have hns83_3 := NB317_288.out
                 have hms83_1 := NB288_292.out
                 have hms83_2 := NB288_311.out
                 have hms83_3 := NB288_317.out
                 have hs84 := bc BK288.out 1 (.int .i64 0)
                 have hfs84 := bz BK288.out 1
                 have hns84_1 := NB292_288.out
                 have hns84_2 := NB311_288.out
                 have hns84_3 := NB317_288.out
                 have hms84_1 := NB288_292.out
                 have hms84_2 := NB288_311.out
                 have hms84_3 := NB288_317.out
                 have hs85 := bc BK288.out 2 (.int .i64 0)
                 have hfs85 := bz BK288.out 2
                 have hns85_1 := NB292_288.out
                 have hns85_2 := NB311_288.out
                 have hns85_3 := NB317_288.out
                 have hms85_1 := NB288_292.out
                 have hms85_2 := NB288_311.out
                 have hms85_3 := NB288_317.out
                 have hs86 := bc BK288.out 3 (.int .i64 0)
                 have hfs86 := bz BK288.out 3
                 have hns86_1 := NB292_288.out
                 have hns86_2 := NB311_288.out
                 have hns86_3 := NB317_288.out
                 have hms86_1 := NB288_292.out
                 have hms86_2 := NB288_311.out
                 have hms86_3 := NB288_317.out
                 refine skip_ (w1 := ?_) (by rfl) rfl ?_ ?_
                 rotate_left
                 ·go_simp
                  rfl
                 refine hK.out _ _ ⟨((cell_far (p := ⟨gb288, _, none⟩) NB292_288.out _).trans (((cell_far (p := ⟨gb288, _, none⟩) NB292_288.out _).trans (((cell_far (p := ⟨gb288, _, none⟩) NB292_288.out _).trans (((cell_far (p := ⟨gb288, _, none⟩) NB292_288.out _).trans (hHeld.1)))))))), ((cell_far (p := ⟨gb288, _, none⟩) NB292_288.out _).trans (((cell_far (p := ⟨gb288, _, none⟩) NB292_288.out _).trans (((cell_far (p := ⟨gb288, _, none⟩) NB292_288.out _).trans (((cell_far (p := ⟨gb288, _, none⟩) NB292_288.out _).trans (hHeld.2.1)))))))), ((cell_far (p := ⟨gb288, _, none⟩) NB292_288.out _).trans (((cell_far (p := ⟨gb288, _, none⟩) NB292_288.out _).trans (((cell_far (p := ⟨gb288, _, none⟩) NB292_288.out _).trans (((cell_far (p := ⟨gb288, _, none⟩) NB292_288.out _).trans (hHeld.2.2.1)))))))), ((cell_far (p := ⟨gb288, _, none⟩) NB292_288.out _).trans (((cell_far (p := ⟨gb288, _, none⟩) NB292_288.out _).trans (((cell_far (p := ⟨gb288, _, none⟩) NB292_288.out _).trans (((cell_far (p := ⟨gb288, _, none⟩) NB292_288.out _).trans (hHeld.2.2.2))))))))⟩ (fun hHeld => ?_)
                 clear hK K
                 refine done_ (by kernel_rfl) ?_
                 try go_wp2
                 refine bodyPost_ret (results_tc rfl _ _ gb288 29 #[.int .i64 x293000_1, .int .i64 x293001_1, .int .i64 x293002_1, .int .i64 x293003_1] (0, 0) _ rfl (bp0 BK288.out) Tryd.underlying29 rfl (by kernel_rfl)) rfl ?_
                 exact ⟨_, by first | rfl | (simp [errW_none, errW_some] <;> rfl) | (simp only [← hji3]; first | rfl | (simp [errW_none, errW_some] <;> rfl)) | (simp [*, errW_none, errW_some] <;> rfl), by (with_reducible repeat (first | apply Kd.R_alloc | apply Kd.R_drewN | apply Kd.R_drew)); exact Kd.R_mono (Kd.R_far (p := ⟨gb288, 3, none⟩) (Kd.R_far (p := ⟨gb288, 2, none⟩) (Kd.R_far (p := ⟨gb288, 1, none⟩) (Kd.R_far (p := ⟨gb288, 0, none⟩) (Kd.R_types HO_4.out BK288.out (by decide)) (fun _ hk => hk.2) (.int .i64 x293000_1)) (fun _ hk => hk.2) (.int .i64 x293001_1)) (fun _ hk => hk.2) (.int .i64 x293002_1)) (fun _ hk => hk.2) (.int .i64 x293003_1)) (fun _ hk => trivial), bl4 HB.out GE288.out GE292.out GE311.out GE317.out⟩
               ·replace c38 := Bool.eq_false_iff.mpr c38
                subst c38
                have H1 : (some (x4_1, x293000_1, x293001_1, x293002_1, x293003_1)) = some (r1, r2, r3, r4, r5) := by rw [if_neg (show ¬ (false = true) by decide)] at H; exact H
                clear H
                have H := H1
                clear H1
                simp only [Option.some.injEq, Prod.mk.injEq] at H
                obtain ⟨rfl, rfl, rfl, rfl, rfl⟩ := H
                obtain ⟨Ao87, co87, eo87⟩ := Kd.V_slice HO_9.out
                subst eo87
                have p305 : 0 ≤ (0 : Int) := (by omega)
                have q305 : 0 < (t302.length : Int) := of_decide_eq_true (by first | (with_reducible assumption) | assumption)
                obtain ⟨ad305, e305, hx305_0⟩ := Kd.at_string (Kd.V_reads' HO_9.out).2.2 0 p305 q305
                cases e305
                have qi305 : (0 < t302.length) = True := eq_true (by omega)
                (try rw [show ((0 : Int)).toNat = 0 from rfl] at hx305_0)
                (try rw [Addr.add_zero'] at hx305_0)
                replace p305 := eq_true p305
                replace q305 := eq_true q305
                try go_wp2_with (first | ((with_reducible refine gate_callee (f := 34) rfl ?_); refine goesL_ (some 46) rfl rfl Tryd.func34 (by kernel_rfl) rfl #[.string (rdOf ByteArray.empty t302 0)] rfl lnp ?_; (with_reducible refine (impl_readDecimal.calls (rdOf ByteArray.empty t302 0) t306 true _ A32.out ?gl_).mono ?_); (case gl_ => exact Gl.below HG.out (bl2 HB.out GE288.out GE292.out)); rintro e w88 ⟨rfl, hb⟩; refine ⟨_, rfl, ?_⟩; have n_ := (⟨am (Kd.R_below (rqR HO_4.out) hb), am (Kd.V_below (rqV HO_9.out) hb), am (Kd.V_below (rqV HO_25.out) hb), am (blk_below (bf0 BK288.out) hb), am (blk_below (bf0 BK292.out) hb), am (below_step (bl2 HB.out GE288.out GE292.out) hb)⟩ : _ ∧ _ ∧ _ ∧ _ ∧ _ ∧ _); clear HO_4 HO_9 HO_25 BK288 BK292 HB; obtain ⟨HO_4, HO_9, HO_25, BK288, BK292, HB⟩ := n_; (try clear hb); (try clear hb2); (try clear hk); (try clear hi); have p308 : 0 ≤ (1 : Int) := (by omega); have q308 : 1 < (t302.length : Int) := of_decide_eq_true (by first | (with_reducible assumption) | assumption); obtain ⟨ad308, e308, hx308_0⟩ := Kd.at_string (Kd.V_reads' HO_9.out).2.2 1 p308 q308; obtain rfl : ad305 = ad308 := (by injection e308); (try simp only [show (1 : Int).toNat = 1 from rfl, Nat.reduceMul, Nat.reduceEqDiff, Go.Addr.add, ↓reduceIte] at hx308_0); have qi308 : (1 < t302.length) = True := eq_true (by omega); (try rw [show ((1 : Int)).toNat = 1 from rfl] at hx308_0); replace p308 := eq_true p308; replace q308 := eq_true q308) | ((with_reducible refine gate_callee (f := 34) rfl ?_); refine goesL_ (some 53) rfl rfl Tryd.func34 (by kernel_rfl) rfl #[.string (rdOf ByteArray.empty t302 1)] rfl lnp ?_; (with_reducible refine (impl_readDecimal.calls (rdOf ByteArray.empty t302 1) t309 true _ A34.out ?gl_).mono ?_); (case gl_ => exact Gl.below HG.out (bl2 HB.out GE288.out GE292.out)); rintro e w89 ⟨rfl, hb⟩; refine ⟨_, rfl, ?_⟩; have n_ := (⟨am (Kd.R_below (rqR HO_4.out) hb), am (Kd.V_below (rqV HO_9.out) hb), am (Kd.V_below (rqV HO_25.out) hb), am (blk_below (bf0 BK288.out) hb), am (blk_below (bf0 BK292.out) hb), am (below_step (bl2 HB.out GE288.out GE292.out) hb)⟩ : _ ∧ _ ∧ _ ∧ _ ∧ _ ∧ _); clear HO_4 HO_9 HO_25 BK288 BK292 HB; obtain ⟨HO_4, HO_9, HO_25, BK288, BK292, HB⟩ := n_; (try clear hb); (try clear hb2); (try clear hk); (try clear hi)) | ((with_reducible refine gate_dst (N := 14) rfl ?_); (try (refine gate_guard (by rfl) ?_; dsimp only)); refine box_event ?hg (N := 14) ?hd (cs := #[.int .i64 0, .int .i64 0]) (t := 31) ?hr ?_; (case hd => rfl); (case hg => rfl); (case hr => first | (go_simp; done) | (go_simp; rfl)); intro gb311 hg w90 hbox hb; have n_ := (⟨am (Kd.R_below (Kd.R_elderB (rqR HO_4.out) gb311 (Nat.le_of_eq hg.symm)) hb), am (Kd.V_below (Kd.V_elderB (rqV HO_9.out) gb311 (Nat.le_of_eq hg.symm)) hb), am (Kd.V_below (Kd.V_elderB (rqV HO_25.out) gb311 (Nat.le_of_eq hg.symm)) hb), am (blk_below (bf0 BK288.out) hb), am (blk_below (bf0 BK292.out) hb), am (below_step (bl2 HB.out GE288.out GE292.out) hb), am (hbox), am ((gw hg (bl2 HB.out GE288.out GE292.out) : w.heap.size ≤ gb311)), am ((gw hg (bl2 HB.out GE288.out GE292.out) : w.heap.size ≤ gb311)), am ((nl hg (bf0 BK288.out) : gb288 ≠ gb311)), am ((ng hg (bf0 BK288.out) : gb311 ≠ gb288)), am ((nl hg (bf0 BK292.out) : gb292 ≠ gb311)), am ((ng hg (bf0 BK292.out) : gb311 ≠ gb292))⟩ : _ ∧ _ ∧ _ ∧ _ ∧ _ ∧ _ ∧ _ ∧ _ ∧ _ ∧ _ ∧ _ ∧ _ ∧ _); clear HO_4 HO_9 HO_25 BK288 BK292 HB; obtain ⟨HO_4, HO_9, HO_25, BK288, BK292, HB, BK311, GW311, GE311, NB288_311, NB311_288, NB292_311, NB311_292⟩ := n_; clear hb hbox hg; have hnb91 := NB311_288.out; have hnc91 := NB288_311.out; have hnb92 := NB311_292.out; have hnc92 := NB292_311.out; obtain ⟨hcz93_0, hcz93_1, hfz93_0, hfz93_1⟩ := cs2 BK311.out; have hnb94 := NB292_288.out; have hnc94 := NB288_292.out; obtain ⟨hcz95_0, hcz95_1, hcz95_2, hcz95_3, hfz95_0, hfz95_1, hfz95_2, hfz95_3⟩ := cs4 BK292.out) | ((with_reducible refine gate_callee (f := 26) rfl ?_); refine goesL_ (some 62) rfl rfl Tryd.func26 (by kernel_rfl) rfl #[.agg #[.int .i64 x293000_1, .int .i64 x293001_1, .int .i64 x293002_1, .int .i64 x293003_1], .agg #[.int .i64 t306, .int .i64 t309]] rfl lnp ?_; (with_reducible refine (impl_after.calls kj18 x293000_1 x293001_1 x293002_1 x293003_1 t306 t309 t312 t313 t314 t315 false _ A35.out).mono ?_); rintro e w96 ⟨rfl, hb⟩; refine ⟨_, rfl, ?_⟩; have n_ := (⟨am (Kd.R_below (by (with_reducible repeat (first | apply Kd.R_alloc | apply Kd.R_drewN | apply Kd.R_drew)); exact (Kd.R_mono (Kd.R_far (p := ⟨gb311, 1, none⟩) (Kd.R_far (p := ⟨gb311, 0, none⟩) (Kd.R_mono HO_4.out (fun k_ hk => (⟨hk, hk.2⟩ : _ ∧ k_ ≠ gb311))) (fun _ hk => hk.2) (.int .i64 t306)) (fun _ hk => hk.2) (.int .i64 t309)) (fun _ h_ => h_.1))) hb), am (Kd.V_below (by (with_reducible repeat (first | apply Kd.V_alloc | apply Kd.V_drewN | apply Kd.V_drew)); exact (Kd.V_mono (Kd.V_far (p := ⟨gb311, 1, none⟩) (Kd.V_far (p := ⟨gb311, 0, none⟩) (Kd.V_mono HO_9.out (fun k_ hk => (⟨hk, hk.2⟩ : _ ∧ k_ ≠ gb311))) (fun _ hk => hk.2) (.int .i64 t306)) (fun _ hk => hk.2) (.int .i64 t309)) (fun _ h_ => h_.1))) hb), am (Kd.V_below (by (with_reducible repeat (first | apply Kd.V_alloc | apply Kd.V_drewN | apply Kd.V_drew)); exact (Kd.V_mono (Kd.V_far (p := ⟨gb311, 1, none⟩) (Kd.V_far (p := ⟨gb311, 0, none⟩) (Kd.V_mono HO_25.out (fun k_ hk => (⟨hk, hk.2⟩ : _ ∧ k_ ≠ gb311))) (fun _ hk => hk.2) (.int .i64 t306)) (fun _ hk => hk.2) (.int .i64 t309)) (fun _ h_ => h_.1))) hb), am (blk_below (bf1 BK288.out NB288_311.out) hb), am (blk_below (bf1 BK292.out NB292_311.out) hb), am (blk_below (g := gb311) (o := .cells #[.int .i64 t306, .int .i64 t309] 31 (0, 0)) (bp0 BK311.out) hb), am (below_step (bl3 HB.out GE288.out GE292.out GE311.out) hb)⟩ : _ ∧ _ ∧ _ ∧ _ ∧ _ ∧ _ ∧ _); clear HO_4 HO_9 HO_25 BK288 BK292 BK311 HB; obtain ⟨HO_4, HO_9, HO_25, BK288, BK292, BK311, HB⟩ := n_; (try clear hb); (try clear hb2); (try clear hk); (try clear hi)) | ((with_reducible refine gate_dst (N := 15) rfl ?_); (try (refine gate_guard (by rfl) ?_; dsimp only)); refine box_event ?hg (N := 15) ?hd (cs := #[.int .i64 0, .int .i64 0, .int .i64 0, .int .i64 0]) (t := 29) ?hr ?_; (case hd => rfl); (case hg => rfl); (case hr => first | (go_simp; done) | (go_simp; rfl)); intro gb317 hg w97 hbox hb; have n_ := (⟨am (Kd.R_below (rqR HO_4.out) hb), am (Kd.V_below (Kd.V_elderB (rqV HO_9.out) gb317 (Nat.le_of_eq hg.symm)) hb), am (Kd.V_below (Kd.V_elderB (rqV HO_25.out) gb317 (Nat.le_of_eq hg.symm)) hb), am (blk_below (bf0 BK288.out) hb), am (blk_below (bf0 BK292.out) hb), am (blk_below (bf0 BK311.out) hb), am (below_step (bl3 HB.out GE288.out GE292.out GE311.out) hb), am (hbox), am ((gw hg (bl3 HB.out GE288.out GE292.out GE311.out) : w.heap.size ≤ gb317)), am ((gw hg (bl3 HB.out GE288.out GE292.out GE311.out) : w.heap.size ≤ gb317)), am ((nl hg (bf0 BK288.out) : gb288 ≠ gb317)), am ((ng hg (bf0 BK288.out) : gb317 ≠ gb288)), am ((nl hg (bf0 BK292.out) : gb292 ≠ gb317)), am ((ng hg (bf0 BK292.out) : gb317 ≠ gb292)), am ((nl hg (bf0 BK311.out) : gb311 ≠ gb317)), am ((ng hg (bf0 BK311.out) : gb317 ≠ gb311))⟩ : _ ∧ _ ∧ _ ∧ _ ∧ _ ∧ _ ∧ _ ∧ _ ∧ _ ∧ _ ∧ _ ∧ _ ∧ _ ∧ _ ∧ _ ∧ _); clear HO_4 HO_9 HO_25 BK288 BK292 BK311 HB; obtain ⟨HO_4, HO_9, HO_25, BK288, BK292, BK311, HB, BK317, GW317, GE317, NB288_317, NB317_288, NB292_317, NB317_292, NB311_317, NB317_311⟩ := n_; clear hb hbox hg; have hnb98 := NB317_288.out; have hnc98 := NB288_317.out; have hnb99 := NB317_292.out; have hnc99 := NB292_317.out; have hnb100 := NB317_311.out; have hnc100 := NB311_317.out; obtain ⟨hcz101_0, hcz101_1, hcz101_2, hcz101_3, hfz101_0, hfz101_1, hfz101_2, hfz101_3⟩ := cs4 BK317.out))
                have n0_ : Aside0 (Kd.R k31 31 ((((w97.setCell ⟨gb317, 0, none⟩ (.int .i64 t312)).setCell ⟨gb317, 1, none⟩ (.int .i64 t313)).setCell ⟨gb317, 2, none⟩ (.int .i64 t314)).setCell ⟨gb317, 3, none⟩ (.int .i64 t315)) w.heap.size (fun k_ => k_ ≠ gb311) u4 x4_1) := ⟨by (with_reducible repeat (first | apply Kd.R_alloc | apply Kd.R_drewN | apply Kd.R_drew)); exact Kd.R_mono (Kd.R_far (p := ⟨gb317, 3, none⟩) (Kd.R_far (p := ⟨gb317, 2, none⟩) (Kd.R_far (p := ⟨gb317, 1, none⟩) (Kd.R_far (p := ⟨gb317, 0, none⟩) (Kd.R_types HO_4.out BK317.out (by decide)) (fun _ hk => hk.2) (.int .i64 t312)) (fun _ hk => hk.2) (.int .i64 t313)) (fun _ hk => hk.2) (.int .i64 t314)) (fun _ hk => hk.2) (.int .i64 t315)) (fun _ hk => hk.1.2)⟩
                have n1_ : Aside0 (Kd.V Kd.string 9 ((((w97.setCell ⟨gb317, 0, none⟩ (.int .i64 t312)).setCell ⟨gb317, 1, none⟩ (.int .i64 t313)).setCell ⟨gb317, 2, none⟩ (.int .i64 t314)).setCell ⟨gb317, 3, none⟩ (.int .i64 t315)) w.heap.size (fun k_ => some k_ ≠ (u4 : Value).ownBlock ∧ k_ ≠ gb288 ∧ k_ ≠ gb292 ∧ k_ ≠ gb311 ∧ k_ ≠ gb317) (.slice (some ad305) t302.length co87) t302) := ⟨by (with_reducible repeat (first | apply Kd.V_alloc | apply Kd.V_drewN | apply Kd.V_drew)); exact Kd.V_mono (Kd.V_far (p := ⟨gb317, 3, none⟩) (Kd.V_far (p := ⟨gb317, 2, none⟩) (Kd.V_far (p := ⟨gb317, 1, none⟩) (Kd.V_far (p := ⟨gb317, 0, none⟩) (Kd.V_mono HO_9.out (fun k_ hk => (⟨hk, hk.2⟩ : _ ∧ k_ ≠ gb317))) (fun _ hk => hk.2) (.int .i64 t312)) (fun _ hk => hk.2) (.int .i64 t313)) (fun _ hk => hk.2) (.int .i64 t314)) (fun _ hk => hk.2) (.int .i64 t315)) (fun _ hk => ⟨hk.1.1.1.1, ⟨hk.1.1.1.2.1, ⟨hk.1.1.1.2.2, ⟨hk.1.1.2, hk.1.2⟩⟩⟩⟩)⟩
                have n2_ : Aside0 (Kd.V Kd.string 9 ((((w97.setCell ⟨gb317, 0, none⟩ (.int .i64 t312)).setCell ⟨gb317, 1, none⟩ (.int .i64 t313)).setCell ⟨gb317, 2, none⟩ (.int .i64 t314)).setCell ⟨gb317, 3, none⟩ (.int .i64 t315)) w.heap.size (fun k_ => some k_ ≠ (u4 : Value).ownBlock ∧ k_ ≠ gb288 ∧ k_ ≠ gb292 ∧ k_ ≠ gb311 ∧ k_ ≠ gb317) (.slice (some ad301) y296.length co13) y296) := ⟨by (with_reducible repeat (first | apply Kd.V_alloc | apply Kd.V_drewN | apply Kd.V_drew)); exact Kd.V_mono (Kd.V_far (p := ⟨gb317, 3, none⟩) (Kd.V_far (p := ⟨gb317, 2, none⟩) (Kd.V_far (p := ⟨gb317, 1, none⟩) (Kd.V_far (p := ⟨gb317, 0, none⟩) (Kd.V_mono HO_25.out (fun k_ hk => (⟨hk, hk.2⟩ : _ ∧ k_ ≠ gb317))) (fun _ hk => hk.2) (.int .i64 t312)) (fun _ hk => hk.2) (.int .i64 t313)) (fun _ hk => hk.2) (.int .i64 t314)) (fun _ hk => hk.2) (.int .i64 t315)) (fun _ hk => ⟨hk.1.1.1.1, ⟨hk.1.1.1.2.1, ⟨hk.1.1.1.2.2, ⟨hk.1.1.2, hk.1.2⟩⟩⟩⟩)⟩
                have n3_ : Aside0 (((((w97.setCell ⟨gb317, 0, none⟩ (.int .i64 t312)).setCell ⟨gb317, 1, none⟩ (.int .i64 t313)).setCell ⟨gb317, 2, none⟩ (.int .i64 t314)).setCell ⟨gb317, 3, none⟩ (.int .i64 t315)).heap[gb288]? = some (.cells #[.int .i64 0, .int .i64 0, .int .i64 0, .int .i64 0] 29 (0, 0))) := ⟨bf1 BK288.out NB288_317.out⟩
                have n4_ : Aside0 (((((w97.setCell ⟨gb317, 0, none⟩ (.int .i64 t312)).setCell ⟨gb317, 1, none⟩ (.int .i64 t313)).setCell ⟨gb317, 2, none⟩ (.int .i64 t314)).setCell ⟨gb317, 3, none⟩ (.int .i64 t315)).heap[gb292]? = some (.cells #[.int .i64 x293000_1, .int .i64 x293001_1, .int .i64 x293002_1, .int .i64 x293003_1] 29 (0, 0))) := ⟨bf1 BK292.out NB292_317.out⟩
                have n5_ : Aside0 (((((w97.setCell ⟨gb317, 0, none⟩ (.int .i64 t312)).setCell ⟨gb317, 1, none⟩ (.int .i64 t313)).setCell ⟨gb317, 2, none⟩ (.int .i64 t314)).setCell ⟨gb317, 3, none⟩ (.int .i64 t315)).heap[gb311]? = some (.cells #[.int .i64 t306, .int .i64 t309] 31 (0, 0))) := ⟨bf1 BK311.out NB311_317.out⟩
                have n6_ : Aside0 (((((w97.setCell ⟨gb317, 0, none⟩ (.int .i64 t312)).setCell ⟨gb317, 1, none⟩ (.int .i64 t313)).setCell ⟨gb317, 2, none⟩ (.int .i64 t314)).setCell ⟨gb317, 3, none⟩ (.int .i64 t315)).heap[gb317]? = some (.cells #[.int .i64 t312, .int .i64 t313, .int .i64 t314, .int .i64 t315] 29 (0, 0))) := ⟨by (with_reducible repeat (first | refine blk_drewN ?_ _ | refine blk_drew ?_ | refine blk_alloc ?_ _)); refine blk_put (cs := #[.int .i64 t312, .int .i64 t313, .int .i64 t314, .int .i64 0]) ?_ 3 _ rfl; (with_reducible repeat (first | refine blk_drewN ?_ _ | refine blk_drew ?_ | refine blk_alloc ?_ _)); refine blk_put (cs := #[.int .i64 t312, .int .i64 t313, .int .i64 0, .int .i64 0]) ?_ 2 _ rfl; (with_reducible repeat (first | refine blk_drewN ?_ _ | refine blk_drew ?_ | refine blk_alloc ?_ _)); refine blk_put (cs := #[.int .i64 t312, .int .i64 0, .int .i64 0, .int .i64 0]) ?_ 1 _ rfl; (with_reducible repeat (first | refine blk_drewN ?_ _ | refine blk_drew ?_ | refine blk_alloc ?_ _)); refine blk_put (cs := #[.int .i64 0, .int .i64 0, .int .i64 0, .int .i64 0]) ?_ 0 _ rfl; exact bf0 BK317.out⟩
                have n7_ : Aside0 (Below w.heap.size w ((((w97.setCell ⟨gb317, 0, none⟩ (.int .i64 t312)).setCell ⟨gb317, 1, none⟩ (.int .i64 t313)).setCell ⟨gb317, 2, none⟩ (.int .i64 t314)).setCell ⟨gb317, 3, none⟩ (.int .i64 t315))) := ⟨bl4 HB.out GE288.out GE292.out GE311.out GE317.out⟩
                (try clear HO_4)
                (try clear HO_9)
                (try clear HO_25)
                (try clear BK288)
                (try clear BK292)
                (try clear BK311)
                (try clear BK317)
                (try clear HB)
                generalize ((((w97.setCell ⟨gb317, 0, none⟩ (.int .i64 t312)).setCell ⟨gb317, 1, none⟩ (.int .i64 t313)).setCell ⟨gb317, 2, none⟩ (.int .i64 t314)).setCell ⟨gb317, 3, none⟩ (.int .i64 t315)) = w102 at n0_ n1_ n2_ n3_ n4_ n5_ n6_ n7_ ⊢
                have HO_4 := n0_
                have HO_9 := n1_
                have HO_25 := n2_
                have BK288 := n3_
                have BK292 := n4_
                have BK311 := n5_
                have BK317 := n6_
                have HB := n7_
                clear n0_ n1_ n2_ n3_ n4_ n5_ n6_ n7_
                have n_ := (⟨am (Kd.R_drew HO_4.out), am (Kd.V_drew HO_9.out), am (Kd.V_drew HO_25.out), am (blk_drew BK288.out), am (blk_drew BK292.out), am (blk_drew BK311.out), am (blk_drew BK317.out), am (below_drew1 HB.out)⟩ : _ ∧ _ ∧ _ ∧ _ ∧ _ ∧ _ ∧ _ ∧ _)
                clear HO_4
                clear HO_9
                clear HO_25
                clear BK288
                clear BK292
                clear BK311
                clear BK317
                clear HB
                obtain ⟨HO_4, HO_9, HO_25, BK288, BK292, BK311, BK317, HB⟩ := n_
                refine start_ (n := 4) (S := fun w' => w'.cell? ⟨gb292, 0, none⟩ = some (.int .i64 x293000_1) ∧ w'.cell? ⟨gb292, 1, none⟩ = some (.int .i64 x293001_1) ∧ w'.cell? ⟨gb292, 2, none⟩ = some (.int .i64 x293002_1) ∧ w'.cell? ⟨gb292, 3, none⟩ = some (.int .i64 x293003_1)) (ds := []) #[false, false, false, false] (by kernel_rfl) rfl rfl ⟨(blk_cell BK292.out 0).trans rfl, (blk_cell BK292.out 1).trans rfl, (blk_cell BK292.out 2).trans rfl, (blk_cell BK292.out 3).trans rfl⟩ (fun hHeld => ?_)
                generalize w102.drew = w103 at HO_4 HO_9 HO_25 BK288 BK292 BK311 BK317 HB hHeld ⊢
                refine pure_ (i := 0) (N := some 88) (v := ?_) (a' := ?_) #[true, false, false, false] rfl rfl (by kernel_rfl) (fun _ _ _ h => h) (Or.inl ⟨by rfl, ?_⟩) ?_ ?_
                rotate_left; (focus exact gs); rotate_left; (focus exact pt)
                refine pure_ (i := 2) (N := some 2) (v := ?_) (a' := ?_) #[true, false, true, false] rfl rfl (by kernel_rfl) (fun _ _ _ h => h) (Or.inl ⟨by rfl, ?_⟩) ?_ ?_
                rotate_left; (focus exact gs); rotate_left; (focus exact pt)
                refine take_ (i := 1) (N := some 89) (v := ?_) (a' := ?_) #[true, true, true, false] rfl rfl (by kernel_rfl) (fun _ _ _ h => h) (Or.inl ⟨by rfl, ?_⟩) hHeld ?_ ?_
                rotate_left
                ·rintro w' ⟨s0, s1, s2, s3⟩
                 go_simp
                 with_reducible rfl
                rotate_left
                ·exact pt
                refine one_ (i := 3) (N := none) #[true, true, true, true] rfl rfl (by kernel_rfl) (by decide) (fun K hK => ?_)
                have hs104 := bc BK288.out 0 (.int .i64 0)
                have hfs104 := bz BK288.out 0
                have hns104_1 := NB292_288.out
                have hns104_2 := NB311_288.out
                have hns104_3 := NB317_288.out
                have hms104_1 := NB288_292.out
                have hms104_2 := NB288_311.out
                have hms104_3 := NB288_317.out
                have hs105 := bc BK288.out 1 (.int .i64 0)
                have hfs105 := bz BK288.out 1
                have hns105_1 := NB292_288.out
                have hns105_2 := NB311_288.out
                have hns105_3 := NB317_288.out
                have hms105_1 := NB288_292.out
                have hms105_2 := NB288_311.out
                have hms105_3 := NB288_317.out
                have hs106 := bc BK288.out 2 (.int .i64 0)
                have hfs106 := bz BK288.out 2
                have hns106_1 := NB292_288.out
                have hns106_2 := NB311_288.out
                have hns106_3 := NB317_288.out
                have hms106_1 := NB288_292.out
                have hms106_2 := NB288_311.out
                have hms106_3 := NB288_317.out
                have hs107 := bc BK288.out 3 (.int .i64 0)
                have hfs107 := bz BK288.out 3
                have hns107_1 := NB292_288.out
                have hns107_2 := NB311_288.out
                have hns107_3 := NB317_288.out
                have hms107_1 := NB288_292.out
                have hms107_2 := NB288_311.out
                have hms107_3 := NB288_317.out
                refine skip_ (w1 := ?_) (by rfl) rfl ?_ ?_
                rotate_left
                ·go_simp
                 rfl
                refine hK.out _ _ ⟨((cell_far (p := ⟨gb288, _, none⟩) NB292_288.out _).trans (((cell_far (p := ⟨gb288, _, none⟩) NB292_288.out _).trans (((cell_far (p := ⟨gb288, _, none⟩) NB292_288.out _).trans (((cell_far (p := ⟨gb288, _, none⟩) NB292_288.out _).trans (hHeld.1)))))))), ((cell_far (p := ⟨gb288, _, none⟩) NB292_288.out _).trans (((cell_far (p := ⟨gb288, _, none⟩) NB292_288.out _).trans (((cell_far (p := ⟨gb288, _, none⟩) NB292_288.out _).trans (((cell_far (p := ⟨gb288, _, none⟩) NB292_288.out _).trans (hHeld.2.1)))))))), ((cell_far (p := ⟨gb288, _, none⟩) NB292_288.out _).trans (((cell_far (p := ⟨gb288, _, none⟩) NB292_288.out _).trans (((cell_far (p := ⟨gb288, _, none⟩) NB292_288.out _).trans (((cell_far (p := ⟨gb288, _, none⟩) NB292_288.out _).trans (hHeld.2.2.1)))))))), ((cell_far (p := ⟨gb288, _, none⟩) NB292_288.out _).trans (((cell_far (p := ⟨gb288, _, none⟩) NB292_288.out _).trans (((cell_far (p := ⟨gb288, _, none⟩) NB292_288.out _).trans (((cell_far (p := ⟨gb288, _, none⟩) NB292_288.out _).trans (hHeld.2.2.2))))))))⟩ (fun hHeld => ?_)
                clear hK K
                refine done_ (by kernel_rfl) ?_
                try go_wp2
                refine bodyPost_ret (results_tc rfl _ _ gb288 29 #[.int .i64 x293000_1, .int .i64 x293001_1, .int .i64 x293002_1, .int .i64 x293003_1] (0, 0) _ rfl (bp0 BK288.out) Tryd.underlying29 rfl (by kernel_rfl)) rfl ?_
                exact ⟨_, by first | rfl | (simp [errW_none, errW_some] <;> rfl) | (simp only [← hji3]; first | rfl | (simp [errW_none, errW_some] <;> rfl)) | (simp [*, errW_none, errW_some] <;> rfl), by (with_reducible repeat (first | apply Kd.R_alloc | apply Kd.R_drewN | apply Kd.R_drew)); exact Kd.R_mono (Kd.R_far (p := ⟨gb288, 3, none⟩) (Kd.R_far (p := ⟨gb288, 2, none⟩) (Kd.R_far (p := ⟨gb288, 1, none⟩) (Kd.R_far (p := ⟨gb288, 0, none⟩) (Kd.R_types HO_4.out BK288.out (by decide)) (fun _ hk => hk.2) (.int .i64 x293000_1)) (fun _ hk => hk.2) (.int .i64 x293001_1)) (fun _ hk => hk.2) (.int .i64 x293002_1)) (fun _ hk => hk.2) (.int .i64 x293003_1)) (fun _ hk => trivial), bl4 HB.out GE288.out GE292.out GE311.out GE317.out⟩
              ·replace c37 := Bool.eq_false_iff.mpr c37
               subst c37
               have H1 : (some (x4_1, x293000_1, x293001_1, x293002_1, x293003_1)) = some (r1, r2, r3, r4, r5) := by rw [if_neg (show ¬ (false = true) by decide)] at H; exact H
               clear H
               have H := H1
               clear H1
               simp only [Option.some.injEq, Prod.mk.injEq] at H
               obtain ⟨rfl, rfl, rfl, rfl, rfl⟩ := H
               obtain ⟨Ao108, co108, eo108⟩ := Kd.V_slice HO_9.out
               subst eo108
               have p305 : 0 ≤ (0 : Int) := (by omega)
               have q305 : 0 < (t302.length : Int) := of_decide_eq_true (by first | (with_reducible assumption) | assumption)
               obtain ⟨ad305, e305, hx305_0⟩ := Kd.at_string (Kd.V_reads' HO_9.out).2.2 0 p305 q305
               cases e305
               have qi305 : (0 < t302.length) = True := eq_true (by omega)
               (try rw [show ((0 : Int)).toNat = 0 from rfl] at hx305_0)
               (try rw [Addr.add_zero'] at hx305_0)
               replace p305 := eq_true p305
               replace q305 := eq_true q305
               try go_wp2_with (first | ((with_reducible refine gate_callee (f := 34) rfl ?_); refine goesL_ (some 46) rfl rfl Tryd.func34 (by kernel_rfl) rfl #[.string (rdOf ByteArray.empty t302 0)] rfl lnp ?_; (with_reducible refine (impl_readDecimal.calls (rdOf ByteArray.empty t302 0) t306 true _ A32.out ?gl_).mono ?_); (case gl_ => exact Gl.below HG.out (bl2 HB.out GE288.out GE292.out)); rintro e w109 ⟨rfl, hb⟩; refine ⟨_, rfl, ?_⟩; have n_ := (⟨am (Kd.R_below (rqR HO_4.out) hb), am (Kd.V_below (rqV HO_9.out) hb), am (Kd.V_below (rqV HO_25.out) hb), am (blk_below (bf0 BK288.out) hb), am (blk_below (bf0 BK292.out) hb), am (below_step (bl2 HB.out GE288.out GE292.out) hb)⟩ : _ ∧ _ ∧ _ ∧ _ ∧ _ ∧ _); clear HO_4 HO_9 HO_25 BK288 BK292 HB; obtain ⟨HO_4, HO_9, HO_25, BK288, BK292, HB⟩ := n_; (try clear hb); (try clear hb2); (try clear hk); (try clear hi); have p308 : 0 ≤ (1 : Int) := (by omega); have q308 : 1 < (t302.length : Int) := of_decide_eq_true (by first | (with_reducible assumption) | assumption); obtain ⟨ad308, e308, hx308_0⟩ := Kd.at_string (Kd.V_reads' HO_9.out).2.2 1 p308 q308; obtain rfl : ad305 = ad308 := (by injection e308); (try simp only [show (1 : Int).toNat = 1 from rfl, Nat.reduceMul, Nat.reduceEqDiff, Go.Addr.add, ↓reduceIte] at hx308_0); have qi308 : (1 < t302.length) = True := eq_true (by omega); (try rw [show ((1 : Int)).toNat = 1 from rfl] at hx308_0); replace p308 := eq_true p308; replace q308 := eq_true q308) | ((with_reducible refine gate_callee (f := 34) rfl ?_); refine goesL_ (some 53) rfl rfl Tryd.func34 (by kernel_rfl) rfl #[.string (rdOf ByteArray.empty t302 1)] rfl lnp ?_; (with_reducible refine (impl_readDecimal.calls (rdOf ByteArray.empty t302 1) t309 false _ A34.out ?gl_).mono ?_); (case gl_ => exact Gl.below HG.out (bl2 HB.out GE288.out GE292.out)); rintro e w110 ⟨rfl, hb⟩; refine ⟨_, rfl, ?_⟩; have n_ := (⟨am (Kd.R_below (rqR HO_4.out) hb), am (Kd.V_below (rqV HO_9.out) hb), am (Kd.V_below (rqV HO_25.out) hb), am (blk_below (bf0 BK288.out) hb), am (blk_below (bf0 BK292.out) hb), am (below_step (bl2 HB.out GE288.out GE292.out) hb)⟩ : _ ∧ _ ∧ _ ∧ _ ∧ _ ∧ _); clear HO_4 HO_9 HO_25 BK288 BK292 HB; obtain ⟨HO_4, HO_9, HO_25, BK288, BK292, HB⟩ := n_; (try clear hb); (try clear hb2); (try clear hk); (try clear hi)) | ((with_reducible refine gate_dst (N := 14) rfl ?_); (try (refine gate_guard (by rfl) ?_; dsimp only)); refine box_event ?hg (N := 14) ?hd (cs := #[.int .i64 0, .int .i64 0]) (t := 31) ?hr ?_; (case hd => rfl); (case hg => rfl); (case hr => first | (go_simp; done) | (go_simp; rfl)); intro gb311 hg w111 hbox hb; have n_ := (⟨am (Kd.R_below (Kd.R_elderB (rqR HO_4.out) gb311 (Nat.le_of_eq hg.symm)) hb), am (Kd.V_below (Kd.V_elderB (rqV HO_9.out) gb311 (Nat.le_of_eq hg.symm)) hb), am (Kd.V_below (Kd.V_elderB (rqV HO_25.out) gb311 (Nat.le_of_eq hg.symm)) hb), am (blk_below (bf0 BK288.out) hb), am (blk_below (bf0 BK292.out) hb), am (below_step (bl2 HB.out GE288.out GE292.out) hb), am (hbox), am ((gw hg (bl2 HB.out GE288.out GE292.out) : w.heap.size ≤ gb311)), am ((gw hg (bl2 HB.out GE288.out GE292.out) : w.heap.size ≤ gb311)), am ((nl hg (bf0 BK288.out) : gb288 ≠ gb311)), am ((ng hg (bf0 BK288.out) : gb311 ≠ gb288)), am ((nl hg (bf0 BK292.out) : gb292 ≠ gb311)), am ((ng hg (bf0 BK292.out) : gb311 ≠ gb292))⟩ : _ ∧ _ ∧ _ ∧ _ ∧ _ ∧ _ ∧ _ ∧ _ ∧ _ ∧ _ ∧ _ ∧ _ ∧ _); clear HO_4 HO_9 HO_25 BK288 BK292 HB; obtain ⟨HO_4, HO_9, HO_25, BK288, BK292, HB, BK311, GW311, GE311, NB288_311, NB311_288, NB292_311, NB311_292⟩ := n_; clear hb hbox hg; have hnb112 := NB311_288.out; have hnc112 := NB288_311.out; have hnb113 := NB311_292.out; have hnc113 := NB292_311.out; obtain ⟨hcz114_0, hcz114_1, hfz114_0, hfz114_1⟩ := cs2 BK311.out; have hnb115 := NB292_288.out; have hnc115 := NB288_292.out; obtain ⟨hcz116_0, hcz116_1, hcz116_2, hcz116_3, hfz116_0, hfz116_1, hfz116_2, hfz116_3⟩ := cs4 BK292.out) | ((with_reducible refine gate_callee (f := 26) rfl ?_); refine goesL_ (some 62) rfl rfl Tryd.func26 (by kernel_rfl) rfl #[.agg #[.int .i64 x293000_1, .int .i64 x293001_1, .int .i64 x293002_1, .int .i64 x293003_1], .agg #[.int .i64 t306, .int .i64 t309]] rfl lnp ?_; (with_reducible refine (impl_after.calls kj18 x293000_1 x293001_1 x293002_1 x293003_1 t306 t309 t312 t313 t314 t315 t316 _ A35.out).mono ?_); rintro e w117 ⟨rfl, hb⟩; refine ⟨_, rfl, ?_⟩; have n_ := (⟨am (Kd.R_below (by (with_reducible repeat (first | apply Kd.R_alloc | apply Kd.R_drewN | apply Kd.R_drew)); exact (Kd.R_mono (Kd.R_far (p := ⟨gb311, 1, none⟩) (Kd.R_far (p := ⟨gb311, 0, none⟩) (Kd.R_mono HO_4.out (fun k_ hk => (⟨hk, hk.2⟩ : _ ∧ k_ ≠ gb311))) (fun _ hk => hk.2) (.int .i64 t306)) (fun _ hk => hk.2) (.int .i64 t309)) (fun _ h_ => h_.1))) hb), am (Kd.V_below (by (with_reducible repeat (first | apply Kd.V_alloc | apply Kd.V_drewN | apply Kd.V_drew)); exact (Kd.V_mono (Kd.V_far (p := ⟨gb311, 1, none⟩) (Kd.V_far (p := ⟨gb311, 0, none⟩) (Kd.V_mono HO_9.out (fun k_ hk => (⟨hk, hk.2⟩ : _ ∧ k_ ≠ gb311))) (fun _ hk => hk.2) (.int .i64 t306)) (fun _ hk => hk.2) (.int .i64 t309)) (fun _ h_ => h_.1))) hb), am (Kd.V_below (by (with_reducible repeat (first | apply Kd.V_alloc | apply Kd.V_drewN | apply Kd.V_drew)); exact (Kd.V_mono (Kd.V_far (p := ⟨gb311, 1, none⟩) (Kd.V_far (p := ⟨gb311, 0, none⟩) (Kd.V_mono HO_25.out (fun k_ hk => (⟨hk, hk.2⟩ : _ ∧ k_ ≠ gb311))) (fun _ hk => hk.2) (.int .i64 t306)) (fun _ hk => hk.2) (.int .i64 t309)) (fun _ h_ => h_.1))) hb), am (blk_below (bf1 BK288.out NB288_311.out) hb), am (blk_below (bf1 BK292.out NB292_311.out) hb), am (blk_below (g := gb311) (o := .cells #[.int .i64 t306, .int .i64 t309] 31 (0, 0)) (bp0 BK311.out) hb), am (below_step (bl3 HB.out GE288.out GE292.out GE311.out) hb)⟩ : _ ∧ _ ∧ _ ∧ _ ∧ _ ∧ _ ∧ _); clear HO_4 HO_9 HO_25 BK288 BK292 BK311 HB; obtain ⟨HO_4, HO_9, HO_25, BK288, BK292, BK311, HB⟩ := n_; (try clear hb); (try clear hb2); (try clear hk); (try clear hi)) | ((with_reducible refine gate_dst (N := 15) rfl ?_); (try (refine gate_guard (by rfl) ?_; dsimp only)); refine box_event ?hg (N := 15) ?hd (cs := #[.int .i64 0, .int .i64 0, .int .i64 0, .int .i64 0]) (t := 29) ?hr ?_; (case hd => rfl); (case hg => rfl); (case hr => first | (go_simp; done) | (go_simp; rfl)); intro gb317 hg w118 hbox hb; have n_ := (⟨am (Kd.R_below (rqR HO_4.out) hb), am (Kd.V_below (Kd.V_elderB (rqV HO_9.out) gb317 (Nat.le_of_eq hg.symm)) hb), am (Kd.V_below (Kd.V_elderB (rqV HO_25.out) gb317 (Nat.le_of_eq hg.symm)) hb), am (blk_below (bf0 BK288.out) hb), am (blk_below (bf0 BK292.out) hb), am (blk_below (bf0 BK311.out) hb), am (below_step (bl3 HB.out GE288.out GE292.out GE311.out) hb), am (hbox), am ((gw hg (bl3 HB.out GE288.out GE292.out GE311.out) : w.heap.size ≤ gb317)), am ((gw hg (bl3 HB.out GE288.out GE292.out GE311.out) : w.heap.size ≤ gb317)), am ((nl hg (bf0 BK288.out) : gb288 ≠ gb317)), am ((ng hg (bf0 BK288.out) : gb317 ≠ gb288)), am ((nl hg (bf0 BK292.out) : gb292 ≠ gb317)), am ((ng hg (bf0 BK292.out) : gb317 ≠ gb292)), am ((nl hg (bf0 BK311.out) : gb311 ≠ gb317)), am ((ng hg (bf0 BK311.out) : gb317 ≠ gb311))⟩ : _ ∧ _ ∧ _ ∧ _ ∧ _ ∧ _ ∧ _ ∧ _ ∧ _ ∧ _ ∧ _ ∧ _ ∧ _ ∧ _ ∧ _ ∧ _); clear HO_4 HO_9 HO_25 BK288 BK292 BK311 HB; obtain ⟨HO_4, HO_9, HO_25, BK288, BK292, BK311, HB, BK317, GW317, GE317, NB288_317, NB317_288, NB292_317, NB317_292, NB311_317, NB317_311⟩ := n_; clear hb hbox hg; have hnb119 := NB317_288.out; have hnc119 := NB288_317.out; have hnb120 := NB317_292.out; have hnc120 := NB292_317.out; have hnb121 := NB317_311.out; have hnc121 := NB311_317.out; obtain ⟨hcz122_0, hcz122_1, hcz122_2, hcz122_3, hfz122_0, hfz122_1, hfz122_2, hfz122_3⟩ := cs4 BK317.out))
               have n0_ : Aside0 (Kd.R k31 31 ((((w118.setCell ⟨gb317, 0, none⟩ (.int .i64 t312)).setCell ⟨gb317, 1, none⟩ (.int .i64 t313)).setCell ⟨gb317, 2, none⟩ (.int .i64 t314)).setCell ⟨gb317, 3, none⟩ (.int .i64 t315)) w.heap.size (fun k_ => k_ ≠ gb311) u4 x4_1) := ⟨by (with_reducible repeat (first | apply Kd.R_alloc | apply Kd.R_drewN | apply Kd.R_drew)); exact Kd.R_mono (Kd.R_far (p := ⟨gb317, 3, none⟩) (Kd.R_far (p := ⟨gb317, 2, none⟩) (Kd.R_far (p := ⟨gb317, 1, none⟩) (Kd.R_far (p := ⟨gb317, 0, none⟩) (Kd.R_types HO_4.out BK317.out (by decide)) (fun _ hk => hk.2) (.int .i64 t312)) (fun _ hk => hk.2) (.int .i64 t313)) (fun _ hk => hk.2) (.int .i64 t314)) (fun _ hk => hk.2) (.int .i64 t315)) (fun _ hk => hk.1.2)⟩
               have n1_ : Aside0 (Kd.V Kd.string 9 ((((w118.setCell ⟨gb317, 0, none⟩ (.int .i64 t312)).setCell ⟨gb317, 1, none⟩ (.int .i64 t313)).setCell ⟨gb317, 2, none⟩ (.int .i64 t314)).setCell ⟨gb317, 3, none⟩ (.int .i64 t315)) w.heap.size (fun k_ => some k_ ≠ (u4 : Value).ownBlock ∧ k_ ≠ gb288 ∧ k_ ≠ gb292 ∧ k_ ≠ gb311 ∧ k_ ≠ gb317) (.slice (some ad305) t302.length co108) t302) := ⟨by (with_reducible repeat (first | apply Kd.V_alloc | apply Kd.V_drewN | apply Kd.V_drew)); exact Kd.V_mono (Kd.V_far (p := ⟨gb317, 3, none⟩) (Kd.V_far (p := ⟨gb317, 2, none⟩) (Kd.V_far (p := ⟨gb317, 1, none⟩) (Kd.V_far (p := ⟨gb317, 0, none⟩) (Kd.V_mono HO_9.out (fun k_ hk => (⟨hk, hk.2⟩ : _ ∧ k_ ≠ gb317))) (fun _ hk => hk.2) (.int .i64 t312)) (fun _ hk => hk.2) (.int .i64 t313)) (fun _ hk => hk.2) (.int .i64 t314)) (fun _ hk => hk.2) (.int .i64 t315)) (fun _ hk => ⟨hk.1.1.1.1, ⟨hk.1.1.1.2.1, ⟨hk.1.1.1.2.2, ⟨hk.1.1.2, hk.1.2⟩⟩⟩⟩)⟩
               have n2_ : Aside0 (Kd.V Kd.string 9 ((((w118.setCell ⟨gb317, 0, none⟩ (.int .i64 t312)).setCell ⟨gb317, 1, none⟩ (.int .i64 t313)).setCell ⟨gb317, 2, none⟩ (.int .i64 t314)).setCell ⟨gb317, 3, none⟩ (.int .i64 t315)) w.heap.size (fun k_ => some k_ ≠ (u4 : Value).ownBlock ∧ k_ ≠ gb288 ∧ k_ ≠ gb292 ∧ k_ ≠ gb311 ∧ k_ ≠ gb317) (.slice (some ad301) y296.length co13) y296) := ⟨by (with_reducible repeat (first | apply Kd.V_alloc | apply Kd.V_drewN | apply Kd.V_drew)); exact Kd.V_mono (Kd.V_far (p := ⟨gb317, 3, none⟩) (Kd.V_far (p := ⟨gb317, 2, none⟩) (Kd.V_far (p := ⟨gb317, 1, none⟩) (Kd.V_far (p := ⟨gb317, 0, none⟩) (Kd.V_mono HO_25.out (fun k_ hk => (⟨hk, hk.2⟩ : _ ∧ k_ ≠ gb317))) (fun _ hk => hk.2) (.int .i64 t312)) (fun _ hk => hk.2) (.int .i64 t313)) (fun _ hk => hk.2) (.int .i64 t314)) (fun _ hk => hk.2) (.int .i64 t315)) (fun _ hk => ⟨hk.1.1.1.1, ⟨hk.1.1.1.2.1, ⟨hk.1.1.1.2.2, ⟨hk.1.1.2, hk.1.2⟩⟩⟩⟩)⟩
               have n3_ : Aside0 (((((w118.setCell ⟨gb317, 0, none⟩ (.int .i64 t312)).setCell ⟨gb317, 1, none⟩ (.int .i64 t313)).setCell ⟨gb317, 2, none⟩ (.int .i64 t314)).setCell ⟨gb317, 3, none⟩ (.int .i64 t315)).heap[gb288]? = some (.cells #[.int .i64 0, .int .i64 0, .int .i64 0, .int .i64 0] 29 (0, 0))) := ⟨bf1 BK288.out NB288_317.out⟩
               have n4_ : Aside0 (((((w118.setCell ⟨gb317, 0, none⟩ (.int .i64 t312)).setCell ⟨gb317, 1, none⟩ (.int .i64 t313)).setCell ⟨gb317, 2, none⟩ (.int .i64 t314)).setCell ⟨gb317, 3, none⟩ (.int .i64 t315)).heap[gb292]? = some (.cells #[.int .i64 x293000_1, .int .i64 x293001_1, .int .i64 x293002_1, .int .i64 x293003_1] 29 (0, 0))) := ⟨bf1 BK292.out NB292_317.out⟩
               have n5_ : Aside0 (((((w118.setCell ⟨gb317, 0, none⟩ (.int .i64 t312)).setCell ⟨gb317, 1, none⟩ (.int .i64 t313)).setCell ⟨gb317, 2, none⟩ (.int .i64 t314)).setCell ⟨gb317, 3, none⟩ (.int .i64 t315)).heap[gb311]? = some (.cells #[.int .i64 t306, .int .i64 t309] 31 (0, 0))) := ⟨bf1 BK311.out NB311_317.out⟩
               have n6_ : Aside0 (((((w118.setCell ⟨gb317, 0, none⟩ (.int .i64 t312)).setCell ⟨gb317, 1, none⟩ (.int .i64 t313)).setCell ⟨gb317, 2, none⟩ (.int .i64 t314)).setCell ⟨gb317, 3, none⟩ (.int .i64 t315)).heap[gb317]? = some (.cells #[.int .i64 t312, .int .i64 t313, .int .i64 t314, .int .i64 t315] 29 (0, 0))) := ⟨by (with_reducible repeat (first | refine blk_drewN ?_ _ | refine blk_drew ?_ | refine blk_alloc ?_ _)); refine blk_put (cs := #[.int .i64 t312, .int .i64 t313, .int .i64 t314, .int .i64 0]) ?_ 3 _ rfl; (with_reducible repeat (first | refine blk_drewN ?_ _ | refine blk_drew ?_ | refine blk_alloc ?_ _)); refine blk_put (cs := #[.int .i64 t312, .int .i64 t313, .int .i64 0, .int .i64 0]) ?_ 2 _ rfl; (with_reducible repeat (first | refine blk_drewN ?_ _ | refine blk_drew ?_ | refine blk_alloc ?_ _)); refine blk_put (cs := #[.int .i64 t312, .int .i64 0, .int .i64 0, .int .i64 0]) ?_ 1 _ rfl; (with_reducible repeat (first | refine blk_drewN ?_ _ | refine blk_drew ?_ | refine blk_alloc ?_ _)); refine blk_put (cs := #[.int .i64 0, .int .i64 0, .int .i64 0, .int .i64 0]) ?_ 0 _ rfl; exact bf0 BK317.out⟩
               have n7_ : Aside0 (Below w.heap.size w ((((w118.setCell ⟨gb317, 0, none⟩ (.int .i64 t312)).setCell ⟨gb317, 1, none⟩ (.int .i64 t313)).setCell ⟨gb317, 2, none⟩ (.int .i64 t314)).setCell ⟨gb317, 3, none⟩ (.int .i64 t315))) := ⟨bl4 HB.out GE288.out GE292.out GE311.out GE317.out⟩
               (try clear HO_4)
               (try clear HO_9)
               (try clear HO_25)
               (try clear BK288)
               (try clear BK292)
               (try clear BK311)
               (try clear BK317)
               (try clear HB)
               generalize ((((w118.setCell ⟨gb317, 0, none⟩ (.int .i64 t312)).setCell ⟨gb317, 1, none⟩ (.int .i64 t313)).setCell ⟨gb317, 2, none⟩ (.int .i64 t314)).setCell ⟨gb317, 3, none⟩ (.int .i64 t315)) = w123 at n0_ n1_ n2_ n3_ n4_ n5_ n6_ n7_ ⊢
               have HO_4 := n0_
               have HO_9 := n1_
               have HO_25 := n2_
               have BK288 := n3_
               have BK292 := n4_
               have BK311 := n5_
               have BK317 := n6_
               have HB := n7_
               clear n0_ n1_ n2_ n3_ n4_ n5_ n6_ n7_
               have n_ := (⟨am (Kd.R_drew HO_4.out), am (Kd.V_drew HO_9.out), am (Kd.V_drew HO_25.out), am (blk_drew BK288.out), am (blk_drew BK292.out), am (blk_drew BK311.out), am (blk_drew BK317.out), am (below_drew1 HB.out)⟩ : _ ∧ _ ∧ _ ∧ _ ∧ _ ∧ _ ∧ _ ∧ _)
               clear HO_4
               clear HO_9
               clear HO_25
               clear BK288
               clear BK292
               clear BK311
               clear BK317
               clear HB
               obtain ⟨HO_4, HO_9, HO_25, BK288, BK292, BK311, BK317, HB⟩ := n_
               refine start_ (n := 4) (S := fun w' => w'.cell? ⟨gb292, 0, none⟩ = some (.int .i64 x293000_1) ∧ w'.cell? ⟨gb292, 1, none⟩ = some (.int .i64 x293001_1) ∧ w'.cell? ⟨gb292, 2, none⟩ = some (.int .i64 x293002_1) ∧ w'.cell? ⟨gb292, 3, none⟩ = some (.int .i64 x293003_1)) (ds := []) #[false, false, false, false] (by kernel_rfl) rfl rfl ⟨(blk_cell BK292.out 0).trans rfl, (blk_cell BK292.out 1).trans rfl, (blk_cell BK292.out 2).trans rfl, (blk_cell BK292.out 3).trans rfl⟩ (fun hHeld => ?_)
               generalize w123.drew = w124 at HO_4 HO_9 HO_25 BK288 BK292 BK311 BK317 HB hHeld ⊢
               refine pure_ (i := 0) (N := some 88) (v := ?_) (a' := ?_) #[true, false, false, false] rfl rfl (by kernel_rfl) (fun _ _ _ h => h) (Or.inl ⟨by rfl, ?_⟩) ?_ ?_
               rotate_left; (focus exact gs); rotate_left; (focus exact pt)
               refine pure_ (i := 2) (N := some 2) (v := ?_) (a' := ?_) #[true, false, true, false] rfl rfl (by kernel_rfl) (fun _ _ _ h => h) (Or.inl ⟨by rfl, ?_⟩) ?_ ?_
               rotate_left; (focus exact gs); rotate_left; (focus exact pt)
               refine take_ (i := 1) (N := some 89) (v := ?_) (a' := ?_) #[true, true, true, false] rfl rfl (by kernel_rfl) (fun _ _ _ h => h) (Or.inl ⟨by rfl, ?_⟩) hHeld ?_ ?_
               rotate_left
               ·rintro w' ⟨s0, s1, s2, s3⟩
                go_simp
                with_reducible rfl
               rotate_left
               ·exact pt
               refine one_ (i := 3) (N := none) #[true, true, true, true] rfl rfl (by kernel_rfl) (by decide) (fun K hK => ?_)
               have hs125 := bc BK288.out 0 (.int .i64 0)
               have hfs125 := bz BK288.out 0
               have hns125_1 := NB292_288.out
               have hns125_2 := NB311_288.out
               have hns125_3 := NB317_288.out
               have hms125_1 := NB288_292.out
               have hms125_2 := NB288_311.out
               have hms125_3 := NB288_317.out
               have hs126 := bc BK288.out 1 (.int .i64 0)
               have hfs126 := bz BK288.out 1
               have hns126_1 := NB292_288.out
               have hns126_2 := NB311_288.out
               have hns126_3 := NB317_288.out
               have hms126_1 := NB288_292.out
               have hms126_2 := NB288_311.out
               have hms126_3 := NB288_317.out
               have hs127 := bc BK288.out 2 (.int .i64 0)
               have hfs127 := bz BK288.out 2
               have hns127_1 := NB292_288.out
               have hns127_2 := NB311_288.out
               have hns127_3 := NB317_288.out
               have hms127_1 := NB288_292.out
               have hms127_2 := NB288_311.out
               have hms127_3 := NB288_317.out
               have hs128 := bc BK288.out 3 (.int .i64 0)
               have hfs128 := bz BK288.out 3
               have hns128_1 := NB292_288.out
               have hns128_2 := NB311_288.out
               have hns128_3 := NB317_288.out
               have hms128_1 := NB288_292.out
               have hms128_2 := NB288_311.out
               have hms128_3 := NB288_317.out
               refine skip_ (w1 := ?_) (by rfl) rfl ?_ ?_
               rotate_left
               ·go_simp
                rfl
               refine hK.out _ _ ⟨((cell_far (p := ⟨gb288, _, none⟩) NB292_288.out _).trans (((cell_far (p := ⟨gb288, _, none⟩) NB292_288.out _).trans (((cell_far (p := ⟨gb288, _, none⟩) NB292_288.out _).trans (((cell_far (p := ⟨gb288, _, none⟩) NB292_288.out _).trans (hHeld.1)))))))), ((cell_far (p := ⟨gb288, _, none⟩) NB292_288.out _).trans (((cell_far (p := ⟨gb288, _, none⟩) NB292_288.out _).trans (((cell_far (p := ⟨gb288, _, none⟩) NB292_288.out _).trans (((cell_far (p := ⟨gb288, _, none⟩) NB292_288.out _).trans (hHeld.2.1)))))))), ((cell_far (p := ⟨gb288, _, none⟩) NB292_288.out _).trans (((cell_far (p := ⟨gb288, _, none⟩) NB292_288.out _).trans (((cell_far (p := ⟨gb288, _, none⟩) NB292_288.out _).trans (((cell_far (p := ⟨gb288, _, none⟩) NB292_288.out _).trans (hHeld.2.2.1)))))))), ((cell_far (p := ⟨gb288, _, none⟩) NB292_288.out _).trans (((cell_far (p := ⟨gb288, _, none⟩) NB292_288.out _).trans (((cell_far (p := ⟨gb288, _, none⟩) NB292_288.out _).trans (((cell_far (p := ⟨gb288, _, none⟩) NB292_288.out _).trans (hHeld.2.2.2))))))))⟩ (fun hHeld => ?_)
               clear hK K
               refine done_ (by kernel_rfl) ?_
               try go_wp2
               refine bodyPost_ret (results_tc rfl _ _ gb288 29 #[.int .i64 x293000_1, .int .i64 x293001_1, .int .i64 x293002_1, .int .i64 x293003_1] (0, 0) _ rfl (bp0 BK288.out) Tryd.underlying29 rfl (by kernel_rfl)) rfl ?_
               exact ⟨_, by first | rfl | (simp [errW_none, errW_some] <;> rfl) | (simp only [← hji3]; first | rfl | (simp [errW_none, errW_some] <;> rfl)) | (simp [*, errW_none, errW_some] <;> rfl), by (with_reducible repeat (first | apply Kd.R_alloc | apply Kd.R_drewN | apply Kd.R_drew)); exact Kd.R_mono (Kd.R_far (p := ⟨gb288, 3, none⟩) (Kd.R_far (p := ⟨gb288, 2, none⟩) (Kd.R_far (p := ⟨gb288, 1, none⟩) (Kd.R_far (p := ⟨gb288, 0, none⟩) (Kd.R_types HO_4.out BK288.out (by decide)) (fun _ hk => hk.2) (.int .i64 x293000_1)) (fun _ hk => hk.2) (.int .i64 x293001_1)) (fun _ hk => hk.2) (.int .i64 x293002_1)) (fun _ hk => hk.2) (.int .i64 x293003_1)) (fun _ hk => trivial), bl4 HB.out GE288.out GE292.out GE311.out GE317.out⟩
             ·replace c36 := Bool.eq_false_iff.mpr c36
              subst c36
              have H1 : (some (x4_1, x293000_1, x293001_1, x293002_1, x293003_1)) = some (r1, r2, r3, r4, r5) := by rw [if_neg (show ¬ (false = true) by decide)] at H; exact H
              clear H
              have H := H1
              clear H1
              simp only [Option.some.injEq, Prod.mk.injEq] at H
              obtain ⟨rfl, rfl, rfl, rfl, rfl⟩ := H
              obtain ⟨Ao129, co129, eo129⟩ := Kd.V_slice HO_9.out
              subst eo129
              have p305 : 0 ≤ (0 : Int) := (by omega)
              have q305 : 0 < (t302.length : Int) := of_decide_eq_true (by first | (with_reducible assumption) | assumption)
              obtain ⟨ad305, e305, hx305_0⟩ := Kd.at_string (Kd.V_reads' HO_9.out).2.2 0 p305 q305
              cases e305
              have qi305 : (0 < t302.length) = True := eq_true (by omega)
              (try rw [show ((0 : Int)).toNat = 0 from rfl] at hx305_0)
              (try rw [Addr.add_zero'] at hx305_0)
              replace p305 := eq_true p305
              replace q305 := eq_true q305
              try go_wp2_with (first | ((with_reducible refine gate_callee (f := 34) rfl ?_); refine goesL_ (some 46) rfl rfl Tryd.func34 (by kernel_rfl) rfl #[.string (rdOf ByteArray.empty t302 0)] rfl lnp ?_; (with_reducible refine (impl_readDecimal.calls (rdOf ByteArray.empty t302 0) t306 false _ A32.out ?gl_).mono ?_); (case gl_ => exact Gl.below HG.out (bl2 HB.out GE288.out GE292.out)); rintro e w130 ⟨rfl, hb⟩; refine ⟨_, rfl, ?_⟩; have n_ := (⟨am (Kd.R_below (rqR HO_4.out) hb), am (Kd.V_below (rqV HO_9.out) hb), am (Kd.V_below (rqV HO_25.out) hb), am (blk_below (bf0 BK288.out) hb), am (blk_below (bf0 BK292.out) hb), am (below_step (bl2 HB.out GE288.out GE292.out) hb)⟩ : _ ∧ _ ∧ _ ∧ _ ∧ _ ∧ _); clear HO_4 HO_9 HO_25 BK288 BK292 HB; obtain ⟨HO_4, HO_9, HO_25, BK288, BK292, HB⟩ := n_; (try clear hb); (try clear hb2); (try clear hk); (try clear hi); have p308 : 0 ≤ (1 : Int) := (by omega); have q308 : 1 < (t302.length : Int) := of_decide_eq_true (by first | (with_reducible assumption) | assumption); obtain ⟨ad308, e308, hx308_0⟩ := Kd.at_string (Kd.V_reads' HO_9.out).2.2 1 p308 q308; obtain rfl : ad305 = ad308 := (by injection e308); (try simp only [show (1 : Int).toNat = 1 from rfl, Nat.reduceMul, Nat.reduceEqDiff, Go.Addr.add, ↓reduceIte] at hx308_0); have qi308 : (1 < t302.length) = True := eq_true (by omega); (try rw [show ((1 : Int)).toNat = 1 from rfl] at hx308_0); replace p308 := eq_true p308; replace q308 := eq_true q308) | ((with_reducible refine gate_callee (f := 34) rfl ?_); refine goesL_ (some 53) rfl rfl Tryd.func34 (by kernel_rfl) rfl #[.string (rdOf ByteArray.empty t302 1)] rfl lnp ?_; (with_reducible refine (impl_readDecimal.calls (rdOf ByteArray.empty t302 1) t309 t310 _ A34.out ?gl_).mono ?_); (case gl_ => exact Gl.below HG.out (bl2 HB.out GE288.out GE292.out)); rintro e w131 ⟨rfl, hb⟩; refine ⟨_, rfl, ?_⟩; have n_ := (⟨am (Kd.R_below (rqR HO_4.out) hb), am (Kd.V_below (rqV HO_9.out) hb), am (Kd.V_below (rqV HO_25.out) hb), am (blk_below (bf0 BK288.out) hb), am (blk_below (bf0 BK292.out) hb), am (below_step (bl2 HB.out GE288.out GE292.out) hb)⟩ : _ ∧ _ ∧ _ ∧ _ ∧ _ ∧ _); clear HO_4 HO_9 HO_25 BK288 BK292 HB; obtain ⟨HO_4, HO_9, HO_25, BK288, BK292, HB⟩ := n_; (try clear hb); (try clear hb2); (try clear hk); (try clear hi)) | ((with_reducible refine gate_dst (N := 14) rfl ?_); (try (refine gate_guard (by rfl) ?_; dsimp only)); refine box_event ?hg (N := 14) ?hd (cs := #[.int .i64 0, .int .i64 0]) (t := 31) ?hr ?_; (case hd => rfl); (case hg => rfl); (case hr => first | (go_simp; done) | (go_simp; rfl)); intro gb311 hg w132 hbox hb; have n_ := (⟨am (Kd.R_below (Kd.R_elderB (rqR HO_4.out) gb311 (Nat.le_of_eq hg.symm)) hb), am (Kd.V_below (Kd.V_elderB (rqV HO_9.out) gb311 (Nat.le_of_eq hg.symm)) hb), am (Kd.V_below (Kd.V_elderB (rqV HO_25.out) gb311 (Nat.le_of_eq hg.symm)) hb), am (blk_below (bf0 BK288.out) hb), am (blk_below (bf0 BK292.out) hb), am (below_step (bl2 HB.out GE288.out GE292.out) hb), am (hbox), am ((gw hg (bl2 HB.out GE288.out GE292.out) : w.heap.size ≤ gb311)), am ((gw hg (bl2 HB.out GE288.out GE292.out) : w.heap.size ≤ gb311)), am ((nl hg (bf0 BK288.out) : gb288 ≠ gb311)), am ((ng hg (bf0 BK288.out) : gb311 ≠ gb288)), am ((nl hg (bf0 BK292.out) : gb292 ≠ gb311)), am ((ng hg (bf0 BK292.out) : gb311 ≠ gb292))⟩ : _ ∧ _ ∧ _ ∧ _ ∧ _ ∧ _ ∧ _ ∧ _ ∧ _ ∧ _ ∧ _ ∧ _ ∧ _); clear HO_4 HO_9 HO_25 BK288 BK292 HB; obtain ⟨HO_4, HO_9, HO_25, BK288, BK292, HB, BK311, GW311, GE311, NB288_311, NB311_288, NB292_311, NB311_292⟩ := n_; clear hb hbox hg; have hnb133 := NB311_288.out; have hnc133 := NB288_311.out; have hnb134 := NB311_292.out; have hnc134 := NB292_311.out; obtain ⟨hcz135_0, hcz135_1, hfz135_0, hfz135_1⟩ := cs2 BK311.out; have hnb136 := NB292_288.out; have hnc136 := NB288_292.out; obtain ⟨hcz137_0, hcz137_1, hcz137_2, hcz137_3, hfz137_0, hfz137_1, hfz137_2, hfz137_3⟩ := cs4 BK292.out) | ((with_reducible refine gate_callee (f := 26) rfl ?_); refine goesL_ (some 62) rfl rfl Tryd.func26 (by kernel_rfl) rfl #[.agg #[.int .i64 x293000_1, .int .i64 x293001_1, .int .i64 x293002_1, .int .i64 x293003_1], .agg #[.int .i64 t306, .int .i64 t309]] rfl lnp ?_; (with_reducible refine (impl_after.calls kj18 x293000_1 x293001_1 x293002_1 x293003_1 t306 t309 t312 t313 t314 t315 t316 _ A35.out).mono ?_); rintro e w138 ⟨rfl, hb⟩; refine ⟨_, rfl, ?_⟩; have n_ := (⟨am (Kd.R_below (by (with_reducible repeat (first | apply Kd.R_alloc | apply Kd.R_drewN | apply Kd.R_drew)); exact (Kd.R_mono (Kd.R_far (p := ⟨gb311, 1, none⟩) (Kd.R_far (p := ⟨gb311, 0, none⟩) (Kd.R_mono HO_4.out (fun k_ hk => (⟨hk, hk.2⟩ : _ ∧ k_ ≠ gb311))) (fun _ hk => hk.2) (.int .i64 t306)) (fun _ hk => hk.2) (.int .i64 t309)) (fun _ h_ => h_.1))) hb), am (Kd.V_below (by (with_reducible repeat (first | apply Kd.V_alloc | apply Kd.V_drewN | apply Kd.V_drew)); exact (Kd.V_mono (Kd.V_far (p := ⟨gb311, 1, none⟩) (Kd.V_far (p := ⟨gb311, 0, none⟩) (Kd.V_mono HO_9.out (fun k_ hk => (⟨hk, hk.2⟩ : _ ∧ k_ ≠ gb311))) (fun _ hk => hk.2) (.int .i64 t306)) (fun _ hk => hk.2) (.int .i64 t309)) (fun _ h_ => h_.1))) hb), am (Kd.V_below (by (with_reducible repeat (first | apply Kd.V_alloc | apply Kd.V_drewN | apply Kd.V_drew)); exact (Kd.V_mono (Kd.V_far (p := ⟨gb311, 1, none⟩) (Kd.V_far (p := ⟨gb311, 0, none⟩) (Kd.V_mono HO_25.out (fun k_ hk => (⟨hk, hk.2⟩ : _ ∧ k_ ≠ gb311))) (fun _ hk => hk.2) (.int .i64 t306)) (fun _ hk => hk.2) (.int .i64 t309)) (fun _ h_ => h_.1))) hb), am (blk_below (bf1 BK288.out NB288_311.out) hb), am (blk_below (bf1 BK292.out NB292_311.out) hb), am (blk_below (g := gb311) (o := .cells #[.int .i64 t306, .int .i64 t309] 31 (0, 0)) (bp0 BK311.out) hb), am (below_step (bl3 HB.out GE288.out GE292.out GE311.out) hb)⟩ : _ ∧ _ ∧ _ ∧ _ ∧ _ ∧ _ ∧ _); clear HO_4 HO_9 HO_25 BK288 BK292 BK311 HB; obtain ⟨HO_4, HO_9, HO_25, BK288, BK292, BK311, HB⟩ := n_; (try clear hb); (try clear hb2); (try clear hk); (try clear hi)) | ((with_reducible refine gate_dst (N := 15) rfl ?_); (try (refine gate_guard (by rfl) ?_; dsimp only)); refine box_event ?hg (N := 15) ?hd (cs := #[.int .i64 0, .int .i64 0, .int .i64 0, .int .i64 0]) (t := 29) ?hr ?_; (case hd => rfl); (case hg => rfl); (case hr => first | (go_simp; done) | (go_simp; rfl)); intro gb317 hg w139 hbox hb; have n_ := (⟨am (Kd.R_below (rqR HO_4.out) hb), am (Kd.V_below (Kd.V_elderB (rqV HO_9.out) gb317 (Nat.le_of_eq hg.symm)) hb), am (Kd.V_below (Kd.V_elderB (rqV HO_25.out) gb317 (Nat.le_of_eq hg.symm)) hb), am (blk_below (bf0 BK288.out) hb), am (blk_below (bf0 BK292.out) hb), am (blk_below (bf0 BK311.out) hb), am (below_step (bl3 HB.out GE288.out GE292.out GE311.out) hb), am (hbox), am ((gw hg (bl3 HB.out GE288.out GE292.out GE311.out) : w.heap.size ≤ gb317)), am ((gw hg (bl3 HB.out GE288.out GE292.out GE311.out) : w.heap.size ≤ gb317)), am ((nl hg (bf0 BK288.out) : gb288 ≠ gb317)), am ((ng hg (bf0 BK288.out) : gb317 ≠ gb288)), am ((nl hg (bf0 BK292.out) : gb292 ≠ gb317)), am ((ng hg (bf0 BK292.out) : gb317 ≠ gb292)), am ((nl hg (bf0 BK311.out) : gb311 ≠ gb317)), am ((ng hg (bf0 BK311.out) : gb317 ≠ gb311))⟩ : _ ∧ _ ∧ _ ∧ _ ∧ _ ∧ _ ∧ _ ∧ _ ∧ _ ∧ _ ∧ _ ∧ _ ∧ _ ∧ _ ∧ _ ∧ _); clear HO_4 HO_9 HO_25 BK288 BK292 BK311 HB; obtain ⟨HO_4, HO_9, HO_25, BK288, BK292, BK311, HB, BK317, GW317, GE317, NB288_317, NB317_288, NB292_317, NB317_292, NB311_317, NB317_311⟩ := n_; clear hb hbox hg; have hnb140 := NB317_288.out; have hnc140 := NB288_317.out; have hnb141 := NB317_292.out; have hnc141 := NB292_317.out; have hnb142 := NB317_311.out; have hnc142 := NB311_317.out; obtain ⟨hcz143_0, hcz143_1, hcz143_2, hcz143_3, hfz143_0, hfz143_1, hfz143_2, hfz143_3⟩ := cs4 BK317.out))
              have n0_ : Aside0 (Kd.R k31 31 ((((w139.setCell ⟨gb317, 0, none⟩ (.int .i64 t312)).setCell ⟨gb317, 1, none⟩ (.int .i64 t313)).setCell ⟨gb317, 2, none⟩ (.int .i64 t314)).setCell ⟨gb317, 3, none⟩ (.int .i64 t315)) w.heap.size (fun k_ => k_ ≠ gb311) u4 x4_1) := ⟨by (with_reducible repeat (first | apply Kd.R_alloc | apply Kd.R_drewN | apply Kd.R_drew)); exact Kd.R_mono (Kd.R_far (p := ⟨gb317, 3, none⟩) (Kd.R_far (p := ⟨gb317, 2, none⟩) (Kd.R_far (p := ⟨gb317, 1, none⟩) (Kd.R_far (p := ⟨gb317, 0, none⟩) (Kd.R_types HO_4.out BK317.out (by decide)) (fun _ hk => hk.2) (.int .i64 t312)) (fun _ hk => hk.2) (.int .i64 t313)) (fun _ hk => hk.2) (.int .i64 t314)) (fun _ hk => hk.2) (.int .i64 t315)) (fun _ hk => hk.1.2)⟩
              have n1_ : Aside0 (Kd.V Kd.string 9 ((((w139.setCell ⟨gb317, 0, none⟩ (.int .i64 t312)).setCell ⟨gb317, 1, none⟩ (.int .i64 t313)).setCell ⟨gb317, 2, none⟩ (.int .i64 t314)).setCell ⟨gb317, 3, none⟩ (.int .i64 t315)) w.heap.size (fun k_ => some k_ ≠ (u4 : Value).ownBlock ∧ k_ ≠ gb288 ∧ k_ ≠ gb292 ∧ k_ ≠ gb311 ∧ k_ ≠ gb317) (.slice (some ad305) t302.length co129) t302) := ⟨by (with_reducible repeat (first | apply Kd.V_alloc | apply Kd.V_drewN | apply Kd.V_drew)); exact Kd.V_mono (Kd.V_far (p := ⟨gb317, 3, none⟩) (Kd.V_far (p := ⟨gb317, 2, none⟩) (Kd.V_far (p := ⟨gb317, 1, none⟩) (Kd.V_far (p := ⟨gb317, 0, none⟩) (Kd.V_mono HO_9.out (fun k_ hk => (⟨hk, hk.2⟩ : _ ∧ k_ ≠ gb317))) (fun _ hk => hk.2) (.int .i64 t312)) (fun _ hk => hk.2) (.int .i64 t313)) (fun _ hk => hk.2) (.int .i64 t314)) (fun _ hk => hk.2) (.int .i64 t315)) (fun _ hk => ⟨hk.1.1.1.1, ⟨hk.1.1.1.2.1, ⟨hk.1.1.1.2.2, ⟨hk.1.1.2, hk.1.2⟩⟩⟩⟩)⟩
              have n2_ : Aside0 (Kd.V Kd.string 9 ((((w139.setCell ⟨gb317, 0, none⟩ (.int .i64 t312)).setCell ⟨gb317, 1, none⟩ (.int .i64 t313)).setCell ⟨gb317, 2, none⟩ (.int .i64 t314)).setCell ⟨gb317, 3, none⟩ (.int .i64 t315)) w.heap.size (fun k_ => some k_ ≠ (u4 : Value).ownBlock ∧ k_ ≠ gb288 ∧ k_ ≠ gb292 ∧ k_ ≠ gb311 ∧ k_ ≠ gb317) (.slice (some ad301) y296.length co13) y296) := ⟨by (with_reducible repeat (first | apply Kd.V_alloc | apply Kd.V_drewN | apply Kd.V_drew)); exact Kd.V_mono (Kd.V_far (p := ⟨gb317, 3, none⟩) (Kd.V_far (p := ⟨gb317, 2, none⟩) (Kd.V_far (p := ⟨gb317, 1, none⟩) (Kd.V_far (p := ⟨gb317, 0, none⟩) (Kd.V_mono HO_25.out (fun k_ hk => (⟨hk, hk.2⟩ : _ ∧ k_ ≠ gb317))) (fun _ hk => hk.2) (.int .i64 t312)) (fun _ hk => hk.2) (.int .i64 t313)) (fun _ hk => hk.2) (.int .i64 t314)) (fun _ hk => hk.2) (.int .i64 t315)) (fun _ hk => ⟨hk.1.1.1.1, ⟨hk.1.1.1.2.1, ⟨hk.1.1.1.2.2, ⟨hk.1.1.2, hk.1.2⟩⟩⟩⟩)⟩
              have n3_ : Aside0 (((((w139.setCell ⟨gb317, 0, none⟩ (.int .i64 t312)).setCell ⟨gb317, 1, none⟩ (.int .i64 t313)).setCell ⟨gb317, 2, none⟩ (.int .i64 t314)).setCell ⟨gb317, 3, none⟩ (.int .i64 t315)).heap[gb288]? = some (.cells #[.int .i64 0, .int .i64 0, .int .i64 0, .int .i64 0] 29 (0, 0))) := ⟨bf1 BK288.out NB288_317.out⟩
              have n4_ : Aside0 (((((w139.setCell ⟨gb317, 0, none⟩ (.int .i64 t312)).setCell ⟨gb317, 1, none⟩ (.int .i64 t313)).setCell ⟨gb317, 2, none⟩ (.int .i64 t314)).setCell ⟨gb317, 3, none⟩ (.int .i64 t315)).heap[gb292]? = some (.cells #[.int .i64 x293000_1, .int .i64 x293001_1, .int .i64 x293002_1, .int .i64 x293003_1] 29 (0, 0))) := ⟨bf1 BK292.out NB292_317.out⟩
              have n5_ : Aside0 (((((w139.setCell ⟨gb317, 0, none⟩ (.int .i64 t312)).setCell ⟨gb317, 1, none⟩ (.int .i64 t313)).setCell ⟨gb317, 2, none⟩ (.int .i64 t314)).setCell ⟨gb317, 3, none⟩ (.int .i64 t315)).heap[gb311]? = some (.cells #[.int .i64 t306, .int .i64 t309] 31 (0, 0))) := ⟨bf1 BK311.out NB311_317.out⟩
              have n6_ : Aside0 (((((w139.setCell ⟨gb317, 0, none⟩ (.int .i64 t312)).setCell ⟨gb317, 1, none⟩ (.int .i64 t313)).setCell ⟨gb317, 2, none⟩ (.int .i64 t314)).setCell ⟨gb317, 3, none⟩ (.int .i64 t315)).heap[gb317]? = some (.cells #[.int .i64 t312, .int .i64 t313, .int .i64 t314, .int .i64 t315] 29 (0, 0))) := ⟨by (with_reducible repeat (first | refine blk_drewN ?_ _ | refine blk_drew ?_ | refine blk_alloc ?_ _)); refine blk_put (cs := #[.int .i64 t312, .int .i64 t313, .int .i64 t314, .int .i64 0]) ?_ 3 _ rfl; (with_reducible repeat (first | refine blk_drewN ?_ _ | refine blk_drew ?_ | refine blk_alloc ?_ _)); refine blk_put (cs := #[.int .i64 t312, .int .i64 t313, .int .i64 0, .int .i64 0]) ?_ 2 _ rfl; (with_reducible repeat (first | refine blk_drewN ?_ _ | refine blk_drew ?_ | refine blk_alloc ?_ _)); refine blk_put (cs := #[.int .i64 t312, .int .i64 0, .int .i64 0, .int .i64 0]) ?_ 1 _ rfl; (with_reducible repeat (first | refine blk_drewN ?_ _ | refine blk_drew ?_ | refine blk_alloc ?_ _)); refine blk_put (cs := #[.int .i64 0, .int .i64 0, .int .i64 0, .int .i64 0]) ?_ 0 _ rfl; exact bf0 BK317.out⟩
              have n7_ : Aside0 (Below w.heap.size w ((((w139.setCell ⟨gb317, 0, none⟩ (.int .i64 t312)).setCell ⟨gb317, 1, none⟩ (.int .i64 t313)).setCell ⟨gb317, 2, none⟩ (.int .i64 t314)).setCell ⟨gb317, 3, none⟩ (.int .i64 t315))) := ⟨bl4 HB.out GE288.out GE292.out GE311.out GE317.out⟩
              (try clear HO_4)
              (try clear HO_9)
              (try clear HO_25)
              (try clear BK288)
              (try clear BK292)
              (try clear BK311)
              (try clear BK317)
              (try clear HB)
              generalize ((((w139.setCell ⟨gb317, 0, none⟩ (.int .i64 t312)).setCell ⟨gb317, 1, none⟩ (.int .i64 t313)).setCell ⟨gb317, 2, none⟩ (.int .i64 t314)).setCell ⟨gb317, 3, none⟩ (.int .i64 t315)) = w144 at n0_ n1_ n2_ n3_ n4_ n5_ n6_ n7_ ⊢
              have HO_4 := n0_
              have HO_9 := n1_
              have HO_25 := n2_
              have BK288 := n3_
              have BK292 := n4_
              have BK311 := n5_
              have BK317 := n6_
              have HB := n7_
              clear n0_ n1_ n2_ n3_ n4_ n5_ n6_ n7_
              have n_ := (⟨am (Kd.R_drew HO_4.out), am (Kd.V_drew HO_9.out), am (Kd.V_drew HO_25.out), am (blk_drew BK288.out), am (blk_drew BK292.out), am (blk_drew BK311.out), am (blk_drew BK317.out), am (below_drew1 HB.out)⟩ : _ ∧ _ ∧ _ ∧ _ ∧ _ ∧ _ ∧ _ ∧ _)
              clear HO_4
              clear HO_9
              clear HO_25
              clear BK288
              clear BK292
              clear BK311
              clear BK317
              clear HB
              obtain ⟨HO_4, HO_9, HO_25, BK288, BK292, BK311, BK317, HB⟩ := n_
              refine start_ (n := 4) (S := fun w' => w'.cell? ⟨gb292, 0, none⟩ = some (.int .i64 x293000_1) ∧ w'.cell? ⟨gb292, 1, none⟩ = some (.int .i64 x293001_1) ∧ w'.cell? ⟨gb292, 2, none⟩ = some (.int .i64 x293002_1) ∧ w'.cell? ⟨gb292, 3, none⟩ = some (.int .i64 x293003_1)) (ds := []) #[false, false, false, false] (by kernel_rfl) rfl rfl ⟨(blk_cell BK292.out 0).trans rfl, (blk_cell BK292.out 1).trans rfl, (blk_cell BK292.out 2).trans rfl, (blk_cell BK292.out 3).trans rfl⟩ (fun hHeld => ?_)
              generalize w144.drew = w145 at HO_4 HO_9 HO_25 BK288 BK292 BK311 BK317 HB hHeld ⊢
              refine pure_ (i := 0) (N := some 88) (v := ?_) (a' := ?_) #[true, false, false, false] rfl rfl (by kernel_rfl) (fun _ _ _ h => h) (Or.inl ⟨by rfl, ?_⟩) ?_ ?_
              rotate_left; (focus exact gs); rotate_left; (focus exact pt)
              refine pure_ (i := 2) (N := some 2) (v := ?_) (a' := ?_) #[true, false, true, false] rfl rfl (by kernel_rfl) (fun _ _ _ h => h) (Or.inl ⟨by rfl, ?_⟩) ?_ ?_
              rotate_left; (focus exact gs); rotate_left; (focus exact pt)
              refine take_ (i := 1) (N := some 89) (v := ?_) (a' := ?_) #[true, true, true, false] rfl rfl (by kernel_rfl) (fun _ _ _ h => h) (Or.inl ⟨by rfl, ?_⟩) hHeld ?_ ?_
              rotate_left
              ·rintro w' ⟨s0, s1, s2, s3⟩
               go_simp
               with_reducible rfl
              rotate_left
              ·exact pt
              refine one_ (i := 3) (N := none) #[true, true, true, true] rfl rfl (by kernel_rfl) (by decide) (fun K hK => ?_)
              have hs146 := bc BK288.out 0 (.int .i64 0)
              have hfs146 := bz BK288.out 0
              have hns146_1 := NB292_288.out
              have hns146_2 := NB311_288.out
              have hns146_3 := NB317_288.out
              have hms146_1 := NB288_292.out
              have hms146_2 := NB288_311.out
              have hms146_3 := NB288_317.out
              have hs147 := bc BK288.out 1 (.int .i64 0)
              have hfs147 := bz BK288.out 1
              have hns147_1 := NB292_288.out
              have hns147_2 := NB311_288.out
              have hns147_3 := NB317_288.out
              have hms147_1 := NB288_292.out
              have hms147_2 := NB288_311.out
              have hms147_3 := NB288_317.out
              have hs148 := bc BK288.out 2 (.int .i64 0)
              have hfs148 := bz BK288.out 2
              have hns148_1 := NB292_288.out
              have hns148_2 := NB311_288.out
              have hns148_3 := NB317_288.out
              have hms148_1 := NB288_292.out
              have hms148_2 := NB288_311.out
              have hms148_3 := NB288_317.out
              have hs149 := bc BK288.out 3 (.int .i64 0)
              have hfs149 := bz BK288.out 3
              have hns149_1 := NB292_288.out
              have hns149_2 := NB311_288.out
              have hns149_3 := NB317_288.out
              have hms149_1 := NB288_292.out
              have hms149_2 := NB288_311.out
              have hms149_3 := NB288_317.out
              refine skip_ (w1 := ?_) (by rfl) rfl ?_ ?_
              rotate_left
              ·go_simp
               rfl
              refine hK.out _ _ ⟨((cell_far (p := ⟨gb288, _, none⟩) NB292_288.out _).trans (((cell_far (p := ⟨gb288, _, none⟩) NB292_288.out _).trans (((cell_far (p := ⟨gb288, _, none⟩) NB292_288.out _).trans (((cell_far (p := ⟨gb288, _, none⟩) NB292_288.out _).trans (hHeld.1)))))))), ((cell_far (p := ⟨gb288, _, none⟩) NB292_288.out _).trans (((cell_far (p := ⟨gb288, _, none⟩) NB292_288.out _).trans (((cell_far (p := ⟨gb288, _, none⟩) NB292_288.out _).trans (((cell_far (p := ⟨gb288, _, none⟩) NB292_288.out _).trans (hHeld.2.1)))))))), ((cell_far (p := ⟨gb288, _, none⟩) NB292_288.out _).trans (((cell_far (p := ⟨gb288, _, none⟩) NB292_288.out _).trans (((cell_far (p := ⟨gb288, _, none⟩) NB292_288.out _).trans (((cell_far (p := ⟨gb288, _, none⟩) NB292_288.out _).trans (hHeld.2.2.1)))))))), ((cell_far (p := ⟨gb288, _, none⟩) NB292_288.out _).trans (((cell_far (p := ⟨gb288, _, none⟩) NB292_288.out _).trans (((cell_far (p := ⟨gb288, _, none⟩) NB292_288.out _).trans (((cell_far (p := ⟨gb288, _, none⟩) NB292_288.out _).trans (hHeld.2.2.2))))))))⟩ (fun hHeld => ?_)
              clear hK K
              refine done_ (by kernel_rfl) ?_
              try go_wp2
              refine bodyPost_ret (results_tc rfl _ _ gb288 29 #[.int .i64 x293000_1, .int .i64 x293001_1, .int .i64 x293002_1, .int .i64 x293003_1] (0, 0) _ rfl (bp0 BK288.out) Tryd.underlying29 rfl (by kernel_rfl)) rfl ?_
              exact ⟨_, by first | rfl | (simp [errW_none, errW_some] <;> rfl) | (simp only [← hji3]; first | rfl | (simp [errW_none, errW_some] <;> rfl)) | (simp [*, errW_none, errW_some] <;> rfl), by (with_reducible repeat (first | apply Kd.R_alloc | apply Kd.R_drewN | apply Kd.R_drew)); exact Kd.R_mono (Kd.R_far (p := ⟨gb288, 3, none⟩) (Kd.R_far (p := ⟨gb288, 2, none⟩) (Kd.R_far (p := ⟨gb288, 1, none⟩) (Kd.R_far (p := ⟨gb288, 0, none⟩) (Kd.R_types HO_4.out BK288.out (by decide)) (fun _ hk => hk.2) (.int .i64 x293000_1)) (fun _ hk => hk.2) (.int .i64 x293001_1)) (fun _ hk => hk.2) (.int .i64 x293002_1)) (fun _ hk => hk.2) (.int .i64 x293003_1)) (fun _ hk => trivial), bl4 HB.out GE288.out GE292.out GE311.out GE317.out⟩
            ·rw [if_neg c33] at H
             exact absurd H (by simp)
           ·rw [if_neg c31] at H
            exact absurd H (by simp)
       ·rw [if_neg c17] at H
        exact absurd H (by simp)
      ·rw [if_neg c16] at H
       exact absurd H (by simp)
     ·rw [if_neg c15] at H
      have c15b0 : decide (x27_1 < (y296.length : Int)) = false := decide_eq_false c15
      clear c15
      simp only [Option.some.injEq, Prod.mk.injEq] at H
      obtain ⟨rfl, rfl, rfl, rfl, rfl⟩ := H
      try go_wp2
      have n_ := (⟨am (Kd.R_drew HO_4.out), am (Kd.V_drew HO_25.out), am (blk_drew BK288.out), am (blk_drew BK292.out), am (below_drew1 HB.out)⟩ : _ ∧ _ ∧ _ ∧ _ ∧ _)
      clear HO_4
      clear HO_25
      clear BK288
      clear BK292
      clear HB
      obtain ⟨HO_4, HO_25, BK288, BK292, HB⟩ := n_
      refine start_ (n := 4) (S := fun w' => w'.cell? ⟨gb292, 0, none⟩ = some (.int .i64 x293000_1) ∧ w'.cell? ⟨gb292, 1, none⟩ = some (.int .i64 x293001_1) ∧ w'.cell? ⟨gb292, 2, none⟩ = some (.int .i64 x293002_1) ∧ w'.cell? ⟨gb292, 3, none⟩ = some (.int .i64 x293003_1)) (ds := []) #[false, false, false, false] (by kernel_rfl) rfl rfl ⟨(blk_cell BK292.out 0).trans rfl, (blk_cell BK292.out 1).trans rfl, (blk_cell BK292.out 2).trans rfl, (blk_cell BK292.out 3).trans rfl⟩ (fun hHeld => ?_)
      generalize wr.drew = w150 at HO_4 HO_25 BK288 BK292 HB hHeld ⊢
      refine pure_ (i := 0) (N := some 88) (v := ?_) (a' := ?_) #[true, false, false, false] rfl rfl (by kernel_rfl) (fun _ _ _ h => h) (Or.inl ⟨by rfl, ?_⟩) ?_ ?_
      rotate_left; (focus exact gs); rotate_left; (focus exact pt)
      refine pure_ (i := 2) (N := some 2) (v := ?_) (a' := ?_) #[true, false, true, false] rfl rfl (by kernel_rfl) (fun _ _ _ h => h) (Or.inl ⟨by rfl, ?_⟩) ?_ ?_
      rotate_left; (focus exact gs); rotate_left; (focus exact pt)
      refine take_ (i := 1) (N := some 89) (v := ?_) (a' := ?_) #[true, true, true, false] rfl rfl (by kernel_rfl) (fun _ _ _ h => h) (Or.inl ⟨by rfl, ?_⟩) hHeld ?_ ?_
      rotate_left
      ·rintro w' ⟨s0, s1, s2, s3⟩
       go_simp
       with_reducible rfl
      rotate_left
      ·exact pt
      refine one_ (i := 3) (N := none) #[true, true, true, true] rfl rfl (by kernel_rfl) (by decide) (fun K hK => ?_)
      have hs151 := bc BK288.out 0 (.int .i64 0)
      have hfs151 := bz BK288.out 0
      have hns151_1 := NB292_288.out
      have hms151_1 := NB288_292.out
      have hs152 := bc BK288.out 1 (.int .i64 0)
      have hfs152 := bz BK288.out 1
      have hns152_1 := NB292_288.out
      have hms152_1 := NB288_292.out
      have hs153 := bc BK288.out 2 (.int .i64 0)
      have hfs153 := bz BK288.out 2
      have hns153_1 := NB292_288.out
      have hms153_1 := NB288_292.out
      have hs154 := bc BK288.out 3 (.int .i64 0)
      have hfs154 := bz BK288.out 3
      have hns154_1 := NB292_288.out
      have hms154_1 := NB288_292.out
      refine skip_ (w1 := ?_) (by rfl) rfl ?_ ?_
      rotate_left
      ·go_simp
       rfl
      refine hK.out _ _ ⟨((cell_far (p := ⟨gb288, _, none⟩) NB292_288.out _).trans (((cell_far (p := ⟨gb288, _, none⟩) NB292_288.out _).trans (((cell_far (p := ⟨gb288, _, none⟩) NB292_288.out _).trans (((cell_far (p := ⟨gb288, _, none⟩) NB292_288.out _).trans (hHeld.1)))))))), ((cell_far (p := ⟨gb288, _, none⟩) NB292_288.out _).trans (((cell_far (p := ⟨gb288, _, none⟩) NB292_288.out _).trans (((cell_far (p := ⟨gb288, _, none⟩) NB292_288.out _).trans (((cell_far (p := ⟨gb288, _, none⟩) NB292_288.out _).trans (hHeld.2.1)))))))), ((cell_far (p := ⟨gb288, _, none⟩) NB292_288.out _).trans (((cell_far (p := ⟨gb288, _, none⟩) NB292_288.out _).trans (((cell_far (p := ⟨gb288, _, none⟩) NB292_288.out _).trans (((cell_far (p := ⟨gb288, _, none⟩) NB292_288.out _).trans (hHeld.2.2.1)))))))), ((cell_far (p := ⟨gb288, _, none⟩) NB292_288.out _).trans (((cell_far (p := ⟨gb288, _, none⟩) NB292_288.out _).trans (((cell_far (p := ⟨gb288, _, none⟩) NB292_288.out _).trans (((cell_far (p := ⟨gb288, _, none⟩) NB292_288.out _).trans (hHeld.2.2.2))))))))⟩ (fun hHeld => ?_)
      clear hK K
      refine done_ (by kernel_rfl) ?_
      try go_wp2
      refine bodyPost_ret (results_tc rfl _ _ gb288 29 #[.int .i64 x293000_1, .int .i64 x293001_1, .int .i64 x293002_1, .int .i64 x293003_1] (0, 0) _ rfl (bp0 BK288.out) Tryd.underlying29 rfl (by kernel_rfl)) rfl ?_
      exact ⟨_, by first | rfl | (simp [errW_none, errW_some] <;> rfl) | (simp only [← hji3]; first | rfl | (simp [errW_none, errW_some] <;> rfl)) | (simp [*, errW_none, errW_some] <;> rfl), by (with_reducible repeat (first | apply Kd.R_alloc | apply Kd.R_drewN | apply Kd.R_drew)); exact Kd.R_mono (Kd.R_far (p := ⟨gb288, 3, none⟩) (Kd.R_far (p := ⟨gb288, 2, none⟩) (Kd.R_far (p := ⟨gb288, 1, none⟩) (Kd.R_far (p := ⟨gb288, 0, none⟩) (Kd.R_types HO_4.out BK288.out (by decide)) (fun _ hk => hk.2) (.int .i64 x293000_1)) (fun _ hk => hk.2) (.int .i64 x293001_1)) (fun _ hk => hk.2) (.int .i64 x293002_1)) (fun _ hk => hk.2) (.int .i64 x293003_1)) (fun _ hk => trivial), bl2 HB.out GE288.out GE292.out⟩
  ·rw [if_neg c5] at H
   exact absurd H (by simp)
 ·rw [if_neg c4] at H
  exact absurd H (by simp)

end Go.Proofs.YthfmhfgckhkgjaaDoor.PFnResumed
