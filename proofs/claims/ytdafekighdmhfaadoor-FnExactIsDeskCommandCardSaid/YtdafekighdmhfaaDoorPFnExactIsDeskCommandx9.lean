-- Laid by wip/mk/mk.py out of the translation. Not trusted: Lean checks it.
import Derived.Test.YtdafekighdmhfaaDoorPFnExactIsDeskCommandx0
import Derived.Test.YtdafekighdmhfaaDoorPFnExactIsDeskCommandx3
import Derived.Test.YtdafekighdmhfaaDoorPFnExactIsDeskCommandx4
import Derived.Test.YtdafekighdmhfaaDoorPFnExactIsDeskCommandx5
import Derived.Test.YtdafekighdmhfaaDoorPFnExactIsDeskCommandx6
import Derived.Test.YtdafekighdmhfaaDoorPFnExactIsDeskCommandx8
namespace Go.Proofs.YtdafekighdmhfaaDoor.PFnExactIsDeskCommand
open Go.RowKit Go.Proofs.YtdafekighdmhfaaDoorW.PrintWords Go.Proofs.YtdafekighdmhfaaDoorW.PrintLast Go.Proofs.YtdafekighdmhfaaDoorW.PrintMore
attribute [local go_sem] max2_int min2_int max_two min_two max_three min_three max_four min_four   -- for this text's walks alone
set_option linter.unusedVariables false
set_option linter.unusedSimpArgs false

/-! ### impl_readCommand: function 7 -/
mutual
def impl_readCommand.j0 : Nat → ByteArray → List ByteArray → Bool → ByteArray → ByteArray → Option (ByteArray × List Int × ByteArray × Bool)
  | 0, _, _, _, _, _ => none
  | k + 1, x8, x10, x53, x170000, x170002 => if x53 = true then (some (x170000, ([] : List Int), x170002, false)) else (impl_readCommand.l0 k x8 x10 (x10.length : Int) 0 x170000 ([] : List Int) x170002)
def impl_readCommand.l0 : Nat → ByteArray → List ByteArray → Int → Int → ByteArray → List Int → ByteArray → Option (ByteArray × List Int × ByteArray × Bool)
  | 0, _, _, _, _, _, _, _ => none
  | k + 1, x8, x55, x56, x57, x170000, x170001, x170002 => if x57 < x56 then (if 0 ≤ x57 then (if x57 < (x55.length : Int) then (if x57 < (x8.size : Int) then (impl_readCommand.j2 k x8 (rdOf ByteArray.empty x55 x57) x55 x56 x57 ((bt x8 x57) == 119) x170000 x170001 x170002) else (impl_readCommand.j2 k x8 (rdOf ByteArray.empty x55 x57) x55 x56 x57 false x170000 x170001 x170002)) else (none)) else (none)) else (some (x170000, x170001, x170002, decide ((x170001.length : Int) ≤ 4000)))
def impl_readCommand.j2 : Nat → ByteArray → ByteArray → List ByteArray → Int → Int → Bool → ByteArray → List Int → ByteArray → Option (ByteArray × List Int × ByteArray × Bool)
  | 0, _, _, _, _, _, _, _, _, _ => none
  | k + 1, x8, x12, x55, x56, x57, x71, x170000, x170001, x170002 => if x71 = true then (if x12.toList = ([] : List UInt8) then (some (x170000, x170001, x12, false)) else (impl_readCommand.l0 k x8 x55 x56 (wrap64 (x57 + 1)) x170000 x170001 x12)) else ((impl_readNumber.f x12).bind fun bt180 => (if bt180.2 = true then (if x170001.length < 17592186044416 then (impl_readCommand.l0 k x8 x55 x56 (wrap64 (x57 + 1)) x170000 (x170001 ++ [bt180.1]) x170002) else (none)) else (some (x170000, x170001, x170002, false))))
end
def impl_readCommand.f (k : Nat) (a0 : ByteArray) : Option (ByteArray × List Int × ByteArray × Bool) := (strings_Split.f a0 (⟨#[32]⟩ : ByteArray)).bind fun t165 => (if 0 < (t165.length : Int) then ((impl_shapeOf.f k (rdOf ByteArray.empty t165 0)).bind fun bt170 => ((strings_CutSuffix.f bt170.1 (⟨#[46]⟩ : ByteArray)).bind fun bt172 => (if 1 ≤ (t165.length : Int) then ((some (t165.drop 1 : List ByteArray)).bind fun y174 => (if bt170.2 = true then (if (y174.length : Int) < (bt172.1.size : Int) then (impl_readCommand.j0 k bt172.1 y174 true (rdOf ByteArray.empty t165 0) (⟨#[]⟩ : ByteArray)) else (if (y174.length : Int) > (bt172.1.size : Int) then (impl_readCommand.j0 k bt172.1 y174 (!bt172.2) (rdOf ByteArray.empty t165 0) (⟨#[]⟩ : ByteArray)) else (impl_readCommand.j0 k bt172.1 y174 false (rdOf ByteArray.empty t165 0) (⟨#[]⟩ : ByteArray)))) else (impl_readCommand.j0 k bt172.1 y174 true (rdOf ByteArray.empty t165 0) (⟨#[]⟩ : ByteArray)))) else (none)))) else (none))
theorem impl_readCommand.mono_l : ∀ k, (∀ y0 y1 y2 y3 y4, LeO (impl_readCommand.j0 k y0 y1 y2 y3 y4) (impl_readCommand.j0 (k + 1) y0 y1 y2 y3 y4)) ∧ (∀ y0 y1 y2 y3 y4 y5 y6, LeO (impl_readCommand.l0 k y0 y1 y2 y3 y4 y5 y6) (impl_readCommand.l0 (k + 1) y0 y1 y2 y3 y4 y5 y6)) ∧ (∀ y0 y1 y2 y3 y4 y5 y6 y7 y8, LeO (impl_readCommand.j2 k y0 y1 y2 y3 y4 y5 y6 y7 y8) (impl_readCommand.j2 (k + 1) y0 y1 y2 y3 y4 y5 y6 y7 y8))
  | 0 => ⟨fun _ _ _ _ _ r h => by simp [impl_readCommand.j0] at h, fun _ _ _ _ _ _ _ r h => by simp [impl_readCommand.l0] at h, fun _ _ _ _ _ _ _ _ _ r h => by simp [impl_readCommand.j2] at h⟩
  | k + 1 => by
    obtain ⟨ih0, ih1, ih2⟩ := impl_readCommand.mono_l k
    refine ⟨?_, ?_, ?_⟩
    · intro y0 y1 y2 y3 y4
      unfold impl_readCommand.j0
      repeat' first
      | (with_reducible exact ih0 _ _ _ _ _)
      | (with_reducible exact ih1 _ _ _ _ _ _ _)
      | (with_reducible exact ih2 _ _ _ _ _ _ _ _ _)
      | (with_reducible exact impl_shapeOf.mono _ _)
      | (with_reducible exact LeO.refl _)
      | (with_reducible exact LeO.none _)
      | (with_reducible refine LeO.ite ?_ ?_)
      | (with_reducible refine LeO.bind ?_ (fun _ => ?_))
      | exact ih0 _ _ _ _ _
      | exact ih1 _ _ _ _ _ _ _
      | exact ih2 _ _ _ _ _ _ _ _ _
      | exact impl_shapeOf.mono _ _
      | exact LeO.none _
      | refine LeO.ite ?_ ?_
      | refine LeO.bind ?_ (fun _ => ?_)
    · intro y0 y1 y2 y3 y4 y5 y6
      unfold impl_readCommand.l0
      repeat' first
      | (with_reducible exact ih0 _ _ _ _ _)
      | (with_reducible exact ih1 _ _ _ _ _ _ _)
      | (with_reducible exact ih2 _ _ _ _ _ _ _ _ _)
      | (with_reducible exact impl_shapeOf.mono _ _)
      | (with_reducible exact LeO.refl _)
      | (with_reducible exact LeO.none _)
      | (with_reducible refine LeO.ite ?_ ?_)
      | (with_reducible refine LeO.bind ?_ (fun _ => ?_))
      | exact ih0 _ _ _ _ _
      | exact ih1 _ _ _ _ _ _ _
      | exact ih2 _ _ _ _ _ _ _ _ _
      | exact impl_shapeOf.mono _ _
      | exact LeO.none _
      | refine LeO.ite ?_ ?_
      | refine LeO.bind ?_ (fun _ => ?_)
    · intro y0 y1 y2 y3 y4 y5 y6 y7 y8
      unfold impl_readCommand.j2
      repeat' first
      | (with_reducible exact ih0 _ _ _ _ _)
      | (with_reducible exact ih1 _ _ _ _ _ _ _)
      | (with_reducible exact ih2 _ _ _ _ _ _ _ _ _)
      | (with_reducible exact impl_shapeOf.mono _ _)
      | (with_reducible exact LeO.refl _)
      | (with_reducible exact LeO.none _)
      | (with_reducible refine LeO.ite ?_ ?_)
      | (with_reducible refine LeO.bind ?_ (fun _ => ?_))
      | exact ih0 _ _ _ _ _
      | exact ih1 _ _ _ _ _ _ _
      | exact ih2 _ _ _ _ _ _ _ _ _
      | exact impl_shapeOf.mono _ _
      | exact LeO.none _
      | refine LeO.ite ?_ ?_
      | refine LeO.bind ?_ (fun _ => ?_)
theorem impl_readCommand.mono : ∀ a0 k, LeO (impl_readCommand.f k a0) (impl_readCommand.f (k + 1) a0) := by
  intro a0 k
  obtain ⟨ih0, ih1, ih2⟩ := impl_readCommand.mono_l k
  unfold impl_readCommand.f
  repeat' first
      | (with_reducible exact ih0 _ _ _ _ _)
      | (with_reducible exact ih1 _ _ _ _ _ _ _)
      | (with_reducible exact ih2 _ _ _ _ _ _ _ _ _)
      | (with_reducible exact impl_shapeOf.mono _ _)
      | (with_reducible exact LeO.refl _)
      | (with_reducible exact LeO.none _)
      | (with_reducible refine LeO.ite ?_ ?_)
      | (with_reducible refine LeO.bind ?_ (fun _ => ?_))
      | exact ih0 _ _ _ _ _
      | exact ih1 _ _ _ _ _ _ _
      | exact ih2 _ _ _ _ _ _ _ _ _
      | exact impl_shapeOf.mono _ _
      | exact LeO.none _
      | refine LeO.ite ?_ ?_
      | refine LeO.bind ?_ (fun _ => ?_)
set_option maxHeartbeats 8000000 in
set_option maxRecDepth 100000 in
theorem impl_readCommand.calls (k : Nat) (a0 : ByteArray) (r1 : ByteArray) (r2 : List Int) (r3 : ByteArray) (r4 : Bool) (w : World) (h : impl_readCommand.f k a0 = some (r1, r2, r3, r4)) (hG : Gl w) :
    Calls Tryd.prog 7 #[.string a0] w fun e w' => ∃ v1_ : Value, e = .returned (.tuple #[.agg #[.string r1, v1_, .string r3], .bool r4]) ∧ Kd.R (Kd.int .i64) 2 w' w.heap.size (fun _ => True) v1_ r2 ∧ Below w.heap.size w w' := by
  have HG := Aside0.mk hG
  clear hG
  have hu27 := Tryd.underlying27
  have HB := Aside0.mk (Below.refl w.heap.size w)
  have H : ((strings_Split.f a0 (⟨#[32]⟩ : ByteArray)).bind fun t165 => (if 0 < (t165.length : Int) then ((impl_shapeOf.f k (rdOf ByteArray.empty t165 0)).bind fun bt170 => ((strings_CutSuffix.f bt170.1 (⟨#[46]⟩ : ByteArray)).bind fun bt172 => (if 1 ≤ (t165.length : Int) then ((some (t165.drop 1 : List ByteArray)).bind fun y174 => (if bt170.2 = true then (if (y174.length : Int) < (bt172.1.size : Int) then (impl_readCommand.j0 k bt172.1 y174 true (rdOf ByteArray.empty t165 0) (⟨#[]⟩ : ByteArray)) else (if (y174.length : Int) > (bt172.1.size : Int) then (impl_readCommand.j0 k bt172.1 y174 (!bt172.2) (rdOf ByteArray.empty t165 0) (⟨#[]⟩ : ByteArray)) else (impl_readCommand.j0 k bt172.1 y174 false (rdOf ByteArray.empty t165 0) (⟨#[]⟩ : ByteArray)))) else (impl_readCommand.j0 k bt172.1 y174 true (rdOf ByteArray.empty t165 0) (⟨#[]⟩ : ByteArray)))) else (none)))) else (none))) = some (r1, r2, r3, r4) := h
  clear h
  replace H := Option.bind_eq_some_iff.mp H
  obtain ⟨t165, A20, H⟩ := H
  replace H : (if 0 < (t165.length : Int) then ((impl_shapeOf.f k (rdOf ByteArray.empty t165 0)).bind fun bt170 => ((strings_CutSuffix.f bt170.1 (⟨#[46]⟩ : ByteArray)).bind fun bt172 => (if 1 ≤ (t165.length : Int) then ((some (t165.drop 1 : List ByteArray)).bind fun y174 => (if bt170.2 = true then (if (y174.length : Int) < (bt172.1.size : Int) then (impl_readCommand.j0 k bt172.1 y174 true (rdOf ByteArray.empty t165 0) (⟨#[]⟩ : ByteArray)) else (if (y174.length : Int) > (bt172.1.size : Int) then (impl_readCommand.j0 k bt172.1 y174 (!bt172.2) (rdOf ByteArray.empty t165 0) (⟨#[]⟩ : ByteArray)) else (impl_readCommand.j0 k bt172.1 y174 false (rdOf ByteArray.empty t165 0) (⟨#[]⟩ : ByteArray)))) else (impl_readCommand.j0 k bt172.1 y174 true (rdOf ByteArray.empty t165 0) (⟨#[]⟩ : ByteArray)))) else (none)))) else (none)) = some (r1, r2, r3, r4) := H
  have A2 := Aside0.mk A20
  clear A20
  by_cases c3 : 0 < (t165.length : Int)
  · rw [if_pos c3] at H
    have c3b0 : decide (0 < (t165.length : Int)) = true := decide_eq_true c3
    have c3b1 : decide (0 < t165.length) = true := decide_eq_true (by omega)
    clear c3
    replace H := Option.bind_eq_some_iff.mp H
    obtain ⟨⟨t170, t171⟩, A40, H⟩ := H
    replace H : ((strings_CutSuffix.f t170 (⟨#[46]⟩ : ByteArray)).bind fun bt172 => (if 1 ≤ (t165.length : Int) then ((some (t165.drop 1 : List ByteArray)).bind fun y174 => (if t171 = true then (if (y174.length : Int) < (bt172.1.size : Int) then (impl_readCommand.j0 k bt172.1 y174 true (rdOf ByteArray.empty t165 0) (⟨#[]⟩ : ByteArray)) else (if (y174.length : Int) > (bt172.1.size : Int) then (impl_readCommand.j0 k bt172.1 y174 (!bt172.2) (rdOf ByteArray.empty t165 0) (⟨#[]⟩ : ByteArray)) else (impl_readCommand.j0 k bt172.1 y174 false (rdOf ByteArray.empty t165 0) (⟨#[]⟩ : ByteArray)))) else (impl_readCommand.j0 k bt172.1 y174 true (rdOf ByteArray.empty t165 0) (⟨#[]⟩ : ByteArray)))) else (none))) = some (r1, r2, r3, r4) := H
    have A4 := Aside0.mk A40
    clear A40
    replace H := Option.bind_eq_some_iff.mp H
    obtain ⟨⟨t172, t173⟩, A50, H⟩ := H
    replace H : (if 1 ≤ (t165.length : Int) then ((some (t165.drop 1 : List ByteArray)).bind fun y174 => (if t171 = true then (if (y174.length : Int) < (t172.size : Int) then (impl_readCommand.j0 k t172 y174 true (rdOf ByteArray.empty t165 0) (⟨#[]⟩ : ByteArray)) else (if (y174.length : Int) > (t172.size : Int) then (impl_readCommand.j0 k t172 y174 (!t173) (rdOf ByteArray.empty t165 0) (⟨#[]⟩ : ByteArray)) else (impl_readCommand.j0 k t172 y174 false (rdOf ByteArray.empty t165 0) (⟨#[]⟩ : ByteArray)))) else (impl_readCommand.j0 k t172 y174 true (rdOf ByteArray.empty t165 0) (⟨#[]⟩ : ByteArray)))) else (none)) = some (r1, r2, r3, r4) := H
    have A5 := Aside0.mk A50
    clear A50
    by_cases c6 : 1 ≤ (t165.length : Int)
    · rw [if_pos c6] at H
      have c6b0 := eq_true c6
      have c6b1 : decide (1 ≤ (t165.length : Int)) = true := decide_eq_true c6
      clear c6
      obtain ⟨y174, hy174⟩ : ∃ y_ : List ByteArray, y_ = (t165.drop 1) := ⟨_, rfl⟩
      replace H : (if t171 = true then (if (y174.length : Int) < (t172.size : Int) then (impl_readCommand.j0 k t172 y174 true (rdOf ByteArray.empty t165 0) (⟨#[]⟩ : ByteArray)) else (if (y174.length : Int) > (t172.size : Int) then (impl_readCommand.j0 k t172 y174 (!t173) (rdOf ByteArray.empty t165 0) (⟨#[]⟩ : ByteArray)) else (impl_readCommand.j0 k t172 y174 false (rdOf ByteArray.empty t165 0) (⟨#[]⟩ : ByteArray)))) else (impl_readCommand.j0 k t172 y174 true (rdOf ByteArray.empty t165 0) (⟨#[]⟩ : ByteArray))) = some (r1, r2, r3, r4) := by first | (rw [hy174]; with_reducible exact H) | (have H2_ := (Option.bind_some _ _).symm.trans H; rw [hy174]; with_reducible exact H2_) | (have H2_ := (Option.bind_some _ _).symm.trans H; with_reducible exact H2_) | with_reducible exact H | (rw [hy174]; exact H) | exact H
      have Ny174 := Aside0.mk hy174
      clear hy174
      have HC7 := Aside0.mk H
      clear H
      go_enter Tryd.func7, Tryd.ntmps7
      go_upto_region 6 with (first | ((with_reducible refine gate_dst (N := 2) rfl ?_); (try (refine gate_guard (by rfl) ?_; dsimp only)); refine box_event ?hg (N := 2) ?hd (cs := #[.string (⟨#[]⟩ : ByteArray), .slice none 0 0, .string (⟨#[]⟩ : ByteArray)]) (t := 27) ?hr ?_; (case hd => rfl); (case hg => rfl); (case hr => first | (go_simp; done) | (go_simp; rfl)); intro gb164 hg w8 hbox hb; have n0_ := Aside0.mk (below_step (by repeat (first | (with_reducible first | exact HB.out | apply below_alloc | apply pw_below_drewN | apply below_drew1) | exact HB.out)) hb); have n1_ := Aside0.mk (hbox); have n2_ := Aside0.mk ((by rw [hg]; exact (below_size (by repeat (first | (with_reducible first | exact HB.out | apply below_alloc | apply pw_below_drewN | apply below_drew1) | exact HB.out))) : w.heap.size ≤ gb164)); have n3_ := Aside0.mk ((by rw [hg]; exact (below_size (by repeat (first | (with_reducible first | exact HB.out | apply below_alloc | apply pw_below_drewN | apply below_drew1) | exact HB.out))) : w.heap.size ≤ gb164)); clear HB; have HB := n0_; have BK164 := n1_; have GW164 := n2_; have GE164 := n3_; clear n0_ n1_ n2_ n3_; clear hb hbox hg) | ((with_reducible refine gate_callee (f := 11) rfl ?_); refine goesL_ (some 16) rfl rfl Tryd.func11 (by kernel_rfl) rfl #[.string a0, .string (⟨#[32]⟩ : ByteArray)] rfl (by (try simp only [List.map_toArray, List.map_cons, List.map_nil]); first | done | rfl | (simp only [List.length_drop, List.length_take]; rfl)) ?_; (with_reducible refine (strings_Split.calls a0 (⟨#[32]⟩ : ByteArray) t165 _ A2.out ?gl_).mono ?_); (case gl_ => exact Gl.below HG.out (by repeat (first | (with_reducible first | exact HB.out | apply below_alloc | apply pw_below_drewN | apply below_drew1 | refine below_set ?_ GE164.out) | exact HB.out))); rintro e w9 ⟨v166, rfl, ho0, hb⟩; refine ⟨_, rfl, ?_⟩; have n0_ := Aside0.mk (Kd.V_lower (Kd.V_mono (ok' := fun k_ => k_ ≠ gb164) ho0 (fun k_ hk_ => (Kd.freshB (g := gb164) (o := .cells #[.string (⟨#[]⟩ : ByteArray), .slice none 0 0, .string (⟨#[]⟩ : ByteArray)] 27 (0, 0)) (by (with_reducible repeat (first | refine blk_drewN ?_ _ | refine blk_drew ?_ | refine blk_alloc ?_ _)); exact BK164.out) k_ hk_))) (below_size (by repeat (first | (with_reducible first | exact HB.out | apply below_alloc | apply pw_below_drewN | apply below_drew1 | refine below_set ?_ GE164.out) | exact HB.out)))); have n1_ := Aside0.mk (blk_below (g := gb164) (o := .cells #[.string (⟨#[]⟩ : ByteArray), .slice none 0 0, .string (⟨#[]⟩ : ByteArray)] 27 (0, 0)) (by (with_reducible repeat (first | refine blk_drewN ?_ _ | refine blk_drew ?_ | refine blk_alloc ?_ _)); exact BK164.out) hb); have n2_ := Aside0.mk (below_step (by repeat (first | (with_reducible first | exact HB.out | apply below_alloc | apply pw_below_drewN | apply below_drew1 | refine below_set ?_ GE164.out) | exact HB.out)) hb); clear BK164; clear HB; have HO167 := n0_; have BK164 := n1_; have HB := n2_; clear n0_ n1_ n2_; (try clear hb); (try clear hb2); (try clear hk); (try clear hi); (try clear ho0); obtain ⟨Ao10, co10, eo10⟩ := Kd.V_slice HO167.out; subst eo10; have p168 : 0 ≤ (0 : Int) := (by omega); have q168 : 0 < (t165.length : Int) := of_decide_eq_true (by first | (with_reducible assumption) | assumption); obtain ⟨ad168, e168, hx168_0⟩ := Kd.at_string (Kd.V_reads' HO167.out).2.2 0 p168 q168; cases e168; have qi168 : (0 < t165.length) = True := eq_true (by omega); (try rw [show ((0 : Int)).toNat = 0 from rfl] at hx168_0); (try rw [Addr.add_zero'] at hx168_0); replace p168 := eq_true p168; replace q168 := eq_true q168) | ((with_reducible refine gate_dst (N := 5) rfl ?_); (try (refine gate_guard (by rfl) ?_; dsimp only)); refine box_event ?hg (N := 5) ?hd (cs := #[.string (⟨#[]⟩ : ByteArray), .slice none 0 0, .string (⟨#[]⟩ : ByteArray)]) (t := 27) ?hr ?_; (case hd => rfl); (case hg => rfl); (case hr => first | (go_simp; done) | (go_simp; rfl)); intro gb169 hg w11 hbox hb; have n0_ := Aside0.mk (Kd.V_below (Kd.V_elderB (by (with_reducible repeat (first | apply Kd.V_alloc | apply Kd.V_drewN | apply Kd.V_drew)); exact HO167.out) gb169 (Nat.le_of_eq hg.symm)) hb); have n1_ := Aside0.mk (blk_below (g := gb164) (o := .cells #[.string (⟨#[]⟩ : ByteArray), .slice none 0 0, .string (⟨#[]⟩ : ByteArray)] 27 (0, 0)) (by (with_reducible repeat (first | refine blk_drewN ?_ _ | refine blk_drew ?_ | refine blk_alloc ?_ _)); exact BK164.out) hb); have n2_ := Aside0.mk (below_step (by repeat (first | (with_reducible first | exact HB.out | apply below_alloc | apply pw_below_drewN | apply below_drew1 | refine below_set ?_ GE164.out) | exact HB.out)) hb); have n3_ := Aside0.mk (hbox); have n4_ := Aside0.mk ((by rw [hg]; exact (below_size (by repeat (first | (with_reducible first | exact HB.out | apply below_alloc | apply pw_below_drewN | apply below_drew1 | refine below_set ?_ GE164.out) | exact HB.out))) : w.heap.size ≤ gb169)); have n5_ := Aside0.mk ((by rw [hg]; exact (below_size (by repeat (first | (with_reducible first | exact HB.out | apply below_alloc | apply pw_below_drewN | apply below_drew1 | refine below_set ?_ GE164.out) | exact HB.out))) : w.heap.size ≤ gb169)); have n6_ := Aside0.mk ((by rw [hg]; exact Nat.ne_of_lt (blk_lt (g := gb164) (o := .cells #[.string (⟨#[]⟩ : ByteArray), .slice none 0 0, .string (⟨#[]⟩ : ByteArray)] 27 (0, 0)) (by (with_reducible repeat (first | refine blk_drewN ?_ _ | refine blk_drew ?_ | refine blk_alloc ?_ _)); exact BK164.out)) : gb164 ≠ gb169)); have n7_ := Aside0.mk ((by rw [hg]; exact Nat.ne_of_gt (blk_lt (g := gb164) (o := .cells #[.string (⟨#[]⟩ : ByteArray), .slice none 0 0, .string (⟨#[]⟩ : ByteArray)] 27 (0, 0)) (by (with_reducible repeat (first | refine blk_drewN ?_ _ | refine blk_drew ?_ | refine blk_alloc ?_ _)); exact BK164.out)) : gb169 ≠ gb164)); clear HO167; clear BK164; clear HB; have HO167 := n0_; have BK164 := n1_; have HB := n2_; have BK169 := n3_; have GW169 := n4_; have GE169 := n5_; have NB164_169 := n6_; have NB169_164 := n7_; clear n0_ n1_ n2_ n3_ n4_ n5_ n6_ n7_; clear hb hbox hg; have hnb12 := NB169_164.out; have hnc12 := NB164_169.out; have hcz13_0 : w11.cell? ⟨gb169, 0, none⟩ = some (.string (⟨#[]⟩ : ByteArray)) := (blk_cell BK169.out 0).trans rfl; have hcz13_1 : w11.cell? ⟨gb169, 1, none⟩ = some (.slice none 0 0) := (blk_cell BK169.out 1).trans rfl; have hcz13_2 : w11.cell? ⟨gb169, 2, none⟩ = some (.string (⟨#[]⟩ : ByteArray)) := (blk_cell BK169.out 2).trans rfl; have hfz13_0 := blk_frozen BK169.out 0; have hfz13_1 := blk_frozen BK169.out 1; have hfz13_2 := blk_frozen BK169.out 2) | ((with_reducible refine gate_store (t := 27) (p := 5) rfl ?_); refine store_event (t := 27) (p := 5) (v := ?vo_w14) (w1 := (((w11.setCell ⟨gb169, 0, none⟩ (.string (rdOf ByteArray.empty t165 0))).setCell ⟨gb169, 1, none⟩ (.slice none 0 0)).setCell ⟨gb169, 2, none⟩ (.string (⟨#[]⟩ : ByteArray)))) ?hg ?ho ?hn ?hr ?_; (case ho => rfl); (case hg => rfl); (case hn => rfl); (case hr => first | (go_simp; done) | (go_simp; rfl)); intro w14 hw; have n0_ : Aside0 (Kd.V Kd.string 9 w14 w.heap.size (fun k_ => k_ ≠ gb164 ∧ k_ ≠ gb169) (.slice (some ad168) t165.length co10) t165) := ⟨(by rw [hw]; exact (by (with_reducible repeat (first | apply Kd.V_alloc | apply Kd.V_drewN | apply Kd.V_drew)); exact Kd.V_mono (Kd.V_far (p := ⟨gb169, 2, none⟩) (Kd.V_far (p := ⟨gb169, 1, none⟩) (Kd.V_far (p := ⟨gb169, 0, none⟩) (Kd.V_mono HO167.out (fun k_ hk => (⟨hk, hk.2⟩ : _ ∧ k_ ≠ gb169))) (fun _ hk => hk.2) (.string (rdOf ByteArray.empty t165 0))) (fun _ hk => hk.2) (.slice none 0 0)) (fun _ hk => hk.2) (.string (⟨#[]⟩ : ByteArray))) (fun _ hk => ⟨hk.1.1, hk.1.2⟩)))⟩; have n1_ : Aside0 (w14.heap[gb164]? = some (.cells #[.string (⟨#[]⟩ : ByteArray), .slice none 0 0, .string (⟨#[]⟩ : ByteArray)] 27 (0, 0))) := ⟨(by rw [hw]; exact (by (with_reducible repeat (first | refine blk_drewN ?_ _ | refine blk_drew ?_ | refine blk_alloc ?_ _)); refine blk_far ?_ NB164_169.out _; (with_reducible repeat (first | refine blk_drewN ?_ _ | refine blk_drew ?_ | refine blk_alloc ?_ _)); refine blk_far ?_ NB164_169.out _; (with_reducible repeat (first | refine blk_drewN ?_ _ | refine blk_drew ?_ | refine blk_alloc ?_ _)); refine blk_far ?_ NB164_169.out _; (with_reducible repeat (first | refine blk_drewN ?_ _ | refine blk_drew ?_ | refine blk_alloc ?_ _)); exact BK164.out))⟩; have n2_ : Aside0 (w14.heap[gb169]? = some (.cells #[.string (rdOf ByteArray.empty t165 0), .slice none 0 0, .string (⟨#[]⟩ : ByteArray)] 27 (0, 0))) := ⟨(by rw [hw]; exact (by (with_reducible repeat (first | refine blk_drewN ?_ _ | refine blk_drew ?_ | refine blk_alloc ?_ _)); refine blk_put (cs := #[.string (rdOf ByteArray.empty t165 0), .slice none 0 0, .string (⟨#[]⟩ : ByteArray)]) ?_ 2 _ rfl; (with_reducible repeat (first | refine blk_drewN ?_ _ | refine blk_drew ?_ | refine blk_alloc ?_ _)); refine blk_put (cs := #[.string (rdOf ByteArray.empty t165 0), .slice none 0 0, .string (⟨#[]⟩ : ByteArray)]) ?_ 1 _ rfl; (with_reducible repeat (first | refine blk_drewN ?_ _ | refine blk_drew ?_ | refine blk_alloc ?_ _)); refine blk_put (cs := #[.string (⟨#[]⟩ : ByteArray), .slice none 0 0, .string (⟨#[]⟩ : ByteArray)]) ?_ 0 _ rfl; (with_reducible repeat (first | refine blk_drewN ?_ _ | refine blk_drew ?_ | refine blk_alloc ?_ _)); exact BK169.out))⟩; have n3_ : Aside0 (Below w.heap.size w w14) := ⟨(by rw [hw]; exact (by repeat (first | (with_reducible first | exact HB.out | apply below_alloc | apply pw_below_drewN | apply below_drew1 | refine below_set ?_ GE164.out | refine below_set ?_ GE169.out) | exact HB.out)))⟩; clear hw; clear HO167; clear BK164; clear BK169; clear HB; have HO167 := n0_; have BK164 := n1_; have BK169 := n2_; have HB := n3_; clear n0_ n1_ n2_ n3_; have hcz15_0 : w14.cell? ⟨gb169, 0, none⟩ = some (.string (rdOf ByteArray.empty t165 0)) := (blk_cell BK169.out 0).trans rfl; have hcz15_1 : w14.cell? ⟨gb169, 1, none⟩ = some (.slice none 0 0) := (blk_cell BK169.out 1).trans rfl; have hcz15_2 : w14.cell? ⟨gb169, 2, none⟩ = some (.string (⟨#[]⟩ : ByteArray)) := (blk_cell BK169.out 2).trans rfl; have hfz15_0 := blk_frozen BK169.out 0; have hfz15_1 := blk_frozen BK169.out 1; have hfz15_2 := blk_frozen BK169.out 2) | ((with_reducible refine gate_callee (f := 12) rfl ?_); refine goesL_ (some 24) rfl rfl Tryd.func12 (by kernel_rfl) rfl #[.string (rdOf ByteArray.empty t165 0)] rfl (by (try simp only [List.map_toArray, List.map_cons, List.map_nil]); first | done | rfl | (simp only [List.length_drop, List.length_take]; rfl)) ?_; (with_reducible refine (impl_shapeOf.calls k (rdOf ByteArray.empty t165 0) t170 t171 _ A4.out).mono ?_); rintro e w' ⟨rfl, ⟨nd, rfl⟩⟩; refine ⟨_, rfl, ?_⟩) | ((with_reducible refine gate_callee (f := 13) rfl ?_); refine goesL_ (some 29) rfl rfl Tryd.func13 (by kernel_rfl) rfl #[.string t170, .string (⟨#[46]⟩ : ByteArray)] rfl (by (try simp only [List.map_toArray, List.map_cons, List.map_nil]); first | done | rfl | (simp only [List.length_drop, List.length_take]; rfl)) ?_; (with_reducible refine (strings_CutSuffix.calls t170 (⟨#[46]⟩ : ByteArray) t172 t173 _ A5.out).mono ?_); rintro e w' ⟨rfl, ⟨nd, rfl⟩⟩; refine ⟨_, rfl, ?_⟩; have q16 : (1 : Int) ≤ ((t165.length : Int) : Int) := of_decide_eq_true (by first | (with_reducible assumption) | assumption); obtain ⟨i016, hi016, _, hsz16, _⟩ := info_parts info9; have hroom16 : t165.length ≤ co10 := (Kd.V_reads' HO167.out).2.1; have hC16 : Kd.F Kd.string _ _ (some ad168) t165.length t165 := (Kd.V_at (base := w.heap.size) HO167.out).2.2; have hcut16 := cut_from (P := Tryd.prog) 30 9 .i64 Tryd.underlying30 hi016 1 hsz16 (some ad168) t165.length co10 1 (by omega) q16; have hr16 := Kd.F_cut (m := (1 : Int).toNat) (c := co10) hC16 (by omega) hroom16; obtain ⟨A16, hA16⟩ : ∃ A1, A1 = (if co10 = (1 : Int).toNat then (some ad168) else ((some ad168) : Option Addr).map (·.add ((1 : Int).toNat * 1))) := ⟨_, rfl⟩; obtain ⟨c16, hc16⟩ : ∃ c1, c1 = co10 - (1 : Int).toNat := ⟨_, rfl⟩; have hy16 : y174.length = t165.length - (1 : Int).toNat := (by rw [Ny174.out, List.length_drop] <;> omega); rw [show (t165).drop (1 : Int).toNat = y174 from Ny174.out.symm] at hr16; replace hr16 : Kd.F Kd.string _ _ A16 y174.length y174 := (by rw [hA16]; exact hr16); rw [← hy16, ← hA16, ← hc16] at hcut16; have HO178 := Aside0.mk (show Kd.V Kd.string 9 _ w.heap.size _ (.slice A16 y174.length c16) y174 from Kd.V_mk (by rw [hy16, hc16]; exact Nat.sub_le_sub_right hroom16 _) hr16); have HC178 := Aside0.mk (show y174.length ≤ c16 from by rw [hy16, hc16]; exact Nat.sub_le_sub_right hroom16 _); clear hr16 hC16 hroom16 hi016 hsz16 hc16; have KY16 := Aside0.mk hy16; have KA16 := Aside0.mk hA16; clear hy16 hA16; replace q16 := eq_true q16))
      (try simp only [Act.put, List.setIfInBounds_toArray, List.set_cons_zero, List.set_cons_succ])
      go_cut [53] (fun v53 wc => ∃ (kq : Nat) (x53_6 : Bool), v53 = .bool x53_6 ∧ Aside0 (impl_readCommand.j0 kq t172 y174 x53_6 (rdOf ByteArray.empty t165 0) (⟨#[]⟩ : ByteArray) = some (r1, r2, r3, r4)) ∧ Aside0 (kq ≤ k) ∧ Aside0 (Kd.V Kd.string 9 wc w.heap.size (fun k_ => k_ ≠ gb164 ∧ k_ ≠ gb169) (.slice A16 y174.length c16) y174) ∧ Aside0 (wc.heap[gb164]? = some (.cells #[.string (⟨#[]⟩ : ByteArray), (.slice none 0 0), .string (⟨#[]⟩ : ByteArray)] 27 (0, 0))) ∧ Aside0 (wc.heap[gb169]? = some (.cells #[.string (rdOf ByteArray.empty t165 0), (.slice none 0 0), .string (⟨#[]⟩ : ByteArray)] 27 (0, 0))) ∧ Aside0 (Below w.heap.size w wc))
      case first =>
        have H := HC7.out
        clear HC7
        by_cases c17 : t171 = true
        · subst c17
          have H1 : (if (y174.length : Int) < (t172.size : Int) then (impl_readCommand.j0 k t172 y174 true (rdOf ByteArray.empty t165 0) (⟨#[]⟩ : ByteArray)) else (if (y174.length : Int) > (t172.size : Int) then (impl_readCommand.j0 k t172 y174 (!t173) (rdOf ByteArray.empty t165 0) (⟨#[]⟩ : ByteArray)) else (impl_readCommand.j0 k t172 y174 false (rdOf ByteArray.empty t165 0) (⟨#[]⟩ : ByteArray)))) = some (r1, r2, r3, r4) := by rw [if_pos rfl] at H; exact H
          clear H
          have H := H1
          clear H1
          by_cases c18 : (y174.length : Int) < (t172.size : Int)
          · rw [if_pos c18] at H
            have c18b0 : decide ((y174.length : Int) < (t172.size : Int)) = true := decide_eq_true c18
            have c18b1 : decide (y174.length < t172.size) = true := decide_eq_true (Int.ofNat_lt.mp c18)
            clear c18
            (first | rw [c18b0] | (simp only [i64_w, i32_w]; rw [c18b0]) | skip)
            have H' := Aside0.mk H
            clear H
            go_wp2
            go_meet
            case rel => exact ⟨_, (true), (by first | rfl | (simp; done) | (simp [*]; done)), H', ⟨by first | omega | exact Nat.le_refl _⟩, ⟨by (with_reducible repeat (first | apply Kd.V_alloc | apply Kd.V_drewN | apply Kd.V_drew)); exact HO178.out⟩, ⟨by (with_reducible repeat (first | refine blk_drewN ?_ _ | refine blk_drew ?_ | refine blk_alloc ?_ _)); exact BK164.out⟩, ⟨by (with_reducible repeat (first | refine blk_drewN ?_ _ | refine blk_drew ?_ | refine blk_alloc ?_ _)); exact BK169.out⟩, ⟨by repeat (first | (with_reducible first | exact HB.out | apply below_alloc | apply pw_below_drewN | apply below_drew1 | refine below_set ?_ GE164.out | refine below_set ?_ GE169.out) | exact HB.out)⟩⟩
          · rw [if_neg c18] at H
            have c18b0 : decide ((y174.length : Int) < (t172.size : Int)) = false := decide_eq_false c18
            have c18b1 : decide (y174.length < t172.size) = false := decide_eq_false (fun h => c18 (Int.ofNat_lt.mpr h))
            clear c18
            (first | rw [c18b0] | (simp only [i64_w, i32_w]; rw [c18b0]) | skip)
            by_cases c19 : (y174.length : Int) > (t172.size : Int)
            · rw [if_pos c19] at H
              have c19b0 : decide ((t172.size : Int) < (y174.length : Int)) = true := decide_eq_true c19
              have c19b1 : decide (t172.size < y174.length) = true := decide_eq_true (Int.ofNat_lt.mp c19)
              clear c19
              have H' := Aside0.mk H
              clear H
              go_wp2
              go_meet
              case rel => exact ⟨_, (!t173), (by first | rfl | (simp; done) | (simp [*]; done)), H', ⟨by first | omega | exact Nat.le_refl _⟩, ⟨by (with_reducible repeat (first | apply Kd.V_alloc | apply Kd.V_drewN | apply Kd.V_drew)); exact HO178.out⟩, ⟨by (with_reducible repeat (first | refine blk_drewN ?_ _ | refine blk_drew ?_ | refine blk_alloc ?_ _)); exact BK164.out⟩, ⟨by (with_reducible repeat (first | refine blk_drewN ?_ _ | refine blk_drew ?_ | refine blk_alloc ?_ _)); exact BK169.out⟩, ⟨by repeat (first | (with_reducible first | exact HB.out | apply below_alloc | apply pw_below_drewN | apply below_drew1 | refine below_set ?_ GE164.out | refine below_set ?_ GE169.out) | exact HB.out)⟩⟩
            · rw [if_neg c19] at H
              have c19b0 : decide ((t172.size : Int) < (y174.length : Int)) = false := decide_eq_false c19
              have c19b1 : decide (t172.size < y174.length) = false := decide_eq_false (fun h => c19 (Int.ofNat_lt.mpr h))
              clear c19
              have H' := Aside0.mk H
              clear H
              go_wp2
              go_meet
              case rel => exact ⟨_, (false), (by first | rfl | (simp; done) | (simp [*]; done)), H', ⟨by first | omega | exact Nat.le_refl _⟩, ⟨by (with_reducible repeat (first | apply Kd.V_alloc | apply Kd.V_drewN | apply Kd.V_drew)); exact HO178.out⟩, ⟨by (with_reducible repeat (first | refine blk_drewN ?_ _ | refine blk_drew ?_ | refine blk_alloc ?_ _)); exact BK164.out⟩, ⟨by (with_reducible repeat (first | refine blk_drewN ?_ _ | refine blk_drew ?_ | refine blk_alloc ?_ _)); exact BK169.out⟩, ⟨by repeat (first | (with_reducible first | exact HB.out | apply below_alloc | apply pw_below_drewN | apply below_drew1 | refine below_set ?_ GE164.out | refine below_set ?_ GE169.out) | exact HB.out)⟩⟩
        · replace c17 := Bool.eq_false_iff.mpr c17
          subst c17
          have H1 : (impl_readCommand.j0 k t172 y174 true (rdOf ByteArray.empty t165 0) (⟨#[]⟩ : ByteArray)) = some (r1, r2, r3, r4) := by rw [if_neg (show ¬ (false = true) by decide)] at H; exact H
          clear H
          have H := H1
          clear H1
          have H' := Aside0.mk H
          clear H
          go_wp2
          go_meet
          case rel => exact ⟨_, (true), (by first | rfl | (simp; done) | (simp [*]; done)), H', ⟨by first | omega | exact Nat.le_refl _⟩, ⟨by (with_reducible repeat (first | apply Kd.V_alloc | apply Kd.V_drewN | apply Kd.V_drew)); exact HO178.out⟩, ⟨by (with_reducible repeat (first | refine blk_drewN ?_ _ | refine blk_drew ?_ | refine blk_alloc ?_ _)); exact BK164.out⟩, ⟨by (with_reducible repeat (first | refine blk_drewN ?_ _ | refine blk_drew ?_ | refine blk_alloc ?_ _)); exact BK169.out⟩, ⟨by repeat (first | (with_reducible first | exact HB.out | apply below_alloc | apply pw_below_drewN | apply below_drew1 | refine below_set ?_ GE164.out | refine below_set ?_ GE169.out) | exact HB.out)⟩⟩
      case rest =>
        clear HC7
        try clear c1
        try clear p1
        try clear q1
        try clear hx1
        try clear qi1
        try clear p2
        try clear c3
        try clear c3b0
        try clear c3b1
        try clear c6
        try clear c6b0
        try clear c6b1
        try clear c7
        try clear c11
        try clear c12
        try clear c13
        try clear c16
        try clear p16
        try clear q16
        try clear hx16
        try clear qi16
        try clear c17
        try clear c18
        try clear c18b0
        try clear c18b1
        try clear c19
        try clear c19b0
        try clear c19b1
        try clear hcz13_0
        try clear hcz13_1
        try clear hcz13_2
        try clear hcz15_0
        try clear hcz15_1
        try clear hcz15_2
        try clear hfz13_0
        try clear hfz13_1
        try clear hfz13_2
        try clear hfz15_0
        try clear hfz15_1
        try clear hfz15_2
        try clear hx168_0
        try clear p168
        try clear q16
        try clear q168
        obtain ⟨kq, x53_6, rfl, HA, HJ6, HO_10, BK164, BK169, HB⟩ := hcut
        cases kq with
        | zero => exact absurd HA.out (by simp [impl_readCommand.j0])
        | succ kj6 =>
          have H := HA.out
          clear HA
          simp only [impl_readCommand.j0] at H
          by_cases c20 : x53_6 = true
          · subst c20
            have H1 : (some ((rdOf ByteArray.empty t165 0), ([] : List Int), (⟨#[]⟩ : ByteArray), false)) = some (r1, r2, r3, r4) := by rw [if_pos rfl] at H; exact H
            clear H
            have H := H1
            clear H1
            simp only [Option.some.injEq, Prod.mk.injEq] at H
            obtain ⟨rfl, rfl, rfl, rfl⟩ := H
            have hnb21 := NB169_164.out
            have hnc21 := NB164_169.out
            have hcz22_0 : wc.cell? ⟨gb169, 0, none⟩ = some (.string (rdOf ByteArray.empty t165 0)) := (blk_cell BK169.out 0).trans rfl
            have hcz22_1 : wc.cell? ⟨gb169, 1, none⟩ = some (.slice none 0 0) := (blk_cell BK169.out 1).trans rfl
            have hcz22_2 : wc.cell? ⟨gb169, 2, none⟩ = some (.string (⟨#[]⟩ : ByteArray)) := (blk_cell BK169.out 2).trans rfl
            have hfz22_0 := blk_frozen BK169.out 0
            have hfz22_1 := blk_frozen BK169.out 1
            have hfz22_2 := blk_frozen BK169.out 2
            have hcz23_0 : wc.cell? ⟨gb164, 0, none⟩ = some (.string (⟨#[]⟩ : ByteArray)) := (blk_cell BK164.out 0).trans rfl
            have hcz23_1 : wc.cell? ⟨gb164, 1, none⟩ = some (.slice none 0 0) := (blk_cell BK164.out 1).trans rfl
            have hcz23_2 : wc.cell? ⟨gb164, 2, none⟩ = some (.string (⟨#[]⟩ : ByteArray)) := (blk_cell BK164.out 2).trans rfl
            have hfz23_0 := blk_frozen BK164.out 0
            have hfz23_1 := blk_frozen BK164.out 1
            have hfz23_2 := blk_frozen BK164.out 2
            go_wp2
            refine bodyPost_ret (results_ct rfl _ _ gb164 27 #[.string (rdOf ByteArray.empty t165 0), .slice none 0 0, .string (⟨#[]⟩ : ByteArray)] (0, 0) _ rfl (by (with_reducible repeat (first | refine blk_drewN ?_ _ | refine blk_drew ?_ | refine blk_alloc ?_ _)); refine blk_put (cs := #[.string (rdOf ByteArray.empty t165 0), .slice none 0 0, .string (⟨#[]⟩ : ByteArray)]) ?_ 2 _ rfl; (with_reducible repeat (first | refine blk_drewN ?_ _ | refine blk_drew ?_ | refine blk_alloc ?_ _)); refine blk_put (cs := #[.string (rdOf ByteArray.empty t165 0), .slice none 0 0, .string (⟨#[]⟩ : ByteArray)]) ?_ 1 _ rfl; (with_reducible repeat (first | refine blk_drewN ?_ _ | refine blk_drew ?_ | refine blk_alloc ?_ _)); refine blk_put (cs := #[.string (⟨#[]⟩ : ByteArray), .slice none 0 0, .string (⟨#[]⟩ : ByteArray)]) ?_ 0 _ rfl; (with_reducible repeat (first | refine blk_drewN ?_ _ | refine blk_drew ?_ | refine blk_alloc ?_ _)); exact BK164.out) Tryd.underlying27 rfl (by kernel_rfl)) rfl ?_
            exact ⟨_, by first | rfl | (simp [errW_none, errW_some] <;> rfl) | (simp [*, errW_none, errW_some] <;> rfl), by first | exact Kd.R_nil _ _ _ _ _ | exact Kd.N_nil _ _ _ _ _ | exact Kd.V_nil _ _ _ _ _ | exact Kd.Q_nil _ _ _ _ _ | exact Kd.S_nil _ _ _ _ _, by repeat (first | (with_reducible first | exact HB.out | apply below_alloc | apply pw_below_drewN | apply below_drew1 | refine below_set ?_ GE164.out | refine below_set ?_ GE169.out) | exact HB.out)⟩
          · replace c20 := Bool.eq_false_iff.mpr c20
            subst c20
            have H1 : (impl_readCommand.l0 kj6 t172 y174 (y174.length : Int) 0 (rdOf ByteArray.empty t165 0) ([] : List Int) (⟨#[]⟩ : ByteArray)) = some (r1, r2, r3, r4) := by rw [if_neg (show ¬ (false = true) by decide)] at H; exact H
            clear H
            have H := H1
            clear H1
            have H' := Aside0.mk H
            clear H
            go_wp2
            go_loopg [57] kj6 (fun kq v57 w' => ∃ (x57_2 : Int) (x165000_2 : ByteArray) (x165002_2 : ByteArray) (x170001_2 : List Int) (x170002_2 : ByteArray) (u170001 : Value), v57 = .int .i64 x57_2 ∧ Aside0 (impl_readCommand.l0 kq t172 y174 (y174.length : Int) x57_2 (rdOf ByteArray.empty t165 0) x170001_2 x170002_2 = some (r1, r2, r3, r4)) ∧ Aside0 (kq ≤ kj6) ∧ Aside0 (Kd.V Kd.string 9 w' w.heap.size (fun k_ => some k_ ≠ (u170001 : Value).ownBlock ∧ k_ ≠ gb164 ∧ k_ ≠ gb169) (.slice A16 y174.length c16) y174) ∧ Aside0 (Kd.R (Kd.int .i64) 2 w' w.heap.size (fun _ => True) u170001 x170001_2) ∧ Aside0 (w'.heap[gb164]? = some (.cells #[.string x165000_2, (.slice none 0 0), .string x165002_2] 27 (0, 0))) ∧ Aside0 (w'.heap[gb169]? = some (.cells #[.string (rdOf ByteArray.empty t165 0), u170001, .string x170002_2] 27 (0, 0))) ∧ Aside0 (Below w.heap.size w w'))
            case atStart => exact ⟨(0), ((⟨#[]⟩ : ByteArray)), ((⟨#[]⟩ : ByteArray)), (([] : List Int)), ((⟨#[]⟩ : ByteArray)), (.slice none 0 0), (by first | rfl | (simp; done) | (simp [*]; done)), H', ⟨Nat.le_refl _⟩, ⟨by (with_reducible repeat (first | apply Kd.V_alloc | apply Kd.V_drewN | apply Kd.V_drew)); exact Kd.V_mono HO_10.out (fun _ hk => ⟨(by simp [Value.ownBlock]), ⟨hk.1, hk.2⟩⟩)⟩, ⟨by first | exact Kd.R_nil _ _ _ _ _ | exact Kd.N_nil _ _ _ _ _ | exact Kd.V_nil _ _ _ _ _ | exact Kd.Q_nil _ _ _ _ _ | exact Kd.S_nil _ _ _ _ _⟩, ⟨by (with_reducible repeat (first | refine blk_drewN ?_ _ | refine blk_drew ?_ | refine blk_alloc ?_ _)); exact BK164.out⟩, ⟨by (with_reducible repeat (first | refine blk_drewN ?_ _ | refine blk_drew ?_ | refine blk_alloc ?_ _)); exact BK169.out⟩, ⟨by repeat (first | (with_reducible first | exact HB.out | apply below_alloc | apply pw_below_drewN | apply below_drew1 | refine below_set ?_ GE164.out | refine below_set ?_ GE169.out) | exact HB.out)⟩⟩
            case round =>
              clear H'
              try clear c1
              try clear p1
              try clear q1
              try clear hx1
              try clear qi1
              try clear c2
              try clear p2
              try clear c3
              try clear c3b0
              try clear c3b1
              try clear c6
              try clear c6b0
              try clear c6b1
              try clear c7
              try clear c11
              try clear c12
              try clear c13
              try clear c16
              try clear p16
              try clear q16
              try clear hx16
              try clear qi16
              try clear c17
              try clear c18
              try clear c18b0
              try clear c18b1
              try clear c19
              try clear c19b0
              try clear c19b1
              try clear c20
              try clear c21
              try clear hcz13_0
              try clear hcz13_1
              try clear hcz13_2
              try clear hcz15_0
              try clear hcz15_1
              try clear hcz15_2
              try clear hcz22_0
              try clear hcz22_1
              try clear hcz22_2
              try clear hcz23_0
              try clear hcz23_1
              try clear hcz23_2
              try clear hfz13_0
              try clear hfz13_1
              try clear hfz13_2
              try clear hfz15_0
              try clear hfz15_1
              try clear hfz15_2
              try clear hfz22_0
              try clear hfz22_1
              try clear hfz22_2
              try clear hfz23_0
              try clear hfz23_1
              try clear hfz23_2
              try clear hx168_0
              try clear p1
              try clear p16
              try clear p168
              try clear p2
              try clear q1
              try clear q16
              try clear q168
              obtain ⟨x57_2, x165000_2, x165002_2, x170001_2, x170002_2, u170001, rfl, HA, HK2, HO_55, HO_170001, BK164, BK169, HB⟩ := hrel
              cases gk with
              | zero => exact absurd HA.out (by simp [impl_readCommand.l0])
              | succ k2 =>
                have H := HA.out
                clear HA
                simp only [impl_readCommand.l0] at H
                by_cases c24 : x57_2 < (y174.length : Int)
                · rw [if_pos c24] at H
                  have c24b0 : decide (x57_2 < (y174.length : Int)) = true := decide_eq_true c24
                  clear c24
                  by_cases c25 : 0 ≤ x57_2
                  · rw [if_pos c25] at H
                    have c25b0 : decide (0 ≤ x57_2) = true := decide_eq_true c25
                    clear c25
                    by_cases c26 : x57_2 < (y174.length : Int)
                    · rw [if_pos c26] at H
                      have c26b0 : decide (x57_2 < (y174.length : Int)) = true := decide_eq_true c26
                      clear c26
                      have HC27 := Aside0.mk H
                      clear H
                      have p179 : 0 ≤ (x57_2 : Int) := of_decide_eq_true (by first | (with_reducible assumption) | assumption)
                      have q179 : x57_2 < (y174.length : Int) := of_decide_eq_true (by first | (with_reducible assumption) | assumption)
                      obtain ⟨ad179, e179, hx179_0⟩ := Kd.at_string (Kd.V_reads' HO_55.out).2.2 x57_2 p179 q179
                      cases e179
                      replace p179 := eq_true p179
                      replace q179 := eq_true q179
                      go_upto_region 11 with (fail)
                      go_cut [71] (fun v71 wc => ∃ (kq : Nat) (x71_26 : Bool), v71 = .bool x71_26 ∧ Aside0 (impl_readCommand.j2 kq t172 (rdOf ByteArray.empty y174 x57_2) y174 (y174.length : Int) x57_2 x71_26 (rdOf ByteArray.empty t165 0) x170001_2 x170002_2 = some (r1, r2, r3, r4)) ∧ Aside0 (kq ≤ k2) ∧ Aside0 (Kd.V Kd.string 9 wc w.heap.size (fun k_ => some k_ ≠ (u170001 : Value).ownBlock ∧ k_ ≠ gb164 ∧ k_ ≠ gb169) (.slice (some ad179) y174.length c16) y174) ∧ Aside0 (Kd.R (Kd.int .i64) 2 wc w.heap.size (fun _ => True) u170001 x170001_2) ∧ Aside0 (wc.heap[gb164]? = some (.cells #[.string x165000_2, (.slice none 0 0), .string x165002_2] 27 (0, 0))) ∧ Aside0 (wc.heap[gb169]? = some (.cells #[.string (rdOf ByteArray.empty t165 0), u170001, .string x170002_2] 27 (0, 0))) ∧ Aside0 (Below w.heap.size w wc))
                      case first =>
                        have H := HC27.out
                        clear HC27
                        by_cases c28 : x57_2 < (t172.size : Int)
                        · rw [if_pos c28] at H
                          have c28b0 : decide (x57_2 < (t172.size : Int)) = true := decide_eq_true c28
                          clear c28
                          (first | rw [c28b0] | (simp only [i64_w, i32_w]; rw [c28b0]) | skip)
                          have H' := Aside0.mk H
                          clear H
                          have p29 : 0 ≤ (x57_2 : Int) := of_decide_eq_true (by first | (with_reducible assumption) | assumption)
                          have q29 : x57_2 < (t172.size : Int) := of_decide_eq_true (by first | (with_reducible assumption) | assumption)
                          have hx29 := bt_at t172 x57_2
                          replace p29 := eq_true p29
                          replace q29 := eq_true q29
                          go_wp2
                          go_meet
                          case rel => exact ⟨_, (((bt t172 x57_2) == 119)), (by first | rfl | (simp; done) | (simp [*]; done)), H', ⟨by have := HJ6.out; have := HK2.out; first | omega | exact Nat.le_refl _⟩, ⟨by (with_reducible repeat (first | apply Kd.V_alloc | apply Kd.V_drewN | apply Kd.V_drew)); exact HO_55.out⟩, ⟨by (with_reducible repeat (first | apply Kd.R_alloc | apply Kd.R_drewN | apply Kd.R_drew)); exact HO_170001.out⟩, ⟨by (with_reducible repeat (first | refine blk_drewN ?_ _ | refine blk_drew ?_ | refine blk_alloc ?_ _)); exact BK164.out⟩, ⟨by (with_reducible repeat (first | refine blk_drewN ?_ _ | refine blk_drew ?_ | refine blk_alloc ?_ _)); exact BK169.out⟩, ⟨by repeat (first | (with_reducible first | exact HB.out | apply below_alloc | apply pw_below_drewN | apply below_drew1 | refine below_set ?_ GE164.out | refine below_set ?_ GE169.out) | exact HB.out)⟩⟩
                        · rw [if_neg c28] at H
                          have c28b0 : decide (x57_2 < (t172.size : Int)) = false := decide_eq_false c28
                          clear c28
                          (first | rw [c28b0] | (simp only [i64_w, i32_w]; rw [c28b0]) | skip)
                          have H' := Aside0.mk H
                          clear H
                          go_wp2
                          go_meet
                          case rel => exact ⟨_, (false), (by first | rfl | (simp; done) | (simp [*]; done)), H', ⟨by have := HJ6.out; have := HK2.out; first | omega | exact Nat.le_refl _⟩, ⟨by (with_reducible repeat (first | apply Kd.V_alloc | apply Kd.V_drewN | apply Kd.V_drew)); exact HO_55.out⟩, ⟨by (with_reducible repeat (first | apply Kd.R_alloc | apply Kd.R_drewN | apply Kd.R_drew)); exact HO_170001.out⟩, ⟨by (with_reducible repeat (first | refine blk_drewN ?_ _ | refine blk_drew ?_ | refine blk_alloc ?_ _)); exact BK164.out⟩, ⟨by (with_reducible repeat (first | refine blk_drewN ?_ _ | refine blk_drew ?_ | refine blk_alloc ?_ _)); exact BK169.out⟩, ⟨by repeat (first | (with_reducible first | exact HB.out | apply below_alloc | apply pw_below_drewN | apply below_drew1 | refine below_set ?_ GE164.out | refine below_set ?_ GE169.out) | exact HB.out)⟩⟩
                      case rest =>
                        clear HC27
                        try clear c1
                        try clear p1
                        try clear q1
                        try clear hx1
                        try clear qi1
                        try clear c2
                        try clear p2
                        try clear q2
                        try clear hx2
                        try clear c3
                        try clear c3b0
                        try clear c3b1
                        try clear c6
                        try clear c6b0
                        try clear c6b1
                        try clear c7
                        try clear c11
                        try clear c12
                        try clear c13
                        try clear c16
                        try clear p16
                        try clear q16
                        try clear hx16
                        try clear qi16
                        try clear c17
                        try clear p17
                        try clear q17
                        try clear hx17
                        try clear c18
                        try clear c18b0
                        try clear c18b1
                        try clear c19
                        try clear c19b0
                        try clear c19b1
                        try clear c20
                        try clear c21
                        try clear c24
                        try clear c24b0
                        try clear c25
                        try clear c25b0
                        try clear c26
                        try clear c26b0
                        try clear c28
                        try clear c28b0
                        try clear p29
                        try clear q29
                        try clear hx29
                        try clear hcz13_0
                        try clear hcz13_1
                        try clear hcz13_2
                        try clear hcz15_0
                        try clear hcz15_1
                        try clear hcz15_2
                        try clear hcz22_0
                        try clear hcz22_1
                        try clear hcz22_2
                        try clear hcz23_0
                        try clear hcz23_1
                        try clear hcz23_2
                        try clear hfz13_0
                        try clear hfz13_1
                        try clear hfz13_2
                        try clear hfz15_0
                        try clear hfz15_1
                        try clear hfz15_2
                        try clear hfz22_0
                        try clear hfz22_1
                        try clear hfz22_2
                        try clear hfz23_0
                        try clear hfz23_1
                        try clear hfz23_2
                        try clear hx168_0
                        try clear hx179_0
                        try clear p1
                        try clear p16
                        try clear p168
                        try clear p179
                        try clear p2
                        try clear p29
                        try clear q1
                        try clear q16
                        try clear q168
                        try clear q179
                        try clear q29
                        obtain ⟨kq, x71_26, rfl, HA, HJ26, HO_55, HO_170001, BK164, BK169, HB⟩ := hcut
                        cases kq with
                        | zero => exact absurd HA.out (by simp [impl_readCommand.j2])
                        | succ kj26 =>
                          have H := HA.out
                          clear HA
                          simp only [impl_readCommand.j2] at H
                          by_cases c30 : x71_26 = true
                          · subst c30
                            have H1 : (if (rdOf ByteArray.empty y174 x57_2).toList = ([] : List UInt8) then (some ((rdOf ByteArray.empty t165 0), x170001_2, (rdOf ByteArray.empty y174 x57_2), false)) else (impl_readCommand.l0 kj26 t172 y174 (y174.length : Int) (wrap64 (x57_2 + 1)) (rdOf ByteArray.empty t165 0) x170001_2 (rdOf ByteArray.empty y174 x57_2))) = some (r1, r2, r3, r4) := by rw [if_pos rfl] at H; exact H
                            clear H
                            have H := H1
                            clear H1
                            by_cases c31 : (rdOf ByteArray.empty y174 x57_2).toList = ([] : List UInt8)
                            · rw [if_pos c31] at H
                              have c31b0 : ((rdOf ByteArray.empty y174 x57_2).toList == ([] : List UInt8)) = true := beq_iff_eq.mpr c31
                              have c31b1 : ((rdOf ByteArray.empty y174 x57_2).toList != ([] : List UInt8)) = false := bne_eq_false_iff_eq.mpr c31
                              clear c31
                              simp only [Option.some.injEq, Prod.mk.injEq] at H
                              obtain ⟨rfl, rfl, rfl, rfl⟩ := H
                              have hnb32 := NB169_164.out
                              have hnc32 := NB164_169.out
                              have hcz33_0 : wc.cell? ⟨gb169, 0, none⟩ = some (.string (rdOf ByteArray.empty t165 0)) := (blk_cell BK169.out 0).trans rfl
                              have hcz33_1 : wc.cell? ⟨gb169, 1, none⟩ = some (u170001) := (blk_cell BK169.out 1).trans rfl
                              have hcz33_2 : wc.cell? ⟨gb169, 2, none⟩ = some (.string x170002_2) := (blk_cell BK169.out 2).trans rfl
                              have hfz33_0 := blk_frozen BK169.out 0
                              have hfz33_1 := blk_frozen BK169.out 1
                              have hfz33_2 := blk_frozen BK169.out 2
                              have hcz34_0 : wc.cell? ⟨gb164, 0, none⟩ = some (.string x165000_2) := (blk_cell BK164.out 0).trans rfl
                              have hcz34_1 : wc.cell? ⟨gb164, 1, none⟩ = some (.slice none 0 0) := (blk_cell BK164.out 1).trans rfl
                              have hcz34_2 : wc.cell? ⟨gb164, 2, none⟩ = some (.string x165002_2) := (blk_cell BK164.out 2).trans rfl
                              have hfz34_0 := blk_frozen BK164.out 0
                              have hfz34_1 := blk_frozen BK164.out 1
                              have hfz34_2 := blk_frozen BK164.out 2
                              obtain ⟨Ao35, co35, eo35⟩ := Kd.R_slice HO_170001.out
                              subst eo35
                              go_wp2
                              refine bodyPost_ret (results_ct rfl _ _ gb164 27 #[.string (rdOf ByteArray.empty t165 0), .slice Ao35 x170001_2.length co35, .string (rdOf ByteArray.empty y174 x57_2)] (0, 0) _ rfl (by (with_reducible repeat (first | refine blk_drewN ?_ _ | refine blk_drew ?_ | refine blk_alloc ?_ _)); refine blk_put (cs := #[.string (rdOf ByteArray.empty t165 0), .slice Ao35 x170001_2.length co35, .string x165002_2]) ?_ 2 _ rfl; (with_reducible repeat (first | refine blk_drewN ?_ _ | refine blk_drew ?_ | refine blk_alloc ?_ _)); refine blk_put (cs := #[.string (rdOf ByteArray.empty t165 0), .slice none 0 0, .string x165002_2]) ?_ 1 _ rfl; (with_reducible repeat (first | refine blk_drewN ?_ _ | refine blk_drew ?_ | refine blk_alloc ?_ _)); refine blk_put (cs := #[.string x165000_2, .slice none 0 0, .string x165002_2]) ?_ 0 _ rfl; (with_reducible repeat (first | refine blk_drewN ?_ _ | refine blk_drew ?_ | refine blk_alloc ?_ _)); refine blk_far ?_ NB164_169.out _; (with_reducible repeat (first | refine blk_drewN ?_ _ | refine blk_drew ?_ | refine blk_alloc ?_ _)); exact BK164.out) Tryd.underlying27 rfl (by kernel_rfl)) rfl ?_
                              exact ⟨_, by first | rfl | (simp [errW_none, errW_some] <;> rfl) | (simp [*, errW_none, errW_some] <;> rfl), by (with_reducible repeat (first | apply Kd.R_alloc | apply Kd.R_drewN | apply Kd.R_drew)); exact Kd.R_mono (Kd.R_far (p := ⟨gb164, 2, none⟩) (Kd.R_far (p := ⟨gb164, 1, none⟩) (Kd.R_far (p := ⟨gb164, 0, none⟩) (Kd.R_far (p := ⟨gb169, 2, none⟩) (Kd.R_types (Kd.R_types HO_170001.out BK169.out (by decide)) BK164.out (by decide)) (fun _ hk => hk.1.2) (.string (rdOf ByteArray.empty y174 x57_2))) (fun _ hk => hk.2) (.string (rdOf ByteArray.empty t165 0))) (fun _ hk => hk.2) (.slice Ao35 x170001_2.length co35)) (fun _ hk => hk.2) (.string (rdOf ByteArray.empty y174 x57_2))) (fun _ hk => trivial), by repeat (first | (with_reducible first | exact HB.out | apply below_alloc | apply pw_below_drewN | apply below_drew1 | refine below_set ?_ GE164.out | refine below_set ?_ GE169.out) | exact HB.out)⟩
                            · rw [if_neg c31] at H
                              have c31b0 : ((rdOf ByteArray.empty y174 x57_2).toList == ([] : List UInt8)) = false := beq_eq_false_iff_ne.mpr c31
                              have c31b1 : ((rdOf ByteArray.empty y174 x57_2).toList != ([] : List UInt8)) = true := bne_iff_ne.mpr c31
                              have H' := Aside0.mk H
                              clear H
                              have hnb36 := NB169_164.out
                              have hnc36 := NB164_169.out
                              have hcz37_0 : wc.cell? ⟨gb169, 0, none⟩ = some (.string (rdOf ByteArray.empty t165 0)) := (blk_cell BK169.out 0).trans rfl
                              have hcz37_1 : wc.cell? ⟨gb169, 1, none⟩ = some (u170001) := (blk_cell BK169.out 1).trans rfl
                              have hcz37_2 : wc.cell? ⟨gb169, 2, none⟩ = some (.string x170002_2) := (blk_cell BK169.out 2).trans rfl
                              have hfz37_0 := blk_frozen BK169.out 0
                              have hfz37_1 := blk_frozen BK169.out 1
                              have hfz37_2 := blk_frozen BK169.out 2
                              go_wp2
                              go_roundg kj26
                              case measure => have := HJ6.out; have := HK2.out; have := HJ26.out; omega
                              case rel => exact ⟨(wrap64 (x57_2 + 1)), (x165000_2), (x165002_2), (x170001_2), ((rdOf ByteArray.empty y174 x57_2)), (u170001), (by first | rfl | (simp; done) | (simp [*]; done)), H', ⟨by have := HJ6.out; have := HK2.out; have := HJ26.out; omega⟩, ⟨by (with_reducible repeat (first | apply Kd.V_alloc | apply Kd.V_drewN | apply Kd.V_drew)); exact Kd.V_mono (Kd.V_far (p := ⟨gb169, 2, none⟩) (Kd.V_mono HO_55.out (fun k_ hk => (⟨hk, hk.2.2⟩ : _ ∧ k_ ≠ gb169))) (fun _ hk => hk.2) (.string (rdOf ByteArray.empty y174 x57_2))) (fun _ hk => ⟨hk.1.1, ⟨hk.1.2.1, hk.1.2.2⟩⟩)⟩, ⟨by (with_reducible repeat (first | apply Kd.R_alloc | apply Kd.R_drewN | apply Kd.R_drew)); exact Kd.R_mono (Kd.R_far (p := ⟨gb169, 2, none⟩) (Kd.R_types HO_170001.out BK169.out (by decide)) (fun _ hk => hk.2) (.string (rdOf ByteArray.empty y174 x57_2))) (fun _ hk => trivial)⟩, ⟨by (with_reducible repeat (first | refine blk_drewN ?_ _ | refine blk_drew ?_ | refine blk_alloc ?_ _)); refine blk_far ?_ NB164_169.out _; (with_reducible repeat (first | refine blk_drewN ?_ _ | refine blk_drew ?_ | refine blk_alloc ?_ _)); exact BK164.out⟩, ⟨by (with_reducible repeat (first | refine blk_drewN ?_ _ | refine blk_drew ?_ | refine blk_alloc ?_ _)); refine blk_put (cs := #[.string (rdOf ByteArray.empty t165 0), u170001, .string x170002_2]) ?_ 2 _ rfl; (with_reducible repeat (first | refine blk_drewN ?_ _ | refine blk_drew ?_ | refine blk_alloc ?_ _)); exact BK169.out⟩, ⟨by repeat (first | (with_reducible first | exact HB.out | apply below_alloc | apply pw_below_drewN | apply below_drew1 | refine below_set ?_ GE164.out | refine below_set ?_ GE169.out) | exact HB.out)⟩⟩
                          · replace c30 := Bool.eq_false_iff.mpr c30
                            subst c30
                            have H1 : ((impl_readNumber.f (rdOf ByteArray.empty y174 x57_2)).bind fun bt180 => (if bt180.2 = true then (if x170001_2.length < 17592186044416 then (impl_readCommand.l0 kj26 t172 y174 (y174.length : Int) (wrap64 (x57_2 + 1)) (rdOf ByteArray.empty t165 0) (x170001_2 ++ [bt180.1]) x170002_2) else (none)) else (some ((rdOf ByteArray.empty t165 0), x170001_2, x170002_2, false)))) = some (r1, r2, r3, r4) := by rw [if_neg (show ¬ (false = true) by decide)] at H; exact H
                            clear H
                            have H := H1
                            clear H1
                            replace H := Option.bind_eq_some_iff.mp H
                            obtain ⟨⟨t180, t181⟩, A380, H⟩ := H
                            replace H : (if t181 = true then (if x170001_2.length < 17592186044416 then (impl_readCommand.l0 kj26 t172 y174 (y174.length : Int) (wrap64 (x57_2 + 1)) (rdOf ByteArray.empty t165 0) (x170001_2 ++ [t180]) x170002_2) else (none)) else (some ((rdOf ByteArray.empty t165 0), x170001_2, x170002_2, false))) = some (r1, r2, r3, r4) := H
                            have A38 := Aside0.mk A380
                            clear A380
                            by_cases c39 : t181 = true
                            · subst c39
                              have H1 : (if x170001_2.length < 17592186044416 then (impl_readCommand.l0 kj26 t172 y174 (y174.length : Int) (wrap64 (x57_2 + 1)) (rdOf ByteArray.empty t165 0) (x170001_2 ++ [t180]) x170002_2) else (none)) = some (r1, r2, r3, r4) := by rw [if_pos rfl] at H; exact H
                              clear H
                              have H := H1
                              clear H1
                              by_cases c40 : x170001_2.length < 17592186044416
                              · rw [if_pos c40] at H
                                have LMc40 := Aside0.mk c40
                                clear c40
                                obtain ⟨y182, hy182⟩ : ∃ y_ : List Int, y_ = (x170001_2 ++ [t180]) := ⟨_, rfl⟩
                                replace H : (impl_readCommand.l0 kj26 t172 y174 (y174.length : Int) (wrap64 (x57_2 + 1)) (rdOf ByteArray.empty t165 0) y182 x170002_2) = some (r1, r2, r3, r4) := by first | (rw [hy182]; with_reducible exact H) | (have H2_ := (Option.bind_some _ _).symm.trans H; rw [hy182]; with_reducible exact H2_) | (have H2_ := (Option.bind_some _ _).symm.trans H; with_reducible exact H2_) | with_reducible exact H | (rw [hy182]; exact H) | exact H
                                have Ny182 := Aside0.mk hy182
                                clear hy182
                                have H' := Aside0.mk H
                                clear H
                                go_wp2_with (first | ((with_reducible refine gate_callee (f := 14) rfl ?_); refine goesL_ (some 79) rfl rfl Tryd.func14 (by kernel_rfl) rfl #[.string (rdOf ByteArray.empty y174 x57_2)] rfl (by (try simp only [List.map_toArray, List.map_cons, List.map_nil]); first | done | rfl | (simp only [List.length_drop, List.length_take]; rfl)) ?_; (with_reducible refine (impl_readNumber.calls (rdOf ByteArray.empty y174 x57_2) t180 true _ A38.out ?gl_).mono ?_); (case gl_ => exact Gl.below HG.out (by repeat (first | (with_reducible first | exact HB.out | apply below_alloc | apply pw_below_drewN | apply below_drew1 | refine below_set ?_ GE164.out | refine below_set ?_ GE169.out) | exact HB.out))); rintro e w41 ⟨rfl, hb⟩; refine ⟨_, rfl, ?_⟩; have n0_ := Aside0.mk (Kd.V_below (by (with_reducible repeat (first | apply Kd.V_alloc | apply Kd.V_drewN | apply Kd.V_drew)); exact HO_55.out) hb); have n1_ := Aside0.mk (Kd.R_below (by (with_reducible repeat (first | apply Kd.R_alloc | apply Kd.R_drewN | apply Kd.R_drew)); exact HO_170001.out) hb); have n2_ := Aside0.mk (blk_below (g := gb164) (o := .cells #[.string x165000_2, .slice none 0 0, .string x165002_2] 27 (0, 0)) (by (with_reducible repeat (first | refine blk_drewN ?_ _ | refine blk_drew ?_ | refine blk_alloc ?_ _)); exact BK164.out) hb); have n3_ := Aside0.mk (blk_below (g := gb169) (o := .cells #[.string (rdOf ByteArray.empty t165 0), u170001, .string x170002_2] 27 (0, 0)) (by (with_reducible repeat (first | refine blk_drewN ?_ _ | refine blk_drew ?_ | refine blk_alloc ?_ _)); exact BK169.out) hb); have n4_ := Aside0.mk (below_step (by repeat (first | (with_reducible first | exact HB.out | apply below_alloc | apply pw_below_drewN | apply below_drew1 | refine below_set ?_ GE164.out | refine below_set ?_ GE169.out) | exact HB.out)) hb); clear HO_55; clear HO_170001; clear BK164; clear BK169; clear HB; have HO_55 := n0_; have HO_170001 := n1_; have BK164 := n2_; have BK169 := n3_; have HB := n4_; clear n0_ n1_ n2_ n3_ n4_; (try clear hb); (try clear hb2); (try clear hk); (try clear hi); have hnb42 := NB169_164.out; have hnc42 := NB164_169.out; have hcz43_0 : w41.cell? ⟨gb169, 0, none⟩ = some (.string (rdOf ByteArray.empty t165 0)) := (blk_cell BK169.out 0).trans rfl; have hcz43_1 : w41.cell? ⟨gb169, 1, none⟩ = some (u170001) := (blk_cell BK169.out 1).trans rfl; have hcz43_2 : w41.cell? ⟨gb169, 2, none⟩ = some (.string x170002_2) := (blk_cell BK169.out 2).trans rfl; have hfz43_0 := blk_frozen BK169.out 0; have hfz43_1 := blk_frozen BK169.out 1; have hfz43_2 := blk_frozen BK169.out 2) | ((with_reducible refine gate_builtin (b := .append) (xs := #[.tmp 86, .tmp 88]) rfl ?_); (try (refine gate_guard (by rfl) ?_; dsimp only)); at_builtin; refine Kd.R_append (Kd.int .i64) (w0 := w) w.heap.size rfl (.tmp 86) (.tmp 88) 23 2 (.int .i64 0) 8 rfl Tryd.underlying23 info2 rfl (by decide) (by omega) u170001 x170001_2 t180 [.int .i64 t180] (fun _ => True) (fun _ => False) rfl rfl ?aP (fun _ hk => hk.elim) ?aF ?aO ?aB ?aS ?aL ?_; (case aP => exact rfl); (case aB => exact (by repeat (first | (with_reducible first | exact HB.out | apply below_alloc | apply pw_below_drewN | apply below_drew1 | refine below_set ?_ GE164.out | refine below_set ?_ GE169.out) | exact HB.out))); (case aF => exact (fun _ _ => trivial)); (case aO => exact (by (with_reducible repeat (first | apply Kd.R_alloc | apply Kd.R_drewN | apply Kd.R_drew)); exact HO_170001.out)); (case aS => exact (below_size (by repeat (first | (with_reducible first | exact HB.out | apply below_alloc | apply pw_below_drewN | apply below_drew1 | refine below_set ?_ GE164.out | refine below_set ?_ GE169.out) | exact HB.out)))); (case aL => have := LMc40.out; omega); intro v183 w44 ho hb hg hat; rw [← Ny182.out] at ho; have n0_ := Aside0.mk (Kd.V_afterv (ok := (fun k_ => k_ ≠ gb164 ∧ k_ ≠ gb169)) (by (with_reducible repeat (first | apply Kd.V_alloc | apply Kd.V_drewN | apply Kd.V_drew)); exact Kd.V_mono HO_55.out (fun _ hk => ⟨⟨hk.2.1, hk.2.2⟩, hk.1⟩)) hg hat); have n1_ := Aside0.mk (blk_grown (g := gb164) (o := .cells #[.string x165000_2, .slice none 0 0, .string x165002_2] 27 (0, 0)) (by (with_reducible repeat (first | refine blk_drewN ?_ _ | refine blk_drew ?_ | refine blk_alloc ?_ _)); exact BK164.out) hg (Kd.R_ne HO_170001.out BK164.out (by decide))); have n2_ := Aside0.mk (blk_grown (g := gb169) (o := .cells #[.string (rdOf ByteArray.empty t165 0), u170001, .string x170002_2] 27 (0, 0)) (by (with_reducible repeat (first | refine blk_drewN ?_ _ | refine blk_drew ?_ | refine blk_alloc ?_ _)); exact BK169.out) hg (Kd.R_ne HO_170001.out BK169.out (by decide))); have n3_ := Aside0.mk (hb); have n4_ := Aside0.mk (ho); clear HO_55; clear BK164; clear BK169; clear HB; clear HO_170001; have HO_55 := n0_; have BK164 := n1_; have BK169 := n2_; have HB := n3_; have HO184 := n4_; clear n0_ n1_ n2_ n3_ n4_; clear ho hb hg hat; obtain ⟨Ao45, co45, eo45⟩ := Kd.R_slice HO184.out; subst eo45; have hcz46_0 : w44.cell? ⟨gb169, 0, none⟩ = some (.string (rdOf ByteArray.empty t165 0)) := (blk_cell BK169.out 0).trans rfl; have hcz46_1 : w44.cell? ⟨gb169, 1, none⟩ = some (u170001) := (blk_cell BK169.out 1).trans rfl; have hcz46_2 : w44.cell? ⟨gb169, 2, none⟩ = some (.string x170002_2) := (blk_cell BK169.out 2).trans rfl; have hfz46_0 := blk_frozen BK169.out 0; have hfz46_1 := blk_frozen BK169.out 1; have hfz46_2 := blk_frozen BK169.out 2))
                                go_roundg kj26
                                case measure => have := HJ6.out; have := HK2.out; have := HJ26.out; omega
                                case rel => exact ⟨(wrap64 (x57_2 + 1)), (x165000_2), (x165002_2), (y182), (x170002_2), (.slice Ao45 y182.length co45), (by first | rfl | (simp; done) | (simp [*]; done)), H', ⟨by have := HJ6.out; have := HK2.out; have := HJ26.out; omega⟩, ⟨by (with_reducible repeat (first | apply Kd.V_alloc | apply Kd.V_drewN | apply Kd.V_drew)); exact Kd.V_mono (Kd.V_far (p := ⟨gb169, 1, none⟩) (Kd.V_mono HO_55.out (fun k_ hk => (⟨hk, hk.1.2⟩ : _ ∧ k_ ≠ gb169))) (fun _ hk => hk.2) (.slice Ao45 y182.length co45)) (fun _ hk => ⟨hk.1.2, ⟨hk.1.1.1, hk.1.1.2⟩⟩)⟩, ⟨by (with_reducible repeat (first | apply Kd.R_alloc | apply Kd.R_drewN | apply Kd.R_drew)); exact Kd.R_mono (Kd.R_far (p := ⟨gb169, 1, none⟩) (Kd.R_types HO184.out BK169.out (by decide)) (fun _ hk => hk.2) (.slice Ao45 y182.length co45)) (fun _ hk => trivial)⟩, ⟨by (with_reducible repeat (first | refine blk_drewN ?_ _ | refine blk_drew ?_ | refine blk_alloc ?_ _)); refine blk_far ?_ NB164_169.out _; (with_reducible repeat (first | refine blk_drewN ?_ _ | refine blk_drew ?_ | refine blk_alloc ?_ _)); exact BK164.out⟩, ⟨by (with_reducible repeat (first | refine blk_drewN ?_ _ | refine blk_drew ?_ | refine blk_alloc ?_ _)); refine blk_put (cs := #[.string (rdOf ByteArray.empty t165 0), u170001, .string x170002_2]) ?_ 1 _ rfl; (with_reducible repeat (first | refine blk_drewN ?_ _ | refine blk_drew ?_ | refine blk_alloc ?_ _)); exact BK169.out⟩, ⟨by repeat (first | (with_reducible first | exact HB.out | apply below_alloc | apply pw_below_drewN | apply below_drew1 | refine below_set ?_ GE164.out | refine below_set ?_ GE169.out) | exact HB.out)⟩⟩
                              · rw [if_neg c40] at H
                                exact absurd H (by simp)
                            · replace c39 := Bool.eq_false_iff.mpr c39
                              subst c39
                              have H1 : (some ((rdOf ByteArray.empty t165 0), x170001_2, x170002_2, false)) = some (r1, r2, r3, r4) := by rw [if_neg (show ¬ (false = true) by decide)] at H; exact H
                              clear H
                              have H := H1
                              clear H1
                              simp only [Option.some.injEq, Prod.mk.injEq] at H
                              obtain ⟨rfl, rfl, rfl, rfl⟩ := H
                              go_wp2_with (first | ((with_reducible refine gate_callee (f := 14) rfl ?_); refine goesL_ (some 79) rfl rfl Tryd.func14 (by kernel_rfl) rfl #[.string (rdOf ByteArray.empty y174 x57_2)] rfl (by (try simp only [List.map_toArray, List.map_cons, List.map_nil]); first | done | rfl | (simp only [List.length_drop, List.length_take]; rfl)) ?_; (with_reducible refine (impl_readNumber.calls (rdOf ByteArray.empty y174 x57_2) t180 false _ A38.out ?gl_).mono ?_); (case gl_ => exact Gl.below HG.out (by repeat (first | (with_reducible first | exact HB.out | apply below_alloc | apply pw_below_drewN | apply below_drew1 | refine below_set ?_ GE164.out | refine below_set ?_ GE169.out) | exact HB.out))); rintro e w47 ⟨rfl, hb⟩; refine ⟨_, rfl, ?_⟩; have n0_ := Aside0.mk (Kd.V_below (by (with_reducible repeat (first | apply Kd.V_alloc | apply Kd.V_drewN | apply Kd.V_drew)); exact HO_55.out) hb); have n1_ := Aside0.mk (Kd.R_below (by (with_reducible repeat (first | apply Kd.R_alloc | apply Kd.R_drewN | apply Kd.R_drew)); exact HO_170001.out) hb); have n2_ := Aside0.mk (blk_below (g := gb164) (o := .cells #[.string x165000_2, .slice none 0 0, .string x165002_2] 27 (0, 0)) (by (with_reducible repeat (first | refine blk_drewN ?_ _ | refine blk_drew ?_ | refine blk_alloc ?_ _)); exact BK164.out) hb); have n3_ := Aside0.mk (blk_below (g := gb169) (o := .cells #[.string (rdOf ByteArray.empty t165 0), u170001, .string x170002_2] 27 (0, 0)) (by (with_reducible repeat (first | refine blk_drewN ?_ _ | refine blk_drew ?_ | refine blk_alloc ?_ _)); exact BK169.out) hb); have n4_ := Aside0.mk (below_step (by repeat (first | (with_reducible first | exact HB.out | apply below_alloc | apply pw_below_drewN | apply below_drew1 | refine below_set ?_ GE164.out | refine below_set ?_ GE169.out) | exact HB.out)) hb); clear HO_55; clear HO_170001; clear BK164; clear BK169; clear HB; have HO_55 := n0_; have HO_170001 := n1_; have BK164 := n2_; have BK169 := n3_; have HB := n4_; clear n0_ n1_ n2_ n3_ n4_; (try clear hb); (try clear hb2); (try clear hk); (try clear hi); have hnb48 := NB169_164.out; have hnc48 := NB164_169.out; have hcz49_0 : w47.cell? ⟨gb169, 0, none⟩ = some (.string (rdOf ByteArray.empty t165 0)) := (blk_cell BK169.out 0).trans rfl; have hcz49_1 : w47.cell? ⟨gb169, 1, none⟩ = some (u170001) := (blk_cell BK169.out 1).trans rfl; have hcz49_2 : w47.cell? ⟨gb169, 2, none⟩ = some (.string x170002_2) := (blk_cell BK169.out 2).trans rfl; have hfz49_0 := blk_frozen BK169.out 0; have hfz49_1 := blk_frozen BK169.out 1; have hfz49_2 := blk_frozen BK169.out 2; have hcz50_0 : w47.cell? ⟨gb164, 0, none⟩ = some (.string x165000_2) := (blk_cell BK164.out 0).trans rfl; have hcz50_1 : w47.cell? ⟨gb164, 1, none⟩ = some (.slice none 0 0) := (blk_cell BK164.out 1).trans rfl; have hcz50_2 : w47.cell? ⟨gb164, 2, none⟩ = some (.string x165002_2) := (blk_cell BK164.out 2).trans rfl; have hfz50_0 := blk_frozen BK164.out 0; have hfz50_1 := blk_frozen BK164.out 1; have hfz50_2 := blk_frozen BK164.out 2; obtain ⟨Ao51, co51, eo51⟩ := Kd.R_slice HO_170001.out; subst eo51))
                              refine bodyPost_ret (results_ct rfl _ _ gb164 27 #[.string (rdOf ByteArray.empty t165 0), .slice Ao51 x170001_2.length co51, .string x170002_2] (0, 0) _ rfl (by (with_reducible repeat (first | refine blk_drewN ?_ _ | refine blk_drew ?_ | refine blk_alloc ?_ _)); refine blk_put (cs := #[.string (rdOf ByteArray.empty t165 0), .slice Ao51 x170001_2.length co51, .string x165002_2]) ?_ 2 _ rfl; (with_reducible repeat (first | refine blk_drewN ?_ _ | refine blk_drew ?_ | refine blk_alloc ?_ _)); refine blk_put (cs := #[.string (rdOf ByteArray.empty t165 0), .slice none 0 0, .string x165002_2]) ?_ 1 _ rfl; (with_reducible repeat (first | refine blk_drewN ?_ _ | refine blk_drew ?_ | refine blk_alloc ?_ _)); refine blk_put (cs := #[.string x165000_2, .slice none 0 0, .string x165002_2]) ?_ 0 _ rfl; (with_reducible repeat (first | refine blk_drewN ?_ _ | refine blk_drew ?_ | refine blk_alloc ?_ _)); exact BK164.out) Tryd.underlying27 rfl (by kernel_rfl)) rfl ?_
                              exact ⟨_, by first | rfl | (simp [errW_none, errW_some] <;> rfl) | (simp [*, errW_none, errW_some] <;> rfl), by (with_reducible repeat (first | apply Kd.R_alloc | apply Kd.R_drewN | apply Kd.R_drew)); exact Kd.R_mono (Kd.R_far (p := ⟨gb164, 2, none⟩) (Kd.R_far (p := ⟨gb164, 1, none⟩) (Kd.R_far (p := ⟨gb164, 0, none⟩) (Kd.R_types HO_170001.out BK164.out (by decide)) (fun _ hk => hk.2) (.string (rdOf ByteArray.empty t165 0))) (fun _ hk => hk.2) (.slice Ao51 x170001_2.length co51)) (fun _ hk => hk.2) (.string x170002_2)) (fun _ hk => trivial), by repeat (first | (with_reducible first | exact HB.out | apply below_alloc | apply pw_below_drewN | apply below_drew1 | refine below_set ?_ GE164.out | refine below_set ?_ GE169.out) | exact HB.out)⟩
                    · rw [if_neg c26] at H
                      exact absurd H (by simp)
                  · rw [if_neg c25] at H
                    exact absurd H (by simp)
                · rw [if_neg c24] at H
                  have c24b0 : decide (x57_2 < (y174.length : Int)) = false := decide_eq_false c24
                  clear c24
                  simp only [Option.some.injEq, Prod.mk.injEq] at H
                  obtain ⟨rfl, rfl, rfl, rfl⟩ := H
                  try go_wp2
                  have n0_ := Aside0.mk (Kd.V_drew HO_55.out)
                  have n1_ := Aside0.mk (Kd.R_drew HO_170001.out)
                  have n2_ := Aside0.mk (blk_drew BK164.out)
                  have n3_ := Aside0.mk (blk_drew BK169.out)
                  have n4_ := Aside0.mk (below_drew1 HB.out)
                  clear HO_55
                  clear HO_170001
                  clear BK164
                  clear BK169
                  clear HB
                  have HO_55 := n0_
                  have HO_170001 := n1_
                  have BK164 := n2_
                  have BK169 := n3_
                  have HB := n4_
                  clear n0_ n1_ n2_ n3_ n4_
                  obtain ⟨Ao53, co53, eo53⟩ := Kd.R_slice HO_170001.out
                  (first | subst eo53 | (injection eo53 with f1_ f2_ f3_; have f4_ := f1_.symm; have f5_ := f3_.symm; clear f1_ f2_ f3_; subst f4_; subst f5_))
                  refine start_ (n := 7) (S := fun w' => w'.cell? ⟨gb169, 0, none⟩ = some (.string (rdOf ByteArray.empty t165 0)) ∧ w'.cell? ⟨gb169, 1, none⟩ = some (.slice Ao53 x170001_2.length co53) ∧ w'.cell? ⟨gb169, 2, none⟩ = some (.string x170002_2)) (ds := []) #[false, false, false, false, false, false, false] (by kernel_rfl) rfl rfl ⟨(blk_cell BK169.out 0).trans rfl, (blk_cell BK169.out 1).trans rfl, (blk_cell BK169.out 2).trans rfl⟩ (fun hHeld => ?_)
                  generalize wr.drew = w52 at HO_55 HO_170001 BK164 BK169 HB hHeld ⊢
                  refine pure_ (i := 1) (N := some 93) (v := ?_) (a' := ?_) #[false, true, false, false, false, false, false] rfl rfl (by kernel_rfl) (fun _ _ _ h => h) (Or.inl ⟨by rfl, ?_⟩) ?_ ?_
                  rotate_left
                  · intro w'
                    go_simp
                    with_reducible rfl
                  rotate_left
                  · simp only [Act.put, List.setIfInBounds_toArray, List.set_cons_zero, List.set_cons_succ, i64_w, i32_w]
                    rfl
                  refine take_ (i := 0) (N := some 92) (v := ?_) (a' := ?_) #[true, true, false, false, false, false, false] rfl rfl (by kernel_rfl) (fun _ _ _ h => h) (Or.inl ⟨by rfl, ?_⟩) hHeld ?_ ?_
                  rotate_left
                  · rintro w' ⟨s0, s1, s2⟩
                    go_simp
                    with_reducible rfl
                  rotate_left
                  · simp only [Act.put, List.setIfInBounds_toArray, List.set_cons_zero, List.set_cons_succ, i64_w, i32_w]
                    rfl
                  refine take_ (i := 2) (N := some 94) (v := ?_) (a' := ?_) #[true, true, true, false, false, false, false] rfl rfl (by kernel_rfl) (fun _ _ _ h => h) (Or.inl ⟨by rfl, ?_⟩) hHeld ?_ ?_
                  rotate_left
                  · rintro w' ⟨s0, s1, s2⟩
                    go_simp
                    with_reducible rfl
                  rotate_left
                  · simp only [Act.put, List.setIfInBounds_toArray, List.set_cons_zero, List.set_cons_succ, i64_w, i32_w]
                    rfl
                  refine pure_ (i := 3) (N := some 95) (v := ?_) (a' := ?_) #[true, true, true, true, false, false, false] rfl rfl (by kernel_rfl) (fun _ _ _ h => h) (Or.inl ⟨by rfl, ?_⟩) ?_ ?_
                  rotate_left
                  · intro w'
                    go_simp
                    with_reducible rfl
                  rotate_left
                  · simp only [Act.put, List.setIfInBounds_toArray, List.set_cons_zero, List.set_cons_succ, i64_w, i32_w]
                    rfl
                  refine pure_ (i := 4) (N := some 96) (v := ?_) (a' := ?_) #[true, true, true, true, true, false, false] rfl rfl (by kernel_rfl) (fun _ _ _ h => h) (Or.inl ⟨by rfl, ?_⟩) ?_ ?_
                  rotate_left
                  · intro w'
                    go_simp
                    with_reducible rfl
                  rotate_left
                  · simp only [Act.put, List.setIfInBounds_toArray, List.set_cons_zero, List.set_cons_succ, i64_w, i32_w]
                    rfl
                  refine one_ (i := 5) (N := none) #[true, true, true, true, true, true, false] rfl rfl (by kernel_rfl) (by decide) (fun K hK => ?_)
                  have hs54 : w52.cell? ⟨gb164, 0, none⟩ = some (.string x165000_2) := (blk_cell BK164.out 0).trans rfl
                  have hfs54 := blk_frozen BK164.out 0
                  have hns54_1 := NB169_164.out
                  have hms54_1 := NB164_169.out
                  have hs55 : w52.cell? ⟨gb164, 1, none⟩ = some (.slice none 0 0) := (blk_cell BK164.out 1).trans rfl
                  have hfs55 := blk_frozen BK164.out 1
                  have hns55_1 := NB169_164.out
                  have hms55_1 := NB164_169.out
                  have hs56 : w52.cell? ⟨gb164, 2, none⟩ = some (.string x165002_2) := (blk_cell BK164.out 2).trans rfl
                  have hfs56 := blk_frozen BK164.out 2
                  have hns56_1 := NB169_164.out
                  have hms56_1 := NB164_169.out
                  refine skip_ (w1 := ?_) (by rfl) rfl ?_ ?_
                  rotate_left
                  · go_simp
                    rfl
                  refine hK.out _ _ ⟨((cell_far (p := ⟨gb164, _, none⟩) NB169_164.out _).trans (((cell_far (p := ⟨gb164, _, none⟩) NB169_164.out _).trans (((cell_far (p := ⟨gb164, _, none⟩) NB169_164.out _).trans (hHeld.1)))))), ((cell_far (p := ⟨gb164, _, none⟩) NB169_164.out _).trans (((cell_far (p := ⟨gb164, _, none⟩) NB169_164.out _).trans (((cell_far (p := ⟨gb164, _, none⟩) NB169_164.out _).trans (hHeld.2.1)))))), ((cell_far (p := ⟨gb164, _, none⟩) NB169_164.out _).trans (((cell_far (p := ⟨gb164, _, none⟩) NB169_164.out _).trans (((cell_far (p := ⟨gb164, _, none⟩) NB169_164.out _).trans (hHeld.2.2))))))⟩ (fun hHeld => ?_)
                  clear hK K
                  refine pure_ (i := 6) (N := some 3) (v := ?_) (a' := ?_) #[true, true, true, true, true, true, true] rfl rfl (by kernel_rfl) (fun _ _ _ h => h) (Or.inl ⟨by rfl, ?_⟩) ?_ ?_
                  rotate_left
                  · intro w'
                    go_simp
                    with_reducible rfl
                  rotate_left
                  · simp only [Act.put, List.setIfInBounds_toArray, List.set_cons_zero, List.set_cons_succ, i64_w, i32_w]
                    rfl
                  refine done_ (by kernel_rfl) ?_
                  try go_wp2
                  refine bodyPost_ret (results_ct rfl _ _ gb164 27 #[.string (rdOf ByteArray.empty t165 0), .slice Ao53 x170001_2.length co53, .string x170002_2] (0, 0) _ rfl (by (with_reducible repeat (first | refine blk_drewN ?_ _ | refine blk_drew ?_ | refine blk_alloc ?_ _)); refine blk_put (cs := #[.string (rdOf ByteArray.empty t165 0), .slice Ao53 x170001_2.length co53, .string x165002_2]) ?_ 2 _ rfl; (with_reducible repeat (first | refine blk_drewN ?_ _ | refine blk_drew ?_ | refine blk_alloc ?_ _)); refine blk_put (cs := #[.string (rdOf ByteArray.empty t165 0), .slice none 0 0, .string x165002_2]) ?_ 1 _ rfl; (with_reducible repeat (first | refine blk_drewN ?_ _ | refine blk_drew ?_ | refine blk_alloc ?_ _)); refine blk_put (cs := #[.string x165000_2, .slice none 0 0, .string x165002_2]) ?_ 0 _ rfl; (with_reducible repeat (first | refine blk_drewN ?_ _ | refine blk_drew ?_ | refine blk_alloc ?_ _)); exact BK164.out) Tryd.underlying27 rfl (by kernel_rfl)) rfl ?_
                  exact ⟨_, by first | rfl | (simp [errW_none, errW_some] <;> rfl) | (simp [*, errW_none, errW_some] <;> rfl), by (with_reducible repeat (first | apply Kd.R_alloc | apply Kd.R_drewN | apply Kd.R_drew)); exact Kd.R_mono (Kd.R_far (p := ⟨gb164, 2, none⟩) (Kd.R_far (p := ⟨gb164, 1, none⟩) (Kd.R_far (p := ⟨gb164, 0, none⟩) (Kd.R_types HO_170001.out BK164.out (by decide)) (fun _ hk => hk.2) (.string (rdOf ByteArray.empty t165 0))) (fun _ hk => hk.2) (.slice Ao53 x170001_2.length co53)) (fun _ hk => hk.2) (.string x170002_2)) (fun _ hk => trivial), by repeat (first | (with_reducible first | exact HB.out | apply below_alloc | apply pw_below_drewN | apply below_drew1 | refine below_set ?_ GE164.out | refine below_set ?_ GE169.out) | exact HB.out)⟩
    · rw [if_neg c6] at H
      exact absurd H (by simp)
  · rw [if_neg c3] at H
    exact absurd H (by simp)

/-! ### impl_IsDeskCommand: function 5 -/
def impl_IsDeskCommand.f (k : Nat) (a0 : ByteArray) : Option (Bool) := (impl_readCommand.f k a0).bind fun bt185 => (some bt185.2.2.2)
theorem impl_IsDeskCommand.mono : ∀ a0 k, LeO (impl_IsDeskCommand.f k a0) (impl_IsDeskCommand.f (k + 1) a0) := by
  intro a0 k
  unfold impl_IsDeskCommand.f
  repeat' first
      | (with_reducible exact impl_readCommand.mono _ _)
      | (with_reducible exact LeO.refl _)
      | (with_reducible exact LeO.none _)
      | (with_reducible refine LeO.ite ?_ ?_)
      | (with_reducible refine LeO.bind ?_ (fun _ => ?_))
      | exact impl_readCommand.mono _ _
      | exact LeO.none _
      | refine LeO.ite ?_ ?_
      | refine LeO.bind ?_ (fun _ => ?_)
set_option maxHeartbeats 8000000 in
set_option maxRecDepth 100000 in
theorem impl_IsDeskCommand.calls (k : Nat) (a0 : ByteArray) (r : Bool) (w : World) (h : impl_IsDeskCommand.f k a0 = some r) (hG : Gl w) :
    Calls Tryd.prog 5 #[.string a0] w fun e w' => e = .returned (.bool r) ∧ Below w.heap.size w w' := by
  have HG := Aside0.mk hG
  clear hG
  have hu27 := Tryd.underlying27
  have HB := Aside0.mk (Below.refl w.heap.size w)
  have H : ((impl_readCommand.f k a0).bind fun bt185 => (some bt185.2.2.2)) = some r := h
  clear h
  replace H := Option.bind_eq_some_iff.mp H
  obtain ⟨⟨t185, t186, t189, t190⟩, A20, H⟩ := H
  replace H : (some t190) = some r := H
  have A2 := Aside0.mk A20
  clear A20
  obtain rfl := Option.some.inj H
  go_enter Tryd.func5, Tryd.ntmps5
  go_wp2_with (first | ((with_reducible refine gate_callee (f := 7) rfl ?_); refine goesL_ (some 7) rfl rfl Tryd.func7 (by kernel_rfl) rfl #[.string a0] rfl (by (try simp only [List.map_toArray, List.map_cons, List.map_nil]); first | done | rfl | (simp only [List.length_drop, List.length_take]; rfl)) ?_; (with_reducible refine (impl_readCommand.calls k a0 t185 t186 t189 t190 _ A2.out ?gl_).mono ?_); (case gl_ => exact Gl.below HG.out (by repeat (first | (with_reducible first | exact HB.out | apply below_alloc | apply pw_below_drewN | apply below_drew1) | exact HB.out))); rintro e w3 ⟨v187, rfl, ho0, hb⟩; refine ⟨_, rfl, ?_⟩; have n0_ := Aside0.mk (Kd.R_lower ho0 (below_size (by repeat (first | (with_reducible first | exact HB.out | apply below_alloc | apply pw_below_drewN | apply below_drew1) | exact HB.out)))); have n1_ := Aside0.mk (below_step (by repeat (first | (with_reducible first | exact HB.out | apply below_alloc | apply pw_below_drewN | apply below_drew1) | exact HB.out)) hb); clear HB; have HO188 := n0_; have HB := n1_; clear n0_ n1_; (try clear hb); (try clear hb2); (try clear hk); (try clear hi); (try clear ho0)) | ((with_reducible refine gate_dst (N := 3) rfl ?_); refine box_event ?hg (N := 3) ?hd (cs := #[.string (⟨#[]⟩ : ByteArray), .slice none 0 0, .string (⟨#[]⟩ : ByteArray)]) (t := 27) ?hr ?_; (case hd => rfl); (case hg => rfl); (case hr => first | (go_simp; done) | (go_simp; rfl)); intro gb191 hg w4 hbox hb; have n0_ := Aside0.mk (Kd.R_below (by (with_reducible repeat (first | apply Kd.R_alloc | apply Kd.R_drewN | apply Kd.R_drew)); exact HO188.out) hb); have n1_ := Aside0.mk (below_step (by repeat (first | (with_reducible first | exact HB.out | apply below_alloc | apply pw_below_drewN | apply below_drew1) | exact HB.out)) hb); have n2_ := Aside0.mk (hbox); have n3_ := Aside0.mk ((by rw [hg]; exact (below_size (by repeat (first | (with_reducible first | exact HB.out | apply below_alloc | apply pw_below_drewN | apply below_drew1) | exact HB.out))) : w.heap.size ≤ gb191)); have n4_ := Aside0.mk ((by rw [hg]; exact (below_size (by repeat (first | (with_reducible first | exact HB.out | apply below_alloc | apply pw_below_drewN | apply below_drew1) | exact HB.out))) : w.heap.size ≤ gb191)); clear HO188; clear HB; have HO188 := n0_; have HB := n1_; have BK191 := n2_; have GW191 := n3_; have GE191 := n4_; clear n0_ n1_ n2_ n3_ n4_; clear hb hbox hg; have hcz5_0 : w4.cell? ⟨gb191, 0, none⟩ = some (.string (⟨#[]⟩ : ByteArray)) := (blk_cell BK191.out 0).trans rfl; have hcz5_1 : w4.cell? ⟨gb191, 1, none⟩ = some (.slice none 0 0) := (blk_cell BK191.out 1).trans rfl; have hcz5_2 : w4.cell? ⟨gb191, 2, none⟩ = some (.string (⟨#[]⟩ : ByteArray)) := (blk_cell BK191.out 2).trans rfl; have hfz5_0 := blk_frozen BK191.out 0; have hfz5_1 := blk_frozen BK191.out 1; have hfz5_2 := blk_frozen BK191.out 2; obtain ⟨Ao6, co6, eo6⟩ := Kd.R_slice HO188.out; subst eo6))
  go_ret
  exact ⟨by first | rfl | (simp [errW_none, errW_some] <;> rfl) | (simp [*, errW_none, errW_some] <;> rfl), by repeat (first | (with_reducible first | exact HB.out | apply below_alloc | apply pw_below_drewN | apply below_drew1 | refine below_set ?_ GE191.out) | exact HB.out)⟩

/-! ### laws_FnExactIsDeskCommand: function 3 -/
def laws_FnExactIsDeskCommand.f (k : Nat) (a0 : ByteArray) : Option (Bool) := if (a0.size : Int) > 1048576 then (some true) else ((spec_IsDeskCommand.f k a0).bind fun t192 => ((impl_IsDeskCommand.f k a0).bind fun t193 => (if (t193 != t192) = true then (some false) else (some true))))
theorem laws_FnExactIsDeskCommand.mono : ∀ a0 k, LeO (laws_FnExactIsDeskCommand.f k a0) (laws_FnExactIsDeskCommand.f (k + 1) a0) := by
  intro a0 k
  unfold laws_FnExactIsDeskCommand.f
  repeat' first
      | (with_reducible exact impl_IsDeskCommand.mono _ _)
      | (with_reducible exact spec_IsDeskCommand.mono _ _)
      | (with_reducible exact LeO.refl _)
      | (with_reducible exact LeO.none _)
      | (with_reducible refine LeO.ite ?_ ?_)
      | (with_reducible refine LeO.bind ?_ (fun _ => ?_))
      | exact impl_IsDeskCommand.mono _ _
      | exact spec_IsDeskCommand.mono _ _
      | exact LeO.none _
      | refine LeO.ite ?_ ?_
      | refine LeO.bind ?_ (fun _ => ?_)
set_option maxHeartbeats 8000000 in
set_option maxRecDepth 100000 in
theorem laws_FnExactIsDeskCommand.calls (k : Nat) (a0 : ByteArray) (r : Bool) (w : World) (h : laws_FnExactIsDeskCommand.f k a0 = some r) (hG : Gl w) :
    Calls Tryd.prog 3 #[.string a0] w fun e w' => e = .returned (.bool r) ∧ Below w.heap.size w w' := by
  have HG := Aside0.mk hG
  clear hG
  have HB := Aside0.mk (Below.refl w.heap.size w)
  have H : (if (a0.size : Int) > 1048576 then (some true) else ((spec_IsDeskCommand.f k a0).bind fun t192 => ((impl_IsDeskCommand.f k a0).bind fun t193 => (if (t193 != t192) = true then (some false) else (some true))))) = some r := h
  clear h
  by_cases c2 : (a0.size : Int) > 1048576
  · rw [if_pos c2] at H
    have c2b0 : decide (1048576 < (a0.size : Int)) = true := decide_eq_true c2
    have c2b1 : decide (1048576 < a0.size) = true := decide_eq_true (by omega)
    clear c2
    obtain rfl := Option.some.inj H
    go_enter Tryd.func3, Tryd.ntmps3
    go_wp2
    go_ret
    exact ⟨by first | rfl | (simp [errW_none, errW_some] <;> rfl) | (simp [*, errW_none, errW_some] <;> rfl), by repeat (first | (with_reducible first | exact HB.out | apply below_alloc | apply pw_below_drewN | apply below_drew1) | exact HB.out)⟩
  · rw [if_neg c2] at H
    have c2b0 : decide (1048576 < (a0.size : Int)) = false := decide_eq_false c2
    have c2b1 : decide (1048576 < a0.size) = false := decide_eq_false (by omega)
    clear c2
    replace H := Option.bind_eq_some_iff.mp H
    obtain ⟨t192, A30, H⟩ := H
    replace H : ((impl_IsDeskCommand.f k a0).bind fun t193 => (if (t193 != t192) = true then (some false) else (some true))) = some r := H
    have A3 := Aside0.mk A30
    clear A30
    replace H := Option.bind_eq_some_iff.mp H
    obtain ⟨t193, A40, H⟩ := H
    replace H : (if (t193 != t192) = true then (some false) else (some true)) = some r := H
    have A4 := Aside0.mk A40
    clear A40
    by_cases c5 : (t193 != t192) = true
    · rw [if_pos c5] at H
      have c5b0 : (t193 != t192) = true := c5
      (try (have c5b1 : decide (t193 = t192) = false := by simpa using c5))
      (try (have c5b2 : (t193 == t192) = false := by simpa using c5))
      (try (have c5b3 : ¬ (t193 = t192) := by simpa using c5))
      clear c5
      obtain rfl := Option.some.inj H
      go_enter Tryd.func3, Tryd.ntmps3
      go_wp2_with (first | ((with_reducible refine gate_callee (f := 4) rfl ?_); refine goesL_ (some 9) rfl rfl Tryd.func4 (by kernel_rfl) rfl #[.string a0] rfl (by (try simp only [List.map_toArray, List.map_cons, List.map_nil]); first | done | rfl | (simp only [List.length_drop, List.length_take]; rfl)) ?_; (with_reducible refine (spec_IsDeskCommand.calls k a0 t192 _ A3.out).mono ?_); rintro e w6 ⟨rfl, hb⟩; refine ⟨_, rfl, ?_⟩; have n0_ := Aside0.mk (below_step (by repeat (first | (with_reducible first | exact HB.out | apply below_alloc | apply pw_below_drewN | apply below_drew1) | exact HB.out)) hb); clear HB; have HB := n0_; clear n0_; (try clear hb); (try clear hb2); (try clear hk); (try clear hi)) | ((with_reducible refine gate_callee (f := 5) rfl ?_); refine goesL_ (some 11) rfl rfl Tryd.func5 (by kernel_rfl) rfl #[.string a0] rfl (by (try simp only [List.map_toArray, List.map_cons, List.map_nil]); first | done | rfl | (simp only [List.length_drop, List.length_take]; rfl)) ?_; (with_reducible refine (impl_IsDeskCommand.calls k a0 t193 _ A4.out ?gl_).mono ?_); (case gl_ => exact Gl.below HG.out (by repeat (first | (with_reducible first | exact HB.out | apply below_alloc | apply pw_below_drewN | apply below_drew1) | exact HB.out))); rintro e w7 ⟨rfl, hb⟩; refine ⟨_, rfl, ?_⟩; have n0_ := Aside0.mk (below_step (by repeat (first | (with_reducible first | exact HB.out | apply below_alloc | apply pw_below_drewN | apply below_drew1) | exact HB.out)) hb); clear HB; have HB := n0_; clear n0_; (try clear hb); (try clear hb2); (try clear hk); (try clear hi)))
      go_ret
      exact ⟨by first | rfl | (simp [errW_none, errW_some] <;> rfl) | (simp [*, errW_none, errW_some] <;> rfl), by repeat (first | (with_reducible first | exact HB.out | apply below_alloc | apply pw_below_drewN | apply below_drew1) | exact HB.out)⟩
    · rw [if_neg c5] at H
      have c5b0 : (t193 != t192) = false := by simpa using c5
      (try (have c5b1 : decide (t193 = t192) = true := by simpa using c5))
      (try (have c5b2 : (t193 == t192) = true := by simpa using c5))
      clear c5
      obtain rfl := Option.some.inj H
      go_enter Tryd.func3, Tryd.ntmps3
      go_wp2_with (first | ((with_reducible refine gate_callee (f := 4) rfl ?_); refine goesL_ (some 9) rfl rfl Tryd.func4 (by kernel_rfl) rfl #[.string a0] rfl (by (try simp only [List.map_toArray, List.map_cons, List.map_nil]); first | done | rfl | (simp only [List.length_drop, List.length_take]; rfl)) ?_; (with_reducible refine (spec_IsDeskCommand.calls k a0 t192 _ A3.out).mono ?_); rintro e w8 ⟨rfl, hb⟩; refine ⟨_, rfl, ?_⟩; have n0_ := Aside0.mk (below_step (by repeat (first | (with_reducible first | exact HB.out | apply below_alloc | apply pw_below_drewN | apply below_drew1) | exact HB.out)) hb); clear HB; have HB := n0_; clear n0_; (try clear hb); (try clear hb2); (try clear hk); (try clear hi)) | ((with_reducible refine gate_callee (f := 5) rfl ?_); refine goesL_ (some 11) rfl rfl Tryd.func5 (by kernel_rfl) rfl #[.string a0] rfl (by (try simp only [List.map_toArray, List.map_cons, List.map_nil]); first | done | rfl | (simp only [List.length_drop, List.length_take]; rfl)) ?_; (with_reducible refine (impl_IsDeskCommand.calls k a0 t193 _ A4.out ?gl_).mono ?_); (case gl_ => exact Gl.below HG.out (by repeat (first | (with_reducible first | exact HB.out | apply below_alloc | apply pw_below_drewN | apply below_drew1) | exact HB.out))); rintro e w9 ⟨rfl, hb⟩; refine ⟨_, rfl, ?_⟩; have n0_ := Aside0.mk (below_step (by repeat (first | (with_reducible first | exact HB.out | apply below_alloc | apply pw_below_drewN | apply below_drew1) | exact HB.out)) hb); clear HB; have HB := n0_; clear n0_; (try clear hb); (try clear hb2); (try clear hk); (try clear hi)))
      go_ret
      exact ⟨by first | rfl | (simp [errW_none, errW_some] <;> rfl) | (simp [*, errW_none, errW_some] <;> rfl), by repeat (first | (with_reducible first | exact HB.out | apply below_alloc | apply pw_below_drewN | apply below_drew1) | exact HB.out)⟩

/-- THE ONE PURE STATEMENT of laws_FnExactIsDeskCommand: yours. -/
def laws_FnExactIsDeskCommand.Pure : Prop := ∀ (a0 : ByteArray), a0.size ≤ 140737488351232 → ∃ k, laws_FnExactIsDeskCommand.f k a0 = some true
theorem laws_FnExactIsDeskCommand.walk (P : laws_FnExactIsDeskCommand.Pure) (a0 : ByteArray) (w : World) (w0 : a0.size ≤ 140737488351232) (hG : Gl w) :
    Calls Tryd.prog 3 #[.string a0] w fun e w' => e = .returned (.bool true) ∧ Below w.heap.size w w' := by
  obtain ⟨k, h⟩ := P a0 w0
  refine (laws_FnExactIsDeskCommand.calls k a0 true w h hG).mono ?_
  rintro e w' ⟨rfl, hd⟩
  exact ⟨rfl, hd⟩

end Go.Proofs.YtdafekighdmhfaaDoor.PFnExactIsDeskCommand
