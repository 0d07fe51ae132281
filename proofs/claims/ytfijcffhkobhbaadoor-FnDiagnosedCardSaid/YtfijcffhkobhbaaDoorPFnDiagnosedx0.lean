-- Laid by wip/mk/mk.py out of the translation. Not trusted: Lean checks it.
import Derived.Test.YtfijcffhkobhbaaDoorProg
import Derived.Below
import Derived.Deep.Draws
import Derived.Deep.AppendLies
import Derived.Maps.AppendAt
import Derived.OwnWalk
import Derived.Laws.BytesArg
import Derived.Laws.MakeOwn
import Derived.Laws.OwnMore
import Derived.Deep.OwnRows
import Derived.Tactics
import Derived.Lib.ConvBytes
import Derived.Laws.Slices
import Derived.WalkKit
import Derived.KernelRfl
import Derived.RowKit3
import Derived.Deep.LoopGhost
import Derived.Deep.QuietTactic
import Derived.BigQuiet
import Derived.WideLaws
import Derived.Deep.DeepCutAuto
import Derived.Deep.CutBlock
import Derived.Deep.RegionHeld3
import Derived.Laws.Rows
import Derived.Lib.AppendStr
import Derived.ArgAppend
import Derived.Laws.IdiomCopy
import Derived.OrdersHeld
import Derived.Laws.BitsLemmas
import Derived.RowKit
import Derived.DeepKeys4
import Derived.DeepKeys5
import Derived.FnData
import Derived.Lib.AppendIntMem
import Derived.Lib.LaidTab
import Derived.Maps.Keyed
import Derived.Maps.OwnSet
import Derived.Shelf.Abstract
import Derived.StillTailTactics
import Derived.Test.YtfijcffhkobhbaaDoorShelf
import Derived.WalkSmall
import Derived.Test.YtfijcffhkobhbaaDoorWWords
import Derived.Test.YtfijcffhkobhbaaDoorWLast
import Derived.Test.YtfijcffhkobhbaaDoorWTab
import Derived.Test.YtfijcffhkobhbaaDoorWFour
import Derived.Test.YtfijcffhkobhbaaDoorWQPut
import Derived.Test.YtfijcffhkobhbaaDoorWApart
import Derived.Test.YtfijcffhkobhbaaDoorWArr
import Derived.Test.YtfijcffhkobhbaaDoorWZeros
import Derived.Test.YtfijcffhkobhbaaDoorWFoot
import Derived.Test.YtfijcffhkobhbaaDoorWKept
import Derived.Test.YtfijcffhkobhbaaDoorWShare
import Derived.Test.YtfijcffhkobhbaaDoorWN
import Derived.Test.YtfijcffhkobhbaaDoorWFootNe
import Derived.Test.YtfijcffhkobhbaaDoorWAt
import Derived.Test.YtfijcffhkobhbaaDoorWEqStruct
import Derived.Test.YtfijcffhkobhbaaDoorWRepsOne
import Derived.Test.YtfijcffhkobhbaaDoorWInv
import Derived.Test.YtfijcffhkobhbaaDoorWInvWords
import Derived.Test.YtfijcffhkobhbaaDoorWGuard
import Derived.Test.YtfijcffhkobhbaaDoorWNEv
import Derived.Test.YtfijcffhkobhbaaDoorWMore
namespace Go.Proofs.YtfijcffhkobhbaaDoor.PFnDiagnosed
open Go.RowKit Go.Proofs.YtfijcffhkobhbaaDoorW.PrintWords Go.Proofs.YtfijcffhkobhbaaDoorW.PrintLast Go.Proofs.YtfijcffhkobhbaaDoorW.PrintMore
attribute [local go_sem] max2_int min2_int max_two min_two max_three min_three max_four min_four   -- for this text's walks alone
set_option linter.unusedVariables false
set_option linter.unusedSimpArgs false



def errW : Option Int → Value
 | none => .nilIface
 | some c => .iface 0 (.int .i64 c)
theorem errW_none : errW none = .nilIface := rfl
theorem errW_some (c : Int) : errW (some c) = .iface 0 (.int .i64 c) := rfl

theorem info2 : (Tryd.prog.info? 2).map (fun i => (i.zero, i.size, i.bytes)) = some (some (.int .i64 0), 1, 8) := by kernel_rfl
theorem info5 : (Tryd.prog.info? 5).map (fun i => (i.zero, i.size, i.bytes)) = some (some (.int .u8 0), 1, 1) := by kernel_rfl
theorem info9 : (Tryd.prog.info? 9).map (fun i => (i.zero, i.size, i.bytes)) = some (some (.string ⟨#[]⟩), 1, 16) := by kernel_rfl
theorem Gl.var {w w' : World} {n : String} {g : Nat} {cs : Array Value} {v : Value} (hg : Tryd.prog.globalNamed n = some g) (hv : w.var? Tryd.prog n = some cs) (h0 : cs[0]? = some v) (hb : Below w.heap.size w w') : w'.var? Tryd.prog n = some cs :=
 var?_below hb hg (World.block_lt_of_cell? w ⟨g, 0, Option.none⟩ ((World.var?_cell hg hv 0).trans h0)) hv
/-- What the library's contracts ask of the package variables. -/
def Gl (w : World) : Prop := True ∧ (Lib.TabIs Tryd.prog w "internal/strconv.uint64pow10" .u64 Lib.pow10Tab) ∧ True ∧ True
theorem Gl.below {w w' : World} (h : Gl w) (hb : Below w.heap.size w w') : Gl w' := by
 obtain ⟨h0, h1, h2, h3⟩ := h
 exact ⟨trivial, (Gl.var (g := 0) (by kernel_rfl) h1 rfl hb), trivial, trivial⟩
theorem castCalls {P : Program} {f : Nat} {a b : Array Value} {w : World} {Q R : Ending → World → Prop} (h : a = b) (H : Calls P f b w Q) (m : ∀ e w', Q e w' → R e w') : Calls P f a w R := by
 subst h
 exact H.mono m
/-! short words: the last argument is proved where it is used -/
theorem bf0 {W W' : World} {g : Nat} {o : Obj} (h : W.heap[g]? = some o) (c : W.heap[g]? = some o → W'.heap[g]? = some o := by intro h; (with_reducible repeat (first | refine blk_drewN ?_ _ | refine blk_drew ?_ | refine blk_alloc ?_ _)); exact h) : W'.heap[g]? = some o := c h
theorem bf1 {W W' : World} {g : Nat} {o : Obj} (h : W.heap[g]? = some o) {x1 : Nat} (n1 : g ≠ x1) (c : W.heap[g]? = some o → g ≠ x1 → W'.heap[g]? = some o := by intro h n1; (repeat (with_reducible first | refine blk_drewN ?_ _ | refine blk_drew ?_ | refine blk_alloc ?_ _ | refine blk_far ?_ n1 _)); exact h) : W'.heap[g]? = some o := c h n1
theorem bf2 {W W' : World} {g : Nat} {o : Obj} (h : W.heap[g]? = some o) {x1 : Nat} (n1 : g ≠ x1) {x2 : Nat} (n2 : g ≠ x2) (c : W.heap[g]? = some o → g ≠ x1 → g ≠ x2 → W'.heap[g]? = some o := by intro h n1 n2; (repeat (with_reducible first | refine blk_drewN ?_ _ | refine blk_drew ?_ | refine blk_alloc ?_ _ | refine blk_far ?_ n1 _ | refine blk_far ?_ n2 _)); exact h) : W'.heap[g]? = some o := c h n1 n2
theorem bf3 {W W' : World} {g : Nat} {o : Obj} (h : W.heap[g]? = some o) {x1 : Nat} (n1 : g ≠ x1) {x2 : Nat} (n2 : g ≠ x2) {x3 : Nat} (n3 : g ≠ x3) (c : W.heap[g]? = some o → g ≠ x1 → g ≠ x2 → g ≠ x3 → W'.heap[g]? = some o := by intro h n1 n2 n3; (repeat (with_reducible first | refine blk_drewN ?_ _ | refine blk_drew ?_ | refine blk_alloc ?_ _ | refine blk_far ?_ n1 _ | refine blk_far ?_ n2 _ | refine blk_far ?_ n3 _)); exact h) : W'.heap[g]? = some o := c h n1 n2 n3
theorem bf4 {W W' : World} {g : Nat} {o : Obj} (h : W.heap[g]? = some o) {x1 : Nat} (n1 : g ≠ x1) {x2 : Nat} (n2 : g ≠ x2) {x3 : Nat} (n3 : g ≠ x3) {x4 : Nat} (n4 : g ≠ x4) (c : W.heap[g]? = some o → g ≠ x1 → g ≠ x2 → g ≠ x3 → g ≠ x4 → W'.heap[g]? = some o := by intro h n1 n2 n3 n4; (repeat (with_reducible first | refine blk_drewN ?_ _ | refine blk_drew ?_ | refine blk_alloc ?_ _ | refine blk_far ?_ n1 _ | refine blk_far ?_ n2 _ | refine blk_far ?_ n3 _ | refine blk_far ?_ n4 _)); exact h) : W'.heap[g]? = some o := c h n1 n2 n3 n4
theorem bp0 {W W' : World} {g : Nat} {o o' : Obj} (h : W.heap[g]? = some o) (c : W.heap[g]? = some o → W'.heap[g]? = some o' := by intro h; (repeat (with_reducible first | apply blk_drewN | apply blk_drew | apply blk_alloc | apply blk_put)); exact h; all_goals (try rfl)) : W'.heap[g]? = some o' := c h
theorem bp1 {W W' : World} {g : Nat} {o o' : Obj} (h : W.heap[g]? = some o) {x1 : Nat} (n1 : g ≠ x1) (c : W.heap[g]? = some o → g ≠ x1 → W'.heap[g]? = some o' := by intro h n1; (repeat (with_reducible first | apply blk_drewN | apply blk_drew | apply blk_alloc | apply blk_far (hp := n1) | apply blk_put)); exact h; all_goals (try rfl)) : W'.heap[g]? = some o' := c h n1
theorem bp2 {W W' : World} {g : Nat} {o o' : Obj} (h : W.heap[g]? = some o) {x1 : Nat} (n1 : g ≠ x1) {x2 : Nat} (n2 : g ≠ x2) (c : W.heap[g]? = some o → g ≠ x1 → g ≠ x2 → W'.heap[g]? = some o' := by intro h n1 n2; (repeat (with_reducible first | apply blk_drewN | apply blk_drew | apply blk_alloc | apply blk_far (hp := n1) | apply blk_far (hp := n2) | apply blk_put)); exact h; all_goals (try rfl)) : W'.heap[g]? = some o' := c h n1 n2
theorem bp3 {W W' : World} {g : Nat} {o o' : Obj} (h : W.heap[g]? = some o) {x1 : Nat} (n1 : g ≠ x1) {x2 : Nat} (n2 : g ≠ x2) {x3 : Nat} (n3 : g ≠ x3) (c : W.heap[g]? = some o → g ≠ x1 → g ≠ x2 → g ≠ x3 → W'.heap[g]? = some o' := by intro h n1 n2 n3; (repeat (with_reducible first | apply blk_drewN | apply blk_drew | apply blk_alloc | apply blk_far (hp := n1) | apply blk_far (hp := n2) | apply blk_far (hp := n3) | apply blk_put)); exact h; all_goals (try rfl)) : W'.heap[g]? = some o' := c h n1 n2 n3
theorem bp4 {W W' : World} {g : Nat} {o o' : Obj} (h : W.heap[g]? = some o) {x1 : Nat} (n1 : g ≠ x1) {x2 : Nat} (n2 : g ≠ x2) {x3 : Nat} (n3 : g ≠ x3) {x4 : Nat} (n4 : g ≠ x4) (c : W.heap[g]? = some o → g ≠ x1 → g ≠ x2 → g ≠ x3 → g ≠ x4 → W'.heap[g]? = some o' := by intro h n1 n2 n3 n4; (repeat (with_reducible first | apply blk_drewN | apply blk_drew | apply blk_alloc | apply blk_far (hp := n1) | apply blk_far (hp := n2) | apply blk_far (hp := n3) | apply blk_far (hp := n4) | apply blk_put)); exact h; all_goals (try rfl)) : W'.heap[g]? = some o' := c h n1 n2 n3 n4
theorem bl0 {b : Nat} {w W W' : World} (h : Below b w W) (c : Below b w W → Below b w W' := by intro h; repeat (first | (with_reducible first | apply below_alloc | apply pw_below_drewN | apply below_drew1 | exact h) | exact h)) : Below b w W' := c h
theorem bl1 {b : Nat} {w W W' : World} (h : Below b w W) {x1 : Nat} (n1 : b ≤ x1) (c : Below b w W → b ≤ x1 → Below b w W' := by intro h n1; repeat (first | (with_reducible first | apply below_alloc | apply pw_below_drewN | apply below_drew1 | refine below_set ?_ n1 | exact h) | exact h)) : Below b w W' := c h n1
theorem bl2 {b : Nat} {w W W' : World} (h : Below b w W) {x1 : Nat} (n1 : b ≤ x1) {x2 : Nat} (n2 : b ≤ x2) (c : Below b w W → b ≤ x1 → b ≤ x2 → Below b w W' := by intro h n1 n2; repeat (first | (with_reducible first | apply below_alloc | apply pw_below_drewN | apply below_drew1 | refine below_set ?_ n1 | refine below_set ?_ n2 | exact h) | exact h)) : Below b w W' := c h n1 n2
theorem bl3 {b : Nat} {w W W' : World} (h : Below b w W) {x1 : Nat} (n1 : b ≤ x1) {x2 : Nat} (n2 : b ≤ x2) {x3 : Nat} (n3 : b ≤ x3) (c : Below b w W → b ≤ x1 → b ≤ x2 → b ≤ x3 → Below b w W' := by intro h n1 n2 n3; repeat (first | (with_reducible first | apply below_alloc | apply pw_below_drewN | apply below_drew1 | refine below_set ?_ n1 | refine below_set ?_ n2 | refine below_set ?_ n3 | exact h) | exact h)) : Below b w W' := c h n1 n2 n3
theorem bl4 {b : Nat} {w W W' : World} (h : Below b w W) {x1 : Nat} (n1 : b ≤ x1) {x2 : Nat} (n2 : b ≤ x2) {x3 : Nat} (n3 : b ≤ x3) {x4 : Nat} (n4 : b ≤ x4) (c : Below b w W → b ≤ x1 → b ≤ x2 → b ≤ x3 → b ≤ x4 → Below b w W' := by intro h n1 n2 n3 n4; repeat (first | (with_reducible first | apply below_alloc | apply pw_below_drewN | apply below_drew1 | refine below_set ?_ n1 | refine below_set ?_ n2 | refine below_set ?_ n3 | refine below_set ?_ n4 | exact h) | exact h)) : Below b w W' := c h n1 n2 n3 n4
theorem bl5 {b : Nat} {w W W' : World} (h : Below b w W) {x1 : Nat} (n1 : b ≤ x1) {x2 : Nat} (n2 : b ≤ x2) {x3 : Nat} (n3 : b ≤ x3) {x4 : Nat} (n4 : b ≤ x4) {x5 : Nat} (n5 : b ≤ x5) (c : Below b w W → b ≤ x1 → b ≤ x2 → b ≤ x3 → b ≤ x4 → b ≤ x5 → Below b w W' := by intro h n1 n2 n3 n4 n5; repeat (first | (with_reducible first | apply below_alloc | apply pw_below_drewN | apply below_drew1 | refine below_set ?_ n1 | refine below_set ?_ n2 | refine below_set ?_ n3 | refine below_set ?_ n4 | refine below_set ?_ n5 | exact h) | exact h)) : Below b w W' := c h n1 n2 n3 n4 n5
theorem bl6 {b : Nat} {w W W' : World} (h : Below b w W) {x1 : Nat} (n1 : b ≤ x1) {x2 : Nat} (n2 : b ≤ x2) {x3 : Nat} (n3 : b ≤ x3) {x4 : Nat} (n4 : b ≤ x4) {x5 : Nat} (n5 : b ≤ x5) {x6 : Nat} (n6 : b ≤ x6) (c : Below b w W → b ≤ x1 → b ≤ x2 → b ≤ x3 → b ≤ x4 → b ≤ x5 → b ≤ x6 → Below b w W' := by intro h n1 n2 n3 n4 n5 n6; repeat (first | (with_reducible first | apply below_alloc | apply pw_below_drewN | apply below_drew1 | refine below_set ?_ n1 | refine below_set ?_ n2 | refine below_set ?_ n3 | refine below_set ?_ n4 | refine below_set ?_ n5 | refine below_set ?_ n6 | exact h) | exact h)) : Below b w W' := c h n1 n2 n3 n4 n5 n6
theorem kb0 {w W W' : World} {g : Nat} {r : Option Nat} (h : KeepBut w W g r) (c : KeepBut w W g r → KeepBut w W' g r := by intro h; repeat (first | (with_reducible first | apply KeepBut.set_ | apply keep_drewN | apply keep_drew | apply keep_alloc | exact h) | exact h)) : KeepBut w W' g r := c h
theorem kb1 {w W W' : World} {g : Nat} {r : Option Nat} (h : KeepBut w W g r) {x1 : Nat} (n1 : w.heap.size ≤ x1) (c : KeepBut w W g r → w.heap.size ≤ x1 → KeepBut w W' g r := by intro h n1; repeat (first | (with_reducible first | apply KeepBut.set_ | apply keep_drewN | apply keep_drew | apply keep_alloc | refine keep_far ?_ n1 _ | exact h) | exact h)) : KeepBut w W' g r := c h n1
theorem kb2 {w W W' : World} {g : Nat} {r : Option Nat} (h : KeepBut w W g r) {x1 : Nat} (n1 : w.heap.size ≤ x1) {x2 : Nat} (n2 : w.heap.size ≤ x2) (c : KeepBut w W g r → w.heap.size ≤ x1 → w.heap.size ≤ x2 → KeepBut w W' g r := by intro h n1 n2; repeat (first | (with_reducible first | apply KeepBut.set_ | apply keep_drewN | apply keep_drew | apply keep_alloc | refine keep_far ?_ n1 _ | refine keep_far ?_ n2 _ | exact h) | exact h)) : KeepBut w W' g r := c h n1 n2
theorem kb3 {w W W' : World} {g : Nat} {r : Option Nat} (h : KeepBut w W g r) {x1 : Nat} (n1 : w.heap.size ≤ x1) {x2 : Nat} (n2 : w.heap.size ≤ x2) {x3 : Nat} (n3 : w.heap.size ≤ x3) (c : KeepBut w W g r → w.heap.size ≤ x1 → w.heap.size ≤ x2 → w.heap.size ≤ x3 → KeepBut w W' g r := by intro h n1 n2 n3; repeat (first | (with_reducible first | apply KeepBut.set_ | apply keep_drewN | apply keep_drew | apply keep_alloc | refine keep_far ?_ n1 _ | refine keep_far ?_ n2 _ | refine keep_far ?_ n3 _ | exact h) | exact h)) : KeepBut w W' g r := c h n1 n2 n3
theorem kb4 {w W W' : World} {g : Nat} {r : Option Nat} (h : KeepBut w W g r) {x1 : Nat} (n1 : w.heap.size ≤ x1) {x2 : Nat} (n2 : w.heap.size ≤ x2) {x3 : Nat} (n3 : w.heap.size ≤ x3) {x4 : Nat} (n4 : w.heap.size ≤ x4) (c : KeepBut w W g r → w.heap.size ≤ x1 → w.heap.size ≤ x2 → w.heap.size ≤ x3 → w.heap.size ≤ x4 → KeepBut w W' g r := by intro h n1 n2 n3 n4; repeat (first | (with_reducible first | apply KeepBut.set_ | apply keep_drewN | apply keep_drew | apply keep_alloc | refine keep_far ?_ n1 _ | refine keep_far ?_ n2 _ | refine keep_far ?_ n3 _ | refine keep_far ?_ n4 _ | exact h) | exact h)) : KeepBut w W' g r := c h n1 n2 n3 n4
theorem kb5 {w W W' : World} {g : Nat} {r : Option Nat} (h : KeepBut w W g r) {x1 : Nat} (n1 : w.heap.size ≤ x1) {x2 : Nat} (n2 : w.heap.size ≤ x2) {x3 : Nat} (n3 : w.heap.size ≤ x3) {x4 : Nat} (n4 : w.heap.size ≤ x4) {x5 : Nat} (n5 : w.heap.size ≤ x5) (c : KeepBut w W g r → w.heap.size ≤ x1 → w.heap.size ≤ x2 → w.heap.size ≤ x3 → w.heap.size ≤ x4 → w.heap.size ≤ x5 → KeepBut w W' g r := by intro h n1 n2 n3 n4 n5; repeat (first | (with_reducible first | apply KeepBut.set_ | apply keep_drewN | apply keep_drew | apply keep_alloc | refine keep_far ?_ n1 _ | refine keep_far ?_ n2 _ | refine keep_far ?_ n3 _ | refine keep_far ?_ n4 _ | refine keep_far ?_ n5 _ | exact h) | exact h)) : KeepBut w W' g r := c h n1 n2 n3 n4 n5
theorem kb6 {w W W' : World} {g : Nat} {r : Option Nat} (h : KeepBut w W g r) {x1 : Nat} (n1 : w.heap.size ≤ x1) {x2 : Nat} (n2 : w.heap.size ≤ x2) {x3 : Nat} (n3 : w.heap.size ≤ x3) {x4 : Nat} (n4 : w.heap.size ≤ x4) {x5 : Nat} (n5 : w.heap.size ≤ x5) {x6 : Nat} (n6 : w.heap.size ≤ x6) (c : KeepBut w W g r → w.heap.size ≤ x1 → w.heap.size ≤ x2 → w.heap.size ≤ x3 → w.heap.size ≤ x4 → w.heap.size ≤ x5 → w.heap.size ≤ x6 → KeepBut w W' g r := by intro h n1 n2 n3 n4 n5 n6; repeat (first | (with_reducible first | apply KeepBut.set_ | apply keep_drewN | apply keep_drew | apply keep_alloc | refine keep_far ?_ n1 _ | refine keep_far ?_ n2 _ | refine keep_far ?_ n3 _ | refine keep_far ?_ n4 _ | refine keep_far ?_ n5 _ | refine keep_far ?_ n6 _ | exact h) | exact h)) : KeepBut w W' g r := c h n1 n2 n3 n4 n5 n6
theorem rqR {α : Type} {d : Kd α} {e : Nat} {b : Nat} {ok : Nat → Prop} {v : Value} {xs : List α} {W W' : World} (h : Kd.R d e W b ok v xs) (c : Kd.R d e W b ok v xs → Kd.R d e W' b ok v xs := by intro h; (with_reducible repeat (first | apply Kd.R_alloc | apply Kd.R_drewN | apply Kd.R_drew)); exact h) : Kd.R d e W' b ok v xs := c h
theorem rqV {α : Type} {d : Kd α} {e : Nat} {b : Nat} {ok : Nat → Prop} {v : Value} {xs : List α} {W W' : World} (h : Kd.V d e W b ok v xs) (c : Kd.V d e W b ok v xs → Kd.V d e W' b ok v xs := by intro h; (with_reducible repeat (first | apply Kd.V_alloc | apply Kd.V_drewN | apply Kd.V_drew)); exact h) : Kd.V d e W' b ok v xs := c h
theorem pt {α : Type} {a b : α} (c : a = b := by simp only [Act.put, List.setIfInBounds_toArray, List.set_cons_zero, List.set_cons_succ, i64_w, i32_w]; rfl) : a = b := c
theorem gs {p : World → Prop} (c : ∀ w', p w' := by intro w'; go_simp; with_reducible rfl) : ∀ w', p w' := c
theorem lnp {P : Prop} (c : P := by (try simp only [List.map_toArray, List.map_cons, List.map_nil]); first | done | rfl | (simp only [List.length_drop, List.length_take]; rfl)) : P := c
theorem er {P : Prop} (c : P := by first | rfl | (simp [errW_none, errW_some] <;> rfl) | (simp [*, errW_none, errW_some] <;> rfl)) : P := c
theorem nl {W : World} {g x : Nat} {o : Obj} (hg : x = W.heap.size) (h : W.heap[g]? = some o) : g ≠ x := by rw [hg]; exact Nat.ne_of_lt (blk_lt h)
theorem ng {W : World} {g x : Nat} {o : Obj} (hg : x = W.heap.size) (h : W.heap[g]? = some o) : x ≠ g := by rw [hg]; exact Nat.ne_of_gt (blk_lt h)
theorem bc {W : World} {g : Nat} {t : TypeId} {cs : Array Value} (h : W.heap[g]? = some (.cells cs t (0, 0))) (i : Nat) (v : Value) (e : cs[i]? = some v := by rfl) : W.cell? ⟨g, i, none⟩ = some v := (blk_cell h i).trans e
theorem cs2 {W : World} {g : Nat} {t : TypeId} {a0 a1 : Value} (h : W.heap[g]? = some (.cells #[a0, a1] t (0, 0))) : W.cell? ⟨g, 0, none⟩ = some a0 ∧ W.cell? ⟨g, 1, none⟩ = some a1 ∧ W.frozen? ⟨g, 0, none⟩ = false ∧ W.frozen? ⟨g, 1, none⟩ = false := ⟨(blk_cell h 0).trans rfl, (blk_cell h 1).trans rfl, blk_frozen h 0, blk_frozen h 1⟩
theorem cs3 {W : World} {g : Nat} {t : TypeId} {a0 a1 a2 : Value} (h : W.heap[g]? = some (.cells #[a0, a1, a2] t (0, 0))) : W.cell? ⟨g, 0, none⟩ = some a0 ∧ W.cell? ⟨g, 1, none⟩ = some a1 ∧ W.cell? ⟨g, 2, none⟩ = some a2 ∧ W.frozen? ⟨g, 0, none⟩ = false ∧ W.frozen? ⟨g, 1, none⟩ = false ∧ W.frozen? ⟨g, 2, none⟩ = false := ⟨(blk_cell h 0).trans rfl, (blk_cell h 1).trans rfl, (blk_cell h 2).trans rfl, blk_frozen h 0, blk_frozen h 1, blk_frozen h 2⟩
theorem cs4 {W : World} {g : Nat} {t : TypeId} {a0 a1 a2 a3 : Value} (h : W.heap[g]? = some (.cells #[a0, a1, a2, a3] t (0, 0))) : W.cell? ⟨g, 0, none⟩ = some a0 ∧ W.cell? ⟨g, 1, none⟩ = some a1 ∧ W.cell? ⟨g, 2, none⟩ = some a2 ∧ W.cell? ⟨g, 3, none⟩ = some a3 ∧ W.frozen? ⟨g, 0, none⟩ = false ∧ W.frozen? ⟨g, 1, none⟩ = false ∧ W.frozen? ⟨g, 2, none⟩ = false ∧ W.frozen? ⟨g, 3, none⟩ = false := ⟨(blk_cell h 0).trans rfl, (blk_cell h 1).trans rfl, (blk_cell h 2).trans rfl, (blk_cell h 3).trans rfl, blk_frozen h 0, blk_frozen h 1, blk_frozen h 2, blk_frozen h 3⟩
theorem cs5 {W : World} {g : Nat} {t : TypeId} {a0 a1 a2 a3 a4 : Value} (h : W.heap[g]? = some (.cells #[a0, a1, a2, a3, a4] t (0, 0))) : W.cell? ⟨g, 0, none⟩ = some a0 ∧ W.cell? ⟨g, 1, none⟩ = some a1 ∧ W.cell? ⟨g, 2, none⟩ = some a2 ∧ W.cell? ⟨g, 3, none⟩ = some a3 ∧ W.cell? ⟨g, 4, none⟩ = some a4 ∧ W.frozen? ⟨g, 0, none⟩ = false ∧ W.frozen? ⟨g, 1, none⟩ = false ∧ W.frozen? ⟨g, 2, none⟩ = false ∧ W.frozen? ⟨g, 3, none⟩ = false ∧ W.frozen? ⟨g, 4, none⟩ = false := ⟨(blk_cell h 0).trans rfl, (blk_cell h 1).trans rfl, (blk_cell h 2).trans rfl, (blk_cell h 3).trans rfl, (blk_cell h 4).trans rfl, blk_frozen h 0, blk_frozen h 1, blk_frozen h 2, blk_frozen h 3, blk_frozen h 4⟩
theorem cs6 {W : World} {g : Nat} {t : TypeId} {a0 a1 a2 a3 a4 a5 : Value} (h : W.heap[g]? = some (.cells #[a0, a1, a2, a3, a4, a5] t (0, 0))) : W.cell? ⟨g, 0, none⟩ = some a0 ∧ W.cell? ⟨g, 1, none⟩ = some a1 ∧ W.cell? ⟨g, 2, none⟩ = some a2 ∧ W.cell? ⟨g, 3, none⟩ = some a3 ∧ W.cell? ⟨g, 4, none⟩ = some a4 ∧ W.cell? ⟨g, 5, none⟩ = some a5 ∧ W.frozen? ⟨g, 0, none⟩ = false ∧ W.frozen? ⟨g, 1, none⟩ = false ∧ W.frozen? ⟨g, 2, none⟩ = false ∧ W.frozen? ⟨g, 3, none⟩ = false ∧ W.frozen? ⟨g, 4, none⟩ = false ∧ W.frozen? ⟨g, 5, none⟩ = false := ⟨(blk_cell h 0).trans rfl, (blk_cell h 1).trans rfl, (blk_cell h 2).trans rfl, (blk_cell h 3).trans rfl, (blk_cell h 4).trans rfl, (blk_cell h 5).trans rfl, blk_frozen h 0, blk_frozen h 1, blk_frozen h 2, blk_frozen h 3, blk_frozen h 4, blk_frozen h 5⟩
theorem gw {w W : World} {x : Nat} (hg : x = W.heap.size) (h : Below w.heap.size w W) : w.heap.size ≤ x := by rw [hg]; exact below_size h
theorem am {p : Prop} (h : p) : Aside0 p := ⟨h⟩
theorem bz {W : World} {g : Nat} {t : TypeId} {cs : Array Value} (h : W.heap[g]? = some (.cells cs t (0, 0))) (i : Nat) : W.frozen? ⟨g, i, none⟩ = false := blk_frozen h i
-- the values' own types
def rd_L2 (xs : List (List Int)) (i : Int) : (List Int) := xs.getD i.toNat ([] : List Int)
theorem at_L2 {w : World} {A : Option Addr} {n : Nat} {xs : List (List Int)} (h : Kd.C (Kd.slice 2 (Kd.int .i64)) w A n xs) (i : Int) (h0 : 0 ≤ i) (h1 : i < n) : ∃ ad A0 c0, A = some ad ∧ w.cell? (ad.add i.toNat) = some (.slice A0 (rd_L2 xs i).length c0) ∧ (rd_L2 xs i).length ≤ c0 ∧ (Kd.int .i64).C w A0 (rd_L2 xs i).length (rd_L2 xs i) := by
 obtain ⟨ad, c, e, _, hK, hc0⟩ := Kd.C_get h ([] : List Int) i h0 h1
 have hc : ∀ j u, c[j]? = some u → w.cell? (ad.add (i.toNat * 1 + j)) = some u := hc0
 obtain ⟨A0, c0, rfl, l0, g0⟩ := hK
 exact ⟨ad, A0, c0, e, by have hq := hc 0 _ rfl; rwa [Nat.mul_one, Nat.add_zero] at hq, l0, g0⟩

end Go.Proofs.YtfijcffhkobhbaaDoor.PFnDiagnosed
