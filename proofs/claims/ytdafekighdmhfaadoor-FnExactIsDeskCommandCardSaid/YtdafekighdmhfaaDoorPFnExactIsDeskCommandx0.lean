-- Laid by wip/mk/mk.py out of the translation. Not trusted: Lean checks it.
import Derived.Test.YtdafekighdmhfaaDoorProg
import Derived.Below
import Derived.Deep.Draws
import Derived.Deep.AppendLies
import Derived.Maps.AppendAt
import Derived.OwnWalk
import Derived.Laws.BytesArg
import Derived.Laws.MakeOwn
import Derived.Laws.OwnMore
import Derived.Deep.OwnRows
import Derived.Tactics
import Derived.Lib.ConvBytes
import Derived.Laws.Slices
import Derived.WalkKit
import Derived.KernelRfl
import Derived.RowKit3
import Derived.Deep.LoopGhost
import Derived.Deep.QuietTactic
import Derived.BigQuiet
import Derived.WideLaws
import Derived.Deep.DeepCutAuto
import Derived.Deep.CutBlock
import Derived.Deep.RegionHeld3
import Derived.Laws.Rows
import Derived.Lib.AppendStr
import Derived.ArgAppend
import Derived.Laws.IdiomCopy
import Derived.OrdersHeld
import Derived.Laws.BitsLemmas
import Derived.RowKit
import Derived.FnData
import Derived.Lib.AppendIntMem
import Derived.Lib.LaidTab
import Derived.Lib.SplitLaws
import Derived.Shelf.Strings.Prefix
import Derived.Test.YtdafekighdmhfaaDoorShelf
import Derived.WalkSmall
import Derived.Test.YtdafekighdmhfaaDoorWWords
import Derived.Test.YtdafekighdmhfaaDoorWLast
import Derived.Test.YtdafekighdmhfaaDoorWTab
import Derived.Test.YtdafekighdmhfaaDoorWFour
import Derived.Test.YtdafekighdmhfaaDoorWQPut
import Derived.Test.YtdafekighdmhfaaDoorWApart
import Derived.Test.YtdafekighdmhfaaDoorWArr
import Derived.Test.YtdafekighdmhfaaDoorWZeros
import Derived.Test.YtdafekighdmhfaaDoorWFoot
import Derived.Test.YtdafekighdmhfaaDoorWKept
import Derived.Test.YtdafekighdmhfaaDoorWShare
import Derived.Test.YtdafekighdmhfaaDoorWN
import Derived.Test.YtdafekighdmhfaaDoorWFootNe
import Derived.Test.YtdafekighdmhfaaDoorWAt
import Derived.Test.YtdafekighdmhfaaDoorWEqStruct
import Derived.Test.YtdafekighdmhfaaDoorWRepsOne
import Derived.Test.YtdafekighdmhfaaDoorWInv
import Derived.Test.YtdafekighdmhfaaDoorWInvWords
import Derived.Test.YtdafekighdmhfaaDoorWGuard
import Derived.Test.YtdafekighdmhfaaDoorWNEv
import Derived.Test.YtdafekighdmhfaaDoorWMore
namespace Go.Proofs.YtdafekighdmhfaaDoor.PFnExactIsDeskCommand
open Go.RowKit Go.Proofs.YtdafekighdmhfaaDoorW.PrintWords Go.Proofs.YtdafekighdmhfaaDoorW.PrintLast Go.Proofs.YtdafekighdmhfaaDoorW.PrintMore
attribute [local go_sem] max2_int min2_int max_two min_two max_three min_three max_four min_four   -- for this text's walks alone
set_option linter.unusedVariables false
set_option linter.unusedSimpArgs false



def errW : Option Int → Value
  | none => .nilIface
  | some c => .iface 0 (.int .i64 c)
theorem errW_none : errW none = .nilIface := rfl
theorem errW_some (c : Int) : errW (some c) = .iface 0 (.int .i64 c) := rfl

theorem info2 : (Tryd.prog.info? 2).map (fun i => (i.zero, i.size, i.bytes)) = some (some (.int .i64 0), 1, 8) := by kernel_rfl
theorem info5 : (Tryd.prog.info? 5).map (fun i => (i.zero, i.size, i.bytes)) = some (some (.int .u8 0), 1, 1) := by kernel_rfl
theorem info9 : (Tryd.prog.info? 9).map (fun i => (i.zero, i.size, i.bytes)) = some (some (.string ⟨#[]⟩), 1, 16) := by kernel_rfl
theorem Gl.var {w w' : World} {n : String} {g : Nat} {cs : Array Value} {v : Value} (hg : Tryd.prog.globalNamed n = some g) (hv : w.var? Tryd.prog n = some cs) (h0 : cs[0]? = some v) (hb : Below w.heap.size w w') : w'.var? Tryd.prog n = some cs :=
  var?_below hb hg (World.block_lt_of_cell? w ⟨g, 0, Option.none⟩ ((World.var?_cell hg hv 0).trans h0)) hv
/-- What the library's contracts ask of the package variables. -/
def Gl (w : World) : Prop := (∃ m : Int, w.cell? ⟨0, 0, Option.none⟩ = some (.int .i64 m)) ∧ (Lib.TabIs Tryd.prog w "internal/strconv.uint64pow10" .u64 Lib.pow10Tab) ∧ (∃ t p, w.var? Tryd.prog "strconv.ErrSyntax" = some #[.iface t p]) ∧ (∃ t p, w.var? Tryd.prog "strconv.ErrRange" = some #[.iface t p])
theorem Gl.below {w w' : World} (h : Gl w) (hb : Below w.heap.size w w') : Gl w' := by
  obtain ⟨h0, h1, h2, h3⟩ := h
  exact ⟨(h0.imp fun _ h => (hb.cell (World.block_lt_of_cell? w _ h)).trans h), (Gl.var (g := 5) (by kernel_rfl) h1 rfl hb), (h2.imp fun _ h => h.imp fun _ h => Gl.var (g := 1) (by kernel_rfl) h rfl hb), (h3.imp fun _ h => h.imp fun _ h => Gl.var (g := 2) (by kernel_rfl) h rfl hb)⟩
theorem castCalls {P : Program} {f : Nat} {a b : Array Value} {w : World} {Q R : Ending → World → Prop} (h : a = b) (H : Calls P f b w Q) (m : ∀ e w', Q e w' → R e w') : Calls P f a w R := by
  subst h
  exact H.mono m
-- the values' own types
def rd_L3 (xs : List (List ByteArray)) (i : Int) : (List ByteArray) := xs.getD i.toNat ([] : List ByteArray)
theorem at_L3 {w : World} {A : Option Addr} {n : Nat} {xs : List (List ByteArray)} (h : Kd.C (Kd.slice 9 Kd.string) w A n xs) (i : Int) (h0 : 0 ≤ i) (h1 : i < n) : ∃ ad A0 c0, A = some ad ∧ w.cell? (ad.add i.toNat) = some (.slice A0 (rd_L3 xs i).length c0) ∧ (rd_L3 xs i).length ≤ c0 ∧ Kd.string.C w A0 (rd_L3 xs i).length (rd_L3 xs i) := by
  obtain ⟨ad, c, e, _, hK, hc0⟩ := Kd.C_get h ([] : List ByteArray) i h0 h1
  have hc : ∀ j u, c[j]? = some u → w.cell? (ad.add (i.toNat * 1 + j)) = some u := hc0
  obtain ⟨A0, c0, rfl, l0, g0⟩ := hK
  exact ⟨ad, A0, c0, e, by have hq := hc 0 _ rfl; rwa [Nat.mul_one, Nat.add_zero] at hq, l0, g0⟩

end Go.Proofs.YtdafekighdmhfaaDoor.PFnExactIsDeskCommand
