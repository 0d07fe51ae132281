-- Laid by wip/mk/mk.py out of the translation. Not trusted: Lean checks it.
import Derived.Test.YtbpmnjjmdgphhaaDoorProg
import Derived.Below
import Derived.Deep.Draws
import Derived.Deep.AppendLies
import Derived.Maps.AppendAt
import Derived.OwnWalk
import Derived.Laws.BytesArg
import Derived.Laws.MakeOwn
import Derived.Laws.OwnMore
import Derived.Deep.OwnRows
import Derived.Tactics
import Derived.Lib.ConvBytes
import Derived.Laws.Slices
import Derived.WalkKit
import Derived.KernelRfl
import Derived.RowKit3
import Derived.Deep.LoopGhost
import Derived.Deep.QuietTactic
import Derived.BigQuiet
import Derived.WideLaws
import Derived.Deep.DeepCutAuto
import Derived.Deep.CutBlock
import Derived.Deep.RegionHeld3
import Derived.Laws.Rows
import Derived.Lib.AppendStr
import Derived.ArgAppend
import Derived.Laws.IdiomCopy
import Derived.OrdersHeld
import Derived.Laws.BitsLemmas
import Derived.RowKit
import Derived.FnData
import Derived.Lib.AppendIntMem
import Derived.Lib.LaidTab
import Derived.Lib.SplitLaws
import Derived.Test.YtbpmnjjmdgphhaaDoorShelf
import Derived.WalkSmall
import Derived.Test.YtbpmnjjmdgphhaaDoorWWords
import Derived.Test.YtbpmnjjmdgphhaaDoorWLast
import Derived.Test.YtbpmnjjmdgphhaaDoorWTab
import Derived.Test.YtbpmnjjmdgphhaaDoorWFour
import Derived.Test.YtbpmnjjmdgphhaaDoorWQPut
import Derived.Test.YtbpmnjjmdgphhaaDoorWApart
import Derived.Test.YtbpmnjjmdgphhaaDoorWArr
import Derived.Test.YtbpmnjjmdgphhaaDoorWZeros
import Derived.Test.YtbpmnjjmdgphhaaDoorWFoot
import Derived.Test.YtbpmnjjmdgphhaaDoorWKept
import Derived.Test.YtbpmnjjmdgphhaaDoorWShare
import Derived.Test.YtbpmnjjmdgphhaaDoorWN
import Derived.Test.YtbpmnjjmdgphhaaDoorWFootNe
import Derived.Test.YtbpmnjjmdgphhaaDoorWAt
import Derived.Test.YtbpmnjjmdgphhaaDoorWEqStruct
import Derived.Test.YtbpmnjjmdgphhaaDoorWRepsOne
import Derived.Test.YtbpmnjjmdgphhaaDoorWInv
import Derived.Test.YtbpmnjjmdgphhaaDoorWInvWords
import Derived.Test.YtbpmnjjmdgphhaaDoorWGuard
import Derived.Test.YtbpmnjjmdgphhaaDoorWNEv
import Derived.Test.YtbpmnjjmdgphhaaDoorWMore
namespace Go.Proofs.YtbpmnjjmdgphhaaDoor.PFnExactResumeJob
open Go.RowKit Go.Proofs.YtbpmnjjmdgphhaaDoorW.PrintWords Go.Proofs.YtbpmnjjmdgphhaaDoorW.PrintLast Go.Proofs.YtbpmnjjmdgphhaaDoorW.PrintMore
attribute [local go_sem] max2_int min2_int max_two min_two max_three min_three max_four min_four   -- for this text's walks alone
set_option linter.unusedVariables false
set_option linter.unusedSimpArgs false



def errW : Option Int → Value
  | none => .nilIface
  | some c => .iface 0 (.int .i64 c)
theorem errW_none : errW none = .nilIface := rfl
theorem errW_some (c : Int) : errW (some c) = .iface 0 (.int .i64 c) := rfl

theorem info2 : (Tryd.prog.info? 2).map (fun i => (i.zero, i.size, i.bytes)) = some (some (.int .i64 0), 1, 8) := by kernel_rfl
theorem info5 : (Tryd.prog.info? 5).map (fun i => (i.zero, i.size, i.bytes)) = some (some (.int .u8 0), 1, 1) := by kernel_rfl
theorem info9 : (Tryd.prog.info? 9).map (fun i => (i.zero, i.size, i.bytes)) = some (some (.string ⟨#[]⟩), 1, 16) := by kernel_rfl
theorem info37 : (Tryd.prog.info? 37).map (fun i => (i.zero, i.size, i.bytes)) = some (some (.agg #[(.int .i64 0), (.int .i64 0)]), 2, 16) := by kernel_rfl
theorem Gl.var {w w' : World} {n : String} {g : Nat} {cs : Array Value} {v : Value} (hg : Tryd.prog.globalNamed n = some g) (hv : w.var? Tryd.prog n = some cs) (h0 : cs[0]? = some v) (hb : Below w.heap.size w w') : w'.var? Tryd.prog n = some cs :=
  var?_below hb hg (World.block_lt_of_cell? w ⟨g, 0, Option.none⟩ ((World.var?_cell hg hv 0).trans h0)) hv
/-- What the library's contracts ask of the package variables. -/
def Gl (w : World) : Prop := (∃ m : Int, w.cell? ⟨0, 0, Option.none⟩ = some (.int .i64 m)) ∧ (Lib.TabIs Tryd.prog w "internal/strconv.uint64pow10" .u64 Lib.pow10Tab) ∧ (∃ t p, w.var? Tryd.prog "strconv.ErrSyntax" = some #[.iface t p]) ∧ (∃ t p, w.var? Tryd.prog "strconv.ErrRange" = some #[.iface t p])
theorem Gl.below {w w' : World} (h : Gl w) (hb : Below w.heap.size w w') : Gl w' := by
  obtain ⟨h0, h1, h2, h3⟩ := h
  exact ⟨(h0.imp fun _ h => (hb.cell (World.block_lt_of_cell? w _ h)).trans h), (Gl.var (g := 5) (by kernel_rfl) h1 rfl hb), (h2.imp fun _ h => h.imp fun _ h => Gl.var (g := 1) (by kernel_rfl) h rfl hb), (h3.imp fun _ h => h.imp fun _ h => Gl.var (g := 2) (by kernel_rfl) h rfl hb)⟩
theorem castCalls {P : Program} {f : Nat} {a b : Array Value} {w : World} {Q R : Ending → World → Prop} (h : a = b) (H : Calls P f b w Q) (m : ∀ e w', Q e w' → R e w') : Calls P f a w R := by
  subst h
  exact H.mono m
-- the values' own types
/-! #### struct type 37 -/
structure S37 where
  f0 : Int
  f1 : Int
def z37 : S37 := ⟨(0 : Int), (0 : Int)⟩
def k37 : Kd S37 := Kd.iso (Kd.pair (Kd.int .i64) (Kd.int .i64)) (fun x : S37 => (x.f0, x.f1))
theorem k37_open {w : World} {x : S37} {cs : List Value} (h : k37.K w x cs) : cs = [.int .i64 x.f0, .int .i64 x.f1] := by
  obtain ⟨_, _, rfl, rfl, rfl⟩ := h
  exact rfl
theorem k37_openM {w : World} {base : Nat} {ok : Nat → Prop} {x : S37} {cs : List Value} (h : k37.M w base ok x cs) : cs = [.int .i64 x.f0, .int .i64 x.f1] := by
  obtain ⟨_, _, rfl, rfl, rfl⟩ := h
  exact rfl
theorem k37_mk (w : World) (x : S37)  : k37.K w x [.int .i64 x.f0, .int .i64 x.f1] := ⟨[.int .i64 x.f0], [.int .i64 x.f1], rfl, rfl, rfl⟩
theorem k37_mkM (w : World) (base : Nat) (ok : Nat → Prop) (x : S37)  : k37.M w base ok x [.int .i64 x.f0, .int .i64 x.f1] := ⟨[.int .i64 x.f0], [.int .i64 x.f1], rfl, rfl, rfl⟩
theorem k37_mkF (W : World) (ok : Nat → Prop) (x : S37) : Kd.FK k37 W ok x [.int .i64 x.f0, .int .i64 x.f1] := fun W2 _ => k37_mk W2 x
def rd_T37 (xs : List S37) (i : Int) : S37 := xs.getD i.toNat z37
theorem at_T37 {w : World} {A : Option Addr} {n : Nat} {xs : List S37} (h : Kd.C k37 w A n xs) (i : Int) (h0 : 0 ≤ i) (h1 : i < n) : ∃ ad , A = some ad ∧ w.cell? (ad.add (i.toNat * 2)) = some (.int .i64 (rd_T37 xs i).f0) ∧ w.cell? ⟨(ad.add (i.toNat * 2)).block, (ad.add (i.toNat * 2)).off + 1, none⟩ = some (.int .i64 (rd_T37 xs i).f1) := by
  obtain ⟨ad, c, e, _, hK, hc0⟩ := Kd.C_get h z37 i h0 h1
  have hc : ∀ j u, c[j]? = some u → w.cell? (ad.add (i.toNat * 2 + j)) = some u := hc0
  obtain rfl := k37_open hK
  exact ⟨ad, e, hc 0 _ rfl, by rw [← add_field _ _ 1 (by omega)]; exact hc 1 _ rfl⟩

def rd_L4 (xs : List (List ByteArray)) (i : Int) : (List ByteArray) := xs.getD i.toNat ([] : List ByteArray)
theorem at_L4 {w : World} {A : Option Addr} {n : Nat} {xs : List (List ByteArray)} (h : Kd.C (Kd.slice 9 Kd.string) w A n xs) (i : Int) (h0 : 0 ≤ i) (h1 : i < n) : ∃ ad A0 c0, A = some ad ∧ w.cell? (ad.add i.toNat) = some (.slice A0 (rd_L4 xs i).length c0) ∧ (rd_L4 xs i).length ≤ c0 ∧ Kd.string.C w A0 (rd_L4 xs i).length (rd_L4 xs i) := by
  obtain ⟨ad, c, e, _, hK, hc0⟩ := Kd.C_get h ([] : List ByteArray) i h0 h1
  have hc : ∀ j u, c[j]? = some u → w.cell? (ad.add (i.toNat * 1 + j)) = some u := hc0
  obtain ⟨A0, c0, rfl, l0, g0⟩ := hK
  exact ⟨ad, A0, c0, e, by have hq := hc 0 _ rfl; rwa [Nat.mul_one, Nat.add_zero] at hq, l0, g0⟩

end Go.Proofs.YtbpmnjjmdgphhaaDoor.PFnExactResumeJob
