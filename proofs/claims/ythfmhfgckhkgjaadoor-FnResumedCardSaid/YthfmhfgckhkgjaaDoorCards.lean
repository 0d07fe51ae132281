/-
  DERIVED. GIVEN WITH THE SEED: THE CARDS: each row of YthfmhfgckhkgjaaDoorRows.lean that lists a variable, with what it lists TIED to the program's text (the seventh form; the later family's looks); each row that meets fmt, with fmt's text TOLD by the authors' own Lean function (tested against real Go, not proved from fmt's source: count such statements apart). THE CARD IS WHAT COUNTS. Prove the row's statement (the work); the ties are given (YthfmhfgckhkgjaaDoorTie.lean); close each card by the builder's one call (the guide's Derived/Test/ToyasCard.lean, 'card_holds'). Laid BY PROGRAM, IN A SANDBOX (cutbox-door.mjs). By AI agents, Wed Nov 11 2026. No macro, syntax, notation, axiom, sorry.
-/
import Derived.Test.YthfmhfgckhkgjaaDoorRows
import GoSem.ClaimSeven
namespace Go.Proofs.YthfmhfgckhkgjaaDoor
namespace Rows

/-- THE TIED CARD OF 'laws.FnResumed'. -/
def fnResumedCard : Claim7 := { stood := { row := fnResumedRow, standIns := [], harness := (true, "eec76fb4410c163dbef7b21c803eefc164dc587813a7db92c219fdf503efb9c4"), looks := true }, kinds := [], alts := [], laidByText := true, laidKinds := [.data, .data, .data, .data, .sentinel, .sentinel, .pinned], laidTests := true, laidLooks := .later }
def FnResumedCardSaid : Prop := Claim7.holds Tryd.pinned (.plain (OpenSpec.ofChange fnResumedSpec)) fnResumedCard

/-- THE SECOND FORM's CARD OF 'laws.FnResumed'. -/
def fnResumedUptoCard : Claim7 := { stood := { row := fnResumedUptoRow, standIns := [], harness := (true, "eec76fb4410c163dbef7b21c803eefc164dc587813a7db92c219fdf503efb9c4"), looks := true }, kinds := [], alts := [], laidByText := true, laidKinds := [.data, .data, .data, .data, .sentinel, .sentinel, .pinned], laidTests := true, laidLooks := .later }
def FnResumedUptoCardSaid : Prop := Claim7.holds Tryd.pinned (.plain (OpenSpec.upto fnResumedSpec)) fnResumedUptoCard
end Rows
end Go.Proofs.YthfmhfgckhkgjaaDoor
