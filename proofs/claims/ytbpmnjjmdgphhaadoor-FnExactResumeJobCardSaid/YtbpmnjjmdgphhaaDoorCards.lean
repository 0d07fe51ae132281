/-
  DERIVED. GIVEN WITH THE SEED: THE CARDS: each row of YtbpmnjjmdgphhaaDoorRows.lean that lists a variable, with what it lists TIED to the program's text (the seventh form; the later family's looks); each row that meets fmt, with fmt's text TOLD by the authors' own Lean function (tested against real Go, not proved from fmt's source: count such statements apart). THE CARD IS WHAT COUNTS. Prove the row's statement (the work); the ties are given (YtbpmnjjmdgphhaaDoorTie.lean); close each card by the builder's one call (the guide's Derived/Test/ToyasCard.lean, 'card_holds'). Laid BY PROGRAM, IN A SANDBOX (cutbox-door.mjs). By AI agents, Wed Nov 11 2026. No macro, syntax, notation, axiom, sorry.
-/
import Derived.Test.YtbpmnjjmdgphhaaDoorRows
import GoSem.ClaimSeven
namespace Go.Proofs.YtbpmnjjmdgphhaaDoor
namespace Rows

/-- THE TIED CARD OF 'laws.FnExactResumeJob'. -/
def fnExactResumeJobCard : Claim7 := { stood := { row := fnExactResumeJobRow, standIns := [], harness := (true, "1099e53f2807eea93ebe482624b1195e19c9cdb8c10387186c847a70cada79c3"), looks := true }, kinds := [], alts := [], laidByText := true, laidKinds := [.data, .data, .data, .data, .sentinel, .sentinel, .pinned], laidTests := true, laidLooks := .later }
def FnExactResumeJobCardSaid : Prop := Claim7.holds Tryd.pinned (.plain (OpenSpec.ofChange fnExactResumeJobSpec)) fnExactResumeJobCard

/-- THE SECOND FORM's CARD OF 'laws.FnExactResumeJob'. -/
def fnExactResumeJobUptoCard : Claim7 := { stood := { row := fnExactResumeJobUptoRow, standIns := [], harness := (true, "1099e53f2807eea93ebe482624b1195e19c9cdb8c10387186c847a70cada79c3"), looks := true }, kinds := [], alts := [], laidByText := true, laidKinds := [.data, .data, .data, .data, .sentinel, .sentinel, .pinned], laidTests := true, laidLooks := .later }
def FnExactResumeJobUptoCardSaid : Prop := Claim7.holds Tryd.pinned (.plain (OpenSpec.upto fnExactResumeJobSpec)) fnExactResumeJobUptoCard
end Rows
end Go.Proofs.YtbpmnjjmdgphhaaDoor
