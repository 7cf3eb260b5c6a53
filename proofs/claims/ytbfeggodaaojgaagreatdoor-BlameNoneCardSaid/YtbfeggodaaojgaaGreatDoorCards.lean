/-
  DERIVED. GIVEN WITH THE SEED: THE CARDS: each row of YtbfeggodaaojgaaGreatDoorRows.lean that lists a variable, with what it lists TIED to the program's text (the seventh form; the later family's looks); each row that meets fmt, with fmt's text TOLD by the authors' own Lean function (tested against real Go, not proved from fmt's source: count such statements apart). THE CARD IS WHAT COUNTS. Prove the row's statement (the work); the ties are given (YtbfeggodaaojgaaGreatDoorTie.lean); close each card by the builder's one call (the guide's Derived/Test/ToyasCard.lean, 'card_holds'). Laid BY PROGRAM, IN A SANDBOX (cutbox-door.mjs). By AI agents, Wed Nov 11 2026. No macro, syntax, notation, axiom, sorry.
-/
import Derived.Test.YtbfeggodaaojgaaGreatDoorRows
import GoSem.ClaimSeven
namespace Go.Proofs.YtbfeggodaaojgaaGreatDoor
namespace Rows

/-- THE TIED CARD OF 'cocyclelaw23.BlameNone'. -/
def blameNoneCard : Claim7 := { stood := { row := blameNoneRow, standIns := [], harness := (true, "f05792f2a6e158c30a7273ada41acbb8f6255abedcb28992a8325faebb81816c"), looks := true }, kinds := [], alts := [], laidByText := true, laidKinds := [.data, .pinned], laidTests := true, laidLooks := .later }
def BlameNoneCardSaid : Prop := Claim7.holds Tryz.pinned (.plain (OpenSpec.ofChange blameNoneSpec)) blameNoneCard

/-- THE SECOND FORM's CARD OF 'cocyclelaw23.BlameNone'. -/
def blameNoneUptoCard : Claim7 := { stood := { row := blameNoneUptoRow, standIns := [], harness := (true, "f05792f2a6e158c30a7273ada41acbb8f6255abedcb28992a8325faebb81816c"), looks := true }, kinds := [], alts := [], laidByText := true, laidKinds := [.data, .pinned], laidTests := true, laidLooks := .later }
def BlameNoneUptoCardSaid : Prop := Claim7.holds Tryz.pinned (.plain (OpenSpec.upto blameNoneSpec)) blameNoneUptoCard
end Rows
end Go.Proofs.YtbfeggodaaojgaaGreatDoor
