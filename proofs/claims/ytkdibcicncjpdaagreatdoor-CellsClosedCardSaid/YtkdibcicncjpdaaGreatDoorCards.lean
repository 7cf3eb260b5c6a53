/-
  DERIVED. GIVEN WITH THE SEED: THE CARDS: each row of YtkdibcicncjpdaaGreatDoorRows.lean that lists a variable, with what it lists TIED to the program's text (the seventh form; the later family's looks); each row that meets fmt, with fmt's text TOLD by the authors' own Lean function (tested against real Go, not proved from fmt's source: count such statements apart). THE CARD IS WHAT COUNTS. Prove the row's statement (the work); the ties are given (YtkdibcicncjpdaaGreatDoorTie.lean); close each card by the builder's one call (the guide's Derived/Test/ToyasCard.lean, 'card_holds'). Laid BY PROGRAM, IN A SANDBOX (cutbox-door.mjs). By AI agents, Wed Nov 11 2026. No macro, syntax, notation, axiom, sorry.
-/
import Derived.Test.YtkdibcicncjpdaaGreatDoorRows
import GoSem.ClaimSeven
namespace Go.Proofs.YtkdibcicncjpdaaGreatDoor
namespace Rows

/-- THE TIED CARD OF 'cocyclelaw06.CellsSpoiled'. -/
def cellsSpoiledCard : Claim7 := { stood := { row := cellsSpoiledRow, standIns := [], harness := (true, "45ba0e11d175ab82e67e4e45093b06b162f1c5a1c8aff8897be8b5aecdf887bb"), looks := false }, kinds := [], alts := [], laidByText := true, laidKinds := [.data, .pinned], laidTests := true, laidLooks := .later }
def CellsSpoiledCardSaid : Prop := Claim7.holds Tryz.pinned (.plain (OpenSpec.ofChange cellsSpoiledSpec)) cellsSpoiledCard

/-- THE TIED CARD OF 'cocyclelaw06.CellsOrder'. -/
def cellsOrderCard : Claim7 := { stood := { row := cellsOrderRow, standIns := [], harness := (true, "45ba0e11d175ab82e67e4e45093b06b162f1c5a1c8aff8897be8b5aecdf887bb"), looks := false }, kinds := [], alts := [], laidByText := true, laidKinds := [.data, .pinned], laidTests := true, laidLooks := .later }
def CellsOrderCardSaid : Prop := Claim7.holds Tryz.pinned (.plain (OpenSpec.ofChange cellsOrderSpec)) cellsOrderCard

/-- THE TIED CARD OF 'cocyclelaw06.CellsClosed'. -/
def cellsClosedCard : Claim7 := { stood := { row := cellsClosedRow, standIns := [], harness := (true, "45ba0e11d175ab82e67e4e45093b06b162f1c5a1c8aff8897be8b5aecdf887bb"), looks := false }, kinds := [], alts := [], laidByText := true, laidKinds := [.data, .pinned], laidTests := true, laidLooks := .later }
def CellsClosedCardSaid : Prop := Claim7.holds Tryz.pinned (.plain (OpenSpec.ofChange cellsClosedSpec)) cellsClosedCard

/-- THE SECOND FORM's CARD OF 'cocyclelaw06.CellsSpoiled'. -/
def cellsSpoiledUptoCard : Claim7 := { stood := { row := cellsSpoiledUptoRow, standIns := [], harness := (true, "45ba0e11d175ab82e67e4e45093b06b162f1c5a1c8aff8897be8b5aecdf887bb"), looks := false }, kinds := [], alts := [], laidByText := true, laidKinds := [.data, .pinned], laidTests := true, laidLooks := .later }
def CellsSpoiledUptoCardSaid : Prop := Claim7.holds Tryz.pinned (.plain (OpenSpec.upto cellsSpoiledSpec)) cellsSpoiledUptoCard

/-- THE SECOND FORM's CARD OF 'cocyclelaw06.CellsOrder'. -/
def cellsOrderUptoCard : Claim7 := { stood := { row := cellsOrderUptoRow, standIns := [], harness := (true, "45ba0e11d175ab82e67e4e45093b06b162f1c5a1c8aff8897be8b5aecdf887bb"), looks := false }, kinds := [], alts := [], laidByText := true, laidKinds := [.data, .pinned], laidTests := true, laidLooks := .later }
def CellsOrderUptoCardSaid : Prop := Claim7.holds Tryz.pinned (.plain (OpenSpec.upto cellsOrderSpec)) cellsOrderUptoCard

/-- THE SECOND FORM's CARD OF 'cocyclelaw06.CellsClosed'. -/
def cellsClosedUptoCard : Claim7 := { stood := { row := cellsClosedUptoRow, standIns := [], harness := (true, "45ba0e11d175ab82e67e4e45093b06b162f1c5a1c8aff8897be8b5aecdf887bb"), looks := false }, kinds := [], alts := [], laidByText := true, laidKinds := [.data, .pinned], laidTests := true, laidLooks := .later }
def CellsClosedUptoCardSaid : Prop := Claim7.holds Tryz.pinned (.plain (OpenSpec.upto cellsClosedSpec)) cellsClosedUptoCard
end Rows
end Go.Proofs.YtkdibcicncjpdaaGreatDoor
