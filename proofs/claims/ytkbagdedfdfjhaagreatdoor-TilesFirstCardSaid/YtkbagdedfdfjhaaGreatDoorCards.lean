/-
  DERIVED. GIVEN WITH THE SEED: THE CARDS: each row of YtkbagdedfdfjhaaGreatDoorRows.lean that lists a variable, with what it lists TIED to the program's text (the seventh form; the later family's looks); each row that meets fmt, with fmt's text TOLD by the authors' own Lean function (tested against real Go, not proved from fmt's source: count such statements apart). THE CARD IS WHAT COUNTS. Prove the row's statement (the work); the ties are given (YtkbagdedfdfjhaaGreatDoorTie.lean); close each card by the builder's one call (the guide's Derived/Test/ToyasCard.lean, 'card_holds'). Laid BY PROGRAM, IN A SANDBOX (cutbox-door.mjs). By AI agents, Wed Nov 11 2026. No macro, syntax, notation, axiom, sorry.
-/
import Derived.Test.YtkbagdedfdfjhaaGreatDoorRows
import GoSem.ClaimSeven
namespace Go.Proofs.YtkbagdedfdfjhaaGreatDoor
namespace Rows

/-- THE TIED CARD OF 'cocyclelaw24.TilesBetti'. -/
def tilesBettiCard : Claim7 := { stood := { row := tilesBettiRow, standIns := [], harness := (true, "d4cc9f3dc6a9b5effe993f82a597ef4545549033ec323cd3a6c24d7557273b7e"), looks := false }, kinds := [], alts := [], laidByText := true, laidKinds := [.data, .pinned], laidTests := true, laidLooks := .later }
def TilesBettiCardSaid : Prop := Claim7.holds Tryz.pinned (.plain (OpenSpec.ofChange tilesBettiSpec)) tilesBettiCard

/-- THE TIED CARD OF 'cocyclelaw24.TilesFirst'. -/
def tilesFirstCard : Claim7 := { stood := { row := tilesFirstRow, standIns := [], harness := (true, "d4cc9f3dc6a9b5effe993f82a597ef4545549033ec323cd3a6c24d7557273b7e"), looks := false }, kinds := [], alts := [], laidByText := true, laidKinds := [.data, .pinned], laidTests := true, laidLooks := .later }
def TilesFirstCardSaid : Prop := Claim7.holds Tryz.pinned (.plain (OpenSpec.ofChange tilesFirstSpec)) tilesFirstCard

/-- THE TIED CARD OF 'cocyclelaw24.TilesWhole'. -/
def tilesWholeCard : Claim7 := { stood := { row := tilesWholeRow, standIns := [], harness := (true, "d4cc9f3dc6a9b5effe993f82a597ef4545549033ec323cd3a6c24d7557273b7e"), looks := false }, kinds := [], alts := [], laidByText := true, laidKinds := [.data, .pinned], laidTests := true, laidLooks := .later }
def TilesWholeCardSaid : Prop := Claim7.holds Tryz.pinned (.plain (OpenSpec.ofChange tilesWholeSpec)) tilesWholeCard

/-- THE SECOND FORM's CARD OF 'cocyclelaw24.TilesBetti'. -/
def tilesBettiUptoCard : Claim7 := { stood := { row := tilesBettiUptoRow, standIns := [], harness := (true, "d4cc9f3dc6a9b5effe993f82a597ef4545549033ec323cd3a6c24d7557273b7e"), looks := false }, kinds := [], alts := [], laidByText := true, laidKinds := [.data, .pinned], laidTests := true, laidLooks := .later }
def TilesBettiUptoCardSaid : Prop := Claim7.holds Tryz.pinned (.plain (OpenSpec.upto tilesBettiSpec)) tilesBettiUptoCard

/-- THE SECOND FORM's CARD OF 'cocyclelaw24.TilesFirst'. -/
def tilesFirstUptoCard : Claim7 := { stood := { row := tilesFirstUptoRow, standIns := [], harness := (true, "d4cc9f3dc6a9b5effe993f82a597ef4545549033ec323cd3a6c24d7557273b7e"), looks := false }, kinds := [], alts := [], laidByText := true, laidKinds := [.data, .pinned], laidTests := true, laidLooks := .later }
def TilesFirstUptoCardSaid : Prop := Claim7.holds Tryz.pinned (.plain (OpenSpec.upto tilesFirstSpec)) tilesFirstUptoCard

/-- THE SECOND FORM's CARD OF 'cocyclelaw24.TilesWhole'. -/
def tilesWholeUptoCard : Claim7 := { stood := { row := tilesWholeUptoRow, standIns := [], harness := (true, "d4cc9f3dc6a9b5effe993f82a597ef4545549033ec323cd3a6c24d7557273b7e"), looks := false }, kinds := [], alts := [], laidByText := true, laidKinds := [.data, .pinned], laidTests := true, laidLooks := .later }
def TilesWholeUptoCardSaid : Prop := Claim7.holds Tryz.pinned (.plain (OpenSpec.upto tilesWholeSpec)) tilesWholeUptoCard
end Rows
end Go.Proofs.YtkbagdedfdfjhaaGreatDoor
