/-
  DERIVED. GIVEN WITH THE SEED: THE CARDS: each row of YtcfkpajlakidbaaGreatDoorRows.lean that lists a variable, with what it lists TIED to the program's text (the seventh form; the later family's looks); each row that meets fmt, with fmt's text TOLD by the authors' own Lean function (tested against real Go, not proved from fmt's source: count such statements apart). THE CARD IS WHAT COUNTS. Prove the row's statement (the work); the ties are given (YtcfkpajlakidbaaGreatDoorTie.lean); close each card by the builder's one call (the guide's Derived/Test/ToyasCard.lean, 'card_holds'). Laid BY PROGRAM, IN A SANDBOX (cutbox-door.mjs). By AI agents, Wed Nov 11 2026. No macro, syntax, notation, axiom, sorry.
-/
import Derived.Test.YtcfkpajlakidbaaGreatDoorRows
import GoSem.ClaimSeven
namespace Go.Proofs.YtcfkpajlakidbaaGreatDoor
namespace Rows

/-- THE TIED CARD OF 'cocyclelaw24.TilesBlowups'. -/
def tilesBlowupsCard : Claim7 := { stood := { row := tilesBlowupsRow, standIns := [], harness := (true, "27eb1646721a83e5082c8fc58acfba145bbfb370b2748910c2fcd072b7afacca"), looks := false }, kinds := [], alts := [], laidByText := true, laidKinds := [.data, .pinned], laidTests := true, laidLooks := .later }
def TilesBlowupsCardSaid : Prop := Claim7.holds Tryz.pinned (.plain (OpenSpec.ofChange tilesBlowupsSpec)) tilesBlowupsCard

/-- THE TIED CARD OF 'cocyclelaw24.TilesMaps'. -/
def tilesMapsCard : Claim7 := { stood := { row := tilesMapsRow, standIns := [], harness := (true, "27eb1646721a83e5082c8fc58acfba145bbfb370b2748910c2fcd072b7afacca"), looks := false }, kinds := [], alts := [], laidByText := true, laidKinds := [.data, .pinned], laidTests := true, laidLooks := .later }
def TilesMapsCardSaid : Prop := Claim7.holds Tryz.pinned (.plain (OpenSpec.ofChange tilesMapsSpec)) tilesMapsCard

/-- THE SECOND FORM's CARD OF 'cocyclelaw24.TilesBlowups'. -/
def tilesBlowupsUptoCard : Claim7 := { stood := { row := tilesBlowupsUptoRow, standIns := [], harness := (true, "27eb1646721a83e5082c8fc58acfba145bbfb370b2748910c2fcd072b7afacca"), looks := false }, kinds := [], alts := [], laidByText := true, laidKinds := [.data, .pinned], laidTests := true, laidLooks := .later }
def TilesBlowupsUptoCardSaid : Prop := Claim7.holds Tryz.pinned (.plain (OpenSpec.upto tilesBlowupsSpec)) tilesBlowupsUptoCard

/-- THE SECOND FORM's CARD OF 'cocyclelaw24.TilesMaps'. -/
def tilesMapsUptoCard : Claim7 := { stood := { row := tilesMapsUptoRow, standIns := [], harness := (true, "27eb1646721a83e5082c8fc58acfba145bbfb370b2748910c2fcd072b7afacca"), looks := false }, kinds := [], alts := [], laidByText := true, laidKinds := [.data, .pinned], laidTests := true, laidLooks := .later }
def TilesMapsUptoCardSaid : Prop := Claim7.holds Tryz.pinned (.plain (OpenSpec.upto tilesMapsSpec)) tilesMapsUptoCard
end Rows
end Go.Proofs.YtcfkpajlakidbaaGreatDoor
