/-
  DERIVED. GIVEN WITH THE SEED: THE CARDS: each row of YtmmghffoakhheaaGreatDoorRows.lean that lists a variable, with what it lists TIED to the program's text (the seventh form; the later family's looks); each row that meets fmt, with fmt's text TOLD by the authors' own Lean function (tested against real Go, not proved from fmt's source: count such statements apart). THE CARD IS WHAT COUNTS. Prove the row's statement (the work); the ties are given (YtmmghffoakhheaaGreatDoorTie.lean); close each card by the builder's one call (the guide's Derived/Test/ToyasCard.lean, 'card_holds'). Laid BY PROGRAM, IN A SANDBOX (cutbox-door.mjs). By AI agents, Wed Nov 11 2026. No macro, syntax, notation, axiom, sorry.
-/
import Derived.Test.YtmmghffoakhheaaGreatDoorRows
import GoSem.ClaimSeven
namespace Go.Proofs.YtmmghffoakhheaaGreatDoor
namespace Rows

/-- THE TIED CARD OF 'cocyclelaw14.RepairKeeps'. -/
def repairKeepsCard : Claim7 := { stood := { row := repairKeepsRow, standIns := [], harness := (true, "cc8490d755c8efa2bd5732542271e696329d87e8c2c1e45e59e8eb19c18b2b4e"), looks := false }, kinds := [], alts := [], laidByText := true, laidKinds := [.data, .pinned], laidTests := true, laidLooks := .later }
def RepairKeepsCardSaid : Prop := Claim7.holds Tryz.pinned (.plain (OpenSpec.ofChange repairKeepsSpec)) repairKeepsCard

/-- THE TIED CARD OF 'cocyclelaw14.RepairEdits'. -/
def repairEditsCard : Claim7 := { stood := { row := repairEditsRow, standIns := [], harness := (true, "cc8490d755c8efa2bd5732542271e696329d87e8c2c1e45e59e8eb19c18b2b4e"), looks := false }, kinds := [], alts := [], laidByText := true, laidKinds := [.data, .pinned], laidTests := true, laidLooks := .later }
def RepairEditsCardSaid : Prop := Claim7.holds Tryz.pinned (.plain (OpenSpec.ofChange repairEditsSpec)) repairEditsCard

/-- THE TIED CARD OF 'cocyclelaw14.RepairAttach'. -/
def repairAttachCard : Claim7 := { stood := { row := repairAttachRow, standIns := [], harness := (true, "cc8490d755c8efa2bd5732542271e696329d87e8c2c1e45e59e8eb19c18b2b4e"), looks := false }, kinds := [], alts := [], laidByText := true, laidKinds := [.data, .pinned], laidTests := true, laidLooks := .later }
def RepairAttachCardSaid : Prop := Claim7.holds Tryz.pinned (.plain (OpenSpec.ofChange repairAttachSpec)) repairAttachCard

/-- THE TIED CARD OF 'cocyclelaw14.RepairWrong'. -/
def repairWrongCard : Claim7 := { stood := { row := repairWrongRow, standIns := [], harness := (true, "cc8490d755c8efa2bd5732542271e696329d87e8c2c1e45e59e8eb19c18b2b4e"), looks := false }, kinds := [], alts := [], laidByText := true, laidKinds := [.data, .pinned], laidTests := true, laidLooks := .later }
def RepairWrongCardSaid : Prop := Claim7.holds Tryz.pinned (.plain (OpenSpec.ofChange repairWrongSpec)) repairWrongCard

/-- THE TIED CARD OF 'cocyclelaw14.RepairRight'. -/
def repairRightCard : Claim7 := { stood := { row := repairRightRow, standIns := [], harness := (true, "cc8490d755c8efa2bd5732542271e696329d87e8c2c1e45e59e8eb19c18b2b4e"), looks := false }, kinds := [], alts := [], laidByText := true, laidKinds := [.data, .pinned], laidTests := true, laidLooks := .later }
def RepairRightCardSaid : Prop := Claim7.holds Tryz.pinned (.plain (OpenSpec.ofChange repairRightSpec)) repairRightCard

/-- THE TIED CARD OF 'cocyclelaw14.RepairSame'. -/
def repairSameCard : Claim7 := { stood := { row := repairSameRow, standIns := [], harness := (true, "cc8490d755c8efa2bd5732542271e696329d87e8c2c1e45e59e8eb19c18b2b4e"), looks := false }, kinds := [], alts := [], laidByText := true, laidKinds := [.data, .pinned], laidTests := true, laidLooks := .later }
def RepairSameCardSaid : Prop := Claim7.holds Tryz.pinned (.plain (OpenSpec.ofChange repairSameSpec)) repairSameCard

/-- THE SECOND FORM's CARD OF 'cocyclelaw14.RepairKeeps'. -/
def repairKeepsUptoCard : Claim7 := { stood := { row := repairKeepsUptoRow, standIns := [], harness := (true, "cc8490d755c8efa2bd5732542271e696329d87e8c2c1e45e59e8eb19c18b2b4e"), looks := false }, kinds := [], alts := [], laidByText := true, laidKinds := [.data, .pinned], laidTests := true, laidLooks := .later }
def RepairKeepsUptoCardSaid : Prop := Claim7.holds Tryz.pinned (.plain (OpenSpec.upto repairKeepsSpec)) repairKeepsUptoCard

/-- THE SECOND FORM's CARD OF 'cocyclelaw14.RepairEdits'. -/
def repairEditsUptoCard : Claim7 := { stood := { row := repairEditsUptoRow, standIns := [], harness := (true, "cc8490d755c8efa2bd5732542271e696329d87e8c2c1e45e59e8eb19c18b2b4e"), looks := false }, kinds := [], alts := [], laidByText := true, laidKinds := [.data, .pinned], laidTests := true, laidLooks := .later }
def RepairEditsUptoCardSaid : Prop := Claim7.holds Tryz.pinned (.plain (OpenSpec.upto repairEditsSpec)) repairEditsUptoCard

/-- THE SECOND FORM's CARD OF 'cocyclelaw14.RepairAttach'. -/
def repairAttachUptoCard : Claim7 := { stood := { row := repairAttachUptoRow, standIns := [], harness := (true, "cc8490d755c8efa2bd5732542271e696329d87e8c2c1e45e59e8eb19c18b2b4e"), looks := false }, kinds := [], alts := [], laidByText := true, laidKinds := [.data, .pinned], laidTests := true, laidLooks := .later }
def RepairAttachUptoCardSaid : Prop := Claim7.holds Tryz.pinned (.plain (OpenSpec.upto repairAttachSpec)) repairAttachUptoCard

/-- THE SECOND FORM's CARD OF 'cocyclelaw14.RepairWrong'. -/
def repairWrongUptoCard : Claim7 := { stood := { row := repairWrongUptoRow, standIns := [], harness := (true, "cc8490d755c8efa2bd5732542271e696329d87e8c2c1e45e59e8eb19c18b2b4e"), looks := false }, kinds := [], alts := [], laidByText := true, laidKinds := [.data, .pinned], laidTests := true, laidLooks := .later }
def RepairWrongUptoCardSaid : Prop := Claim7.holds Tryz.pinned (.plain (OpenSpec.upto repairWrongSpec)) repairWrongUptoCard

/-- THE SECOND FORM's CARD OF 'cocyclelaw14.RepairRight'. -/
def repairRightUptoCard : Claim7 := { stood := { row := repairRightUptoRow, standIns := [], harness := (true, "cc8490d755c8efa2bd5732542271e696329d87e8c2c1e45e59e8eb19c18b2b4e"), looks := false }, kinds := [], alts := [], laidByText := true, laidKinds := [.data, .pinned], laidTests := true, laidLooks := .later }
def RepairRightUptoCardSaid : Prop := Claim7.holds Tryz.pinned (.plain (OpenSpec.upto repairRightSpec)) repairRightUptoCard

/-- THE SECOND FORM's CARD OF 'cocyclelaw14.RepairSame'. -/
def repairSameUptoCard : Claim7 := { stood := { row := repairSameUptoRow, standIns := [], harness := (true, "cc8490d755c8efa2bd5732542271e696329d87e8c2c1e45e59e8eb19c18b2b4e"), looks := false }, kinds := [], alts := [], laidByText := true, laidKinds := [.data, .pinned], laidTests := true, laidLooks := .later }
def RepairSameUptoCardSaid : Prop := Claim7.holds Tryz.pinned (.plain (OpenSpec.upto repairSameSpec)) repairSameUptoCard
end Rows
end Go.Proofs.YtmmghffoakhheaaGreatDoor
