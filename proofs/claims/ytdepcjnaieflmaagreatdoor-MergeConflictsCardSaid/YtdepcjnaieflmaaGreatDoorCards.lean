/-
  DERIVED. GIVEN WITH THE SEED: THE CARDS: each row of YtdepcjnaieflmaaGreatDoorRows.lean that lists a variable, with what it lists TIED to the program's text (the seventh form; the later family's looks); each row that meets fmt, with fmt's text TOLD by the authors' own Lean function (tested against real Go, not proved from fmt's source: count such statements apart). THE CARD IS WHAT COUNTS. Prove the row's statement (the work); the ties are given (YtdepcjnaieflmaaGreatDoorTie.lean); close each card by the builder's one call (the guide's Derived/Test/ToyasCard.lean, 'card_holds'). Laid BY PROGRAM, IN A SANDBOX (cutbox-door.mjs). By AI agents, Wed Nov 11 2026. No macro, syntax, notation, axiom, sorry.
-/
import Derived.Test.YtdepcjnaieflmaaGreatDoorRows
import GoSem.ClaimSeven
namespace Go.Proofs.YtdepcjnaieflmaaGreatDoor
namespace Rows

/-- THE TIED CARD OF 'cocyclelaw18.MergeConflicts'. -/
def mergeConflictsCard : Claim7 := { stood := { row := mergeConflictsRow, standIns := [], harness := (true, "a37501a34a30dde2d9da77573ae79b7fff0b833d7fc9d23ac4f845b9060fdd91"), looks := false }, kinds := [], alts := [], laidByText := true, laidKinds := [.data, .pinned], laidTests := true, laidLooks := .later }
def MergeConflictsCardSaid : Prop := Claim7.holds Tryz.pinned (.plain (OpenSpec.ofChange mergeConflictsSpec)) mergeConflictsCard

/-- THE TIED CARD OF 'cocyclelaw18.MergeEdits'. -/
def mergeEditsCard : Claim7 := { stood := { row := mergeEditsRow, standIns := [], harness := (true, "a37501a34a30dde2d9da77573ae79b7fff0b833d7fc9d23ac4f845b9060fdd91"), looks := false }, kinds := [], alts := [], laidByText := true, laidKinds := [.data, .pinned], laidTests := true, laidLooks := .later }
def MergeEditsCardSaid : Prop := Claim7.holds Tryz.pinned (.plain (OpenSpec.ofChange mergeEditsSpec)) mergeEditsCard

/-- THE TIED CARD OF 'cocyclelaw18.MergeSum'. -/
def mergeSumCard : Claim7 := { stood := { row := mergeSumRow, standIns := [], harness := (true, "a37501a34a30dde2d9da77573ae79b7fff0b833d7fc9d23ac4f845b9060fdd91"), looks := false }, kinds := [], alts := [], laidByText := true, laidKinds := [.data, .pinned], laidTests := true, laidLooks := .later }
def MergeSumCardSaid : Prop := Claim7.holds Tryz.pinned (.plain (OpenSpec.ofChange mergeSumSpec)) mergeSumCard

/-- THE SECOND FORM's CARD OF 'cocyclelaw18.MergeConflicts'. -/
def mergeConflictsUptoCard : Claim7 := { stood := { row := mergeConflictsUptoRow, standIns := [], harness := (true, "a37501a34a30dde2d9da77573ae79b7fff0b833d7fc9d23ac4f845b9060fdd91"), looks := false }, kinds := [], alts := [], laidByText := true, laidKinds := [.data, .pinned], laidTests := true, laidLooks := .later }
def MergeConflictsUptoCardSaid : Prop := Claim7.holds Tryz.pinned (.plain (OpenSpec.upto mergeConflictsSpec)) mergeConflictsUptoCard

/-- THE SECOND FORM's CARD OF 'cocyclelaw18.MergeEdits'. -/
def mergeEditsUptoCard : Claim7 := { stood := { row := mergeEditsUptoRow, standIns := [], harness := (true, "a37501a34a30dde2d9da77573ae79b7fff0b833d7fc9d23ac4f845b9060fdd91"), looks := false }, kinds := [], alts := [], laidByText := true, laidKinds := [.data, .pinned], laidTests := true, laidLooks := .later }
def MergeEditsUptoCardSaid : Prop := Claim7.holds Tryz.pinned (.plain (OpenSpec.upto mergeEditsSpec)) mergeEditsUptoCard

/-- THE SECOND FORM's CARD OF 'cocyclelaw18.MergeSum'. -/
def mergeSumUptoCard : Claim7 := { stood := { row := mergeSumUptoRow, standIns := [], harness := (true, "a37501a34a30dde2d9da77573ae79b7fff0b833d7fc9d23ac4f845b9060fdd91"), looks := false }, kinds := [], alts := [], laidByText := true, laidKinds := [.data, .pinned], laidTests := true, laidLooks := .later }
def MergeSumUptoCardSaid : Prop := Claim7.holds Tryz.pinned (.plain (OpenSpec.upto mergeSumSpec)) mergeSumUptoCard
end Rows
end Go.Proofs.YtdepcjnaieflmaaGreatDoor
