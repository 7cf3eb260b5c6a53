/-
  DERIVED. GIVEN WITH THE SEED: THE CARDS: each row of YtbbppeihhkhkcaaGreatDoorRows.lean that lists a variable, with what it lists TIED to the program's text (the seventh form; the later family's looks); each row that meets fmt, with fmt's text TOLD by the authors' own Lean function (tested against real Go, not proved from fmt's source: count such statements apart). THE CARD IS WHAT COUNTS. Prove the row's statement (the work); the ties are given (YtbbppeihhkhkcaaGreatDoorTie.lean); close each card by the builder's one call (the guide's Derived/Test/ToyasCard.lean, 'card_holds'). Laid BY PROGRAM, IN A SANDBOX (cutbox-door.mjs). By AI agents, Wed Nov 11 2026. No macro, syntax, notation, axiom, sorry.
-/
import Derived.Test.YtbbppeihhkhkcaaGreatDoorRows
import GoSem.ClaimSeven
namespace Go.Proofs.YtbbppeihhkhkcaaGreatDoor
namespace Rows

/-- THE TIED CARD OF 'cocyclelaw12.EditsMaps'. -/
def editsMapsCard : Claim7 := { stood := { row := editsMapsRow, standIns := [], harness := (true, "cdd7b8cb2f263e97c0beb24abf2d7239d76cc07e0537133e289a66fd7f1971ec"), looks := false }, kinds := [], alts := [], laidByText := true, laidKinds := [.data, .pinned], laidTests := true, laidLooks := .later }
def EditsMapsCardSaid : Prop := Claim7.holds Tryz.pinned (.plain (OpenSpec.ofChange editsMapsSpec)) editsMapsCard

/-- THE TIED CARD OF 'cocyclelaw18.MergeConflicts'. -/
def mergeConflictsCard : Claim7 := { stood := { row := mergeConflictsRow, standIns := [], harness := (true, "cdd7b8cb2f263e97c0beb24abf2d7239d76cc07e0537133e289a66fd7f1971ec"), looks := false }, kinds := [], alts := [], laidByText := true, laidKinds := [.data, .pinned], laidTests := true, laidLooks := .later }
def MergeConflictsCardSaid : Prop := Claim7.holds Tryz.pinned (.plain (OpenSpec.ofChange mergeConflictsSpec)) mergeConflictsCard

/-- THE TIED CARD OF 'cocyclelaw18.MergeAlone'. -/
def mergeAloneCard : Claim7 := { stood := { row := mergeAloneRow, standIns := [], harness := (true, "cdd7b8cb2f263e97c0beb24abf2d7239d76cc07e0537133e289a66fd7f1971ec"), looks := false }, kinds := [], alts := [], laidByText := true, laidKinds := [.data, .pinned], laidTests := true, laidLooks := .later }
def MergeAloneCardSaid : Prop := Claim7.holds Tryz.pinned (.plain (OpenSpec.ofChange mergeAloneSpec)) mergeAloneCard

/-- THE TIED CARD OF 'cocyclelaw18.MergeEdits'. -/
def mergeEditsCard : Claim7 := { stood := { row := mergeEditsRow, standIns := [], harness := (true, "cdd7b8cb2f263e97c0beb24abf2d7239d76cc07e0537133e289a66fd7f1971ec"), looks := false }, kinds := [], alts := [], laidByText := true, laidKinds := [.data, .pinned], laidTests := true, laidLooks := .later }
def MergeEditsCardSaid : Prop := Claim7.holds Tryz.pinned (.plain (OpenSpec.ofChange mergeEditsSpec)) mergeEditsCard

/-- THE TIED CARD OF 'cocyclelaw18.MergeThrough'. -/
def mergeThroughCard : Claim7 := { stood := { row := mergeThroughRow, standIns := [], harness := (true, "cdd7b8cb2f263e97c0beb24abf2d7239d76cc07e0537133e289a66fd7f1971ec"), looks := false }, kinds := [], alts := [], laidByText := true, laidKinds := [.data, .pinned], laidTests := true, laidLooks := .later }
def MergeThroughCardSaid : Prop := Claim7.holds Tryz.pinned (.plain (OpenSpec.ofChange mergeThroughSpec)) mergeThroughCard

/-- THE TIED CARD OF 'cocyclelaw18.MergeSum'. -/
def mergeSumCard : Claim7 := { stood := { row := mergeSumRow, standIns := [], harness := (true, "cdd7b8cb2f263e97c0beb24abf2d7239d76cc07e0537133e289a66fd7f1971ec"), looks := false }, kinds := [], alts := [], laidByText := true, laidKinds := [.data, .pinned], laidTests := true, laidLooks := .later }
def MergeSumCardSaid : Prop := Claim7.holds Tryz.pinned (.plain (OpenSpec.ofChange mergeSumSpec)) mergeSumCard

/-- THE TIED CARD OF 'cocyclelaw18.MergeUnion'. -/
def mergeUnionCard : Claim7 := { stood := { row := mergeUnionRow, standIns := [], harness := (true, "cdd7b8cb2f263e97c0beb24abf2d7239d76cc07e0537133e289a66fd7f1971ec"), looks := false }, kinds := [], alts := [], laidByText := true, laidKinds := [.data, .pinned], laidTests := true, laidLooks := .later }
def MergeUnionCardSaid : Prop := Claim7.holds Tryz.pinned (.plain (OpenSpec.ofChange mergeUnionSpec)) mergeUnionCard

/-- THE SECOND FORM's CARD OF 'cocyclelaw12.EditsMaps'. -/
def editsMapsUptoCard : Claim7 := { stood := { row := editsMapsUptoRow, standIns := [], harness := (true, "cdd7b8cb2f263e97c0beb24abf2d7239d76cc07e0537133e289a66fd7f1971ec"), looks := false }, kinds := [], alts := [], laidByText := true, laidKinds := [.data, .pinned], laidTests := true, laidLooks := .later }
def EditsMapsUptoCardSaid : Prop := Claim7.holds Tryz.pinned (.plain (OpenSpec.upto editsMapsSpec)) editsMapsUptoCard

/-- THE SECOND FORM's CARD OF 'cocyclelaw18.MergeConflicts'. -/
def mergeConflictsUptoCard : Claim7 := { stood := { row := mergeConflictsUptoRow, standIns := [], harness := (true, "cdd7b8cb2f263e97c0beb24abf2d7239d76cc07e0537133e289a66fd7f1971ec"), looks := false }, kinds := [], alts := [], laidByText := true, laidKinds := [.data, .pinned], laidTests := true, laidLooks := .later }
def MergeConflictsUptoCardSaid : Prop := Claim7.holds Tryz.pinned (.plain (OpenSpec.upto mergeConflictsSpec)) mergeConflictsUptoCard

/-- THE SECOND FORM's CARD OF 'cocyclelaw18.MergeAlone'. -/
def mergeAloneUptoCard : Claim7 := { stood := { row := mergeAloneUptoRow, standIns := [], harness := (true, "cdd7b8cb2f263e97c0beb24abf2d7239d76cc07e0537133e289a66fd7f1971ec"), looks := false }, kinds := [], alts := [], laidByText := true, laidKinds := [.data, .pinned], laidTests := true, laidLooks := .later }
def MergeAloneUptoCardSaid : Prop := Claim7.holds Tryz.pinned (.plain (OpenSpec.upto mergeAloneSpec)) mergeAloneUptoCard

/-- THE SECOND FORM's CARD OF 'cocyclelaw18.MergeEdits'. -/
def mergeEditsUptoCard : Claim7 := { stood := { row := mergeEditsUptoRow, standIns := [], harness := (true, "cdd7b8cb2f263e97c0beb24abf2d7239d76cc07e0537133e289a66fd7f1971ec"), looks := false }, kinds := [], alts := [], laidByText := true, laidKinds := [.data, .pinned], laidTests := true, laidLooks := .later }
def MergeEditsUptoCardSaid : Prop := Claim7.holds Tryz.pinned (.plain (OpenSpec.upto mergeEditsSpec)) mergeEditsUptoCard

/-- THE SECOND FORM's CARD OF 'cocyclelaw18.MergeThrough'. -/
def mergeThroughUptoCard : Claim7 := { stood := { row := mergeThroughUptoRow, standIns := [], harness := (true, "cdd7b8cb2f263e97c0beb24abf2d7239d76cc07e0537133e289a66fd7f1971ec"), looks := false }, kinds := [], alts := [], laidByText := true, laidKinds := [.data, .pinned], laidTests := true, laidLooks := .later }
def MergeThroughUptoCardSaid : Prop := Claim7.holds Tryz.pinned (.plain (OpenSpec.upto mergeThroughSpec)) mergeThroughUptoCard

/-- THE SECOND FORM's CARD OF 'cocyclelaw18.MergeSum'. -/
def mergeSumUptoCard : Claim7 := { stood := { row := mergeSumUptoRow, standIns := [], harness := (true, "cdd7b8cb2f263e97c0beb24abf2d7239d76cc07e0537133e289a66fd7f1971ec"), looks := false }, kinds := [], alts := [], laidByText := true, laidKinds := [.data, .pinned], laidTests := true, laidLooks := .later }
def MergeSumUptoCardSaid : Prop := Claim7.holds Tryz.pinned (.plain (OpenSpec.upto mergeSumSpec)) mergeSumUptoCard

/-- THE SECOND FORM's CARD OF 'cocyclelaw18.MergeUnion'. -/
def mergeUnionUptoCard : Claim7 := { stood := { row := mergeUnionUptoRow, standIns := [], harness := (true, "cdd7b8cb2f263e97c0beb24abf2d7239d76cc07e0537133e289a66fd7f1971ec"), looks := false }, kinds := [], alts := [], laidByText := true, laidKinds := [.data, .pinned], laidTests := true, laidLooks := .later }
def MergeUnionUptoCardSaid : Prop := Claim7.holds Tryz.pinned (.plain (OpenSpec.upto mergeUnionSpec)) mergeUnionUptoCard
end Rows
end Go.Proofs.YtbbppeihhkhkcaaGreatDoor
