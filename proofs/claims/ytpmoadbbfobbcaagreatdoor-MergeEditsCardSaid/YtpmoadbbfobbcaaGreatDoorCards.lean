/-
  DERIVED. GIVEN WITH THE SEED: THE CARDS: each row of YtpmoadbbfobbcaaGreatDoorRows.lean that lists a variable, with what it lists TIED to the program's text (the seventh form; the later family's looks); each row that meets fmt, with fmt's text TOLD by the authors' own Lean function (tested against real Go, not proved from fmt's source: count such statements apart). THE CARD IS WHAT COUNTS. Prove the row's statement (the work); the ties are given (YtpmoadbbfobbcaaGreatDoorTie.lean); close each card by the builder's one call (the guide's Derived/Test/ToyasCard.lean, 'card_holds'). Laid BY PROGRAM, IN A SANDBOX (cutbox-door.mjs). By AI agents, Wed Nov 11 2026. No macro, syntax, notation, axiom, sorry.
-/
import Derived.Test.YtpmoadbbfobbcaaGreatDoorRows
import GoSem.ClaimSeven
namespace Go.Proofs.YtpmoadbbfobbcaaGreatDoor
namespace Rows

/-- THE TIED CARD OF 'cocyclelaw18.MergeEdits'. -/
def mergeEditsCard : Claim7 := { stood := { row := mergeEditsRow, standIns := [], harness := (true, "d7bc8c17004ccb5c553524bab96eb9c1f65b8d0462365ef299128a987933b0f6"), looks := false }, kinds := [], alts := [], laidByText := true, laidKinds := [.data, .pinned], laidTests := true, laidLooks := .later }
def MergeEditsCardSaid : Prop := Claim7.holds Tryz.pinned (.plain (OpenSpec.ofChange mergeEditsSpec)) mergeEditsCard

/-- THE SECOND FORM's CARD OF 'cocyclelaw18.MergeEdits'. -/
def mergeEditsUptoCard : Claim7 := { stood := { row := mergeEditsUptoRow, standIns := [], harness := (true, "d7bc8c17004ccb5c553524bab96eb9c1f65b8d0462365ef299128a987933b0f6"), looks := false }, kinds := [], alts := [], laidByText := true, laidKinds := [.data, .pinned], laidTests := true, laidLooks := .later }
def MergeEditsUptoCardSaid : Prop := Claim7.holds Tryz.pinned (.plain (OpenSpec.upto mergeEditsSpec)) mergeEditsUptoCard
end Rows
end Go.Proofs.YtpmoadbbfobbcaaGreatDoor
