/-
  No cell of these rows narrows 'for every input' (looked for: loops, veiled, ifaces, maps, wideKeys, modest, calm, conditions, laid).
  DERIVED. THE GIVEN ROWS OF THIS SEAT. 6 by the template 'for every input the law returns true; each argument reads behind the call as it read before'; 0 by the template 'total and deterministic' (their statements: YtkdibcicncjpdaaGreatTotals.lean).
  GIVEN WITH THE SEED: the statements are not yours to turn. If you find one false, say at which input.
  Laid BY PROGRAM, IN A SANDBOX (cutbox-rows.mjs): the forced cells as the released guide's own fill.sh prints them over the translation 287f50d4a08de1f3… (all of the seat's roots in one cut). By AI agents, Wed Nov 11 2026. No macro, syntax, notation, axiom, sorry.
-/
import Derived.Test.YtkdibcicncjpdaaGreatChecked
import GoSem.Claim
import GoSem.ClaimJoined
import GoSem.ClaimMapViews
import Derived.JoinedTies
import Derived.KernelRfl
namespace Go.Proofs.YtkdibcicncjpdaaGreat
/- THE CELL 'sum', in the pinned program and in every row, IS THE sha256 OF THE DUMP (.gsa) THAT YtkdibcicncjpdaaGreatProg.lean LOADS. Nothing in Lean hashes anything: it is a label: what it is worth is what the hold of that sum in a sandbox is worth. -/
noncomputable def Tryz.pinned : Pinned := { name := "ytkdibcicncjpdaagreat", sum := "287f50d4a08de1f31f3663c3c925386c90525b44fd140daf4f8c473efc337688", checked := Tryz.checked }
namespace Rows
def none {H : Type} : Left H := { results := [], args := [] }

/-- 'cocyclelaw06.CellsSimplices': WHATEVER THE INPUT: true; the input reads as it did. -/
def cellsSimplicesSpec : ChangeSpec := { name := "cellsSimplices", fn := fun _ => fun
  | [d1, d2] => { results := [.lit (.bool true)], args := [d1, d2] }
  | _ => none }
def cellsSimplicesRow : OpenClaim := { program := "ytkdibcicncjpdaagreat", sum := "287f50d4a08de1f31f3663c3c925386c90525b44fd140daf4f8c473efc337688", func := "cocycle/cocyclelaw06.CellsSimplices", spec := "cellsSimplices", unfollowed := true, recurses := true, apart := false }
def CellsSimplicesSaid : Prop := cellsSimplicesRow.holds Tryz.pinned (OpenSpec.ofChange cellsSimplicesSpec)

/-- ITS FALSE NEIGHBOUR: 'it returns false'. Refute it at one input. -/
def cellsSimplicesWrong : ChangeSpec := { name := "cellsSimplices", fn := fun _ => fun
  | [d1, d2] => { results := [.lit (.bool false)], args := [d1, d2] }
  | _ => none }
def CellsSimplicesWrongFalsely : Prop := cellsSimplicesRow.holds Tryz.pinned (OpenSpec.ofChange cellsSimplicesWrong)

/-- 'cocyclelaw06.CellsProducts': WHATEVER THE INPUT: true; the input reads as it did. -/
def cellsProductsSpec : ChangeSpec := { name := "cellsProducts", fn := fun _ => fun
  | [d1, d2, d3] => { results := [.lit (.bool true)], args := [d1, d2, d3] }
  | _ => none }
def cellsProductsRow : OpenClaim := { program := "ytkdibcicncjpdaagreat", sum := "287f50d4a08de1f31f3663c3c925386c90525b44fd140daf4f8c473efc337688", func := "cocycle/cocyclelaw06.CellsProducts", spec := "cellsProducts", unfollowed := true, recurses := true, apart := false }
def CellsProductsSaid : Prop := cellsProductsRow.holds Tryz.pinned (OpenSpec.ofChange cellsProductsSpec)

/-- ITS FALSE NEIGHBOUR: 'it returns false'. Refute it at one input. -/
def cellsProductsWrong : ChangeSpec := { name := "cellsProducts", fn := fun _ => fun
  | [d1, d2, d3] => { results := [.lit (.bool false)], args := [d1, d2, d3] }
  | _ => none }
def CellsProductsWrongFalsely : Prop := cellsProductsRow.holds Tryz.pinned (OpenSpec.ofChange cellsProductsWrong)

/-- 'cocyclelaw06.CellsEqual': WHATEVER THE INPUT: true; the input reads as it did. -/
def cellsEqualSpec : ChangeSpec := { name := "cellsEqual", fn := fun _ => fun
  | [d1, d2, d3] => { results := [.lit (.bool true)], args := [d1, d2, d3] }
  | _ => none }
def cellsEqualRow : OpenClaim := { program := "ytkdibcicncjpdaagreat", sum := "287f50d4a08de1f31f3663c3c925386c90525b44fd140daf4f8c473efc337688", func := "cocycle/cocyclelaw06.CellsEqual", spec := "cellsEqual", unfollowed := true, recurses := true, apart := false }
def CellsEqualSaid : Prop := cellsEqualRow.holds Tryz.pinned (OpenSpec.ofChange cellsEqualSpec)

/-- ITS FALSE NEIGHBOUR: 'it returns false'. Refute it at one input. -/
def cellsEqualWrong : ChangeSpec := { name := "cellsEqual", fn := fun _ => fun
  | [d1, d2, d3] => { results := [.lit (.bool false)], args := [d1, d2, d3] }
  | _ => none }
def CellsEqualWrongFalsely : Prop := cellsEqualRow.holds Tryz.pinned (OpenSpec.ofChange cellsEqualWrong)

/-- 'cocyclelaw06.CellsUnions': WHATEVER THE INPUT: true; the input reads as it did. -/
def cellsUnionsSpec : ChangeSpec := { name := "cellsUnions", fn := fun _ => fun
  | [d1, d2, d3] => { results := [.lit (.bool true)], args := [d1, d2, d3] }
  | _ => none }
def cellsUnionsRow : OpenClaim := { program := "ytkdibcicncjpdaagreat", sum := "287f50d4a08de1f31f3663c3c925386c90525b44fd140daf4f8c473efc337688", func := "cocycle/cocyclelaw06.CellsUnions", spec := "cellsUnions", unfollowed := true, recurses := true, apart := false }
def CellsUnionsSaid : Prop := cellsUnionsRow.holds Tryz.pinned (OpenSpec.ofChange cellsUnionsSpec)

/-- ITS FALSE NEIGHBOUR: 'it returns false'. Refute it at one input. -/
def cellsUnionsWrong : ChangeSpec := { name := "cellsUnions", fn := fun _ => fun
  | [d1, d2, d3] => { results := [.lit (.bool false)], args := [d1, d2, d3] }
  | _ => none }
def CellsUnionsWrongFalsely : Prop := cellsUnionsRow.holds Tryz.pinned (OpenSpec.ofChange cellsUnionsWrong)

/-- 'cocyclelaw06.CellsParts': WHATEVER THE INPUT: true; the input reads as it did. -/
def cellsPartsSpec : ChangeSpec := { name := "cellsParts", fn := fun _ => fun
  | [d1, d2, d3] => { results := [.lit (.bool true)], args := [d1, d2, d3] }
  | _ => none }
def cellsPartsRow : OpenClaim := { program := "ytkdibcicncjpdaagreat", sum := "287f50d4a08de1f31f3663c3c925386c90525b44fd140daf4f8c473efc337688", func := "cocycle/cocyclelaw06.CellsParts", spec := "cellsParts", unfollowed := true, recurses := true, apart := false }
def CellsPartsSaid : Prop := cellsPartsRow.holds Tryz.pinned (OpenSpec.ofChange cellsPartsSpec)

/-- ITS FALSE NEIGHBOUR: 'it returns false'. Refute it at one input. -/
def cellsPartsWrong : ChangeSpec := { name := "cellsParts", fn := fun _ => fun
  | [d1, d2, d3] => { results := [.lit (.bool false)], args := [d1, d2, d3] }
  | _ => none }
def CellsPartsWrongFalsely : Prop := cellsPartsRow.holds Tryz.pinned (OpenSpec.ofChange cellsPartsWrong)

/-- 'cocyclelaw06.CellsOwn': WHATEVER THE INPUT: true; the input reads as it did. -/
def cellsOwnSpec : ChangeSpec := { name := "cellsOwn", fn := fun _ => fun
  | [d1, d2] => { results := [.lit (.bool true)], args := [d1, d2] }
  | _ => none }
def cellsOwnRow : OpenClaim := { program := "ytkdibcicncjpdaagreat", sum := "287f50d4a08de1f31f3663c3c925386c90525b44fd140daf4f8c473efc337688", func := "cocycle/cocyclelaw06.CellsOwn", spec := "cellsOwn", unfollowed := true, recurses := true, apart := false }
def CellsOwnSaid : Prop := cellsOwnRow.holds Tryz.pinned (OpenSpec.ofChange cellsOwnSpec)

/-- ITS FALSE NEIGHBOUR: 'it returns false'. Refute it at one input. -/
def cellsOwnWrong : ChangeSpec := { name := "cellsOwn", fn := fun _ => fun
  | [d1, d2] => { results := [.lit (.bool false)], args := [d1, d2] }
  | _ => none }
def CellsOwnWrongFalsely : Prop := cellsOwnRow.holds Tryz.pinned (OpenSpec.ofChange cellsOwnWrong)

/- THE SECOND FORM. 'bulk': how many values and letters a reading holds, each counted each time it is reached (what is shared counts as often as it is met; a slice's spare places count too). A statement '..UptoSaid' is the law's where the arguments, and the package variables that the reading takes, are together of bulk at most 1048576: NARROWER than '..Said'. Prove '..Said' where nothing that the law and all that it calls make is longer than what came in: it says more and counts as full. Else prove '..UptoSaid'. A law counts once. -/
mutual
def uptoBulk {H : Type} : DataW H → Nat
  | .lit (.string bytes) => bytes.length + 1
  | .lit _ => 1
  | .nil => 1
  | .ptr d => uptoBulk d + 1
  | .slice elems spare => uptoBulkAll elems + uptoBulkAll spare + 1
  | .agg parts => uptoBulkAll parts + 1
  | .iface _ d => uptoBulk d + 1
  | .map entries => uptoBulkEntries entries + 1
  | .held _ => 1
def uptoBulkAll {H : Type} : List (DataW H) → Nat
  | [] => 0
  | d :: r => uptoBulk d + uptoBulkAll r
def uptoBulkEntries {H : Type} : List (Lit × DataW H) → Nat
  | [] => 0
  | x :: r => uptoBulkEntry x + uptoBulkEntries r
def uptoBulkEntry {H : Type} : Lit × DataW H → Nat
  | (.string bytes, d) => bytes.length + uptoBulk d + 1
  | (_, d) => uptoBulk d + 1
 end
def uptoSmall : (H : Type) → List (DataW H) → Bool := fun _ ds => decide (uptoBulkAll ds ≤ 1048576)
def OpenSpec.upto (s : _root_.Go.ChangeSpec) : _root_.Go.OpenSpec := { _root_.Go.OpenSpec.ofChange s with cond := some uptoSmall }

/-- 'cocyclelaw06.CellsSimplices', WHERE WHAT IT READS IS OF BULK AT MOST 1048576: true; the input reads as it did. -/
def cellsSimplicesUptoRow : OpenClaim := { program := "ytkdibcicncjpdaagreat", sum := "287f50d4a08de1f31f3663c3c925386c90525b44fd140daf4f8c473efc337688", func := "cocycle/cocyclelaw06.CellsSimplices", spec := "cellsSimplices", unfollowed := true, recurses := true, apart := false, narrowed := true }
def CellsSimplicesUptoSaid : Prop := cellsSimplicesUptoRow.holds Tryz.pinned (OpenSpec.upto cellsSimplicesSpec)

/-- 'cocyclelaw06.CellsProducts', WHERE WHAT IT READS IS OF BULK AT MOST 1048576: true; the input reads as it did. -/
def cellsProductsUptoRow : OpenClaim := { program := "ytkdibcicncjpdaagreat", sum := "287f50d4a08de1f31f3663c3c925386c90525b44fd140daf4f8c473efc337688", func := "cocycle/cocyclelaw06.CellsProducts", spec := "cellsProducts", unfollowed := true, recurses := true, apart := false, narrowed := true }
def CellsProductsUptoSaid : Prop := cellsProductsUptoRow.holds Tryz.pinned (OpenSpec.upto cellsProductsSpec)

/-- 'cocyclelaw06.CellsEqual', WHERE WHAT IT READS IS OF BULK AT MOST 1048576: true; the input reads as it did. -/
def cellsEqualUptoRow : OpenClaim := { program := "ytkdibcicncjpdaagreat", sum := "287f50d4a08de1f31f3663c3c925386c90525b44fd140daf4f8c473efc337688", func := "cocycle/cocyclelaw06.CellsEqual", spec := "cellsEqual", unfollowed := true, recurses := true, apart := false, narrowed := true }
def CellsEqualUptoSaid : Prop := cellsEqualUptoRow.holds Tryz.pinned (OpenSpec.upto cellsEqualSpec)

/-- 'cocyclelaw06.CellsUnions', WHERE WHAT IT READS IS OF BULK AT MOST 1048576: true; the input reads as it did. -/
def cellsUnionsUptoRow : OpenClaim := { program := "ytkdibcicncjpdaagreat", sum := "287f50d4a08de1f31f3663c3c925386c90525b44fd140daf4f8c473efc337688", func := "cocycle/cocyclelaw06.CellsUnions", spec := "cellsUnions", unfollowed := true, recurses := true, apart := false, narrowed := true }
def CellsUnionsUptoSaid : Prop := cellsUnionsUptoRow.holds Tryz.pinned (OpenSpec.upto cellsUnionsSpec)

/-- 'cocyclelaw06.CellsParts', WHERE WHAT IT READS IS OF BULK AT MOST 1048576: true; the input reads as it did. -/
def cellsPartsUptoRow : OpenClaim := { program := "ytkdibcicncjpdaagreat", sum := "287f50d4a08de1f31f3663c3c925386c90525b44fd140daf4f8c473efc337688", func := "cocycle/cocyclelaw06.CellsParts", spec := "cellsParts", unfollowed := true, recurses := true, apart := false, narrowed := true }
def CellsPartsUptoSaid : Prop := cellsPartsUptoRow.holds Tryz.pinned (OpenSpec.upto cellsPartsSpec)

/-- 'cocyclelaw06.CellsOwn', WHERE WHAT IT READS IS OF BULK AT MOST 1048576: true; the input reads as it did. -/
def cellsOwnUptoRow : OpenClaim := { program := "ytkdibcicncjpdaagreat", sum := "287f50d4a08de1f31f3663c3c925386c90525b44fd140daf4f8c473efc337688", func := "cocycle/cocyclelaw06.CellsOwn", spec := "cellsOwn", unfollowed := true, recurses := true, apart := false, narrowed := true }
def CellsOwnUptoSaid : Prop := cellsOwnUptoRow.holds Tryz.pinned (OpenSpec.upto cellsOwnSpec)

end Rows
end Go.Proofs.YtkdibcicncjpdaaGreat
