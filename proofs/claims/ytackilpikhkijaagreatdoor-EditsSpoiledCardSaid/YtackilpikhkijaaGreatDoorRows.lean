/-
  NARROWER THAN 'FOR EVERY INPUT', by the rows' own cells (each row's printed sentence says how): EditsApply: laid · EditsOwn: laid · EditsEuler: laid · EditsBack: laid · EditsSpoiled: laid · EditsAll: laid · EditsMany: laid.
  DERIVED. THE GIVEN ROWS OF THIS SEAT. 7 by the template 'for every input the law returns true; each argument reads behind the call as it read before'; 0 by the template 'total and deterministic' (their statements: YtackilpikhkijaaGreatDoorTotals.lean).
  GIVEN WITH THE SEED: the statements are not yours to turn. If you find one false, say at which input.
  Laid BY PROGRAM, IN A SANDBOX (cutbox-rows.mjs): the forced cells as the released guide's own fill.sh prints them over the translation 34a811ae5604210d… (all of the seat's roots in one cut). By AI agents, Wed Nov 11 2026. No macro, syntax, notation, axiom, sorry.
-/
import Derived.Test.YtackilpikhkijaaGreatDoorChecked
import GoSem.PinnedTables
import GoSem.Claim
import GoSem.ClaimJoined
import GoSem.ClaimMapViews
import Derived.JoinedTies
import Derived.KernelRfl
namespace Go.Proofs.YtackilpikhkijaaGreatDoor
/- THE CELL 'sum', in the pinned program and in every row, IS THE sha256 OF THE DUMP (.gsa) THAT YtackilpikhkijaaGreatDoorProg.lean LOADS. Nothing in Lean hashes anything: it is a label: what it is worth is what the hold of that sum in a sandbox is worth. -/
noncomputable def Tryz.pinned : Pinned := { name := "ytackilpikhkijaagreatdoor", sum := "34a811ae5604210dc9c5320d0b12bb6ac680037a75e2241912f9f5f70f1efa86", checked := Tryz.checked }
namespace Rows
def none {H : Type} : Left H := { results := [], args := [] }

/- WHAT THE LISTED PACKAGE-LEVEL VARIABLES READ AS WHEN THE CALL BEGINS. Each datum BY PROGRAM (the guide's laid-datum.mjs) off the statement by which the dump's own 'gosem.cut.vars' lays the variable. In a bare row this is a premise. The card (YtackilpikhkijaaGreatDoorCards.lean) ties it to the program's text. -/
def laid_unicode_utf8_acceptRanges {H : Type} : DataW H := .agg [.agg [.lit (.int .u8 128), .lit (.int .u8 191)], .agg [.lit (.int .u8 160), .lit (.int .u8 191)], .agg [.lit (.int .u8 128), .lit (.int .u8 159)], .agg [.lit (.int .u8 144), .lit (.int .u8 191)], .agg [.lit (.int .u8 128), .lit (.int .u8 143)], .agg [.lit (.int .u8 0), .lit (.int .u8 0)], .agg [.lit (.int .u8 0), .lit (.int .u8 0)], .agg [.lit (.int .u8 0), .lit (.int .u8 0)], .agg [.lit (.int .u8 0), .lit (.int .u8 0)], .agg [.lit (.int .u8 0), .lit (.int .u8 0)], .agg [.lit (.int .u8 0), .lit (.int .u8 0)], .agg [.lit (.int .u8 0), .lit (.int .u8 0)], .agg [.lit (.int .u8 0), .lit (.int .u8 0)], .agg [.lit (.int .u8 0), .lit (.int .u8 0)], .agg [.lit (.int .u8 0), .lit (.int .u8 0)], .agg [.lit (.int .u8 0), .lit (.int .u8 0)]]
/-- One of Go's own tables, pinned by name: the form's constant. -/
def laid_unicode_utf8_first : DataW Unit := Go.Pinned.utf8First

/-- 'cocyclelaw12.EditsApply': WHATEVER THE INPUT: true; the input reads as it did. -/
def editsApplySpec : ChangeSpec := { name := "editsApply", fn := fun _ => fun
  | [d1, d2] => { results := [.lit (.bool true)], args := [d1, d2] }
  | _ => none }
def editsApplyRow : OpenClaim := { program := "ytackilpikhkijaagreatdoor", sum := "34a811ae5604210dc9c5320d0b12bb6ac680037a75e2241912f9f5f70f1efa86", func := "cocycle/cocyclelaw12.EditsApply", spec := "editsApply", inPlace := ["internal/bytealg.IndexByteString", "internal/bytealg.IndexString"], unfollowed := true, recurses := true, named := ["unicode/utf8.first", "unicode/utf8.acceptRanges", "internal/bytealg.MaxLen"], apart := false, laid := [("unicode/utf8.acceptRanges", laid_unicode_utf8_acceptRanges), ("unicode/utf8.first", laid_unicode_utf8_first)] }
def EditsApplySaid : Prop := editsApplyRow.holds Tryz.pinned (OpenSpec.ofChange editsApplySpec)

/-- ITS FALSE NEIGHBOUR: 'it returns false'. Refute it at one input. -/
def editsApplyWrong : ChangeSpec := { name := "editsApply", fn := fun _ => fun
  | [d1, d2] => { results := [.lit (.bool false)], args := [d1, d2] }
  | _ => none }
def EditsApplyWrongFalsely : Prop := editsApplyRow.holds Tryz.pinned (OpenSpec.ofChange editsApplyWrong)

/-- 'cocyclelaw12.EditsOwn': WHATEVER THE INPUT: true; the input reads as it did. -/
def editsOwnSpec : ChangeSpec := { name := "editsOwn", fn := fun _ => fun
  | [d1, d2, d3] => { results := [.lit (.bool true)], args := [d1, d2, d3] }
  | _ => none }
def editsOwnRow : OpenClaim := { program := "ytackilpikhkijaagreatdoor", sum := "34a811ae5604210dc9c5320d0b12bb6ac680037a75e2241912f9f5f70f1efa86", func := "cocycle/cocyclelaw12.EditsOwn", spec := "editsOwn", inPlace := ["internal/bytealg.IndexByteString", "internal/bytealg.IndexString"], unfollowed := true, recurses := true, named := ["unicode/utf8.first", "unicode/utf8.acceptRanges", "internal/bytealg.MaxLen"], apart := false, laid := [("unicode/utf8.acceptRanges", laid_unicode_utf8_acceptRanges), ("unicode/utf8.first", laid_unicode_utf8_first)] }
def EditsOwnSaid : Prop := editsOwnRow.holds Tryz.pinned (OpenSpec.ofChange editsOwnSpec)

/-- ITS FALSE NEIGHBOUR: 'it returns false'. Refute it at one input. -/
def editsOwnWrong : ChangeSpec := { name := "editsOwn", fn := fun _ => fun
  | [d1, d2, d3] => { results := [.lit (.bool false)], args := [d1, d2, d3] }
  | _ => none }
def EditsOwnWrongFalsely : Prop := editsOwnRow.holds Tryz.pinned (OpenSpec.ofChange editsOwnWrong)

/-- 'cocyclelaw12.EditsEuler': WHATEVER THE INPUT: true; the input reads as it did. -/
def editsEulerSpec : ChangeSpec := { name := "editsEuler", fn := fun _ => fun
  | [d1, d2] => { results := [.lit (.bool true)], args := [d1, d2] }
  | _ => none }
def editsEulerRow : OpenClaim := { program := "ytackilpikhkijaagreatdoor", sum := "34a811ae5604210dc9c5320d0b12bb6ac680037a75e2241912f9f5f70f1efa86", func := "cocycle/cocyclelaw12.EditsEuler", spec := "editsEuler", inPlace := ["internal/bytealg.IndexByteString", "internal/bytealg.IndexString"], unfollowed := true, recurses := true, named := ["unicode/utf8.first", "unicode/utf8.acceptRanges", "internal/bytealg.MaxLen"], apart := false, laid := [("unicode/utf8.acceptRanges", laid_unicode_utf8_acceptRanges), ("unicode/utf8.first", laid_unicode_utf8_first)] }
def EditsEulerSaid : Prop := editsEulerRow.holds Tryz.pinned (OpenSpec.ofChange editsEulerSpec)

/-- ITS FALSE NEIGHBOUR: 'it returns false'. Refute it at one input. -/
def editsEulerWrong : ChangeSpec := { name := "editsEuler", fn := fun _ => fun
  | [d1, d2] => { results := [.lit (.bool false)], args := [d1, d2] }
  | _ => none }
def EditsEulerWrongFalsely : Prop := editsEulerRow.holds Tryz.pinned (OpenSpec.ofChange editsEulerWrong)

/-- 'cocyclelaw12.EditsBack': WHATEVER THE INPUT: true; the input reads as it did. -/
def editsBackSpec : ChangeSpec := { name := "editsBack", fn := fun _ => fun
  | [d1, d2] => { results := [.lit (.bool true)], args := [d1, d2] }
  | _ => none }
def editsBackRow : OpenClaim := { program := "ytackilpikhkijaagreatdoor", sum := "34a811ae5604210dc9c5320d0b12bb6ac680037a75e2241912f9f5f70f1efa86", func := "cocycle/cocyclelaw12.EditsBack", spec := "editsBack", inPlace := ["internal/bytealg.IndexByteString", "internal/bytealg.IndexString"], unfollowed := true, recurses := true, named := ["unicode/utf8.first", "unicode/utf8.acceptRanges", "internal/bytealg.MaxLen"], apart := false, laid := [("unicode/utf8.acceptRanges", laid_unicode_utf8_acceptRanges), ("unicode/utf8.first", laid_unicode_utf8_first)] }
def EditsBackSaid : Prop := editsBackRow.holds Tryz.pinned (OpenSpec.ofChange editsBackSpec)

/-- ITS FALSE NEIGHBOUR: 'it returns false'. Refute it at one input. -/
def editsBackWrong : ChangeSpec := { name := "editsBack", fn := fun _ => fun
  | [d1, d2] => { results := [.lit (.bool false)], args := [d1, d2] }
  | _ => none }
def EditsBackWrongFalsely : Prop := editsBackRow.holds Tryz.pinned (OpenSpec.ofChange editsBackWrong)

/-- 'cocyclelaw12.EditsSpoiled': WHATEVER THE INPUT: true; the input reads as it did. -/
def editsSpoiledSpec : ChangeSpec := { name := "editsSpoiled", fn := fun _ => fun
  | [d1, d2, d3] => { results := [.lit (.bool true)], args := [d1, d2, d3] }
  | _ => none }
def editsSpoiledRow : OpenClaim := { program := "ytackilpikhkijaagreatdoor", sum := "34a811ae5604210dc9c5320d0b12bb6ac680037a75e2241912f9f5f70f1efa86", func := "cocycle/cocyclelaw12.EditsSpoiled", spec := "editsSpoiled", inPlace := ["internal/bytealg.IndexByteString", "internal/bytealg.IndexString"], unfollowed := true, recurses := true, named := ["unicode/utf8.first", "unicode/utf8.acceptRanges", "internal/bytealg.MaxLen"], apart := false, laid := [("unicode/utf8.acceptRanges", laid_unicode_utf8_acceptRanges), ("unicode/utf8.first", laid_unicode_utf8_first)] }
def EditsSpoiledSaid : Prop := editsSpoiledRow.holds Tryz.pinned (OpenSpec.ofChange editsSpoiledSpec)

/-- ITS FALSE NEIGHBOUR: 'it returns false'. Refute it at one input. -/
def editsSpoiledWrong : ChangeSpec := { name := "editsSpoiled", fn := fun _ => fun
  | [d1, d2, d3] => { results := [.lit (.bool false)], args := [d1, d2, d3] }
  | _ => none }
def EditsSpoiledWrongFalsely : Prop := editsSpoiledRow.holds Tryz.pinned (OpenSpec.ofChange editsSpoiledWrong)

/-- 'cocyclelaw12.EditsAll': WHATEVER THE INPUT: true; the input reads as it did. -/
def editsAllSpec : ChangeSpec := { name := "editsAll", fn := fun _ => fun
  | [d1, d2] => { results := [.lit (.bool true)], args := [d1, d2] }
  | _ => none }
def editsAllRow : OpenClaim := { program := "ytackilpikhkijaagreatdoor", sum := "34a811ae5604210dc9c5320d0b12bb6ac680037a75e2241912f9f5f70f1efa86", func := "cocycle/cocyclelaw12.EditsAll", spec := "editsAll", inPlace := ["internal/bytealg.IndexByteString", "internal/bytealg.IndexString"], unfollowed := true, recurses := true, named := ["unicode/utf8.first", "unicode/utf8.acceptRanges", "internal/bytealg.MaxLen"], apart := false, laid := [("unicode/utf8.acceptRanges", laid_unicode_utf8_acceptRanges), ("unicode/utf8.first", laid_unicode_utf8_first)] }
def EditsAllSaid : Prop := editsAllRow.holds Tryz.pinned (OpenSpec.ofChange editsAllSpec)

/-- ITS FALSE NEIGHBOUR: 'it returns false'. Refute it at one input. -/
def editsAllWrong : ChangeSpec := { name := "editsAll", fn := fun _ => fun
  | [d1, d2] => { results := [.lit (.bool false)], args := [d1, d2] }
  | _ => none }
def EditsAllWrongFalsely : Prop := editsAllRow.holds Tryz.pinned (OpenSpec.ofChange editsAllWrong)

/-- 'cocyclelaw12.EditsMany': WHATEVER THE INPUT: true; the input reads as it did. -/
def editsManySpec : ChangeSpec := { name := "editsMany", fn := fun _ => fun
  | [d] => { results := [.lit (.bool true)], args := [d] }
  | _ => none }
def editsManyRow : OpenClaim := { program := "ytackilpikhkijaagreatdoor", sum := "34a811ae5604210dc9c5320d0b12bb6ac680037a75e2241912f9f5f70f1efa86", func := "cocycle/cocyclelaw12.EditsMany", spec := "editsMany", inPlace := ["internal/bytealg.IndexByteString", "internal/bytealg.IndexString"], unfollowed := true, recurses := true, named := ["unicode/utf8.first", "unicode/utf8.acceptRanges", "internal/bytealg.MaxLen"], apart := false, laid := [("unicode/utf8.acceptRanges", laid_unicode_utf8_acceptRanges), ("unicode/utf8.first", laid_unicode_utf8_first)] }
def EditsManySaid : Prop := editsManyRow.holds Tryz.pinned (OpenSpec.ofChange editsManySpec)

/-- ITS FALSE NEIGHBOUR: 'it returns false'. Refute it at one input. -/
def editsManyWrong : ChangeSpec := { name := "editsMany", fn := fun _ => fun
  | [d] => { results := [.lit (.bool false)], args := [d] }
  | _ => none }
def EditsManyWrongFalsely : Prop := editsManyRow.holds Tryz.pinned (OpenSpec.ofChange editsManyWrong)

/- THE SECOND FORM. 'bulk': how many values and letters a reading holds, each counted each time it is reached (what is shared counts as often as it is met; a slice's spare places count too). A statement '..UptoSaid' is the law's where the arguments, and the package variables that the reading takes, are together of bulk at most 1048576: NARROWER than '..Said'. Prove '..Said' where nothing that the law and all that it calls make is longer than what came in: it says more and counts as full. Else prove '..UptoSaid'. A law counts once. -/
mutual
def uptoBulk {H : Type} : DataW H → Nat
  | .lit (.string bytes) => bytes.length + 1
  | .lit _ => 1
  | .nil => 1
  | .ptr d => uptoBulk d + 1
  | .slice elems spare => uptoBulkAll elems + uptoBulkAll spare + 1
  | .agg parts => uptoBulkAll parts + 1
  | .iface _ d => uptoBulk d + 1
  | .map entries => uptoBulkEntries entries + 1
  | .held _ => 1
def uptoBulkAll {H : Type} : List (DataW H) → Nat
  | [] => 0
  | d :: r => uptoBulk d + uptoBulkAll r
def uptoBulkEntries {H : Type} : List (Lit × DataW H) → Nat
  | [] => 0
  | x :: r => uptoBulkEntry x + uptoBulkEntries r
def uptoBulkEntry {H : Type} : Lit × DataW H → Nat
  | (.string bytes, d) => bytes.length + uptoBulk d + 1
  | (_, d) => uptoBulk d + 1
 end
def uptoSmall : (H : Type) → List (DataW H) → Bool := fun _ ds => decide (uptoBulkAll ds ≤ 1048576)
def OpenSpec.upto (s : _root_.Go.ChangeSpec) : _root_.Go.OpenSpec := { _root_.Go.OpenSpec.ofChange s with cond := some uptoSmall }

/-- 'cocyclelaw12.EditsApply', WHERE WHAT IT READS IS OF BULK AT MOST 1048576: true; the input reads as it did. -/
def editsApplyUptoRow : OpenClaim := { program := "ytackilpikhkijaagreatdoor", sum := "34a811ae5604210dc9c5320d0b12bb6ac680037a75e2241912f9f5f70f1efa86", func := "cocycle/cocyclelaw12.EditsApply", spec := "editsApply", inPlace := ["internal/bytealg.IndexByteString", "internal/bytealg.IndexString"], unfollowed := true, recurses := true, named := ["unicode/utf8.first", "unicode/utf8.acceptRanges", "internal/bytealg.MaxLen"], apart := false, laid := [("unicode/utf8.acceptRanges", laid_unicode_utf8_acceptRanges), ("unicode/utf8.first", laid_unicode_utf8_first)], narrowed := true }
def EditsApplyUptoSaid : Prop := editsApplyUptoRow.holds Tryz.pinned (OpenSpec.upto editsApplySpec)

/-- 'cocyclelaw12.EditsOwn', WHERE WHAT IT READS IS OF BULK AT MOST 1048576: true; the input reads as it did. -/
def editsOwnUptoRow : OpenClaim := { program := "ytackilpikhkijaagreatdoor", sum := "34a811ae5604210dc9c5320d0b12bb6ac680037a75e2241912f9f5f70f1efa86", func := "cocycle/cocyclelaw12.EditsOwn", spec := "editsOwn", inPlace := ["internal/bytealg.IndexByteString", "internal/bytealg.IndexString"], unfollowed := true, recurses := true, named := ["unicode/utf8.first", "unicode/utf8.acceptRanges", "internal/bytealg.MaxLen"], apart := false, laid := [("unicode/utf8.acceptRanges", laid_unicode_utf8_acceptRanges), ("unicode/utf8.first", laid_unicode_utf8_first)], narrowed := true }
def EditsOwnUptoSaid : Prop := editsOwnUptoRow.holds Tryz.pinned (OpenSpec.upto editsOwnSpec)

/-- 'cocyclelaw12.EditsEuler', WHERE WHAT IT READS IS OF BULK AT MOST 1048576: true; the input reads as it did. -/
def editsEulerUptoRow : OpenClaim := { program := "ytackilpikhkijaagreatdoor", sum := "34a811ae5604210dc9c5320d0b12bb6ac680037a75e2241912f9f5f70f1efa86", func := "cocycle/cocyclelaw12.EditsEuler", spec := "editsEuler", inPlace := ["internal/bytealg.IndexByteString", "internal/bytealg.IndexString"], unfollowed := true, recurses := true, named := ["unicode/utf8.first", "unicode/utf8.acceptRanges", "internal/bytealg.MaxLen"], apart := false, laid := [("unicode/utf8.acceptRanges", laid_unicode_utf8_acceptRanges), ("unicode/utf8.first", laid_unicode_utf8_first)], narrowed := true }
def EditsEulerUptoSaid : Prop := editsEulerUptoRow.holds Tryz.pinned (OpenSpec.upto editsEulerSpec)

/-- 'cocyclelaw12.EditsBack', WHERE WHAT IT READS IS OF BULK AT MOST 1048576: true; the input reads as it did. -/
def editsBackUptoRow : OpenClaim := { program := "ytackilpikhkijaagreatdoor", sum := "34a811ae5604210dc9c5320d0b12bb6ac680037a75e2241912f9f5f70f1efa86", func := "cocycle/cocyclelaw12.EditsBack", spec := "editsBack", inPlace := ["internal/bytealg.IndexByteString", "internal/bytealg.IndexString"], unfollowed := true, recurses := true, named := ["unicode/utf8.first", "unicode/utf8.acceptRanges", "internal/bytealg.MaxLen"], apart := false, laid := [("unicode/utf8.acceptRanges", laid_unicode_utf8_acceptRanges), ("unicode/utf8.first", laid_unicode_utf8_first)], narrowed := true }
def EditsBackUptoSaid : Prop := editsBackUptoRow.holds Tryz.pinned (OpenSpec.upto editsBackSpec)

/-- 'cocyclelaw12.EditsSpoiled', WHERE WHAT IT READS IS OF BULK AT MOST 1048576: true; the input reads as it did. -/
def editsSpoiledUptoRow : OpenClaim := { program := "ytackilpikhkijaagreatdoor", sum := "34a811ae5604210dc9c5320d0b12bb6ac680037a75e2241912f9f5f70f1efa86", func := "cocycle/cocyclelaw12.EditsSpoiled", spec := "editsSpoiled", inPlace := ["internal/bytealg.IndexByteString", "internal/bytealg.IndexString"], unfollowed := true, recurses := true, named := ["unicode/utf8.first", "unicode/utf8.acceptRanges", "internal/bytealg.MaxLen"], apart := false, laid := [("unicode/utf8.acceptRanges", laid_unicode_utf8_acceptRanges), ("unicode/utf8.first", laid_unicode_utf8_first)], narrowed := true }
def EditsSpoiledUptoSaid : Prop := editsSpoiledUptoRow.holds Tryz.pinned (OpenSpec.upto editsSpoiledSpec)

/-- 'cocyclelaw12.EditsAll', WHERE WHAT IT READS IS OF BULK AT MOST 1048576: true; the input reads as it did. -/
def editsAllUptoRow : OpenClaim := { program := "ytackilpikhkijaagreatdoor", sum := "34a811ae5604210dc9c5320d0b12bb6ac680037a75e2241912f9f5f70f1efa86", func := "cocycle/cocyclelaw12.EditsAll", spec := "editsAll", inPlace := ["internal/bytealg.IndexByteString", "internal/bytealg.IndexString"], unfollowed := true, recurses := true, named := ["unicode/utf8.first", "unicode/utf8.acceptRanges", "internal/bytealg.MaxLen"], apart := false, laid := [("unicode/utf8.acceptRanges", laid_unicode_utf8_acceptRanges), ("unicode/utf8.first", laid_unicode_utf8_first)], narrowed := true }
def EditsAllUptoSaid : Prop := editsAllUptoRow.holds Tryz.pinned (OpenSpec.upto editsAllSpec)

/-- 'cocyclelaw12.EditsMany', WHERE WHAT IT READS IS OF BULK AT MOST 1048576: true; the input reads as it did. -/
def editsManyUptoRow : OpenClaim := { program := "ytackilpikhkijaagreatdoor", sum := "34a811ae5604210dc9c5320d0b12bb6ac680037a75e2241912f9f5f70f1efa86", func := "cocycle/cocyclelaw12.EditsMany", spec := "editsMany", inPlace := ["internal/bytealg.IndexByteString", "internal/bytealg.IndexString"], unfollowed := true, recurses := true, named := ["unicode/utf8.first", "unicode/utf8.acceptRanges", "internal/bytealg.MaxLen"], apart := false, laid := [("unicode/utf8.acceptRanges", laid_unicode_utf8_acceptRanges), ("unicode/utf8.first", laid_unicode_utf8_first)], narrowed := true }
def EditsManyUptoSaid : Prop := editsManyUptoRow.holds Tryz.pinned (OpenSpec.upto editsManySpec)

end Rows
end Go.Proofs.YtackilpikhkijaaGreatDoor
