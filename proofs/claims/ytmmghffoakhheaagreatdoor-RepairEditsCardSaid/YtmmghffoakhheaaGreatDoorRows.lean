/-
  NARROWER THAN 'FOR EVERY INPUT', by the rows' own cells (each row's printed sentence says how): RepairKeeps: laid · RepairEdits: laid · RepairAttach: laid · RepairWrong: laid · RepairRight: laid · RepairSame: laid.
  DERIVED. THE GIVEN ROWS OF THIS SEAT. 6 by the template 'for every input the law returns true; each argument reads behind the call as it read before'; 0 by the template 'total and deterministic' (their statements: YtmmghffoakhheaaGreatDoorTotals.lean).
  GIVEN WITH THE SEED: the statements are not yours to turn. If you find one false, say at which input.
  Laid BY PROGRAM, IN A SANDBOX (cutbox-rows.mjs): the forced cells as the released guide's own fill.sh prints them over the translation 33b05e43f6151941… (all of the seat's roots in one cut). By AI agents, Wed Nov 11 2026. No macro, syntax, notation, axiom, sorry.
-/
import Derived.Test.YtmmghffoakhheaaGreatDoorChecked
import GoSem.PinnedTables
import GoSem.Claim
import GoSem.ClaimJoined
import GoSem.ClaimMapViews
import Derived.JoinedTies
import Derived.KernelRfl
namespace Go.Proofs.YtmmghffoakhheaaGreatDoor
/- THE CELL 'sum', in the pinned program and in every row, IS THE sha256 OF THE DUMP (.gsa) THAT YtmmghffoakhheaaGreatDoorProg.lean LOADS. Nothing in Lean hashes anything: it is a label: what it is worth is what the hold of that sum in a sandbox is worth. -/
noncomputable def Tryz.pinned : Pinned := { name := "ytmmghffoakhheaagreatdoor", sum := "33b05e43f61519415d17d5523fed736128e47ee02f72b7b2497ad45d93f0af8e", checked := Tryz.checked }
namespace Rows
def none {H : Type} : Left H := { results := [], args := [] }

/- WHAT THE LISTED PACKAGE-LEVEL VARIABLES READ AS WHEN THE CALL BEGINS. Each datum BY PROGRAM (the guide's laid-datum.mjs) off the statement by which the dump's own 'gosem.cut.vars' lays the variable. In a bare row this is a premise. The card (YtmmghffoakhheaaGreatDoorCards.lean) ties it to the program's text. -/
def laid_unicode_utf8_acceptRanges {H : Type} : DataW H := .agg [.agg [.lit (.int .u8 128), .lit (.int .u8 191)], .agg [.lit (.int .u8 160), .lit (.int .u8 191)], .agg [.lit (.int .u8 128), .lit (.int .u8 159)], .agg [.lit (.int .u8 144), .lit (.int .u8 191)], .agg [.lit (.int .u8 128), .lit (.int .u8 143)], .agg [.lit (.int .u8 0), .lit (.int .u8 0)], .agg [.lit (.int .u8 0), .lit (.int .u8 0)], .agg [.lit (.int .u8 0), .lit (.int .u8 0)], .agg [.lit (.int .u8 0), .lit (.int .u8 0)], .agg [.lit (.int .u8 0), .lit (.int .u8 0)], .agg [.lit (.int .u8 0), .lit (.int .u8 0)], .agg [.lit (.int .u8 0), .lit (.int .u8 0)], .agg [.lit (.int .u8 0), .lit (.int .u8 0)], .agg [.lit (.int .u8 0), .lit (.int .u8 0)], .agg [.lit (.int .u8 0), .lit (.int .u8 0)], .agg [.lit (.int .u8 0), .lit (.int .u8 0)]]
/-- One of Go's own tables, pinned by name: the form's constant. -/
def laid_unicode_utf8_first : DataW Unit := Go.Pinned.utf8First

/-- 'cocyclelaw14.RepairKeeps': WHATEVER THE INPUT: true; the input reads as it did. -/
def repairKeepsSpec : ChangeSpec := { name := "repairKeeps", fn := fun _ => fun
  | [d1, d2] => { results := [.lit (.bool true)], args := [d1, d2] }
  | _ => none }
def repairKeepsRow : OpenClaim := { program := "ytmmghffoakhheaagreatdoor", sum := "33b05e43f61519415d17d5523fed736128e47ee02f72b7b2497ad45d93f0af8e", func := "cocycle/cocyclelaw14.RepairKeeps", spec := "repairKeeps", inPlace := ["internal/bytealg.IndexByteString", "internal/bytealg.IndexString"], unfollowed := true, recurses := true, named := ["unicode/utf8.first", "unicode/utf8.acceptRanges", "internal/bytealg.MaxLen"], apart := false, laid := [("unicode/utf8.acceptRanges", laid_unicode_utf8_acceptRanges), ("unicode/utf8.first", laid_unicode_utf8_first)] }
def RepairKeepsSaid : Prop := repairKeepsRow.holds Tryz.pinned (OpenSpec.ofChange repairKeepsSpec)

/-- ITS FALSE NEIGHBOUR: 'it returns false'. Refute it at one input. -/
def repairKeepsWrong : ChangeSpec := { name := "repairKeeps", fn := fun _ => fun
  | [d1, d2] => { results := [.lit (.bool false)], args := [d1, d2] }
  | _ => none }
def RepairKeepsWrongFalsely : Prop := repairKeepsRow.holds Tryz.pinned (OpenSpec.ofChange repairKeepsWrong)

/-- 'cocyclelaw14.RepairEdits': WHATEVER THE INPUT: true; the input reads as it did. -/
def repairEditsSpec : ChangeSpec := { name := "repairEdits", fn := fun _ => fun
  | [d1, d2, d3] => { results := [.lit (.bool true)], args := [d1, d2, d3] }
  | _ => none }
def repairEditsRow : OpenClaim := { program := "ytmmghffoakhheaagreatdoor", sum := "33b05e43f61519415d17d5523fed736128e47ee02f72b7b2497ad45d93f0af8e", func := "cocycle/cocyclelaw14.RepairEdits", spec := "repairEdits", inPlace := ["internal/bytealg.IndexByteString", "internal/bytealg.IndexString"], unfollowed := true, recurses := true, named := ["unicode/utf8.first", "unicode/utf8.acceptRanges", "internal/bytealg.MaxLen"], apart := false, laid := [("unicode/utf8.acceptRanges", laid_unicode_utf8_acceptRanges), ("unicode/utf8.first", laid_unicode_utf8_first)] }
def RepairEditsSaid : Prop := repairEditsRow.holds Tryz.pinned (OpenSpec.ofChange repairEditsSpec)

/-- ITS FALSE NEIGHBOUR: 'it returns false'. Refute it at one input. -/
def repairEditsWrong : ChangeSpec := { name := "repairEdits", fn := fun _ => fun
  | [d1, d2, d3] => { results := [.lit (.bool false)], args := [d1, d2, d3] }
  | _ => none }
def RepairEditsWrongFalsely : Prop := repairEditsRow.holds Tryz.pinned (OpenSpec.ofChange repairEditsWrong)

/-- 'cocyclelaw14.RepairAttach': WHATEVER THE INPUT: true; the input reads as it did. -/
def repairAttachSpec : ChangeSpec := { name := "repairAttach", fn := fun _ => fun
  | [d1, d2, d3] => { results := [.lit (.bool true)], args := [d1, d2, d3] }
  | _ => none }
def repairAttachRow : OpenClaim := { program := "ytmmghffoakhheaagreatdoor", sum := "33b05e43f61519415d17d5523fed736128e47ee02f72b7b2497ad45d93f0af8e", func := "cocycle/cocyclelaw14.RepairAttach", spec := "repairAttach", inPlace := ["internal/bytealg.IndexByteString", "internal/bytealg.IndexString"], unfollowed := true, recurses := true, named := ["unicode/utf8.first", "unicode/utf8.acceptRanges", "internal/bytealg.MaxLen"], apart := false, laid := [("unicode/utf8.acceptRanges", laid_unicode_utf8_acceptRanges), ("unicode/utf8.first", laid_unicode_utf8_first)] }
def RepairAttachSaid : Prop := repairAttachRow.holds Tryz.pinned (OpenSpec.ofChange repairAttachSpec)

/-- ITS FALSE NEIGHBOUR: 'it returns false'. Refute it at one input. -/
def repairAttachWrong : ChangeSpec := { name := "repairAttach", fn := fun _ => fun
  | [d1, d2, d3] => { results := [.lit (.bool false)], args := [d1, d2, d3] }
  | _ => none }
def RepairAttachWrongFalsely : Prop := repairAttachRow.holds Tryz.pinned (OpenSpec.ofChange repairAttachWrong)

/-- 'cocyclelaw14.RepairWrong': WHATEVER THE INPUT: true; the input reads as it did. -/
def repairWrongSpec : ChangeSpec := { name := "repairWrong", fn := fun _ => fun
  | [d1, d2, d3] => { results := [.lit (.bool true)], args := [d1, d2, d3] }
  | _ => none }
def repairWrongRow : OpenClaim := { program := "ytmmghffoakhheaagreatdoor", sum := "33b05e43f61519415d17d5523fed736128e47ee02f72b7b2497ad45d93f0af8e", func := "cocycle/cocyclelaw14.RepairWrong", spec := "repairWrong", inPlace := ["internal/bytealg.IndexByteString", "internal/bytealg.IndexString"], unfollowed := true, recurses := true, named := ["unicode/utf8.first", "unicode/utf8.acceptRanges", "internal/bytealg.MaxLen"], apart := false, laid := [("unicode/utf8.acceptRanges", laid_unicode_utf8_acceptRanges), ("unicode/utf8.first", laid_unicode_utf8_first)] }
def RepairWrongSaid : Prop := repairWrongRow.holds Tryz.pinned (OpenSpec.ofChange repairWrongSpec)

/-- ITS FALSE NEIGHBOUR: 'it returns false'. Refute it at one input. -/
def repairWrongWrong : ChangeSpec := { name := "repairWrong", fn := fun _ => fun
  | [d1, d2, d3] => { results := [.lit (.bool false)], args := [d1, d2, d3] }
  | _ => none }
def RepairWrongWrongFalsely : Prop := repairWrongRow.holds Tryz.pinned (OpenSpec.ofChange repairWrongWrong)

/-- 'cocyclelaw14.RepairRight': WHATEVER THE INPUT: true; the input reads as it did. -/
def repairRightSpec : ChangeSpec := { name := "repairRight", fn := fun _ => fun
  | [d1, d2] => { results := [.lit (.bool true)], args := [d1, d2] }
  | _ => none }
def repairRightRow : OpenClaim := { program := "ytmmghffoakhheaagreatdoor", sum := "33b05e43f61519415d17d5523fed736128e47ee02f72b7b2497ad45d93f0af8e", func := "cocycle/cocyclelaw14.RepairRight", spec := "repairRight", inPlace := ["internal/bytealg.IndexByteString", "internal/bytealg.IndexString"], unfollowed := true, recurses := true, named := ["unicode/utf8.first", "unicode/utf8.acceptRanges", "internal/bytealg.MaxLen"], apart := false, laid := [("unicode/utf8.acceptRanges", laid_unicode_utf8_acceptRanges), ("unicode/utf8.first", laid_unicode_utf8_first)] }
def RepairRightSaid : Prop := repairRightRow.holds Tryz.pinned (OpenSpec.ofChange repairRightSpec)

/-- ITS FALSE NEIGHBOUR: 'it returns false'. Refute it at one input. -/
def repairRightWrong : ChangeSpec := { name := "repairRight", fn := fun _ => fun
  | [d1, d2] => { results := [.lit (.bool false)], args := [d1, d2] }
  | _ => none }
def RepairRightWrongFalsely : Prop := repairRightRow.holds Tryz.pinned (OpenSpec.ofChange repairRightWrong)

/-- 'cocyclelaw14.RepairSame': WHATEVER THE INPUT: true; the input reads as it did. -/
def repairSameSpec : ChangeSpec := { name := "repairSame", fn := fun _ => fun
  | [d1, d2, d3] => { results := [.lit (.bool true)], args := [d1, d2, d3] }
  | _ => none }
def repairSameRow : OpenClaim := { program := "ytmmghffoakhheaagreatdoor", sum := "33b05e43f61519415d17d5523fed736128e47ee02f72b7b2497ad45d93f0af8e", func := "cocycle/cocyclelaw14.RepairSame", spec := "repairSame", inPlace := ["internal/bytealg.IndexByteString", "internal/bytealg.IndexString"], unfollowed := true, recurses := true, named := ["unicode/utf8.first", "unicode/utf8.acceptRanges", "internal/bytealg.MaxLen"], apart := false, laid := [("unicode/utf8.acceptRanges", laid_unicode_utf8_acceptRanges), ("unicode/utf8.first", laid_unicode_utf8_first)] }
def RepairSameSaid : Prop := repairSameRow.holds Tryz.pinned (OpenSpec.ofChange repairSameSpec)

/-- ITS FALSE NEIGHBOUR: 'it returns false'. Refute it at one input. -/
def repairSameWrong : ChangeSpec := { name := "repairSame", fn := fun _ => fun
  | [d1, d2, d3] => { results := [.lit (.bool false)], args := [d1, d2, d3] }
  | _ => none }
def RepairSameWrongFalsely : Prop := repairSameRow.holds Tryz.pinned (OpenSpec.ofChange repairSameWrong)

/- THE SECOND FORM. 'bulk': how many values and letters a reading holds, each counted each time it is reached (what is shared counts as often as it is met; a slice's spare places count too). A statement '..UptoSaid' is the law's where the arguments, and the package variables that the reading takes, are together of bulk at most 1048576: NARROWER than '..Said'. Prove '..Said' where nothing that the law and all that it calls make is longer than what came in: it says more and counts as full. Else prove '..UptoSaid'. A law counts once. -/
mutual
def uptoBulk {H : Type} : DataW H → Nat
  | .lit (.string bytes) => bytes.length + 1
  | .lit _ => 1
  | .nil => 1
  | .ptr d => uptoBulk d + 1
  | .slice elems spare => uptoBulkAll elems + uptoBulkAll spare + 1
  | .agg parts => uptoBulkAll parts + 1
  | .iface _ d => uptoBulk d + 1
  | .map entries => uptoBulkEntries entries + 1
  | .held _ => 1
def uptoBulkAll {H : Type} : List (DataW H) → Nat
  | [] => 0
  | d :: r => uptoBulk d + uptoBulkAll r
def uptoBulkEntries {H : Type} : List (Lit × DataW H) → Nat
  | [] => 0
  | x :: r => uptoBulkEntry x + uptoBulkEntries r
def uptoBulkEntry {H : Type} : Lit × DataW H → Nat
  | (.string bytes, d) => bytes.length + uptoBulk d + 1
  | (_, d) => uptoBulk d + 1
 end
def uptoSmall : (H : Type) → List (DataW H) → Bool := fun _ ds => decide (uptoBulkAll ds ≤ 1048576)
def OpenSpec.upto (s : _root_.Go.ChangeSpec) : _root_.Go.OpenSpec := { _root_.Go.OpenSpec.ofChange s with cond := some uptoSmall }

/-- 'cocyclelaw14.RepairKeeps', WHERE WHAT IT READS IS OF BULK AT MOST 1048576: true; the input reads as it did. -/
def repairKeepsUptoRow : OpenClaim := { program := "ytmmghffoakhheaagreatdoor", sum := "33b05e43f61519415d17d5523fed736128e47ee02f72b7b2497ad45d93f0af8e", func := "cocycle/cocyclelaw14.RepairKeeps", spec := "repairKeeps", inPlace := ["internal/bytealg.IndexByteString", "internal/bytealg.IndexString"], unfollowed := true, recurses := true, named := ["unicode/utf8.first", "unicode/utf8.acceptRanges", "internal/bytealg.MaxLen"], apart := false, laid := [("unicode/utf8.acceptRanges", laid_unicode_utf8_acceptRanges), ("unicode/utf8.first", laid_unicode_utf8_first)], narrowed := true }
def RepairKeepsUptoSaid : Prop := repairKeepsUptoRow.holds Tryz.pinned (OpenSpec.upto repairKeepsSpec)

/-- 'cocyclelaw14.RepairEdits', WHERE WHAT IT READS IS OF BULK AT MOST 1048576: true; the input reads as it did. -/
def repairEditsUptoRow : OpenClaim := { program := "ytmmghffoakhheaagreatdoor", sum := "33b05e43f61519415d17d5523fed736128e47ee02f72b7b2497ad45d93f0af8e", func := "cocycle/cocyclelaw14.RepairEdits", spec := "repairEdits", inPlace := ["internal/bytealg.IndexByteString", "internal/bytealg.IndexString"], unfollowed := true, recurses := true, named := ["unicode/utf8.first", "unicode/utf8.acceptRanges", "internal/bytealg.MaxLen"], apart := false, laid := [("unicode/utf8.acceptRanges", laid_unicode_utf8_acceptRanges), ("unicode/utf8.first", laid_unicode_utf8_first)], narrowed := true }
def RepairEditsUptoSaid : Prop := repairEditsUptoRow.holds Tryz.pinned (OpenSpec.upto repairEditsSpec)

/-- 'cocyclelaw14.RepairAttach', WHERE WHAT IT READS IS OF BULK AT MOST 1048576: true; the input reads as it did. -/
def repairAttachUptoRow : OpenClaim := { program := "ytmmghffoakhheaagreatdoor", sum := "33b05e43f61519415d17d5523fed736128e47ee02f72b7b2497ad45d93f0af8e", func := "cocycle/cocyclelaw14.RepairAttach", spec := "repairAttach", inPlace := ["internal/bytealg.IndexByteString", "internal/bytealg.IndexString"], unfollowed := true, recurses := true, named := ["unicode/utf8.first", "unicode/utf8.acceptRanges", "internal/bytealg.MaxLen"], apart := false, laid := [("unicode/utf8.acceptRanges", laid_unicode_utf8_acceptRanges), ("unicode/utf8.first", laid_unicode_utf8_first)], narrowed := true }
def RepairAttachUptoSaid : Prop := repairAttachUptoRow.holds Tryz.pinned (OpenSpec.upto repairAttachSpec)

/-- 'cocyclelaw14.RepairWrong', WHERE WHAT IT READS IS OF BULK AT MOST 1048576: true; the input reads as it did. -/
def repairWrongUptoRow : OpenClaim := { program := "ytmmghffoakhheaagreatdoor", sum := "33b05e43f61519415d17d5523fed736128e47ee02f72b7b2497ad45d93f0af8e", func := "cocycle/cocyclelaw14.RepairWrong", spec := "repairWrong", inPlace := ["internal/bytealg.IndexByteString", "internal/bytealg.IndexString"], unfollowed := true, recurses := true, named := ["unicode/utf8.first", "unicode/utf8.acceptRanges", "internal/bytealg.MaxLen"], apart := false, laid := [("unicode/utf8.acceptRanges", laid_unicode_utf8_acceptRanges), ("unicode/utf8.first", laid_unicode_utf8_first)], narrowed := true }
def RepairWrongUptoSaid : Prop := repairWrongUptoRow.holds Tryz.pinned (OpenSpec.upto repairWrongSpec)

/-- 'cocyclelaw14.RepairRight', WHERE WHAT IT READS IS OF BULK AT MOST 1048576: true; the input reads as it did. -/
def repairRightUptoRow : OpenClaim := { program := "ytmmghffoakhheaagreatdoor", sum := "33b05e43f61519415d17d5523fed736128e47ee02f72b7b2497ad45d93f0af8e", func := "cocycle/cocyclelaw14.RepairRight", spec := "repairRight", inPlace := ["internal/bytealg.IndexByteString", "internal/bytealg.IndexString"], unfollowed := true, recurses := true, named := ["unicode/utf8.first", "unicode/utf8.acceptRanges", "internal/bytealg.MaxLen"], apart := false, laid := [("unicode/utf8.acceptRanges", laid_unicode_utf8_acceptRanges), ("unicode/utf8.first", laid_unicode_utf8_first)], narrowed := true }
def RepairRightUptoSaid : Prop := repairRightUptoRow.holds Tryz.pinned (OpenSpec.upto repairRightSpec)

/-- 'cocyclelaw14.RepairSame', WHERE WHAT IT READS IS OF BULK AT MOST 1048576: true; the input reads as it did. -/
def repairSameUptoRow : OpenClaim := { program := "ytmmghffoakhheaagreatdoor", sum := "33b05e43f61519415d17d5523fed736128e47ee02f72b7b2497ad45d93f0af8e", func := "cocycle/cocyclelaw14.RepairSame", spec := "repairSame", inPlace := ["internal/bytealg.IndexByteString", "internal/bytealg.IndexString"], unfollowed := true, recurses := true, named := ["unicode/utf8.first", "unicode/utf8.acceptRanges", "internal/bytealg.MaxLen"], apart := false, laid := [("unicode/utf8.acceptRanges", laid_unicode_utf8_acceptRanges), ("unicode/utf8.first", laid_unicode_utf8_first)], narrowed := true }
def RepairSameUptoSaid : Prop := repairSameUptoRow.holds Tryz.pinned (OpenSpec.upto repairSameSpec)

end Rows
end Go.Proofs.YtmmghffoakhheaaGreatDoor
