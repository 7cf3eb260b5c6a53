/-
  No cell of these rows narrows 'for every input' (looked for: loops, veiled, ifaces, maps, wideKeys, modest, calm, conditions, laid).
  DERIVED. THE GIVEN ROWS OF THIS SEAT. 4 by the template 'for every input the law returns true; each argument reads behind the call as it read before'; 0 by the template 'total and deterministic' (their statements: YtcfkpajlakidbaaGreatTotals.lean).
  GIVEN WITH THE SEED: the statements are not yours to turn. If you find one false, say at which input.
  Laid BY PROGRAM, IN A SANDBOX (cutbox-rows.mjs): the forced cells as the released guide's own fill.sh prints them over the translation 0175b52edc36f81a… (all of the seat's roots in one cut). By AI agents, Wed Nov 11 2026. No macro, syntax, notation, axiom, sorry.
-/
import Derived.Test.YtcfkpajlakidbaaGreatChecked
import GoSem.Claim
import GoSem.ClaimJoined
import GoSem.ClaimMapViews
import Derived.JoinedTies
import Derived.KernelRfl
namespace Go.Proofs.YtcfkpajlakidbaaGreat
/- THE CELL 'sum', in the pinned program and in every row, IS THE sha256 OF THE DUMP (.gsa) THAT YtcfkpajlakidbaaGreatProg.lean LOADS. Nothing in Lean hashes anything: it is a label: what it is worth is what the hold of that sum in a sandbox is worth. -/
noncomputable def Tryz.pinned : Pinned := { name := "ytcfkpajlakidbaagreat", sum := "0175b52edc36f81a30305ecdedb37a5d00702eae8f3089e9afab7f53586c0d56", checked := Tryz.checked }
namespace Rows
def none {H : Type} : Left H := { results := [], args := [] }

/-- 'cocyclelaw24.TilesPages': WHATEVER THE INPUT: true; the input reads as it did. -/
def tilesPagesSpec : ChangeSpec := { name := "tilesPages", fn := fun _ => fun
  | [d1, d2, d3] => { results := [.lit (.bool true)], args := [d1, d2, d3] }
  | _ => none }
def tilesPagesRow : OpenClaim := { program := "ytcfkpajlakidbaagreat", sum := "0175b52edc36f81a30305ecdedb37a5d00702eae8f3089e9afab7f53586c0d56", func := "cocycle/cocyclelaw24.TilesPages", spec := "tilesPages", unfollowed := true, recurses := true, plainKeys := false, apart := false }
def TilesPagesSaid : Prop := tilesPagesRow.holds Tryz.pinned (OpenSpec.ofChange tilesPagesSpec)

/-- ITS FALSE NEIGHBOUR: 'it returns false'. Refute it at one input. -/
def tilesPagesWrong : ChangeSpec := { name := "tilesPages", fn := fun _ => fun
  | [d1, d2, d3] => { results := [.lit (.bool false)], args := [d1, d2, d3] }
  | _ => none }
def TilesPagesWrongFalsely : Prop := tilesPagesRow.holds Tryz.pinned (OpenSpec.ofChange tilesPagesWrong)

/-- 'cocyclelaw24.TilesOrder': WHATEVER THE INPUT: true; the input reads as it did. -/
def tilesOrderSpec : ChangeSpec := { name := "tilesOrder", fn := fun _ => fun
  | [d1, d2, d3] => { results := [.lit (.bool true)], args := [d1, d2, d3] }
  | _ => none }
def tilesOrderRow : OpenClaim := { program := "ytcfkpajlakidbaagreat", sum := "0175b52edc36f81a30305ecdedb37a5d00702eae8f3089e9afab7f53586c0d56", func := "cocycle/cocyclelaw24.TilesOrder", spec := "tilesOrder", unfollowed := true, recurses := true, plainKeys := false, apart := false }
def TilesOrderSaid : Prop := tilesOrderRow.holds Tryz.pinned (OpenSpec.ofChange tilesOrderSpec)

/-- ITS FALSE NEIGHBOUR: 'it returns false'. Refute it at one input. -/
def tilesOrderWrong : ChangeSpec := { name := "tilesOrder", fn := fun _ => fun
  | [d1, d2, d3] => { results := [.lit (.bool false)], args := [d1, d2, d3] }
  | _ => none }
def TilesOrderWrongFalsely : Prop := tilesOrderRow.holds Tryz.pinned (OpenSpec.ofChange tilesOrderWrong)

/-- 'cocyclelaw24.TilesErrors': WHATEVER THE INPUT: true; the input reads as it did. -/
def tilesErrorsSpec : ChangeSpec := { name := "tilesErrors", fn := fun _ => fun
  | [d1, d2, d3] => { results := [.lit (.bool true)], args := [d1, d2, d3] }
  | _ => none }
def tilesErrorsRow : OpenClaim := { program := "ytcfkpajlakidbaagreat", sum := "0175b52edc36f81a30305ecdedb37a5d00702eae8f3089e9afab7f53586c0d56", func := "cocycle/cocyclelaw24.TilesErrors", spec := "tilesErrors", unfollowed := true, recurses := true, plainKeys := false, apart := false }
def TilesErrorsSaid : Prop := tilesErrorsRow.holds Tryz.pinned (OpenSpec.ofChange tilesErrorsSpec)

/-- ITS FALSE NEIGHBOUR: 'it returns false'. Refute it at one input. -/
def tilesErrorsWrong : ChangeSpec := { name := "tilesErrors", fn := fun _ => fun
  | [d1, d2, d3] => { results := [.lit (.bool false)], args := [d1, d2, d3] }
  | _ => none }
def TilesErrorsWrongFalsely : Prop := tilesErrorsRow.holds Tryz.pinned (OpenSpec.ofChange tilesErrorsWrong)

/-- 'cocyclelaw24.TilesShrink': WHATEVER THE INPUT: true; the input reads as it did. -/
def tilesShrinkSpec : ChangeSpec := { name := "tilesShrink", fn := fun _ => fun
  | [d1, d2, d3] => { results := [.lit (.bool true)], args := [d1, d2, d3] }
  | _ => none }
def tilesShrinkRow : OpenClaim := { program := "ytcfkpajlakidbaagreat", sum := "0175b52edc36f81a30305ecdedb37a5d00702eae8f3089e9afab7f53586c0d56", func := "cocycle/cocyclelaw24.TilesShrink", spec := "tilesShrink", unfollowed := true, recurses := true, plainKeys := false, apart := false }
def TilesShrinkSaid : Prop := tilesShrinkRow.holds Tryz.pinned (OpenSpec.ofChange tilesShrinkSpec)

/-- ITS FALSE NEIGHBOUR: 'it returns false'. Refute it at one input. -/
def tilesShrinkWrong : ChangeSpec := { name := "tilesShrink", fn := fun _ => fun
  | [d1, d2, d3] => { results := [.lit (.bool false)], args := [d1, d2, d3] }
  | _ => none }
def TilesShrinkWrongFalsely : Prop := tilesShrinkRow.holds Tryz.pinned (OpenSpec.ofChange tilesShrinkWrong)

/- THE SECOND FORM. 'bulk': how many values and letters a reading holds, each counted each time it is reached (what is shared counts as often as it is met; a slice's spare places count too). A statement '..UptoSaid' is the law's where the arguments, and the package variables that the reading takes, are together of bulk at most 1048576: NARROWER than '..Said'. Prove '..Said' where nothing that the law and all that it calls make is longer than what came in: it says more and counts as full. Else prove '..UptoSaid'. A law counts once. -/
mutual
def uptoBulk {H : Type} : DataW H → Nat
  | .lit (.string bytes) => bytes.length + 1
  | .lit _ => 1
  | .nil => 1
  | .ptr d => uptoBulk d + 1
  | .slice elems spare => uptoBulkAll elems + uptoBulkAll spare + 1
  | .agg parts => uptoBulkAll parts + 1
  | .iface _ d => uptoBulk d + 1
  | .map entries => uptoBulkEntries entries + 1
  | .held _ => 1
def uptoBulkAll {H : Type} : List (DataW H) → Nat
  | [] => 0
  | d :: r => uptoBulk d + uptoBulkAll r
def uptoBulkEntries {H : Type} : List (Lit × DataW H) → Nat
  | [] => 0
  | x :: r => uptoBulkEntry x + uptoBulkEntries r
def uptoBulkEntry {H : Type} : Lit × DataW H → Nat
  | (.string bytes, d) => bytes.length + uptoBulk d + 1
  | (_, d) => uptoBulk d + 1
 end
def uptoSmall : (H : Type) → List (DataW H) → Bool := fun _ ds => decide (uptoBulkAll ds ≤ 1048576)
def OpenSpec.upto (s : _root_.Go.ChangeSpec) : _root_.Go.OpenSpec := { _root_.Go.OpenSpec.ofChange s with cond := some uptoSmall }

/-- 'cocyclelaw24.TilesPages', WHERE WHAT IT READS IS OF BULK AT MOST 1048576: true; the input reads as it did. -/
def tilesPagesUptoRow : OpenClaim := { program := "ytcfkpajlakidbaagreat", sum := "0175b52edc36f81a30305ecdedb37a5d00702eae8f3089e9afab7f53586c0d56", func := "cocycle/cocyclelaw24.TilesPages", spec := "tilesPages", unfollowed := true, recurses := true, plainKeys := false, apart := false, narrowed := true }
def TilesPagesUptoSaid : Prop := tilesPagesUptoRow.holds Tryz.pinned (OpenSpec.upto tilesPagesSpec)

/-- 'cocyclelaw24.TilesOrder', WHERE WHAT IT READS IS OF BULK AT MOST 1048576: true; the input reads as it did. -/
def tilesOrderUptoRow : OpenClaim := { program := "ytcfkpajlakidbaagreat", sum := "0175b52edc36f81a30305ecdedb37a5d00702eae8f3089e9afab7f53586c0d56", func := "cocycle/cocyclelaw24.TilesOrder", spec := "tilesOrder", unfollowed := true, recurses := true, plainKeys := false, apart := false, narrowed := true }
def TilesOrderUptoSaid : Prop := tilesOrderUptoRow.holds Tryz.pinned (OpenSpec.upto tilesOrderSpec)

/-- 'cocyclelaw24.TilesErrors', WHERE WHAT IT READS IS OF BULK AT MOST 1048576: true; the input reads as it did. -/
def tilesErrorsUptoRow : OpenClaim := { program := "ytcfkpajlakidbaagreat", sum := "0175b52edc36f81a30305ecdedb37a5d00702eae8f3089e9afab7f53586c0d56", func := "cocycle/cocyclelaw24.TilesErrors", spec := "tilesErrors", unfollowed := true, recurses := true, plainKeys := false, apart := false, narrowed := true }
def TilesErrorsUptoSaid : Prop := tilesErrorsUptoRow.holds Tryz.pinned (OpenSpec.upto tilesErrorsSpec)

/-- 'cocyclelaw24.TilesShrink', WHERE WHAT IT READS IS OF BULK AT MOST 1048576: true; the input reads as it did. -/
def tilesShrinkUptoRow : OpenClaim := { program := "ytcfkpajlakidbaagreat", sum := "0175b52edc36f81a30305ecdedb37a5d00702eae8f3089e9afab7f53586c0d56", func := "cocycle/cocyclelaw24.TilesShrink", spec := "tilesShrink", unfollowed := true, recurses := true, plainKeys := false, apart := false, narrowed := true }
def TilesShrinkUptoSaid : Prop := tilesShrinkUptoRow.holds Tryz.pinned (OpenSpec.upto tilesShrinkSpec)

end Rows
end Go.Proofs.YtcfkpajlakidbaaGreat
