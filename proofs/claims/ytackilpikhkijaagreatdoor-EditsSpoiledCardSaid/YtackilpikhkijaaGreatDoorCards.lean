/-
  DERIVED. GIVEN WITH THE SEED: THE CARDS: each row of YtackilpikhkijaaGreatDoorRows.lean that lists a variable, with what it lists TIED to the program's text (the seventh form; the later family's looks); each row that meets fmt, with fmt's text TOLD by the authors' own Lean function (tested against real Go, not proved from fmt's source: count such statements apart). THE CARD IS WHAT COUNTS. Prove the row's statement (the work); the ties are given (YtackilpikhkijaaGreatDoorTie.lean); close each card by the builder's one call (the guide's Derived/Test/ToyasCard.lean, 'card_holds'). Laid BY PROGRAM, IN A SANDBOX (cutbox-door.mjs). By AI agents, Wed Nov 11 2026. No macro, syntax, notation, axiom, sorry.
-/
import Derived.Test.YtackilpikhkijaaGreatDoorRows
import GoSem.ClaimSeven
namespace Go.Proofs.YtackilpikhkijaaGreatDoor
namespace Rows

/-- THE TIED CARD OF 'cocyclelaw12.EditsApply'. -/
def editsApplyCard : Claim7 := { stood := { row := editsApplyRow, standIns := [], harness := (true, "85c63643d982c1dc8445885ae8d9f831c52b04b8be462a812c531b9780928fe8"), looks := false }, kinds := [], alts := [], laidByText := true, laidKinds := [.data, .pinned], laidTests := true, laidLooks := .later }
def EditsApplyCardSaid : Prop := Claim7.holds Tryz.pinned (.plain (OpenSpec.ofChange editsApplySpec)) editsApplyCard

/-- THE TIED CARD OF 'cocyclelaw12.EditsOwn'. -/
def editsOwnCard : Claim7 := { stood := { row := editsOwnRow, standIns := [], harness := (true, "85c63643d982c1dc8445885ae8d9f831c52b04b8be462a812c531b9780928fe8"), looks := false }, kinds := [], alts := [], laidByText := true, laidKinds := [.data, .pinned], laidTests := true, laidLooks := .later }
def EditsOwnCardSaid : Prop := Claim7.holds Tryz.pinned (.plain (OpenSpec.ofChange editsOwnSpec)) editsOwnCard

/-- THE TIED CARD OF 'cocyclelaw12.EditsEuler'. -/
def editsEulerCard : Claim7 := { stood := { row := editsEulerRow, standIns := [], harness := (true, "85c63643d982c1dc8445885ae8d9f831c52b04b8be462a812c531b9780928fe8"), looks := false }, kinds := [], alts := [], laidByText := true, laidKinds := [.data, .pinned], laidTests := true, laidLooks := .later }
def EditsEulerCardSaid : Prop := Claim7.holds Tryz.pinned (.plain (OpenSpec.ofChange editsEulerSpec)) editsEulerCard

/-- THE TIED CARD OF 'cocyclelaw12.EditsBack'. -/
def editsBackCard : Claim7 := { stood := { row := editsBackRow, standIns := [], harness := (true, "85c63643d982c1dc8445885ae8d9f831c52b04b8be462a812c531b9780928fe8"), looks := false }, kinds := [], alts := [], laidByText := true, laidKinds := [.data, .pinned], laidTests := true, laidLooks := .later }
def EditsBackCardSaid : Prop := Claim7.holds Tryz.pinned (.plain (OpenSpec.ofChange editsBackSpec)) editsBackCard

/-- THE TIED CARD OF 'cocyclelaw12.EditsSpoiled'. -/
def editsSpoiledCard : Claim7 := { stood := { row := editsSpoiledRow, standIns := [], harness := (true, "85c63643d982c1dc8445885ae8d9f831c52b04b8be462a812c531b9780928fe8"), looks := false }, kinds := [], alts := [], laidByText := true, laidKinds := [.data, .pinned], laidTests := true, laidLooks := .later }
def EditsSpoiledCardSaid : Prop := Claim7.holds Tryz.pinned (.plain (OpenSpec.ofChange editsSpoiledSpec)) editsSpoiledCard

/-- THE TIED CARD OF 'cocyclelaw12.EditsAll'. -/
def editsAllCard : Claim7 := { stood := { row := editsAllRow, standIns := [], harness := (true, "85c63643d982c1dc8445885ae8d9f831c52b04b8be462a812c531b9780928fe8"), looks := false }, kinds := [], alts := [], laidByText := true, laidKinds := [.data, .pinned], laidTests := true, laidLooks := .later }
def EditsAllCardSaid : Prop := Claim7.holds Tryz.pinned (.plain (OpenSpec.ofChange editsAllSpec)) editsAllCard

/-- THE TIED CARD OF 'cocyclelaw12.EditsMany'. -/
def editsManyCard : Claim7 := { stood := { row := editsManyRow, standIns := [], harness := (true, "85c63643d982c1dc8445885ae8d9f831c52b04b8be462a812c531b9780928fe8"), looks := false }, kinds := [], alts := [], laidByText := true, laidKinds := [.data, .pinned], laidTests := true, laidLooks := .later }
def EditsManyCardSaid : Prop := Claim7.holds Tryz.pinned (.plain (OpenSpec.ofChange editsManySpec)) editsManyCard

/-- THE SECOND FORM's CARD OF 'cocyclelaw12.EditsApply'. -/
def editsApplyUptoCard : Claim7 := { stood := { row := editsApplyUptoRow, standIns := [], harness := (true, "85c63643d982c1dc8445885ae8d9f831c52b04b8be462a812c531b9780928fe8"), looks := false }, kinds := [], alts := [], laidByText := true, laidKinds := [.data, .pinned], laidTests := true, laidLooks := .later }
def EditsApplyUptoCardSaid : Prop := Claim7.holds Tryz.pinned (.plain (OpenSpec.upto editsApplySpec)) editsApplyUptoCard

/-- THE SECOND FORM's CARD OF 'cocyclelaw12.EditsOwn'. -/
def editsOwnUptoCard : Claim7 := { stood := { row := editsOwnUptoRow, standIns := [], harness := (true, "85c63643d982c1dc8445885ae8d9f831c52b04b8be462a812c531b9780928fe8"), looks := false }, kinds := [], alts := [], laidByText := true, laidKinds := [.data, .pinned], laidTests := true, laidLooks := .later }
def EditsOwnUptoCardSaid : Prop := Claim7.holds Tryz.pinned (.plain (OpenSpec.upto editsOwnSpec)) editsOwnUptoCard

/-- THE SECOND FORM's CARD OF 'cocyclelaw12.EditsEuler'. -/
def editsEulerUptoCard : Claim7 := { stood := { row := editsEulerUptoRow, standIns := [], harness := (true, "85c63643d982c1dc8445885ae8d9f831c52b04b8be462a812c531b9780928fe8"), looks := false }, kinds := [], alts := [], laidByText := true, laidKinds := [.data, .pinned], laidTests := true, laidLooks := .later }
def EditsEulerUptoCardSaid : Prop := Claim7.holds Tryz.pinned (.plain (OpenSpec.upto editsEulerSpec)) editsEulerUptoCard

/-- THE SECOND FORM's CARD OF 'cocyclelaw12.EditsBack'. -/
def editsBackUptoCard : Claim7 := { stood := { row := editsBackUptoRow, standIns := [], harness := (true, "85c63643d982c1dc8445885ae8d9f831c52b04b8be462a812c531b9780928fe8"), looks := false }, kinds := [], alts := [], laidByText := true, laidKinds := [.data, .pinned], laidTests := true, laidLooks := .later }
def EditsBackUptoCardSaid : Prop := Claim7.holds Tryz.pinned (.plain (OpenSpec.upto editsBackSpec)) editsBackUptoCard

/-- THE SECOND FORM's CARD OF 'cocyclelaw12.EditsSpoiled'. -/
def editsSpoiledUptoCard : Claim7 := { stood := { row := editsSpoiledUptoRow, standIns := [], harness := (true, "85c63643d982c1dc8445885ae8d9f831c52b04b8be462a812c531b9780928fe8"), looks := false }, kinds := [], alts := [], laidByText := true, laidKinds := [.data, .pinned], laidTests := true, laidLooks := .later }
def EditsSpoiledUptoCardSaid : Prop := Claim7.holds Tryz.pinned (.plain (OpenSpec.upto editsSpoiledSpec)) editsSpoiledUptoCard

/-- THE SECOND FORM's CARD OF 'cocyclelaw12.EditsAll'. -/
def editsAllUptoCard : Claim7 := { stood := { row := editsAllUptoRow, standIns := [], harness := (true, "85c63643d982c1dc8445885ae8d9f831c52b04b8be462a812c531b9780928fe8"), looks := false }, kinds := [], alts := [], laidByText := true, laidKinds := [.data, .pinned], laidTests := true, laidLooks := .later }
def EditsAllUptoCardSaid : Prop := Claim7.holds Tryz.pinned (.plain (OpenSpec.upto editsAllSpec)) editsAllUptoCard

/-- THE SECOND FORM's CARD OF 'cocyclelaw12.EditsMany'. -/
def editsManyUptoCard : Claim7 := { stood := { row := editsManyUptoRow, standIns := [], harness := (true, "85c63643d982c1dc8445885ae8d9f831c52b04b8be462a812c531b9780928fe8"), looks := false }, kinds := [], alts := [], laidByText := true, laidKinds := [.data, .pinned], laidTests := true, laidLooks := .later }
def EditsManyUptoCardSaid : Prop := Claim7.holds Tryz.pinned (.plain (OpenSpec.upto editsManySpec)) editsManyUptoCard
end Rows
end Go.Proofs.YtackilpikhkijaaGreatDoor
