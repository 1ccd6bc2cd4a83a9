/-
  DERIVED. GIVEN WITH THE SEED: THE CARDS: each row of YtoofmjmnhgdloaaGreatDoorRows.lean that lists a variable, with what it lists TIED to the program's text (the seventh form; the later family's looks); each row that meets fmt, with fmt's text TOLD by the authors' own Lean function (tested against real Go, not proved from fmt's source: count such statements apart). THE CARD IS WHAT COUNTS. Prove the row's statement (the work); the ties are given (YtoofmjmnhgdloaaGreatDoorTie.lean); close each card by the builder's one call (the guide's Derived/Test/ToyasCard.lean, 'card_holds'). Laid BY PROGRAM, IN A SANDBOX (cutbox-door.mjs). By AI agents, Wed Nov 11 2026. No macro, syntax, notation, axiom, sorry.
-/
import Derived.Test.YtoofmjmnhgdloaaGreatDoorRows
import GoSem.ClaimSeven
namespace Go.Proofs.YtoofmjmnhgdloaaGreatDoor
namespace Rows

/-- THE TIED CARD OF 'doorsteplaw16.AccumCuts'. -/
def accumCutsCard : Claim7 := { stood := { row := accumCutsRow, standIns := [], harness := (true, "db65ca1ac59b06e8f72ab735d67da49d05c1f744ec40e1a6882fa27a7f34cac5"), looks := false }, kinds := [], alts := [], laidByText := true, laidKinds := [.data, .data, .data, .data, .pinned], laidTests := true, laidLooks := .later }
def AccumCutsCardSaid : Prop := Claim7.holds Tryz.pinned (.plain (OpenSpec.ofChange accumCutsSpec)) accumCutsCard

/-- THE TIED CARD OF 'doorsteplaw16.AccumPlays'. -/
def accumPlaysCard : Claim7 := { stood := { row := accumPlaysRow, standIns := [], harness := (true, "db65ca1ac59b06e8f72ab735d67da49d05c1f744ec40e1a6882fa27a7f34cac5"), looks := false }, kinds := [], alts := [], laidByText := true, laidKinds := [.data, .data, .data, .data, .pinned], laidTests := true, laidLooks := .later }
def AccumPlaysCardSaid : Prop := Claim7.holds Tryz.pinned (.plain (OpenSpec.ofChange accumPlaysSpec)) accumPlaysCard

/-- THE TIED CARD OF 'doorsteplaw16.AccumNone'. -/
def accumNoneCard : Claim7 := { stood := { row := accumNoneRow, standIns := [], harness := (true, "db65ca1ac59b06e8f72ab735d67da49d05c1f744ec40e1a6882fa27a7f34cac5"), looks := false }, kinds := [], alts := [], laidByText := true, laidKinds := [.data, .data, .data, .data, .pinned], laidTests := true, laidLooks := .later }
def AccumNoneCardSaid : Prop := Claim7.holds Tryz.pinned (.plain (OpenSpec.ofChange accumNoneSpec)) accumNoneCard

/-- THE TIED CARD OF 'doorsteplaw15.HeadBack'. -/
def headBackCard : Claim7 := { stood := { row := headBackRow, standIns := [], harness := (true, "db65ca1ac59b06e8f72ab735d67da49d05c1f744ec40e1a6882fa27a7f34cac5"), looks := false }, kinds := [], alts := [], laidByText := true, laidKinds := [.data, .data, .data, .data, .pinned], laidTests := true, laidLooks := .later }
def HeadBackCardSaid : Prop := Claim7.holds Tryz.pinned (.plain (OpenSpec.ofChange headBackSpec)) headBackCard

/-- THE TIED CARD OF 'doorsteplaw15.HeadReads'. -/
def headReadsCard : Claim7 := { stood := { row := headReadsRow, standIns := [], harness := (true, "db65ca1ac59b06e8f72ab735d67da49d05c1f744ec40e1a6882fa27a7f34cac5"), looks := false }, kinds := [], alts := [], laidByText := true, laidKinds := [.data, .data, .data, .data, .pinned], laidTests := true, laidLooks := .later }
def HeadReadsCardSaid : Prop := Claim7.holds Tryz.pinned (.plain (OpenSpec.ofChange headReadsSpec)) headReadsCard

/-- THE SECOND FORM's CARD OF 'doorsteplaw16.AccumCuts'. -/
def accumCutsUptoCard : Claim7 := { stood := { row := accumCutsUptoRow, standIns := [], harness := (true, "db65ca1ac59b06e8f72ab735d67da49d05c1f744ec40e1a6882fa27a7f34cac5"), looks := false }, kinds := [], alts := [], laidByText := true, laidKinds := [.data, .data, .data, .data, .pinned], laidTests := true, laidLooks := .later }
def AccumCutsUptoCardSaid : Prop := Claim7.holds Tryz.pinned (.plain (OpenSpec.upto accumCutsSpec)) accumCutsUptoCard

/-- THE SECOND FORM's CARD OF 'doorsteplaw16.AccumPlays'. -/
def accumPlaysUptoCard : Claim7 := { stood := { row := accumPlaysUptoRow, standIns := [], harness := (true, "db65ca1ac59b06e8f72ab735d67da49d05c1f744ec40e1a6882fa27a7f34cac5"), looks := false }, kinds := [], alts := [], laidByText := true, laidKinds := [.data, .data, .data, .data, .pinned], laidTests := true, laidLooks := .later }
def AccumPlaysUptoCardSaid : Prop := Claim7.holds Tryz.pinned (.plain (OpenSpec.upto accumPlaysSpec)) accumPlaysUptoCard

/-- THE SECOND FORM's CARD OF 'doorsteplaw16.AccumNone'. -/
def accumNoneUptoCard : Claim7 := { stood := { row := accumNoneUptoRow, standIns := [], harness := (true, "db65ca1ac59b06e8f72ab735d67da49d05c1f744ec40e1a6882fa27a7f34cac5"), looks := false }, kinds := [], alts := [], laidByText := true, laidKinds := [.data, .data, .data, .data, .pinned], laidTests := true, laidLooks := .later }
def AccumNoneUptoCardSaid : Prop := Claim7.holds Tryz.pinned (.plain (OpenSpec.upto accumNoneSpec)) accumNoneUptoCard

/-- THE SECOND FORM's CARD OF 'doorsteplaw15.HeadBack'. -/
def headBackUptoCard : Claim7 := { stood := { row := headBackUptoRow, standIns := [], harness := (true, "db65ca1ac59b06e8f72ab735d67da49d05c1f744ec40e1a6882fa27a7f34cac5"), looks := false }, kinds := [], alts := [], laidByText := true, laidKinds := [.data, .data, .data, .data, .pinned], laidTests := true, laidLooks := .later }
def HeadBackUptoCardSaid : Prop := Claim7.holds Tryz.pinned (.plain (OpenSpec.upto headBackSpec)) headBackUptoCard

/-- THE SECOND FORM's CARD OF 'doorsteplaw15.HeadReads'. -/
def headReadsUptoCard : Claim7 := { stood := { row := headReadsUptoRow, standIns := [], harness := (true, "db65ca1ac59b06e8f72ab735d67da49d05c1f744ec40e1a6882fa27a7f34cac5"), looks := false }, kinds := [], alts := [], laidByText := true, laidKinds := [.data, .data, .data, .data, .pinned], laidTests := true, laidLooks := .later }
def HeadReadsUptoCardSaid : Prop := Claim7.holds Tryz.pinned (.plain (OpenSpec.upto headReadsSpec)) headReadsUptoCard
end Rows
end Go.Proofs.YtoofmjmnhgdloaaGreatDoor
