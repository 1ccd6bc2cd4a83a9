/-
  DERIVED. GIVEN WITH THE SEED: THE CARDS: each row of YtnfkbhocbdheaacGreatDoorRows.lean that lists a variable, with what it lists TIED to the program's text (the seventh form; the later family's looks); each row that meets fmt, with fmt's text TOLD by the authors' own Lean function (tested against real Go, not proved from fmt's source: count such statements apart). THE CARD IS WHAT COUNTS. Prove the row's statement (the work); the ties are given (YtnfkbhocbdheaacGreatDoorTie.lean); close each card by the builder's one call (the guide's Derived/Test/ToyasCard.lean, 'card_holds'). Laid BY PROGRAM, IN A SANDBOX (cutbox-door.mjs). By AI agents, Wed Nov 11 2026. No macro, syntax, notation, axiom, sorry.
-/
import Derived.Test.YtnfkbhocbdheaacGreatDoorRows
import GoSem.ClaimSeven
namespace Go.Proofs.YtnfkbhocbdheaacGreatDoor
namespace Rows

/-- THE TIED CARD OF 'doorsteplaw15.HeadBack'. -/
def headBackCard : Claim7 := { stood := { row := headBackRow, standIns := [], harness := (true, "f5b2ab8acbdbf14ecc940decac698f1e21d78ec3df6565cb7501ecf514853dc7"), looks := false }, kinds := [], alts := [], laidByText := true, laidKinds := [.data, .data, .data, .data, .pinned], laidTests := true, laidLooks := .later }
def HeadBackCardSaid : Prop := Claim7.holds Tryz.pinned (.plain (OpenSpec.ofChange headBackSpec)) headBackCard

/-- THE TIED CARD OF 'doorsteplaw15.HeadPrints'. -/
def headPrintsCard : Claim7 := { stood := { row := headPrintsRow, standIns := [], harness := (true, "f5b2ab8acbdbf14ecc940decac698f1e21d78ec3df6565cb7501ecf514853dc7"), looks := false }, kinds := [], alts := [], laidByText := true, laidKinds := [.data, .data, .data, .data, .pinned], laidTests := true, laidLooks := .later }
def HeadPrintsCardSaid : Prop := Claim7.holds Tryz.pinned (.plain (OpenSpec.ofChange headPrintsSpec)) headPrintsCard

/-- THE TIED CARD OF 'doorsteplaw15.HeadReads'. -/
def headReadsCard : Claim7 := { stood := { row := headReadsRow, standIns := [], harness := (true, "f5b2ab8acbdbf14ecc940decac698f1e21d78ec3df6565cb7501ecf514853dc7"), looks := false }, kinds := [], alts := [], laidByText := true, laidKinds := [.data, .data, .data, .data, .pinned], laidTests := true, laidLooks := .later }
def HeadReadsCardSaid : Prop := Claim7.holds Tryz.pinned (.plain (OpenSpec.ofChange headReadsSpec)) headReadsCard

/-- THE TIED CARD OF 'doorsteplaw15.HeadSame'. -/
def headSameCard : Claim7 := { stood := { row := headSameRow, standIns := [], harness := (true, "f5b2ab8acbdbf14ecc940decac698f1e21d78ec3df6565cb7501ecf514853dc7"), looks := false }, kinds := [], alts := [], laidByText := true, laidKinds := [.data, .data, .data, .data, .pinned], laidTests := true, laidLooks := .later }
def HeadSameCardSaid : Prop := Claim7.holds Tryz.pinned (.plain (OpenSpec.ofChange headSameSpec)) headSameCard

/-- THE SECOND FORM's CARD OF 'doorsteplaw15.HeadBack'. -/
def headBackUptoCard : Claim7 := { stood := { row := headBackUptoRow, standIns := [], harness := (true, "f5b2ab8acbdbf14ecc940decac698f1e21d78ec3df6565cb7501ecf514853dc7"), looks := false }, kinds := [], alts := [], laidByText := true, laidKinds := [.data, .data, .data, .data, .pinned], laidTests := true, laidLooks := .later }
def HeadBackUptoCardSaid : Prop := Claim7.holds Tryz.pinned (.plain (OpenSpec.upto headBackSpec)) headBackUptoCard

/-- THE SECOND FORM's CARD OF 'doorsteplaw15.HeadPrints'. -/
def headPrintsUptoCard : Claim7 := { stood := { row := headPrintsUptoRow, standIns := [], harness := (true, "f5b2ab8acbdbf14ecc940decac698f1e21d78ec3df6565cb7501ecf514853dc7"), looks := false }, kinds := [], alts := [], laidByText := true, laidKinds := [.data, .data, .data, .data, .pinned], laidTests := true, laidLooks := .later }
def HeadPrintsUptoCardSaid : Prop := Claim7.holds Tryz.pinned (.plain (OpenSpec.upto headPrintsSpec)) headPrintsUptoCard

/-- THE SECOND FORM's CARD OF 'doorsteplaw15.HeadReads'. -/
def headReadsUptoCard : Claim7 := { stood := { row := headReadsUptoRow, standIns := [], harness := (true, "f5b2ab8acbdbf14ecc940decac698f1e21d78ec3df6565cb7501ecf514853dc7"), looks := false }, kinds := [], alts := [], laidByText := true, laidKinds := [.data, .data, .data, .data, .pinned], laidTests := true, laidLooks := .later }
def HeadReadsUptoCardSaid : Prop := Claim7.holds Tryz.pinned (.plain (OpenSpec.upto headReadsSpec)) headReadsUptoCard

/-- THE SECOND FORM's CARD OF 'doorsteplaw15.HeadSame'. -/
def headSameUptoCard : Claim7 := { stood := { row := headSameUptoRow, standIns := [], harness := (true, "f5b2ab8acbdbf14ecc940decac698f1e21d78ec3df6565cb7501ecf514853dc7"), looks := false }, kinds := [], alts := [], laidByText := true, laidKinds := [.data, .data, .data, .data, .pinned], laidTests := true, laidLooks := .later }
def HeadSameUptoCardSaid : Prop := Claim7.holds Tryz.pinned (.plain (OpenSpec.upto headSameSpec)) headSameUptoCard
end Rows
end Go.Proofs.YtnfkbhocbdheaacGreatDoor
