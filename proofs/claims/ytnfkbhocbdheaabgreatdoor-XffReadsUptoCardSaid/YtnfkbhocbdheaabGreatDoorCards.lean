/-
  DERIVED. GIVEN WITH THE SEED: THE CARDS: each row of YtnfkbhocbdheaabGreatDoorRows.lean that lists a variable, with what it lists TIED to the program's text (the seventh form; the later family's looks); each row that meets fmt, with fmt's text TOLD by the authors' own Lean function (tested against real Go, not proved from fmt's source: count such statements apart). THE CARD IS WHAT COUNTS. Prove the row's statement (the work); the ties are given (YtnfkbhocbdheaabGreatDoorTie.lean); close each card by the builder's one call (the guide's Derived/Test/ToyasCard.lean, 'card_holds'). Laid BY PROGRAM, IN A SANDBOX (cutbox-door.mjs). By AI agents, Wed Nov 11 2026. No macro, syntax, notation, axiom, sorry.
-/
import Derived.Test.YtnfkbhocbdheaabGreatDoorRows
import GoSem.ClaimSeven
namespace Go.Proofs.YtnfkbhocbdheaabGreatDoor
namespace Rows

/-- THE TIED CARD OF 'doorsteplaw14.StartReads'. -/
def startReadsCard : Claim7 := { stood := { row := startReadsRow, standIns := [], harness := (true, "d6877d6c8758be01df2c7274b3d60bb9d97c9e197f608d90c3fe63417088c03b"), looks := false }, kinds := [], alts := [], laidByText := true, laidKinds := [.data, .data, .data, .data, .pinned], laidTests := true, laidLooks := .later }
def StartReadsCardSaid : Prop := Claim7.holds Tryz.pinned (.plain (OpenSpec.ofChange startReadsSpec)) startReadsCard

/-- THE TIED CARD OF 'doorsteplaw14.StartWrites'. -/
def startWritesCard : Claim7 := { stood := { row := startWritesRow, standIns := [], harness := (true, "d6877d6c8758be01df2c7274b3d60bb9d97c9e197f608d90c3fe63417088c03b"), looks := false }, kinds := [], alts := [], laidByText := true, laidKinds := [.data, .data, .data, .data, .pinned], laidTests := true, laidLooks := .later }
def StartWritesCardSaid : Prop := Claim7.holds Tryz.pinned (.plain (OpenSpec.ofChange startWritesSpec)) startWritesCard

/-- THE TIED CARD OF 'doorsteplaw27.XffReads'. -/
def xffReadsCard : Claim7 := { stood := { row := xffReadsRow, standIns := [], harness := (true, "d6877d6c8758be01df2c7274b3d60bb9d97c9e197f608d90c3fe63417088c03b"), looks := false }, kinds := [], alts := [], laidByText := true, laidKinds := [.data, .data, .data, .data, .pinned], laidTests := true, laidLooks := .later }
def XffReadsCardSaid : Prop := Claim7.holds Tryz.pinned (.plain (OpenSpec.ofChange xffReadsSpec)) xffReadsCard

/-- THE TIED CARD OF 'doorsteplaw16.AccumCuts'. -/
def accumCutsCard : Claim7 := { stood := { row := accumCutsRow, standIns := [], harness := (true, "d6877d6c8758be01df2c7274b3d60bb9d97c9e197f608d90c3fe63417088c03b"), looks := false }, kinds := [], alts := [], laidByText := true, laidKinds := [.data, .data, .data, .data, .pinned], laidTests := true, laidLooks := .later }
def AccumCutsCardSaid : Prop := Claim7.holds Tryz.pinned (.plain (OpenSpec.ofChange accumCutsSpec)) accumCutsCard

/-- THE TIED CARD OF 'doorsteplaw16.AccumPlays'. -/
def accumPlaysCard : Claim7 := { stood := { row := accumPlaysRow, standIns := [], harness := (true, "d6877d6c8758be01df2c7274b3d60bb9d97c9e197f608d90c3fe63417088c03b"), looks := false }, kinds := [], alts := [], laidByText := true, laidKinds := [.data, .data, .data, .data, .pinned], laidTests := true, laidLooks := .later }
def AccumPlaysCardSaid : Prop := Claim7.holds Tryz.pinned (.plain (OpenSpec.ofChange accumPlaysSpec)) accumPlaysCard

/-- THE TIED CARD OF 'doorsteplaw16.AccumNone'. -/
def accumNoneCard : Claim7 := { stood := { row := accumNoneRow, standIns := [], harness := (true, "d6877d6c8758be01df2c7274b3d60bb9d97c9e197f608d90c3fe63417088c03b"), looks := false }, kinds := [], alts := [], laidByText := true, laidKinds := [.data, .data, .data, .data, .pinned], laidTests := true, laidLooks := .later }
def AccumNoneCardSaid : Prop := Claim7.holds Tryz.pinned (.plain (OpenSpec.ofChange accumNoneSpec)) accumNoneCard

/-- THE SECOND FORM's CARD OF 'doorsteplaw14.StartReads'. -/
def startReadsUptoCard : Claim7 := { stood := { row := startReadsUptoRow, standIns := [], harness := (true, "d6877d6c8758be01df2c7274b3d60bb9d97c9e197f608d90c3fe63417088c03b"), looks := false }, kinds := [], alts := [], laidByText := true, laidKinds := [.data, .data, .data, .data, .pinned], laidTests := true, laidLooks := .later }
def StartReadsUptoCardSaid : Prop := Claim7.holds Tryz.pinned (.plain (OpenSpec.upto startReadsSpec)) startReadsUptoCard

/-- THE SECOND FORM's CARD OF 'doorsteplaw14.StartWrites'. -/
def startWritesUptoCard : Claim7 := { stood := { row := startWritesUptoRow, standIns := [], harness := (true, "d6877d6c8758be01df2c7274b3d60bb9d97c9e197f608d90c3fe63417088c03b"), looks := false }, kinds := [], alts := [], laidByText := true, laidKinds := [.data, .data, .data, .data, .pinned], laidTests := true, laidLooks := .later }
def StartWritesUptoCardSaid : Prop := Claim7.holds Tryz.pinned (.plain (OpenSpec.upto startWritesSpec)) startWritesUptoCard

/-- THE SECOND FORM's CARD OF 'doorsteplaw27.XffReads'. -/
def xffReadsUptoCard : Claim7 := { stood := { row := xffReadsUptoRow, standIns := [], harness := (true, "d6877d6c8758be01df2c7274b3d60bb9d97c9e197f608d90c3fe63417088c03b"), looks := false }, kinds := [], alts := [], laidByText := true, laidKinds := [.data, .data, .data, .data, .pinned], laidTests := true, laidLooks := .later }
def XffReadsUptoCardSaid : Prop := Claim7.holds Tryz.pinned (.plain (OpenSpec.upto xffReadsSpec)) xffReadsUptoCard

/-- THE SECOND FORM's CARD OF 'doorsteplaw16.AccumCuts'. -/
def accumCutsUptoCard : Claim7 := { stood := { row := accumCutsUptoRow, standIns := [], harness := (true, "d6877d6c8758be01df2c7274b3d60bb9d97c9e197f608d90c3fe63417088c03b"), looks := false }, kinds := [], alts := [], laidByText := true, laidKinds := [.data, .data, .data, .data, .pinned], laidTests := true, laidLooks := .later }
def AccumCutsUptoCardSaid : Prop := Claim7.holds Tryz.pinned (.plain (OpenSpec.upto accumCutsSpec)) accumCutsUptoCard

/-- THE SECOND FORM's CARD OF 'doorsteplaw16.AccumPlays'. -/
def accumPlaysUptoCard : Claim7 := { stood := { row := accumPlaysUptoRow, standIns := [], harness := (true, "d6877d6c8758be01df2c7274b3d60bb9d97c9e197f608d90c3fe63417088c03b"), looks := false }, kinds := [], alts := [], laidByText := true, laidKinds := [.data, .data, .data, .data, .pinned], laidTests := true, laidLooks := .later }
def AccumPlaysUptoCardSaid : Prop := Claim7.holds Tryz.pinned (.plain (OpenSpec.upto accumPlaysSpec)) accumPlaysUptoCard

/-- THE SECOND FORM's CARD OF 'doorsteplaw16.AccumNone'. -/
def accumNoneUptoCard : Claim7 := { stood := { row := accumNoneUptoRow, standIns := [], harness := (true, "d6877d6c8758be01df2c7274b3d60bb9d97c9e197f608d90c3fe63417088c03b"), looks := false }, kinds := [], alts := [], laidByText := true, laidKinds := [.data, .data, .data, .data, .pinned], laidTests := true, laidLooks := .later }
def AccumNoneUptoCardSaid : Prop := Claim7.holds Tryz.pinned (.plain (OpenSpec.upto accumNoneSpec)) accumNoneUptoCard
end Rows
end Go.Proofs.YtnfkbhocbdheaabGreatDoor
