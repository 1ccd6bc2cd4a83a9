/-
  DERIVED. GIVEN WITH THE SEED: THE CARDS: each row of YtkbigjfhddediaaGreatDoorRows.lean that lists a variable, with what it lists TIED to the program's text (the seventh form; the later family's looks); each row that meets fmt, with fmt's text TOLD by the authors' own Lean function (tested against real Go, not proved from fmt's source: count such statements apart). THE CARD IS WHAT COUNTS. Prove the row's statement (the work); the ties are given (YtkbigjfhddediaaGreatDoorTie.lean); close each card by the builder's one call (the guide's Derived/Test/ToyasCard.lean, 'card_holds'). Laid BY PROGRAM, IN A SANDBOX (cutbox-door.mjs). By AI agents, Wed Nov 11 2026. No macro, syntax, notation, axiom, sorry.
-/
import Derived.Test.YtkbigjfhddediaaGreatDoorRows
import GoSem.ClaimSeven
namespace Go.Proofs.YtkbigjfhddediaaGreatDoor
namespace Rows

/-- THE TIED CARD OF 'doorsteplaw49.TwinAgrees'. -/
def twinAgreesCard : Claim7 := { stood := { row := twinAgreesRow, standIns := [], harness := (true, "4ea627f5f37cc9c32ea9aaaf3732d14255db763aa59bdb1c69f173d206b4fdf5"), looks := false }, kinds := [], alts := [], laidByText := true, laidKinds := [.data, .data, .data, .data, .pinned], laidTests := true, laidLooks := .later }
def TwinAgreesCardSaid : Prop := Claim7.holds Tryz.pinned (.plain (OpenSpec.ofChange twinAgreesSpec)) twinAgreesCard

/-- THE SECOND FORM's CARD OF 'doorsteplaw49.TwinAgrees'. -/
def twinAgreesUptoCard : Claim7 := { stood := { row := twinAgreesUptoRow, standIns := [], harness := (true, "4ea627f5f37cc9c32ea9aaaf3732d14255db763aa59bdb1c69f173d206b4fdf5"), looks := false }, kinds := [], alts := [], laidByText := true, laidKinds := [.data, .data, .data, .data, .pinned], laidTests := true, laidLooks := .later }
def TwinAgreesUptoCardSaid : Prop := Claim7.holds Tryz.pinned (.plain (OpenSpec.upto twinAgreesSpec)) twinAgreesUptoCard
end Rows
end Go.Proofs.YtkbigjfhddediaaGreatDoor
