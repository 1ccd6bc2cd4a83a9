/-
  DERIVED. GIVEN WITH THE SEED: THE CARDS: each row of YtlplokibplopbaaGreatDoorRows.lean that lists a variable, with what it lists TIED to the program's text (the seventh form; the later family's looks); each row that meets fmt, with fmt's text TOLD by the authors' own Lean function (tested against real Go, not proved from fmt's source: count such statements apart). THE CARD IS WHAT COUNTS. Prove the row's statement (the work); the ties are given (YtlplokibplopbaaGreatDoorTie.lean); close each card by the builder's one call (the guide's Derived/Test/ToyasCard.lean, 'card_holds'). Laid BY PROGRAM, IN A SANDBOX (cutbox-door.mjs). By AI agents, Wed Nov 11 2026. No macro, syntax, notation, axiom, sorry.
-/
import Derived.Test.YtlplokibplopbaaGreatDoorRows
import GoSem.ClaimSeven
namespace Go.Proofs.YtlplokibplopbaaGreatDoor
namespace Rows

/-- THE TIED CARD OF 'doorsteplaw46.WireNone'. -/
def wireNoneCard : Claim7 := { stood := { row := wireNoneRow, standIns := [], harness := (true, "f685d8a18f5805d83c68855de4c2bde536368aae0b99c186031e024f14cd4c9d"), looks := false }, kinds := [], alts := [], laidByText := true, laidKinds := [.data, .data, .data, .data, .pinned], laidTests := true, laidLooks := .later }
def WireNoneCardSaid : Prop := Claim7.holds Tryz.pinned (.plain (OpenSpec.ofChange wireNoneSpec)) wireNoneCard

/-- THE SECOND FORM's CARD OF 'doorsteplaw46.WireNone'. -/
def wireNoneUptoCard : Claim7 := { stood := { row := wireNoneUptoRow, standIns := [], harness := (true, "f685d8a18f5805d83c68855de4c2bde536368aae0b99c186031e024f14cd4c9d"), looks := false }, kinds := [], alts := [], laidByText := true, laidKinds := [.data, .data, .data, .data, .pinned], laidTests := true, laidLooks := .later }
def WireNoneUptoCardSaid : Prop := Claim7.holds Tryz.pinned (.plain (OpenSpec.upto wireNoneSpec)) wireNoneUptoCard
end Rows
end Go.Proofs.YtlplokibplopbaaGreatDoor
