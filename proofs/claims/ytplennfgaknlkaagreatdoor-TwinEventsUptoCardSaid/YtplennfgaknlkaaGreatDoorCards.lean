/-
  DERIVED. GIVEN WITH THE SEED: THE CARDS: each row of YtplennfgaknlkaaGreatDoorRows.lean that lists a variable, with what it lists TIED to the program's text (the seventh form; the later family's looks); each row that meets fmt, with fmt's text TOLD by the authors' own Lean function (tested against real Go, not proved from fmt's source: count such statements apart). THE CARD IS WHAT COUNTS. Prove the row's statement (the work); the ties are given (YtplennfgaknlkaaGreatDoorTie.lean); close each card by the builder's one call (the guide's Derived/Test/ToyasCard.lean, 'card_holds'). Laid BY PROGRAM, IN A SANDBOX (cutbox-door.mjs). By AI agents, Wed Nov 11 2026. No macro, syntax, notation, axiom, sorry.
-/
import Derived.Test.YtplennfgaknlkaaGreatDoorRows
import GoSem.ClaimSeven
namespace Go.Proofs.YtplennfgaknlkaaGreatDoor
namespace Rows

/-- THE TIED CARD OF 'doorsteplaw49.TwinEvents'. -/
def twinEventsCard : Claim7 := { stood := { row := twinEventsRow, standIns := [], harness := (true, "4088d40b76628b1a74f4c7e4d425f816ad339872c2f53cb259d565e48e146331"), looks := false }, kinds := [], alts := [], laidByText := true, laidKinds := [.data, .data, .data, .data, .pinned], laidTests := true, laidLooks := .later }
def TwinEventsCardSaid : Prop := Claim7.holds Tryz.pinned (.plain (OpenSpec.ofChange twinEventsSpec)) twinEventsCard

/-- THE SECOND FORM's CARD OF 'doorsteplaw49.TwinEvents'. -/
def twinEventsUptoCard : Claim7 := { stood := { row := twinEventsUptoRow, standIns := [], harness := (true, "4088d40b76628b1a74f4c7e4d425f816ad339872c2f53cb259d565e48e146331"), looks := false }, kinds := [], alts := [], laidByText := true, laidKinds := [.data, .data, .data, .data, .pinned], laidTests := true, laidLooks := .later }
def TwinEventsUptoCardSaid : Prop := Claim7.holds Tryz.pinned (.plain (OpenSpec.upto twinEventsSpec)) twinEventsUptoCard
end Rows
end Go.Proofs.YtplennfgaknlkaaGreatDoor
