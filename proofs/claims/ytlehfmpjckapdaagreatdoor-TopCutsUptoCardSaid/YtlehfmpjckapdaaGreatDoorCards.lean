/-
  DERIVED. GIVEN WITH THE SEED: THE CARDS: each row of YtlehfmpjckapdaaGreatDoorRows.lean that lists a variable, with what it lists TIED to the program's text (the seventh form; the later family's looks); each row that meets fmt, with fmt's text TOLD by the authors' own Lean function (tested against real Go, not proved from fmt's source: count such statements apart). THE CARD IS WHAT COUNTS. Prove the row's statement (the work); the ties are given (YtlehfmpjckapdaaGreatDoorTie.lean); close each card by the builder's one call (the guide's Derived/Test/ToyasCard.lean, 'card_holds'). Laid BY PROGRAM, IN A SANDBOX (cutbox-door.mjs). By AI agents, Wed Nov 11 2026. No macro, syntax, notation, axiom, sorry.
-/
import Derived.Test.YtlehfmpjckapdaaGreatDoorRows
import GoSem.ClaimSeven
namespace Go.Proofs.YtlehfmpjckapdaaGreatDoor
namespace Rows

/-- THE TIED CARD OF 'doorsteptop.TopCuts'. -/
def topCutsCard : Claim7 := { stood := { row := topCutsRow, standIns := [], harness := (true, "aeb229ff6787dd2fb1f540eec25023d216d8c66548b2502e6c0fe7a6fa48ef90"), looks := false }, kinds := [], alts := [], laidByText := true, laidKinds := [.data, .data, .data, .data, .pinned], laidTests := true, laidLooks := .later }
def TopCutsCardSaid : Prop := Claim7.holds Tryz.pinned (.plain (OpenSpec.ofChange topCutsSpec)) topCutsCard

/-- THE SECOND FORM's CARD OF 'doorsteptop.TopCuts'. -/
def topCutsUptoCard : Claim7 := { stood := { row := topCutsUptoRow, standIns := [], harness := (true, "aeb229ff6787dd2fb1f540eec25023d216d8c66548b2502e6c0fe7a6fa48ef90"), looks := false }, kinds := [], alts := [], laidByText := true, laidKinds := [.data, .data, .data, .data, .pinned], laidTests := true, laidLooks := .later }
def TopCutsUptoCardSaid : Prop := Claim7.holds Tryz.pinned (.plain (OpenSpec.upto topCutsSpec)) topCutsUptoCard
end Rows
end Go.Proofs.YtlehfmpjckapdaaGreatDoor
