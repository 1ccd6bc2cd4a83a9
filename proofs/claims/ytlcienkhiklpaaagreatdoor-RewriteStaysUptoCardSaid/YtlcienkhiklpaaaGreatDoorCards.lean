/-
  DERIVED. GIVEN WITH THE SEED: THE CARDS: each row of YtlcienkhiklpaaaGreatDoorRows.lean that lists a variable, with what it lists TIED to the program's text (the seventh form; the later family's looks); each row that meets fmt, with fmt's text TOLD by the authors' own Lean function (tested against real Go, not proved from fmt's source: count such statements apart). THE CARD IS WHAT COUNTS. Prove the row's statement (the work); the ties are given (YtlcienkhiklpaaaGreatDoorTie.lean); close each card by the builder's one call (the guide's Derived/Test/ToyasCard.lean, 'card_holds'). Laid BY PROGRAM, IN A SANDBOX (cutbox-door.mjs). By AI agents, Wed Nov 11 2026. No macro, syntax, notation, axiom, sorry.
-/
import Derived.Test.YtlcienkhiklpaaaGreatDoorRows
import GoSem.ClaimSeven
namespace Go.Proofs.YtlcienkhiklpaaaGreatDoor
namespace Rows

/-- THE TIED CARD OF 'doorsteplaw40.RewriteStays'. -/
def rewriteStaysCard : Claim7 := { stood := { row := rewriteStaysRow, standIns := [], harness := (true, "90faafa184f03e5be6d5495778e61c964e908d30a1c2747a4f3b0087b4df8c0a"), looks := false }, kinds := [], alts := [], laidByText := true, laidKinds := [.data, .data, .data, .data, .pinned], laidTests := true, laidLooks := .later }
def RewriteStaysCardSaid : Prop := Claim7.holds Tryz.pinned (.plain (OpenSpec.ofChange rewriteStaysSpec)) rewriteStaysCard

/-- THE SECOND FORM's CARD OF 'doorsteplaw40.RewriteStays'. -/
def rewriteStaysUptoCard : Claim7 := { stood := { row := rewriteStaysUptoRow, standIns := [], harness := (true, "90faafa184f03e5be6d5495778e61c964e908d30a1c2747a4f3b0087b4df8c0a"), looks := false }, kinds := [], alts := [], laidByText := true, laidKinds := [.data, .data, .data, .data, .pinned], laidTests := true, laidLooks := .later }
def RewriteStaysUptoCardSaid : Prop := Claim7.holds Tryz.pinned (.plain (OpenSpec.upto rewriteStaysSpec)) rewriteStaysUptoCard
end Rows
end Go.Proofs.YtlcienkhiklpaaaGreatDoor
