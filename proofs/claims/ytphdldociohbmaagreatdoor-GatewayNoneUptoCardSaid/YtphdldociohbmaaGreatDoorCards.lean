/-
  DERIVED. GIVEN WITH THE SEED: THE CARDS: each row of YtphdldociohbmaaGreatDoorRows.lean that lists a variable, with what it lists TIED to the program's text (the seventh form; the later family's looks); each row that meets fmt, with fmt's text TOLD by the authors' own Lean function (tested against real Go, not proved from fmt's source: count such statements apart). THE CARD IS WHAT COUNTS. Prove the row's statement (the work); the ties are given (YtphdldociohbmaaGreatDoorTie.lean); close each card by the builder's one call (the guide's Derived/Test/ToyasCard.lean, 'card_holds'). Laid BY PROGRAM, IN A SANDBOX (cutbox-door.mjs). By AI agents, Wed Nov 11 2026. No macro, syntax, notation, axiom, sorry.
-/
import Derived.Test.YtphdldociohbmaaGreatDoorRows
import GoSem.ClaimSeven
namespace Go.Proofs.YtphdldociohbmaaGreatDoor
namespace Rows

/-- THE TIED CARD OF 'doorsteplaw44.GatewayNone'. -/
def gatewayNoneCard : Claim7 := { stood := { row := gatewayNoneRow, standIns := [], harness := (true, "24441d7cca35e34531e917064b7c47900b9d563207bc6a8644ba3b54faec9af1"), looks := false }, kinds := [], alts := [], laidByText := true, laidKinds := [.data, .data, .data, .data, .pinned], laidTests := true, laidLooks := .later }
def GatewayNoneCardSaid : Prop := Claim7.holds Tryz.pinned (.plain (OpenSpec.ofChange gatewayNoneSpec)) gatewayNoneCard

/-- THE SECOND FORM's CARD OF 'doorsteplaw44.GatewayNone'. -/
def gatewayNoneUptoCard : Claim7 := { stood := { row := gatewayNoneUptoRow, standIns := [], harness := (true, "24441d7cca35e34531e917064b7c47900b9d563207bc6a8644ba3b54faec9af1"), looks := false }, kinds := [], alts := [], laidByText := true, laidKinds := [.data, .data, .data, .data, .pinned], laidTests := true, laidLooks := .later }
def GatewayNoneUptoCardSaid : Prop := Claim7.holds Tryz.pinned (.plain (OpenSpec.upto gatewayNoneSpec)) gatewayNoneUptoCard
end Rows
end Go.Proofs.YtphdldociohbmaaGreatDoor
