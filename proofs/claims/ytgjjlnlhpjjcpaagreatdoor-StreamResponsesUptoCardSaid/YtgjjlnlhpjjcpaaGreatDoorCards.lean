/-
  DERIVED. GIVEN WITH THE SEED: THE CARDS: each row of YtgjjlnlhpjjcpaaGreatDoorRows.lean that lists a variable, with what it lists TIED to the program's text (the seventh form; the later family's looks); each row that meets fmt, with fmt's text TOLD by the authors' own Lean function (tested against real Go, not proved from fmt's source: count such statements apart). THE CARD IS WHAT COUNTS. Prove the row's statement (the work); the ties are given (YtgjjlnlhpjjcpaaGreatDoorTie.lean); close each card by the builder's one call (the guide's Derived/Test/ToyasCard.lean, 'card_holds'). Laid BY PROGRAM, IN A SANDBOX (cutbox-door.mjs). By AI agents, Wed Nov 11 2026. No macro, syntax, notation, axiom, sorry.
-/
import Derived.Test.YtgjjlnlhpjjcpaaGreatDoorRows
import GoSem.ClaimSeven
namespace Go.Proofs.YtgjjlnlhpjjcpaaGreatDoor
namespace Rows

/-- THE TIED CARD OF 'doorsteplaw23.StreamRequests'. -/
def streamRequestsCard : Claim7 := { stood := { row := streamRequestsRow, standIns := [], harness := (true, "6100cd528085e39ad6f0c18b5ff6a7ec9df7a9901431c0c8dd29f2d8e2842461"), looks := false }, kinds := [], alts := [], laidByText := true, laidKinds := [.data, .data, .data, .data, .pinned], laidTests := true, laidLooks := .later }
def StreamRequestsCardSaid : Prop := Claim7.holds Tryz.pinned (.plain (OpenSpec.ofChange streamRequestsSpec)) streamRequestsCard

/-- THE TIED CARD OF 'doorsteplaw23.StreamResponses'. -/
def streamResponsesCard : Claim7 := { stood := { row := streamResponsesRow, standIns := [], harness := (true, "6100cd528085e39ad6f0c18b5ff6a7ec9df7a9901431c0c8dd29f2d8e2842461"), looks := false }, kinds := [], alts := [], laidByText := true, laidKinds := [.data, .data, .data, .data, .pinned], laidTests := true, laidLooks := .later }
def StreamResponsesCardSaid : Prop := Claim7.holds Tryz.pinned (.plain (OpenSpec.ofChange streamResponsesSpec)) streamResponsesCard

/-- THE TIED CARD OF 'doorsteplaw22.MessageWrites'. -/
def messageWritesCard : Claim7 := { stood := { row := messageWritesRow, standIns := [], harness := (true, "6100cd528085e39ad6f0c18b5ff6a7ec9df7a9901431c0c8dd29f2d8e2842461"), looks := false }, kinds := [], alts := [], laidByText := true, laidKinds := [.data, .data, .data, .data, .pinned], laidTests := true, laidLooks := .later }
def MessageWritesCardSaid : Prop := Claim7.holds Tryz.pinned (.plain (OpenSpec.ofChange messageWritesSpec)) messageWritesCard

/-- THE SECOND FORM's CARD OF 'doorsteplaw23.StreamRequests'. -/
def streamRequestsUptoCard : Claim7 := { stood := { row := streamRequestsUptoRow, standIns := [], harness := (true, "6100cd528085e39ad6f0c18b5ff6a7ec9df7a9901431c0c8dd29f2d8e2842461"), looks := false }, kinds := [], alts := [], laidByText := true, laidKinds := [.data, .data, .data, .data, .pinned], laidTests := true, laidLooks := .later }
def StreamRequestsUptoCardSaid : Prop := Claim7.holds Tryz.pinned (.plain (OpenSpec.upto streamRequestsSpec)) streamRequestsUptoCard

/-- THE SECOND FORM's CARD OF 'doorsteplaw23.StreamResponses'. -/
def streamResponsesUptoCard : Claim7 := { stood := { row := streamResponsesUptoRow, standIns := [], harness := (true, "6100cd528085e39ad6f0c18b5ff6a7ec9df7a9901431c0c8dd29f2d8e2842461"), looks := false }, kinds := [], alts := [], laidByText := true, laidKinds := [.data, .data, .data, .data, .pinned], laidTests := true, laidLooks := .later }
def StreamResponsesUptoCardSaid : Prop := Claim7.holds Tryz.pinned (.plain (OpenSpec.upto streamResponsesSpec)) streamResponsesUptoCard

/-- THE SECOND FORM's CARD OF 'doorsteplaw22.MessageWrites'. -/
def messageWritesUptoCard : Claim7 := { stood := { row := messageWritesUptoRow, standIns := [], harness := (true, "6100cd528085e39ad6f0c18b5ff6a7ec9df7a9901431c0c8dd29f2d8e2842461"), looks := false }, kinds := [], alts := [], laidByText := true, laidKinds := [.data, .data, .data, .data, .pinned], laidTests := true, laidLooks := .later }
def MessageWritesUptoCardSaid : Prop := Claim7.holds Tryz.pinned (.plain (OpenSpec.upto messageWritesSpec)) messageWritesUptoCard
end Rows
end Go.Proofs.YtgjjlnlhpjjcpaaGreatDoor
