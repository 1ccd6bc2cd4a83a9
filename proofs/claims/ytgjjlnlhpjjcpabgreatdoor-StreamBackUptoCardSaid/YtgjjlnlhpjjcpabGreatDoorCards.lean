/-
  DERIVED. GIVEN WITH THE SEED: THE CARDS: each row of YtgjjlnlhpjjcpabGreatDoorRows.lean that lists a variable, with what it lists TIED to the program's text (the seventh form; the later family's looks); each row that meets fmt, with fmt's text TOLD by the authors' own Lean function (tested against real Go, not proved from fmt's source: count such statements apart). THE CARD IS WHAT COUNTS. Prove the row's statement (the work); the ties are given (YtgjjlnlhpjjcpabGreatDoorTie.lean); close each card by the builder's one call (the guide's Derived/Test/ToyasCard.lean, 'card_holds'). Laid BY PROGRAM, IN A SANDBOX (cutbox-door.mjs). By AI agents, Wed Nov 11 2026. No macro, syntax, notation, axiom, sorry.
-/
import Derived.Test.YtgjjlnlhpjjcpabGreatDoorRows
import GoSem.ClaimSeven
namespace Go.Proofs.YtgjjlnlhpjjcpabGreatDoor
namespace Rows

/-- THE TIED CARD OF 'doorsteplaw22.MessageBack'. -/
def messageBackCard : Claim7 := { stood := { row := messageBackRow, standIns := [], harness := (true, "5e7df312d25f408d4ecf17ecad677d8660bff2d417b41264050f147f53621c0d"), looks := false }, kinds := [], alts := [], laidByText := true, laidKinds := [.data, .data, .data, .data, .pinned], laidTests := true, laidLooks := .later }
def MessageBackCardSaid : Prop := Claim7.holds Tryz.pinned (.plain (OpenSpec.ofChange messageBackSpec)) messageBackCard

/-- THE TIED CARD OF 'doorsteplaw22.MessageCut'. -/
def messageCutCard : Claim7 := { stood := { row := messageCutRow, standIns := [], harness := (true, "5e7df312d25f408d4ecf17ecad677d8660bff2d417b41264050f147f53621c0d"), looks := false }, kinds := [], alts := [], laidByText := true, laidKinds := [.data, .data, .data, .data, .pinned], laidTests := true, laidLooks := .later }
def MessageCutCardSaid : Prop := Claim7.holds Tryz.pinned (.plain (OpenSpec.ofChange messageCutSpec)) messageCutCard

/-- THE TIED CARD OF 'doorsteplaw23.StreamBack'. -/
def streamBackCard : Claim7 := { stood := { row := streamBackRow, standIns := [], harness := (true, "5e7df312d25f408d4ecf17ecad677d8660bff2d417b41264050f147f53621c0d"), looks := false }, kinds := [], alts := [], laidByText := true, laidKinds := [.data, .data, .data, .data, .pinned], laidTests := true, laidLooks := .later }
def StreamBackCardSaid : Prop := Claim7.holds Tryz.pinned (.plain (OpenSpec.ofChange streamBackSpec)) streamBackCard

/-- THE SECOND FORM's CARD OF 'doorsteplaw22.MessageBack'. -/
def messageBackUptoCard : Claim7 := { stood := { row := messageBackUptoRow, standIns := [], harness := (true, "5e7df312d25f408d4ecf17ecad677d8660bff2d417b41264050f147f53621c0d"), looks := false }, kinds := [], alts := [], laidByText := true, laidKinds := [.data, .data, .data, .data, .pinned], laidTests := true, laidLooks := .later }
def MessageBackUptoCardSaid : Prop := Claim7.holds Tryz.pinned (.plain (OpenSpec.upto messageBackSpec)) messageBackUptoCard

/-- THE SECOND FORM's CARD OF 'doorsteplaw22.MessageCut'. -/
def messageCutUptoCard : Claim7 := { stood := { row := messageCutUptoRow, standIns := [], harness := (true, "5e7df312d25f408d4ecf17ecad677d8660bff2d417b41264050f147f53621c0d"), looks := false }, kinds := [], alts := [], laidByText := true, laidKinds := [.data, .data, .data, .data, .pinned], laidTests := true, laidLooks := .later }
def MessageCutUptoCardSaid : Prop := Claim7.holds Tryz.pinned (.plain (OpenSpec.upto messageCutSpec)) messageCutUptoCard

/-- THE SECOND FORM's CARD OF 'doorsteplaw23.StreamBack'. -/
def streamBackUptoCard : Claim7 := { stood := { row := streamBackUptoRow, standIns := [], harness := (true, "5e7df312d25f408d4ecf17ecad677d8660bff2d417b41264050f147f53621c0d"), looks := false }, kinds := [], alts := [], laidByText := true, laidKinds := [.data, .data, .data, .data, .pinned], laidTests := true, laidLooks := .later }
def StreamBackUptoCardSaid : Prop := Claim7.holds Tryz.pinned (.plain (OpenSpec.upto streamBackSpec)) streamBackUptoCard
end Rows
end Go.Proofs.YtgjjlnlhpjjcpabGreatDoor
