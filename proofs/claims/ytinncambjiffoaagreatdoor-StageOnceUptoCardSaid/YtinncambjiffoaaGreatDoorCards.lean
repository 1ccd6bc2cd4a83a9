/-
  DERIVED. GIVEN WITH THE SEED: THE CARDS: each row of YtinncambjiffoaaGreatDoorRows.lean that lists a variable, with what it lists TIED to the program's text (the seventh form; the later family's looks); each row that meets fmt, with fmt's text TOLD by the authors' own Lean function (tested against real Go, not proved from fmt's source: count such statements apart). THE CARD IS WHAT COUNTS. Prove the row's statement (the work); the ties are given (YtinncambjiffoaaGreatDoorTie.lean); close each card by the builder's one call (the guide's Derived/Test/ToyasCard.lean, 'card_holds'). Laid BY PROGRAM, IN A SANDBOX (cutbox-door.mjs). By AI agents, Wed Nov 11 2026. No macro, syntax, notation, axiom, sorry.
-/
import Derived.Test.YtinncambjiffoaaGreatDoorRows
import GoSem.ClaimSeven
namespace Go.Proofs.YtinncambjiffoaaGreatDoor
namespace Rows

/-- THE TIED CARD OF 'doorsteplaw39.StageSigns'. -/
def stageSignsCard : Claim7 := { stood := { row := stageSignsRow, standIns := [], harness := (true, "98740e9a2f451929009e99d176c979cf60c7e6acd9cfc39d2bc9e4bd084dea65"), looks := false }, kinds := [], alts := [], laidByText := true, laidKinds := [.data, .data, .data, .data, .pinned], laidTests := true, laidLooks := .later }
def StageSignsCardSaid : Prop := Claim7.holds Tryz.pinned (.plain (OpenSpec.ofChange stageSignsSpec)) stageSignsCard

/-- THE TIED CARD OF 'doorsteplaw39.StageOnce'. -/
def stageOnceCard : Claim7 := { stood := { row := stageOnceRow, standIns := [], harness := (true, "98740e9a2f451929009e99d176c979cf60c7e6acd9cfc39d2bc9e4bd084dea65"), looks := false }, kinds := [], alts := [], laidByText := true, laidKinds := [.data, .data, .data, .data, .pinned], laidTests := true, laidLooks := .later }
def StageOnceCardSaid : Prop := Claim7.holds Tryz.pinned (.plain (OpenSpec.ofChange stageOnceSpec)) stageOnceCard

/-- THE SECOND FORM's CARD OF 'doorsteplaw39.StageSigns'. -/
def stageSignsUptoCard : Claim7 := { stood := { row := stageSignsUptoRow, standIns := [], harness := (true, "98740e9a2f451929009e99d176c979cf60c7e6acd9cfc39d2bc9e4bd084dea65"), looks := false }, kinds := [], alts := [], laidByText := true, laidKinds := [.data, .data, .data, .data, .pinned], laidTests := true, laidLooks := .later }
def StageSignsUptoCardSaid : Prop := Claim7.holds Tryz.pinned (.plain (OpenSpec.upto stageSignsSpec)) stageSignsUptoCard

/-- THE SECOND FORM's CARD OF 'doorsteplaw39.StageOnce'. -/
def stageOnceUptoCard : Claim7 := { stood := { row := stageOnceUptoRow, standIns := [], harness := (true, "98740e9a2f451929009e99d176c979cf60c7e6acd9cfc39d2bc9e4bd084dea65"), looks := false }, kinds := [], alts := [], laidByText := true, laidKinds := [.data, .data, .data, .data, .pinned], laidTests := true, laidLooks := .later }
def StageOnceUptoCardSaid : Prop := Claim7.holds Tryz.pinned (.plain (OpenSpec.upto stageOnceSpec)) stageOnceUptoCard
end Rows
end Go.Proofs.YtinncambjiffoaaGreatDoor
