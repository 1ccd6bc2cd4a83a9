/-
  DERIVED. GIVEN WITH THE SEED: THE CARDS: each row of YtkmnihnifdcigaaGreatDoorRows.lean that lists a variable, with what it lists TIED to the program's text (the seventh form; the later family's looks); each row that meets fmt, with fmt's text TOLD by the authors' own Lean function (tested against real Go, not proved from fmt's source: count such statements apart). THE CARD IS WHAT COUNTS. Prove the row's statement (the work); the ties are given (YtkmnihnifdcigaaGreatDoorTie.lean); close each card by the builder's one call (the guide's Derived/Test/ToyasCard.lean, 'card_holds'). Laid BY PROGRAM, IN A SANDBOX (cutbox-door.mjs). By AI agents, Wed Nov 11 2026. No macro, syntax, notation, axiom, sorry.
-/
import Derived.Test.YtkmnihnifdcigaaGreatDoorRows
import GoSem.ClaimSeven
namespace Go.Proofs.YtkmnihnifdcigaaGreatDoor
namespace Rows

/-- THE TIED CARD OF 'doorsteplaw46.WireSteps'. -/
def wireStepsCard : Claim7 := { stood := { row := wireStepsRow, standIns := [], harness := (true, "cca6962845adc236d3fb82417e213a9eaf9e11a7839aa1588d9f3fd6037928e9"), looks := false }, kinds := [], alts := [], laidByText := true, laidKinds := [.data, .data, .data, .data, .pinned], laidTests := true, laidLooks := .later }
def WireStepsCardSaid : Prop := Claim7.holds Tryz.pinned (.plain (OpenSpec.ofChange wireStepsSpec)) wireStepsCard

/-- THE SECOND FORM's CARD OF 'doorsteplaw46.WireSteps'. -/
def wireStepsUptoCard : Claim7 := { stood := { row := wireStepsUptoRow, standIns := [], harness := (true, "cca6962845adc236d3fb82417e213a9eaf9e11a7839aa1588d9f3fd6037928e9"), looks := false }, kinds := [], alts := [], laidByText := true, laidKinds := [.data, .data, .data, .data, .pinned], laidTests := true, laidLooks := .later }
def WireStepsUptoCardSaid : Prop := Claim7.holds Tryz.pinned (.plain (OpenSpec.upto wireStepsSpec)) wireStepsUptoCard
end Rows
end Go.Proofs.YtkmnihnifdcigaaGreatDoor
