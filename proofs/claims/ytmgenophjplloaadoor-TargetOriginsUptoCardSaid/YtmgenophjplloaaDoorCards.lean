/-
  DERIVED. GIVEN WITH THE SEED: THE CARDS: each row of YtmgenophjplloaaDoorRows.lean that lists a variable, with what it lists TIED to the program's text (the seventh form; the later family's looks); each row that meets fmt, with fmt's text TOLD by the authors' own Lean function (tested against real Go, not proved from fmt's source: count such statements apart). THE CARD IS WHAT COUNTS. Prove the row's statement (the work); the ties are given (YtmgenophjplloaaDoorTie.lean); close each card by the builder's one call (the guide's Derived/Test/ToyasCard.lean, 'card_holds'). Laid BY PROGRAM, IN A SANDBOX (cutbox-door.mjs). By AI agents, Wed Nov 11 2026. No macro, syntax, notation, axiom, sorry.
-/
import Derived.Test.YtmgenophjplloaaDoorRows
import GoSem.ClaimSeven
namespace Go.Proofs.YtmgenophjplloaaDoor
namespace Rows

/-- THE TIED CARD OF 'doorsteplaw10.TargetOrigins'. -/
def targetOriginsCard : Claim7 := { stood := { row := targetOriginsRow, standIns := [], harness := (true, "99286a3786d86f4df45832a7f8935ad60f8e4912a464e017d62602ea5247dc8e"), looks := false }, kinds := [], alts := [], laidByText := true, laidKinds := [.data, .data, .data, .data, .pinned], laidTests := true, laidLooks := .later }
def TargetOriginsCardSaid : Prop := Claim7.holds Tryd.pinned (.plain (OpenSpec.ofChange targetOriginsSpec)) targetOriginsCard

/-- THE SECOND FORM's CARD OF 'doorsteplaw10.TargetOrigins'. -/
def targetOriginsUptoCard : Claim7 := { stood := { row := targetOriginsUptoRow, standIns := [], harness := (true, "99286a3786d86f4df45832a7f8935ad60f8e4912a464e017d62602ea5247dc8e"), looks := false }, kinds := [], alts := [], laidByText := true, laidKinds := [.data, .data, .data, .data, .pinned], laidTests := true, laidLooks := .later }
def TargetOriginsUptoCardSaid : Prop := Claim7.holds Tryd.pinned (.plain (OpenSpec.upto targetOriginsSpec)) targetOriginsUptoCard
end Rows
end Go.Proofs.YtmgenophjplloaaDoor
