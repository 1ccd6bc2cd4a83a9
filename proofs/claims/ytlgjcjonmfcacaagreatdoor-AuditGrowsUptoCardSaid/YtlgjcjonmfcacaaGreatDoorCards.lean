/-
  DERIVED. GIVEN WITH THE SEED: THE CARDS: each row of YtlgjcjonmfcacaaGreatDoorRows.lean that lists a variable, with what it lists TIED to the program's text (the seventh form; the later family's looks); each row that meets fmt, with fmt's text TOLD by the authors' own Lean function (tested against real Go, not proved from fmt's source: count such statements apart). THE CARD IS WHAT COUNTS. Prove the row's statement (the work); the ties are given (YtlgjcjonmfcacaaGreatDoorTie.lean); close each card by the builder's one call (the guide's Derived/Test/ToyasCard.lean, 'card_holds'). Laid BY PROGRAM, IN A SANDBOX (cutbox-door.mjs). By AI agents, Wed Nov 11 2026. No macro, syntax, notation, axiom, sorry.
-/
import Derived.Test.YtlgjcjonmfcacaaGreatDoorRows
import GoSem.ClaimSeven
namespace Go.Proofs.YtlgjcjonmfcacaaGreatDoor
namespace Rows

/-- THE TIED CARD OF 'doorsteplaw48.AuditGrows'. -/
def auditGrowsCard : Claim7 := { stood := { row := auditGrowsRow, standIns := [], harness := (true, "1cca8af1f105e345a764bc8c316235e12f741142c3128b0843472d31988dc774"), looks := false }, kinds := [], alts := [], laidByText := true, laidKinds := [.data, .data, .data, .data, .pinned], laidTests := true, laidLooks := .later }
def AuditGrowsCardSaid : Prop := Claim7.holds Tryz.pinned (.plain (OpenSpec.ofChange auditGrowsSpec)) auditGrowsCard

/-- THE SECOND FORM's CARD OF 'doorsteplaw48.AuditGrows'. -/
def auditGrowsUptoCard : Claim7 := { stood := { row := auditGrowsUptoRow, standIns := [], harness := (true, "1cca8af1f105e345a764bc8c316235e12f741142c3128b0843472d31988dc774"), looks := false }, kinds := [], alts := [], laidByText := true, laidKinds := [.data, .data, .data, .data, .pinned], laidTests := true, laidLooks := .later }
def AuditGrowsUptoCardSaid : Prop := Claim7.holds Tryz.pinned (.plain (OpenSpec.upto auditGrowsSpec)) auditGrowsUptoCard
end Rows
end Go.Proofs.YtlgjcjonmfcacaaGreatDoor
