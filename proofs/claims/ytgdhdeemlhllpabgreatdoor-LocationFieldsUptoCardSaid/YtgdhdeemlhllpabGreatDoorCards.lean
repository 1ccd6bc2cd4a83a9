/-
  DERIVED. GIVEN WITH THE SEED: THE CARDS: each row of YtgdhdeemlhllpabGreatDoorRows.lean that lists a variable, with what it lists TIED to the program's text (the seventh form; the later family's looks); each row that meets fmt, with fmt's text TOLD by the authors' own Lean function (tested against real Go, not proved from fmt's source: count such statements apart). THE CARD IS WHAT COUNTS. Prove the row's statement (the work); the ties are given (YtgdhdeemlhllpabGreatDoorTie.lean); close each card by the builder's one call (the guide's Derived/Test/ToyasCard.lean, 'card_holds'). Laid BY PROGRAM, IN A SANDBOX (cutbox-door.mjs). By AI agents, Wed Nov 11 2026. No macro, syntax, notation, axiom, sorry.
-/
import Derived.Test.YtgdhdeemlhllpabGreatDoorRows
import GoSem.ClaimSeven
namespace Go.Proofs.YtgdhdeemlhllpabGreatDoor
namespace Rows

/-- THE TIED CARD OF 'doorsteplaw29.DomainsOnly'. -/
def domainsOnlyCard : Claim7 := { stood := { row := domainsOnlyRow, standIns := [], harness := (true, "3d0da6f5df3205b8786882b91b3cf8cbd6e44ba581b63f3f34c0536777844f8a"), looks := false }, kinds := [], alts := [], laidByText := true, laidKinds := [.data, .data, .data, .data, .pinned], laidTests := true, laidLooks := .later }
def DomainsOnlyCardSaid : Prop := Claim7.holds Tryz.pinned (.plain (OpenSpec.ofChange domainsOnlySpec)) domainsOnlyCard

/-- THE TIED CARD OF 'doorsteplaw30.LocationFields'. -/
def locationFieldsCard : Claim7 := { stood := { row := locationFieldsRow, standIns := [], harness := (true, "3d0da6f5df3205b8786882b91b3cf8cbd6e44ba581b63f3f34c0536777844f8a"), looks := false }, kinds := [], alts := [], laidByText := true, laidKinds := [.data, .data, .data, .data, .pinned], laidTests := true, laidLooks := .later }
def LocationFieldsCardSaid : Prop := Claim7.holds Tryz.pinned (.plain (OpenSpec.ofChange locationFieldsSpec)) locationFieldsCard

/-- THE TIED CARD OF 'doorsteplaw30.LocationOthers'. -/
def locationOthersCard : Claim7 := { stood := { row := locationOthersRow, standIns := [], harness := (true, "3d0da6f5df3205b8786882b91b3cf8cbd6e44ba581b63f3f34c0536777844f8a"), looks := false }, kinds := [], alts := [], laidByText := true, laidKinds := [.data, .data, .data, .data, .pinned], laidTests := true, laidLooks := .later }
def LocationOthersCardSaid : Prop := Claim7.holds Tryz.pinned (.plain (OpenSpec.ofChange locationOthersSpec)) locationOthersCard

/-- THE SECOND FORM's CARD OF 'doorsteplaw29.DomainsOnly'. -/
def domainsOnlyUptoCard : Claim7 := { stood := { row := domainsOnlyUptoRow, standIns := [], harness := (true, "3d0da6f5df3205b8786882b91b3cf8cbd6e44ba581b63f3f34c0536777844f8a"), looks := false }, kinds := [], alts := [], laidByText := true, laidKinds := [.data, .data, .data, .data, .pinned], laidTests := true, laidLooks := .later }
def DomainsOnlyUptoCardSaid : Prop := Claim7.holds Tryz.pinned (.plain (OpenSpec.upto domainsOnlySpec)) domainsOnlyUptoCard

/-- THE SECOND FORM's CARD OF 'doorsteplaw30.LocationFields'. -/
def locationFieldsUptoCard : Claim7 := { stood := { row := locationFieldsUptoRow, standIns := [], harness := (true, "3d0da6f5df3205b8786882b91b3cf8cbd6e44ba581b63f3f34c0536777844f8a"), looks := false }, kinds := [], alts := [], laidByText := true, laidKinds := [.data, .data, .data, .data, .pinned], laidTests := true, laidLooks := .later }
def LocationFieldsUptoCardSaid : Prop := Claim7.holds Tryz.pinned (.plain (OpenSpec.upto locationFieldsSpec)) locationFieldsUptoCard

/-- THE SECOND FORM's CARD OF 'doorsteplaw30.LocationOthers'. -/
def locationOthersUptoCard : Claim7 := { stood := { row := locationOthersUptoRow, standIns := [], harness := (true, "3d0da6f5df3205b8786882b91b3cf8cbd6e44ba581b63f3f34c0536777844f8a"), looks := false }, kinds := [], alts := [], laidByText := true, laidKinds := [.data, .data, .data, .data, .pinned], laidTests := true, laidLooks := .later }
def LocationOthersUptoCardSaid : Prop := Claim7.holds Tryz.pinned (.plain (OpenSpec.upto locationOthersSpec)) locationOthersUptoCard
end Rows
end Go.Proofs.YtgdhdeemlhllpabGreatDoor
