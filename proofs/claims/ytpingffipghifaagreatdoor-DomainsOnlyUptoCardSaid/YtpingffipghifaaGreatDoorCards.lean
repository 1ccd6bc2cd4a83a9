/-
  DERIVED. GIVEN WITH THE SEED: THE CARDS: each row of YtpingffipghifaaGreatDoorRows.lean that lists a variable, with what it lists TIED to the program's text (the seventh form; the later family's looks); each row that meets fmt, with fmt's text TOLD by the authors' own Lean function (tested against real Go, not proved from fmt's source: count such statements apart). THE CARD IS WHAT COUNTS. Prove the row's statement (the work); the ties are given (YtpingffipghifaaGreatDoorTie.lean); close each card by the builder's one call (the guide's Derived/Test/ToyasCard.lean, 'card_holds'). Laid BY PROGRAM, IN A SANDBOX (cutbox-door.mjs). By AI agents, Wed Nov 11 2026. No macro, syntax, notation, axiom, sorry.
-/
import Derived.Test.YtpingffipghifaaGreatDoorRows
import GoSem.ClaimSeven
namespace Go.Proofs.YtpingffipghifaaGreatDoor
namespace Rows

/-- THE TIED CARD OF 'doorsteplaw29.DomainsRewrites'. -/
def domainsRewritesCard : Claim7 := { stood := { row := domainsRewritesRow, standIns := [], harness := (true, "8591dde2eec6a8a49066f9c57e0197ca24ac81de62d310c16dac2f6ce1959790"), looks := false }, kinds := [], alts := [], laidByText := true, laidKinds := [.data, .data, .data, .data, .pinned], laidTests := true, laidLooks := .later }
def DomainsRewritesCardSaid : Prop := Claim7.holds Tryz.pinned (.plain (OpenSpec.ofChange domainsRewritesSpec)) domainsRewritesCard

/-- THE TIED CARD OF 'doorsteplaw29.DomainsOnly'. -/
def domainsOnlyCard : Claim7 := { stood := { row := domainsOnlyRow, standIns := [], harness := (true, "8591dde2eec6a8a49066f9c57e0197ca24ac81de62d310c16dac2f6ce1959790"), looks := false }, kinds := [], alts := [], laidByText := true, laidKinds := [.data, .data, .data, .data, .pinned], laidTests := true, laidLooks := .later }
def DomainsOnlyCardSaid : Prop := Claim7.holds Tryz.pinned (.plain (OpenSpec.ofChange domainsOnlySpec)) domainsOnlyCard

/-- THE TIED CARD OF 'doorsteplaw30.LocationFields'. -/
def locationFieldsCard : Claim7 := { stood := { row := locationFieldsRow, standIns := [], harness := (true, "8591dde2eec6a8a49066f9c57e0197ca24ac81de62d310c16dac2f6ce1959790"), looks := false }, kinds := [], alts := [], laidByText := true, laidKinds := [.data, .data, .data, .data, .pinned], laidTests := true, laidLooks := .later }
def LocationFieldsCardSaid : Prop := Claim7.holds Tryz.pinned (.plain (OpenSpec.ofChange locationFieldsSpec)) locationFieldsCard

/-- THE TIED CARD OF 'doorsteplaw30.LocationOthers'. -/
def locationOthersCard : Claim7 := { stood := { row := locationOthersRow, standIns := [], harness := (true, "8591dde2eec6a8a49066f9c57e0197ca24ac81de62d310c16dac2f6ce1959790"), looks := false }, kinds := [], alts := [], laidByText := true, laidKinds := [.data, .data, .data, .data, .pinned], laidTests := true, laidLooks := .later }
def LocationOthersCardSaid : Prop := Claim7.holds Tryz.pinned (.plain (OpenSpec.ofChange locationOthersSpec)) locationOthersCard

/-- THE SECOND FORM's CARD OF 'doorsteplaw29.DomainsRewrites'. -/
def domainsRewritesUptoCard : Claim7 := { stood := { row := domainsRewritesUptoRow, standIns := [], harness := (true, "8591dde2eec6a8a49066f9c57e0197ca24ac81de62d310c16dac2f6ce1959790"), looks := false }, kinds := [], alts := [], laidByText := true, laidKinds := [.data, .data, .data, .data, .pinned], laidTests := true, laidLooks := .later }
def DomainsRewritesUptoCardSaid : Prop := Claim7.holds Tryz.pinned (.plain (OpenSpec.upto domainsRewritesSpec)) domainsRewritesUptoCard

/-- THE SECOND FORM's CARD OF 'doorsteplaw29.DomainsOnly'. -/
def domainsOnlyUptoCard : Claim7 := { stood := { row := domainsOnlyUptoRow, standIns := [], harness := (true, "8591dde2eec6a8a49066f9c57e0197ca24ac81de62d310c16dac2f6ce1959790"), looks := false }, kinds := [], alts := [], laidByText := true, laidKinds := [.data, .data, .data, .data, .pinned], laidTests := true, laidLooks := .later }
def DomainsOnlyUptoCardSaid : Prop := Claim7.holds Tryz.pinned (.plain (OpenSpec.upto domainsOnlySpec)) domainsOnlyUptoCard

/-- THE SECOND FORM's CARD OF 'doorsteplaw30.LocationFields'. -/
def locationFieldsUptoCard : Claim7 := { stood := { row := locationFieldsUptoRow, standIns := [], harness := (true, "8591dde2eec6a8a49066f9c57e0197ca24ac81de62d310c16dac2f6ce1959790"), looks := false }, kinds := [], alts := [], laidByText := true, laidKinds := [.data, .data, .data, .data, .pinned], laidTests := true, laidLooks := .later }
def LocationFieldsUptoCardSaid : Prop := Claim7.holds Tryz.pinned (.plain (OpenSpec.upto locationFieldsSpec)) locationFieldsUptoCard

/-- THE SECOND FORM's CARD OF 'doorsteplaw30.LocationOthers'. -/
def locationOthersUptoCard : Claim7 := { stood := { row := locationOthersUptoRow, standIns := [], harness := (true, "8591dde2eec6a8a49066f9c57e0197ca24ac81de62d310c16dac2f6ce1959790"), looks := false }, kinds := [], alts := [], laidByText := true, laidKinds := [.data, .data, .data, .data, .pinned], laidTests := true, laidLooks := .later }
def LocationOthersUptoCardSaid : Prop := Claim7.holds Tryz.pinned (.plain (OpenSpec.upto locationOthersSpec)) locationOthersUptoCard
end Rows
end Go.Proofs.YtpingffipghifaaGreatDoor
