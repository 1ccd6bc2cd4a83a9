/-
  DERIVED. GIVEN WITH THE SEED: THE CARDS: each row of YtmdocoobecckdaaGreatDoorRows.lean that lists a variable, with what it lists TIED to the program's text (the seventh form; the later family's looks); each row that meets fmt, with fmt's text TOLD by the authors' own Lean function (tested against real Go, not proved from fmt's source: count such statements apart). THE CARD IS WHAT COUNTS. Prove the row's statement (the work); the ties are given (YtmdocoobecckdaaGreatDoorTie.lean); close each card by the builder's one call (the guide's Derived/Test/ToyasCard.lean, 'card_holds'). Laid BY PROGRAM, IN A SANDBOX (cutbox-door.mjs). By AI agents, Wed Nov 11 2026. No macro, syntax, notation, axiom, sorry.
-/
import Derived.Test.YtmdocoobecckdaaGreatDoorRows
import GoSem.ClaimSeven
namespace Go.Proofs.YtmdocoobecckdaaGreatDoor
namespace Rows

/-- THE TIED CARD OF 'doorsteplaw26.ForwardedMakes'. -/
def forwardedMakesCard : Claim7 := { stood := { row := forwardedMakesRow, standIns := [], harness := (true, "071a871d717accc32965da96fa648f0b7c96d4a50bf8c874dd141c98b2141594"), looks := false }, kinds := [], alts := [], laidByText := true, laidKinds := [.data, .data, .data, .data, .pinned], laidTests := true, laidLooks := .later }
def ForwardedMakesCardSaid : Prop := Claim7.holds Tryz.pinned (.plain (OpenSpec.ofChange forwardedMakesSpec)) forwardedMakesCard

/-- THE TIED CARD OF 'doorsteplaw25.ViaReads'. -/
def viaReadsCard : Claim7 := { stood := { row := viaReadsRow, standIns := [], harness := (true, "071a871d717accc32965da96fa648f0b7c96d4a50bf8c874dd141c98b2141594"), looks := false }, kinds := [], alts := [], laidByText := true, laidKinds := [.data, .data, .data, .data, .pinned], laidTests := true, laidLooks := .later }
def ViaReadsCardSaid : Prop := Claim7.holds Tryz.pinned (.plain (OpenSpec.ofChange viaReadsSpec)) viaReadsCard

/-- THE TIED CARD OF 'doorsteplaw25.ViaWrites'. -/
def viaWritesCard : Claim7 := { stood := { row := viaWritesRow, standIns := [], harness := (true, "071a871d717accc32965da96fa648f0b7c96d4a50bf8c874dd141c98b2141594"), looks := false }, kinds := [], alts := [], laidByText := true, laidKinds := [.data, .data, .data, .data, .pinned], laidTests := true, laidLooks := .later }
def ViaWritesCardSaid : Prop := Claim7.holds Tryz.pinned (.plain (OpenSpec.ofChange viaWritesSpec)) viaWritesCard

/-- THE TIED CARD OF 'doorsteplaw26.ForwardedReads'. -/
def forwardedReadsCard : Claim7 := { stood := { row := forwardedReadsRow, standIns := [], harness := (true, "071a871d717accc32965da96fa648f0b7c96d4a50bf8c874dd141c98b2141594"), looks := false }, kinds := [], alts := [], laidByText := true, laidKinds := [.data, .data, .data, .data, .pinned], laidTests := true, laidLooks := .later }
def ForwardedReadsCardSaid : Prop := Claim7.holds Tryz.pinned (.plain (OpenSpec.ofChange forwardedReadsSpec)) forwardedReadsCard

/-- THE TIED CARD OF 'doorsteplaw26.ForwardedAppends'. -/
def forwardedAppendsCard : Claim7 := { stood := { row := forwardedAppendsRow, standIns := [], harness := (true, "071a871d717accc32965da96fa648f0b7c96d4a50bf8c874dd141c98b2141594"), looks := false }, kinds := [], alts := [], laidByText := true, laidKinds := [.data, .data, .data, .data, .pinned], laidTests := true, laidLooks := .later }
def ForwardedAppendsCardSaid : Prop := Claim7.holds Tryz.pinned (.plain (OpenSpec.ofChange forwardedAppendsSpec)) forwardedAppendsCard

/-- THE TIED CARD OF 'doorsteplaw25.ViaAppends'. -/
def viaAppendsCard : Claim7 := { stood := { row := viaAppendsRow, standIns := [], harness := (true, "071a871d717accc32965da96fa648f0b7c96d4a50bf8c874dd141c98b2141594"), looks := false }, kinds := [], alts := [], laidByText := true, laidKinds := [.data, .data, .data, .data, .pinned], laidTests := true, laidLooks := .later }
def ViaAppendsCardSaid : Prop := Claim7.holds Tryz.pinned (.plain (OpenSpec.ofChange viaAppendsSpec)) viaAppendsCard

/-- THE SECOND FORM's CARD OF 'doorsteplaw26.ForwardedMakes'. -/
def forwardedMakesUptoCard : Claim7 := { stood := { row := forwardedMakesUptoRow, standIns := [], harness := (true, "071a871d717accc32965da96fa648f0b7c96d4a50bf8c874dd141c98b2141594"), looks := false }, kinds := [], alts := [], laidByText := true, laidKinds := [.data, .data, .data, .data, .pinned], laidTests := true, laidLooks := .later }
def ForwardedMakesUptoCardSaid : Prop := Claim7.holds Tryz.pinned (.plain (OpenSpec.upto forwardedMakesSpec)) forwardedMakesUptoCard

/-- THE SECOND FORM's CARD OF 'doorsteplaw25.ViaReads'. -/
def viaReadsUptoCard : Claim7 := { stood := { row := viaReadsUptoRow, standIns := [], harness := (true, "071a871d717accc32965da96fa648f0b7c96d4a50bf8c874dd141c98b2141594"), looks := false }, kinds := [], alts := [], laidByText := true, laidKinds := [.data, .data, .data, .data, .pinned], laidTests := true, laidLooks := .later }
def ViaReadsUptoCardSaid : Prop := Claim7.holds Tryz.pinned (.plain (OpenSpec.upto viaReadsSpec)) viaReadsUptoCard

/-- THE SECOND FORM's CARD OF 'doorsteplaw25.ViaWrites'. -/
def viaWritesUptoCard : Claim7 := { stood := { row := viaWritesUptoRow, standIns := [], harness := (true, "071a871d717accc32965da96fa648f0b7c96d4a50bf8c874dd141c98b2141594"), looks := false }, kinds := [], alts := [], laidByText := true, laidKinds := [.data, .data, .data, .data, .pinned], laidTests := true, laidLooks := .later }
def ViaWritesUptoCardSaid : Prop := Claim7.holds Tryz.pinned (.plain (OpenSpec.upto viaWritesSpec)) viaWritesUptoCard

/-- THE SECOND FORM's CARD OF 'doorsteplaw26.ForwardedReads'. -/
def forwardedReadsUptoCard : Claim7 := { stood := { row := forwardedReadsUptoRow, standIns := [], harness := (true, "071a871d717accc32965da96fa648f0b7c96d4a50bf8c874dd141c98b2141594"), looks := false }, kinds := [], alts := [], laidByText := true, laidKinds := [.data, .data, .data, .data, .pinned], laidTests := true, laidLooks := .later }
def ForwardedReadsUptoCardSaid : Prop := Claim7.holds Tryz.pinned (.plain (OpenSpec.upto forwardedReadsSpec)) forwardedReadsUptoCard

/-- THE SECOND FORM's CARD OF 'doorsteplaw26.ForwardedAppends'. -/
def forwardedAppendsUptoCard : Claim7 := { stood := { row := forwardedAppendsUptoRow, standIns := [], harness := (true, "071a871d717accc32965da96fa648f0b7c96d4a50bf8c874dd141c98b2141594"), looks := false }, kinds := [], alts := [], laidByText := true, laidKinds := [.data, .data, .data, .data, .pinned], laidTests := true, laidLooks := .later }
def ForwardedAppendsUptoCardSaid : Prop := Claim7.holds Tryz.pinned (.plain (OpenSpec.upto forwardedAppendsSpec)) forwardedAppendsUptoCard

/-- THE SECOND FORM's CARD OF 'doorsteplaw25.ViaAppends'. -/
def viaAppendsUptoCard : Claim7 := { stood := { row := viaAppendsUptoRow, standIns := [], harness := (true, "071a871d717accc32965da96fa648f0b7c96d4a50bf8c874dd141c98b2141594"), looks := false }, kinds := [], alts := [], laidByText := true, laidKinds := [.data, .data, .data, .data, .pinned], laidTests := true, laidLooks := .later }
def ViaAppendsUptoCardSaid : Prop := Claim7.holds Tryz.pinned (.plain (OpenSpec.upto viaAppendsSpec)) viaAppendsUptoCard
end Rows
end Go.Proofs.YtmdocoobecckdaaGreatDoor
