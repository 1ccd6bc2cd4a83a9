/-
  DERIVED. GIVEN WITH THE SEED: THE CARDS: each row of YtbebpdfhbpedjaaGreatDoorRows.lean that lists a variable, with what it lists TIED to the program's text (the seventh form; the later family's looks); each row that meets fmt, with fmt's text TOLD by the authors' own Lean function (tested against real Go, not proved from fmt's source: count such statements apart). THE CARD IS WHAT COUNTS. Prove the row's statement (the work); the ties are given (YtbebpdfhbpedjaaGreatDoorTie.lean); close each card by the builder's one call (the guide's Derived/Test/ToyasCard.lean, 'card_holds'). Laid BY PROGRAM, IN A SANDBOX (cutbox-door.mjs). By AI agents, Wed Nov 11 2026. No macro, syntax, notation, axiom, sorry.
-/
import Derived.Test.YtbebpdfhbpedjaaGreatDoorRows
import GoSem.ClaimSeven
namespace Go.Proofs.YtbebpdfhbpedjaaGreatDoor
namespace Rows

/-- THE TIED CARD OF 'doorsteplaw25.ViaAppends'. -/
def viaAppendsCard : Claim7 := { stood := { row := viaAppendsRow, standIns := [], harness := (true, "2856e441a2dfeb08d67d880f6750a253f445c4983ef1fb2bdf482f5b425ba169"), looks := false }, kinds := [], alts := [], laidByText := true, laidKinds := [.data, .data, .data, .data, .pinned], laidTests := true, laidLooks := .later }
def ViaAppendsCardSaid : Prop := Claim7.holds Tryz.pinned (.plain (OpenSpec.ofChange viaAppendsSpec)) viaAppendsCard

/-- THE TIED CARD OF 'doorsteplaw26.ForwardedMakes'. -/
def forwardedMakesCard : Claim7 := { stood := { row := forwardedMakesRow, standIns := [], harness := (true, "2856e441a2dfeb08d67d880f6750a253f445c4983ef1fb2bdf482f5b425ba169"), looks := false }, kinds := [], alts := [], laidByText := true, laidKinds := [.data, .data, .data, .data, .pinned], laidTests := true, laidLooks := .later }
def ForwardedMakesCardSaid : Prop := Claim7.holds Tryz.pinned (.plain (OpenSpec.ofChange forwardedMakesSpec)) forwardedMakesCard

/-- THE TIED CARD OF 'doorsteplaw26.ForwardedReads'. -/
def forwardedReadsCard : Claim7 := { stood := { row := forwardedReadsRow, standIns := [], harness := (true, "2856e441a2dfeb08d67d880f6750a253f445c4983ef1fb2bdf482f5b425ba169"), looks := false }, kinds := [], alts := [], laidByText := true, laidKinds := [.data, .data, .data, .data, .pinned], laidTests := true, laidLooks := .later }
def ForwardedReadsCardSaid : Prop := Claim7.holds Tryz.pinned (.plain (OpenSpec.ofChange forwardedReadsSpec)) forwardedReadsCard

/-- THE TIED CARD OF 'doorsteplaw26.ForwardedAppends'. -/
def forwardedAppendsCard : Claim7 := { stood := { row := forwardedAppendsRow, standIns := [], harness := (true, "2856e441a2dfeb08d67d880f6750a253f445c4983ef1fb2bdf482f5b425ba169"), looks := false }, kinds := [], alts := [], laidByText := true, laidKinds := [.data, .data, .data, .data, .pinned], laidTests := true, laidLooks := .later }
def ForwardedAppendsCardSaid : Prop := Claim7.holds Tryz.pinned (.plain (OpenSpec.ofChange forwardedAppendsSpec)) forwardedAppendsCard

/-- THE SECOND FORM's CARD OF 'doorsteplaw25.ViaAppends'. -/
def viaAppendsUptoCard : Claim7 := { stood := { row := viaAppendsUptoRow, standIns := [], harness := (true, "2856e441a2dfeb08d67d880f6750a253f445c4983ef1fb2bdf482f5b425ba169"), looks := false }, kinds := [], alts := [], laidByText := true, laidKinds := [.data, .data, .data, .data, .pinned], laidTests := true, laidLooks := .later }
def ViaAppendsUptoCardSaid : Prop := Claim7.holds Tryz.pinned (.plain (OpenSpec.upto viaAppendsSpec)) viaAppendsUptoCard

/-- THE SECOND FORM's CARD OF 'doorsteplaw26.ForwardedMakes'. -/
def forwardedMakesUptoCard : Claim7 := { stood := { row := forwardedMakesUptoRow, standIns := [], harness := (true, "2856e441a2dfeb08d67d880f6750a253f445c4983ef1fb2bdf482f5b425ba169"), looks := false }, kinds := [], alts := [], laidByText := true, laidKinds := [.data, .data, .data, .data, .pinned], laidTests := true, laidLooks := .later }
def ForwardedMakesUptoCardSaid : Prop := Claim7.holds Tryz.pinned (.plain (OpenSpec.upto forwardedMakesSpec)) forwardedMakesUptoCard

/-- THE SECOND FORM's CARD OF 'doorsteplaw26.ForwardedReads'. -/
def forwardedReadsUptoCard : Claim7 := { stood := { row := forwardedReadsUptoRow, standIns := [], harness := (true, "2856e441a2dfeb08d67d880f6750a253f445c4983ef1fb2bdf482f5b425ba169"), looks := false }, kinds := [], alts := [], laidByText := true, laidKinds := [.data, .data, .data, .data, .pinned], laidTests := true, laidLooks := .later }
def ForwardedReadsUptoCardSaid : Prop := Claim7.holds Tryz.pinned (.plain (OpenSpec.upto forwardedReadsSpec)) forwardedReadsUptoCard

/-- THE SECOND FORM's CARD OF 'doorsteplaw26.ForwardedAppends'. -/
def forwardedAppendsUptoCard : Claim7 := { stood := { row := forwardedAppendsUptoRow, standIns := [], harness := (true, "2856e441a2dfeb08d67d880f6750a253f445c4983ef1fb2bdf482f5b425ba169"), looks := false }, kinds := [], alts := [], laidByText := true, laidKinds := [.data, .data, .data, .data, .pinned], laidTests := true, laidLooks := .later }
def ForwardedAppendsUptoCardSaid : Prop := Claim7.holds Tryz.pinned (.plain (OpenSpec.upto forwardedAppendsSpec)) forwardedAppendsUptoCard
end Rows
end Go.Proofs.YtbebpdfhbpedjaaGreatDoor
