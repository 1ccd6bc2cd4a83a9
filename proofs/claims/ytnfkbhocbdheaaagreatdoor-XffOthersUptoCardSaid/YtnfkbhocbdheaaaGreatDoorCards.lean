/-
  DERIVED. GIVEN WITH THE SEED: THE CARDS: each row of YtnfkbhocbdheaaaGreatDoorRows.lean that lists a variable, with what it lists TIED to the program's text (the seventh form; the later family's looks); each row that meets fmt, with fmt's text TOLD by the authors' own Lean function (tested against real Go, not proved from fmt's source: count such statements apart). THE CARD IS WHAT COUNTS. Prove the row's statement (the work); the ties are given (YtnfkbhocbdheaaaGreatDoorTie.lean); close each card by the builder's one call (the guide's Derived/Test/ToyasCard.lean, 'card_holds'). Laid BY PROGRAM, IN A SANDBOX (cutbox-door.mjs). By AI agents, Wed Nov 11 2026. No macro, syntax, notation, axiom, sorry.
-/
import Derived.Test.YtnfkbhocbdheaaaGreatDoorRows
import GoSem.ClaimSeven
namespace Go.Proofs.YtnfkbhocbdheaaaGreatDoor
namespace Rows

/-- THE TIED CARD OF 'doorsteplaw10.TargetReads'. -/
def targetReadsCard : Claim7 := { stood := { row := targetReadsRow, standIns := [], harness := (true, "168d614c74558d174cd28b7a7b45ba39dab538d612803f0ebf0e8f70961a7a02"), looks := false }, kinds := [], alts := [], laidByText := true, laidKinds := [.data, .data, .data, .data, .pinned], laidTests := true, laidLooks := .later }
def TargetReadsCardSaid : Prop := Claim7.holds Tryz.pinned (.plain (OpenSpec.ofChange targetReadsSpec)) targetReadsCard

/-- THE TIED CARD OF 'doorsteplaw10.TargetWrites'. -/
def targetWritesCard : Claim7 := { stood := { row := targetWritesRow, standIns := [], harness := (true, "168d614c74558d174cd28b7a7b45ba39dab538d612803f0ebf0e8f70961a7a02"), looks := false }, kinds := [], alts := [], laidByText := true, laidKinds := [.data, .data, .data, .data, .pinned], laidTests := true, laidLooks := .later }
def TargetWritesCardSaid : Prop := Claim7.holds Tryz.pinned (.plain (OpenSpec.ofChange targetWritesSpec)) targetWritesCard

/-- THE TIED CARD OF 'doorsteplaw14.StartParts'. -/
def startPartsCard : Claim7 := { stood := { row := startPartsRow, standIns := [], harness := (true, "168d614c74558d174cd28b7a7b45ba39dab538d612803f0ebf0e8f70961a7a02"), looks := false }, kinds := [], alts := [], laidByText := true, laidKinds := [.data, .data, .data, .data, .pinned], laidTests := true, laidLooks := .later }
def StartPartsCardSaid : Prop := Claim7.holds Tryz.pinned (.plain (OpenSpec.ofChange startPartsSpec)) startPartsCard

/-- THE TIED CARD OF 'doorsteplaw27.XffAppends'. -/
def xffAppendsCard : Claim7 := { stood := { row := xffAppendsRow, standIns := [], harness := (true, "168d614c74558d174cd28b7a7b45ba39dab538d612803f0ebf0e8f70961a7a02"), looks := false }, kinds := [], alts := [], laidByText := true, laidKinds := [.data, .data, .data, .data, .pinned], laidTests := true, laidLooks := .later }
def XffAppendsCardSaid : Prop := Claim7.holds Tryz.pinned (.plain (OpenSpec.ofChange xffAppendsSpec)) xffAppendsCard

/-- THE TIED CARD OF 'doorsteplaw27.XffOthers'. -/
def xffOthersCard : Claim7 := { stood := { row := xffOthersRow, standIns := [], harness := (true, "168d614c74558d174cd28b7a7b45ba39dab538d612803f0ebf0e8f70961a7a02"), looks := false }, kinds := [], alts := [], laidByText := true, laidKinds := [.data, .data, .data, .data, .pinned], laidTests := true, laidLooks := .later }
def XffOthersCardSaid : Prop := Claim7.holds Tryz.pinned (.plain (OpenSpec.ofChange xffOthersSpec)) xffOthersCard

/-- THE SECOND FORM's CARD OF 'doorsteplaw10.TargetReads'. -/
def targetReadsUptoCard : Claim7 := { stood := { row := targetReadsUptoRow, standIns := [], harness := (true, "168d614c74558d174cd28b7a7b45ba39dab538d612803f0ebf0e8f70961a7a02"), looks := false }, kinds := [], alts := [], laidByText := true, laidKinds := [.data, .data, .data, .data, .pinned], laidTests := true, laidLooks := .later }
def TargetReadsUptoCardSaid : Prop := Claim7.holds Tryz.pinned (.plain (OpenSpec.upto targetReadsSpec)) targetReadsUptoCard

/-- THE SECOND FORM's CARD OF 'doorsteplaw10.TargetWrites'. -/
def targetWritesUptoCard : Claim7 := { stood := { row := targetWritesUptoRow, standIns := [], harness := (true, "168d614c74558d174cd28b7a7b45ba39dab538d612803f0ebf0e8f70961a7a02"), looks := false }, kinds := [], alts := [], laidByText := true, laidKinds := [.data, .data, .data, .data, .pinned], laidTests := true, laidLooks := .later }
def TargetWritesUptoCardSaid : Prop := Claim7.holds Tryz.pinned (.plain (OpenSpec.upto targetWritesSpec)) targetWritesUptoCard

/-- THE SECOND FORM's CARD OF 'doorsteplaw14.StartParts'. -/
def startPartsUptoCard : Claim7 := { stood := { row := startPartsUptoRow, standIns := [], harness := (true, "168d614c74558d174cd28b7a7b45ba39dab538d612803f0ebf0e8f70961a7a02"), looks := false }, kinds := [], alts := [], laidByText := true, laidKinds := [.data, .data, .data, .data, .pinned], laidTests := true, laidLooks := .later }
def StartPartsUptoCardSaid : Prop := Claim7.holds Tryz.pinned (.plain (OpenSpec.upto startPartsSpec)) startPartsUptoCard

/-- THE SECOND FORM's CARD OF 'doorsteplaw27.XffAppends'. -/
def xffAppendsUptoCard : Claim7 := { stood := { row := xffAppendsUptoRow, standIns := [], harness := (true, "168d614c74558d174cd28b7a7b45ba39dab538d612803f0ebf0e8f70961a7a02"), looks := false }, kinds := [], alts := [], laidByText := true, laidKinds := [.data, .data, .data, .data, .pinned], laidTests := true, laidLooks := .later }
def XffAppendsUptoCardSaid : Prop := Claim7.holds Tryz.pinned (.plain (OpenSpec.upto xffAppendsSpec)) xffAppendsUptoCard

/-- THE SECOND FORM's CARD OF 'doorsteplaw27.XffOthers'. -/
def xffOthersUptoCard : Claim7 := { stood := { row := xffOthersUptoRow, standIns := [], harness := (true, "168d614c74558d174cd28b7a7b45ba39dab538d612803f0ebf0e8f70961a7a02"), looks := false }, kinds := [], alts := [], laidByText := true, laidKinds := [.data, .data, .data, .data, .pinned], laidTests := true, laidLooks := .later }
def XffOthersUptoCardSaid : Prop := Claim7.holds Tryz.pinned (.plain (OpenSpec.upto xffOthersSpec)) xffOthersUptoCard
end Rows
end Go.Proofs.YtnfkbhocbdheaaaGreatDoor
