/-
  DERIVED. GIVEN WITH THE SEED: THE CARDS: each row of YthcjbenainkihaaGreatDoorRows.lean that lists a variable, with what it lists TIED to the program's text (the seventh form; the later family's looks); each row that meets fmt, with fmt's text TOLD by the authors' own Lean function (tested against real Go, not proved from fmt's source: count such statements apart). THE CARD IS WHAT COUNTS. Prove the row's statement (the work); the ties are given (YthcjbenainkihaaGreatDoorTie.lean); close each card by the builder's one call (the guide's Derived/Test/ToyasCard.lean, 'card_holds'). Laid BY PROGRAM, IN A SANDBOX (cutbox-door.mjs). By AI agents, Wed Nov 11 2026. No macro, syntax, notation, axiom, sorry.
-/
import Derived.Test.YthcjbenainkihaaGreatDoorRows
import GoSem.ClaimSeven
namespace Go.Proofs.YthcjbenainkihaaGreatDoor
namespace Rows

/-- THE TIED CARD OF 'doorsteplaw41.ReplyCodes'. -/
def replyCodesCard : Claim7 := { stood := { row := replyCodesRow, standIns := [], harness := (true, "dfa6523159d6ba4f3a968378c4652e0616bb12f57ea7a0afb87550775db46fb3"), looks := false }, kinds := [], alts := [], laidByText := true, laidKinds := [.data, .data, .data, .data, .pinned], laidTests := true, laidLooks := .later }
def ReplyCodesCardSaid : Prop := Claim7.holds Tryz.pinned (.plain (OpenSpec.ofChange replyCodesSpec)) replyCodesCard

/-- THE TIED CARD OF 'doorsteplaw22.MessageWrites'. -/
def messageWritesCard : Claim7 := { stood := { row := messageWritesRow, standIns := [], harness := (true, "dfa6523159d6ba4f3a968378c4652e0616bb12f57ea7a0afb87550775db46fb3"), looks := false }, kinds := [], alts := [], laidByText := true, laidKinds := [.data, .data, .data, .data, .pinned], laidTests := true, laidLooks := .later }
def MessageWritesCardSaid : Prop := Claim7.holds Tryz.pinned (.plain (OpenSpec.ofChange messageWritesSpec)) messageWritesCard

/-- THE TIED CARD OF 'doorsteplaw22.MessageBack'. -/
def messageBackCard : Claim7 := { stood := { row := messageBackRow, standIns := [], harness := (true, "dfa6523159d6ba4f3a968378c4652e0616bb12f57ea7a0afb87550775db46fb3"), looks := false }, kinds := [], alts := [], laidByText := true, laidKinds := [.data, .data, .data, .data, .pinned], laidTests := true, laidLooks := .later }
def MessageBackCardSaid : Prop := Claim7.holds Tryz.pinned (.plain (OpenSpec.ofChange messageBackSpec)) messageBackCard

/-- THE TIED CARD OF 'doorsteplaw22.MessageCut'. -/
def messageCutCard : Claim7 := { stood := { row := messageCutRow, standIns := [], harness := (true, "dfa6523159d6ba4f3a968378c4652e0616bb12f57ea7a0afb87550775db46fb3"), looks := false }, kinds := [], alts := [], laidByText := true, laidKinds := [.data, .data, .data, .data, .pinned], laidTests := true, laidLooks := .later }
def MessageCutCardSaid : Prop := Claim7.holds Tryz.pinned (.plain (OpenSpec.ofChange messageCutSpec)) messageCutCard

/-- THE TIED CARD OF 'doorsteplaw41.ReplyTexts'. -/
def replyTextsCard : Claim7 := { stood := { row := replyTextsRow, standIns := [], harness := (true, "dfa6523159d6ba4f3a968378c4652e0616bb12f57ea7a0afb87550775db46fb3"), looks := false }, kinds := [], alts := [], laidByText := true, laidKinds := [.data, .data, .data, .data, .pinned], laidTests := true, laidLooks := .later }
def ReplyTextsCardSaid : Prop := Claim7.holds Tryz.pinned (.plain (OpenSpec.ofChange replyTextsSpec)) replyTextsCard

/-- THE TIED CARD OF 'doorsteplaw23.StreamRequests'. -/
def streamRequestsCard : Claim7 := { stood := { row := streamRequestsRow, standIns := [], harness := (true, "dfa6523159d6ba4f3a968378c4652e0616bb12f57ea7a0afb87550775db46fb3"), looks := false }, kinds := [], alts := [], laidByText := true, laidKinds := [.data, .data, .data, .data, .pinned], laidTests := true, laidLooks := .later }
def StreamRequestsCardSaid : Prop := Claim7.holds Tryz.pinned (.plain (OpenSpec.ofChange streamRequestsSpec)) streamRequestsCard

/-- THE TIED CARD OF 'doorsteplaw23.StreamResponses'. -/
def streamResponsesCard : Claim7 := { stood := { row := streamResponsesRow, standIns := [], harness := (true, "dfa6523159d6ba4f3a968378c4652e0616bb12f57ea7a0afb87550775db46fb3"), looks := false }, kinds := [], alts := [], laidByText := true, laidKinds := [.data, .data, .data, .data, .pinned], laidTests := true, laidLooks := .later }
def StreamResponsesCardSaid : Prop := Claim7.holds Tryz.pinned (.plain (OpenSpec.ofChange streamResponsesSpec)) streamResponsesCard

/-- THE TIED CARD OF 'doorsteplaw23.StreamBack'. -/
def streamBackCard : Claim7 := { stood := { row := streamBackRow, standIns := [], harness := (true, "dfa6523159d6ba4f3a968378c4652e0616bb12f57ea7a0afb87550775db46fb3"), looks := false }, kinds := [], alts := [], laidByText := true, laidKinds := [.data, .data, .data, .data, .pinned], laidTests := true, laidLooks := .later }
def StreamBackCardSaid : Prop := Claim7.holds Tryz.pinned (.plain (OpenSpec.ofChange streamBackSpec)) streamBackCard

/-- THE SECOND FORM's CARD OF 'doorsteplaw41.ReplyCodes'. -/
def replyCodesUptoCard : Claim7 := { stood := { row := replyCodesUptoRow, standIns := [], harness := (true, "dfa6523159d6ba4f3a968378c4652e0616bb12f57ea7a0afb87550775db46fb3"), looks := false }, kinds := [], alts := [], laidByText := true, laidKinds := [.data, .data, .data, .data, .pinned], laidTests := true, laidLooks := .later }
def ReplyCodesUptoCardSaid : Prop := Claim7.holds Tryz.pinned (.plain (OpenSpec.upto replyCodesSpec)) replyCodesUptoCard

/-- THE SECOND FORM's CARD OF 'doorsteplaw22.MessageWrites'. -/
def messageWritesUptoCard : Claim7 := { stood := { row := messageWritesUptoRow, standIns := [], harness := (true, "dfa6523159d6ba4f3a968378c4652e0616bb12f57ea7a0afb87550775db46fb3"), looks := false }, kinds := [], alts := [], laidByText := true, laidKinds := [.data, .data, .data, .data, .pinned], laidTests := true, laidLooks := .later }
def MessageWritesUptoCardSaid : Prop := Claim7.holds Tryz.pinned (.plain (OpenSpec.upto messageWritesSpec)) messageWritesUptoCard

/-- THE SECOND FORM's CARD OF 'doorsteplaw22.MessageBack'. -/
def messageBackUptoCard : Claim7 := { stood := { row := messageBackUptoRow, standIns := [], harness := (true, "dfa6523159d6ba4f3a968378c4652e0616bb12f57ea7a0afb87550775db46fb3"), looks := false }, kinds := [], alts := [], laidByText := true, laidKinds := [.data, .data, .data, .data, .pinned], laidTests := true, laidLooks := .later }
def MessageBackUptoCardSaid : Prop := Claim7.holds Tryz.pinned (.plain (OpenSpec.upto messageBackSpec)) messageBackUptoCard

/-- THE SECOND FORM's CARD OF 'doorsteplaw22.MessageCut'. -/
def messageCutUptoCard : Claim7 := { stood := { row := messageCutUptoRow, standIns := [], harness := (true, "dfa6523159d6ba4f3a968378c4652e0616bb12f57ea7a0afb87550775db46fb3"), looks := false }, kinds := [], alts := [], laidByText := true, laidKinds := [.data, .data, .data, .data, .pinned], laidTests := true, laidLooks := .later }
def MessageCutUptoCardSaid : Prop := Claim7.holds Tryz.pinned (.plain (OpenSpec.upto messageCutSpec)) messageCutUptoCard

/-- THE SECOND FORM's CARD OF 'doorsteplaw41.ReplyTexts'. -/
def replyTextsUptoCard : Claim7 := { stood := { row := replyTextsUptoRow, standIns := [], harness := (true, "dfa6523159d6ba4f3a968378c4652e0616bb12f57ea7a0afb87550775db46fb3"), looks := false }, kinds := [], alts := [], laidByText := true, laidKinds := [.data, .data, .data, .data, .pinned], laidTests := true, laidLooks := .later }
def ReplyTextsUptoCardSaid : Prop := Claim7.holds Tryz.pinned (.plain (OpenSpec.upto replyTextsSpec)) replyTextsUptoCard

/-- THE SECOND FORM's CARD OF 'doorsteplaw23.StreamRequests'. -/
def streamRequestsUptoCard : Claim7 := { stood := { row := streamRequestsUptoRow, standIns := [], harness := (true, "dfa6523159d6ba4f3a968378c4652e0616bb12f57ea7a0afb87550775db46fb3"), looks := false }, kinds := [], alts := [], laidByText := true, laidKinds := [.data, .data, .data, .data, .pinned], laidTests := true, laidLooks := .later }
def StreamRequestsUptoCardSaid : Prop := Claim7.holds Tryz.pinned (.plain (OpenSpec.upto streamRequestsSpec)) streamRequestsUptoCard

/-- THE SECOND FORM's CARD OF 'doorsteplaw23.StreamResponses'. -/
def streamResponsesUptoCard : Claim7 := { stood := { row := streamResponsesUptoRow, standIns := [], harness := (true, "dfa6523159d6ba4f3a968378c4652e0616bb12f57ea7a0afb87550775db46fb3"), looks := false }, kinds := [], alts := [], laidByText := true, laidKinds := [.data, .data, .data, .data, .pinned], laidTests := true, laidLooks := .later }
def StreamResponsesUptoCardSaid : Prop := Claim7.holds Tryz.pinned (.plain (OpenSpec.upto streamResponsesSpec)) streamResponsesUptoCard

/-- THE SECOND FORM's CARD OF 'doorsteplaw23.StreamBack'. -/
def streamBackUptoCard : Claim7 := { stood := { row := streamBackUptoRow, standIns := [], harness := (true, "dfa6523159d6ba4f3a968378c4652e0616bb12f57ea7a0afb87550775db46fb3"), looks := false }, kinds := [], alts := [], laidByText := true, laidKinds := [.data, .data, .data, .data, .pinned], laidTests := true, laidLooks := .later }
def StreamBackUptoCardSaid : Prop := Claim7.holds Tryz.pinned (.plain (OpenSpec.upto streamBackSpec)) streamBackUptoCard
end Rows
end Go.Proofs.YthcjbenainkihaaGreatDoor
