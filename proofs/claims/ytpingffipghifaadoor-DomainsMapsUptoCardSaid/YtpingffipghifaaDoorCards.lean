/-
  DERIVED. GIVEN WITH THE SEED: THE CARDS: each row of YtpingffipghifaaDoorRows.lean that lists a variable, with what it lists TIED to the program's text (the seventh form; the later family's looks); each row that meets fmt, with fmt's text TOLD by the authors' own Lean function (tested against real Go, not proved from fmt's source: count such statements apart). THE CARD IS WHAT COUNTS. Prove the row's statement (the work); the ties are given (YtpingffipghifaaDoorTie.lean); close each card by the builder's one call (the guide's Derived/Test/ToyasCard.lean, 'card_holds'). Laid BY PROGRAM, IN A SANDBOX (cutbox-door.mjs). By AI agents, Wed Nov 11 2026. No macro, syntax, notation, axiom, sorry.
-/
import Derived.Test.YtpingffipghifaaDoorRows
import GoSem.ClaimSeven
namespace Go.Proofs.YtpingffipghifaaDoor
namespace Rows

/-- THE TIED CARD OF 'doorsteplaw28.CookieSets'. -/
def cookieSetsCard : Claim7 := { stood := { row := cookieSetsRow, standIns := [], harness := (true, "f3ae59b5932e3a7a5bfebcba66dcf44efae457b2a9919eac6f2ce153a99dadf2"), looks := false }, kinds := [], alts := [], laidByText := true, laidKinds := [.data, .pinned], laidTests := true, laidLooks := .later }
def CookieSetsCardSaid : Prop := Claim7.holds Tryd.pinned (.plain (OpenSpec.ofChange cookieSetsSpec)) cookieSetsCard

/-- THE TIED CARD OF 'doorsteplaw28.CookieReads'. -/
def cookieReadsCard : Claim7 := { stood := { row := cookieReadsRow, standIns := [], harness := (true, "f3ae59b5932e3a7a5bfebcba66dcf44efae457b2a9919eac6f2ce153a99dadf2"), looks := false }, kinds := [], alts := [], laidByText := true, laidKinds := [.data, .pinned], laidTests := true, laidLooks := .later }
def CookieReadsCardSaid : Prop := Claim7.holds Tryd.pinned (.plain (OpenSpec.ofChange cookieReadsSpec)) cookieReadsCard

/-- THE TIED CARD OF 'doorsteplaw28.CookieWrites'. -/
def cookieWritesCard : Claim7 := { stood := { row := cookieWritesRow, standIns := [], harness := (true, "f3ae59b5932e3a7a5bfebcba66dcf44efae457b2a9919eac6f2ce153a99dadf2"), looks := false }, kinds := [], alts := [], laidByText := true, laidKinds := [.data, .pinned], laidTests := true, laidLooks := .later }
def CookieWritesCardSaid : Prop := Claim7.holds Tryd.pinned (.plain (OpenSpec.ofChange cookieWritesSpec)) cookieWritesCard

/-- THE TIED CARD OF 'doorsteplaw29.DomainsMaps'. -/
def domainsMapsCard : Claim7 := { stood := { row := domainsMapsRow, standIns := [], harness := (true, "f3ae59b5932e3a7a5bfebcba66dcf44efae457b2a9919eac6f2ce153a99dadf2"), looks := false }, kinds := [], alts := [], laidByText := true, laidKinds := [.data, .data, .data, .data, .pinned], laidTests := true, laidLooks := .later }
def DomainsMapsCardSaid : Prop := Claim7.holds Tryd.pinned (.plain (OpenSpec.ofChange domainsMapsSpec)) domainsMapsCard

/-- THE SECOND FORM's CARD OF 'doorsteplaw28.CookieSets'. -/
def cookieSetsUptoCard : Claim7 := { stood := { row := cookieSetsUptoRow, standIns := [], harness := (true, "f3ae59b5932e3a7a5bfebcba66dcf44efae457b2a9919eac6f2ce153a99dadf2"), looks := false }, kinds := [], alts := [], laidByText := true, laidKinds := [.data, .pinned], laidTests := true, laidLooks := .later }
def CookieSetsUptoCardSaid : Prop := Claim7.holds Tryd.pinned (.plain (OpenSpec.upto cookieSetsSpec)) cookieSetsUptoCard

/-- THE SECOND FORM's CARD OF 'doorsteplaw28.CookieReads'. -/
def cookieReadsUptoCard : Claim7 := { stood := { row := cookieReadsUptoRow, standIns := [], harness := (true, "f3ae59b5932e3a7a5bfebcba66dcf44efae457b2a9919eac6f2ce153a99dadf2"), looks := false }, kinds := [], alts := [], laidByText := true, laidKinds := [.data, .pinned], laidTests := true, laidLooks := .later }
def CookieReadsUptoCardSaid : Prop := Claim7.holds Tryd.pinned (.plain (OpenSpec.upto cookieReadsSpec)) cookieReadsUptoCard

/-- THE SECOND FORM's CARD OF 'doorsteplaw28.CookieWrites'. -/
def cookieWritesUptoCard : Claim7 := { stood := { row := cookieWritesUptoRow, standIns := [], harness := (true, "f3ae59b5932e3a7a5bfebcba66dcf44efae457b2a9919eac6f2ce153a99dadf2"), looks := false }, kinds := [], alts := [], laidByText := true, laidKinds := [.data, .pinned], laidTests := true, laidLooks := .later }
def CookieWritesUptoCardSaid : Prop := Claim7.holds Tryd.pinned (.plain (OpenSpec.upto cookieWritesSpec)) cookieWritesUptoCard

/-- THE SECOND FORM's CARD OF 'doorsteplaw29.DomainsMaps'. -/
def domainsMapsUptoCard : Claim7 := { stood := { row := domainsMapsUptoRow, standIns := [], harness := (true, "f3ae59b5932e3a7a5bfebcba66dcf44efae457b2a9919eac6f2ce153a99dadf2"), looks := false }, kinds := [], alts := [], laidByText := true, laidKinds := [.data, .data, .data, .data, .pinned], laidTests := true, laidLooks := .later }
def DomainsMapsUptoCardSaid : Prop := Claim7.holds Tryd.pinned (.plain (OpenSpec.upto domainsMapsSpec)) domainsMapsUptoCard
end Rows
end Go.Proofs.YtpingffipghifaaDoor
