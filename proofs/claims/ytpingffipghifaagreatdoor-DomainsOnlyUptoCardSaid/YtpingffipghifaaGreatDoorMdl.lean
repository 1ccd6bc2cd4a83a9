/-
  The models of the functions: written by a program (wip/gen) off the translation. No program in sight.
-/
import Derived.Test.YtpingffipghifaaGreatDoorPrim
import Derived.Lib.ItoaNum
import Derived.Lib.SplitLaws
import Derived.Lib.SlTrimSet
import Derived.Lib.Join
set_option linter.unusedVariables false
set_option maxRecDepth 10000
namespace Go.Dm
structure api_Swap where
  From : Str
  To : Str
deriving DecidableEq
structure scan_Scanner where
  f_s : Str
  f_at : Int
deriving DecidableEq
structure api_Attr where
  Name : Str
  Value : Str
  Has : Bool
deriving DecidableEq
structure api_Cookie where
  Name : Str
  Value : Str
  Attrs : List api_Attr
deriving DecidableEq
def idxByte : Str → UInt8 → Nat → Int
  | [], _, _ => -1
  | x :: l, c, k => if x == c then (k : Int) else idxByte l c (k + 1)
def strings_IndexByte (s : Str) (c : UInt8) : Option Int := some (idxByte s c 0)
/-- Does a text begin with another one? -/
def begins : Str → Str → Bool
  | _, [] => true
  | [], _ :: _ => false
  | x :: s, y :: t => x == y && begins s t
def idxStr : Str → Str → Nat → Int
  | s, t, k => if begins s t then (k : Int) else match s with
    | [] => -1
    | _ :: s => idxStr s t (k + 1)
def strings_Index (s t : Str) : Option Int := if s.length < 4294967281 then some (idxStr s t 0) else none
def idxAny : Str → Str → Nat → Int
  | [], _, _ => -1
  | x :: l, cs, k => if cs.contains x then (k : Int) else idxAny l cs (k + 1)
/-- Where the bytes that are looked for are ASCII. -/
def strings_IndexAny (s cs : Str) : Option Int := if s.length < 4294967281 ∧ cs.length < 4294967281 ∧ cs.all (fun c => c.toNat < 128) then some (idxAny s cs 0) else none
/-- At the bytes of a separator that is not empty. -/
def strings_Split (s sep : Str) : Option (List Str) := if s.length < 4294967281 ∧ 1 ≤ sep.length then some (Go.Lib.splitK sep 0 (Go.Lib.countB ⟨s.toArray⟩ ⟨sep.toArray⟩) s) else none
/-- What of a text stands between a byte and the next one. -/
def splitOn (c : UInt8) : Str → List Str
  | [] => [[]]
  | x :: s => if x = c then [] :: splitOn c s else match splitOn c s with
    | [] => [[x]]
    | h :: t => (x :: h) :: t
def strconv_FormatInt (n b : Int) : Option Str := if inI n = true ∧ b = 10 then some (Go.Lib.itoa n) else none
def strings_Trim (s cs : Str) : Option Str := if s.length < 4294967281 ∧ cs.length < 4294967281 ∧ cs.all (fun c => c.toNat < 128) then some (Go.Lib.trimS s cs) else none
def strings_Join (l : List Str) (sep : Str) : Option Str := if l.length ≤ 140737488355328 ∧ (Go.Lib.join l sep).length ≤ 140737488355328 then some (Go.Lib.join l sep) else none
def stringslite_HasPrefix_j1 (t4 : Bool) : Option Bool :=
  some t4

def stringslite_HasPrefix (x_s : Str) (x_prefix : Str) : Option Bool :=
  if (decide ((x_prefix.length : Int) ≤ (x_s.length : Int))) then ((sTo x_s (x_prefix.length : Int)).bind fun s3 =>
  stringslite_HasPrefix_j1 (s3 == x_prefix)) else (stringslite_HasPrefix_j1 false)

def stringslite_TrimPrefix (x_s : Str) (x_prefix : Str) : Option Str :=
  (stringslite_HasPrefix x_s x_prefix).bind fun r2 =>
  if r2 then ((sFrom x_s (x_prefix.length : Int)).bind fun s5 =>
  some s5) else (some x_s)

def strings_TrimPrefix (x_s : Str) (x_prefix : Str) : Option Str :=
  (stringslite_TrimPrefix x_s x_prefix).bind fun r2 =>
  some r2

def octet_All_L2 (rec1 : Int → Option Bool) (x_is : UInt8 → Option Bool) (i3 : Int) (x7 : Str) : Nat → Int → Option Bool
  | 0, _ => none
  | n + 1, i12 =>
  if (decide (i12 < (x7.length : Int))) then ((sAt x7 i12).bind fun b17 =>
  (x_is b17).bind fun r18 =>
  if (!r18) then (some false) else ((iAdd i12 1).bind fun i23 =>
  (octet_All_L2 rec1 x_is i3 x7 n) i23)) else ((iAdd i3 1).bind fun i25 =>
  rec1 i25)

def octet_All_L1 (x_is : UInt8 → Option Bool) (x_l : List Str) : Nat → Int → Option Bool
  | 0, _ => none
  | n + 1, i3 =>
  if (decide (i3 < (x_l.length : Int))) then ((lAt x_l i3).bind fun x7 =>
  octet_All_L2 (octet_All_L1 x_is x_l n) x_is i3 x7 fuel 0) else (some true)

def octet_All (x_is : UInt8 → Option Bool) (x_l : List Str) : Option Bool :=
  octet_All_L1 x_is x_l fuel 0

def octet_IsDigit_j1 (t3 : Bool) : Option Bool :=
  some t3

def octet_IsDigit (x_b : UInt8) : Option Bool :=
  if (decide (48 ≤ x_b)) then (octet_IsDigit_j1 (decide (x_b ≤ 57))) else (octet_IsDigit_j1 false)

def octet_Lower_j1 (x_b : UInt8) (t3 : Bool) : Option UInt8 :=
  if t3 then (some (x_b + 32)) else (some x_b)

def octet_Lower (x_b : UInt8) : Option UInt8 :=
  if (decide (65 ≤ x_b)) then (octet_Lower_j1 x_b (decide (x_b ≤ 90))) else (octet_Lower_j1 x_b false)

def octet_IsHex_j1 (t7 : Bool) : Option Bool :=
  some t7

def octet_IsHex (x_b : UInt8) : Option Bool :=
  (octet_IsDigit x_b).bind fun r2 =>
  if r2 then (octet_IsHex_j1 true) else ((octet_Lower x_b).bind fun r4 =>
  if (decide (97 ≤ r4)) then ((octet_Lower x_b).bind fun r6 =>
  octet_IsHex_j1 (decide (r6 ≤ 102))) else (octet_IsHex_j1 false))

def hostport_percent_j1 (t8 : Bool) : Option Bool :=
  some t8

def hostport_percent (x_s : Str) : Option Bool :=
  if (decide (3 ≤ (x_s.length : Int))) then ((sAt x_s 0).bind fun b3 =>
  if (b3 == 37) then ((sSub x_s 1 3).bind fun s5 =>
  (octet_All octet_IsHex [s5]).bind fun r7 =>
  hostport_percent_j1 r7) else (hostport_percent_j1 false)) else (hostport_percent_j1 false)

def octet_IsAlpha_j1 (t5 : Bool) : Option Bool :=
  some t5

def octet_IsAlpha (x_b : UInt8) : Option Bool :=
  (octet_Lower x_b).bind fun r2 =>
  if (decide (97 ≤ r2)) then ((octet_Lower x_b).bind fun r4 =>
  octet_IsAlpha_j1 (decide (r4 ≤ 122))) else (octet_IsAlpha_j1 false)

def octet_one (x_b : UInt8) (x_l : Str) : Option Bool :=
  (strings_IndexByte x_l x_b).bind fun r2 =>
  some (decide (0 ≤ r2))

def octet_IsUnreserved_j1 (t7 : Bool) : Option Bool :=
  some t7

def octet_IsUnreserved (x_b : UInt8) : Option Bool :=
  (octet_IsAlpha x_b).bind fun r2 =>
  if r2 then (octet_IsUnreserved_j1 true) else ((octet_IsDigit x_b).bind fun r4 =>
  if r4 then (octet_IsUnreserved_j1 true) else ((octet_one x_b [45, 46, 95, 126]).bind fun r6 =>
  octet_IsUnreserved_j1 r6))

def octet_IsSub (x_b : UInt8) : Option Bool :=
  (octet_one x_b [33, 36, 38, 39, 40, 41, 42, 43, 44, 59, 61]).bind fun r2 =>
  some r2

def hostport_Name_j2 (rec1 : Str → Option Bool) (s6 : Str) (t19 : Bool) : Option Bool :=
  if t19 then ((sFrom s6 1).bind fun s21 =>
  rec1 s21) else (some false)

def hostport_Name_L1 : Nat → Str → Option Bool
  | 0, _ => none
  | n + 1, s6 =>
  if (!(s6 == [])) then ((hostport_percent s6).bind fun r10 =>
  if r10 then ((sFrom s6 3).bind fun s13 =>
  (hostport_Name_L1 n) s13) else ((sAt s6 0).bind fun b14 =>
  (octet_IsUnreserved b14).bind fun r15 =>
  if r15 then (hostport_Name_j2 (hostport_Name_L1 n) s6 true) else ((sAt s6 0).bind fun b17 =>
  (octet_IsSub b17).bind fun r18 =>
  hostport_Name_j2 (hostport_Name_L1 n) s6 r18))) else (some true)

def hostport_Name (x_s : Str) : Option Bool :=
  if (x_s == []) then (some false) else (hostport_Name_L1 fuel x_s)

def numeral_worth (x_b : UInt8) : Option Int :=
  (octet_IsDigit x_b).bind fun r2 =>
  if r2 then (some (((x_b - 48).toNat : Int))) else ((octet_Lower x_b).bind fun r7 =>
  (iAdd (((r7 - 97).toNat : Int)) 10).bind fun i8 =>
  some i8)

def numeral_read_j3 (rec2 : Int → Int → Option (Int × Int)) (x_base : Int) (i11 : Int) (i12 : Int) (r18 : Int) (t23 : Bool) : Option (Int × Int) :=
  if t23 then (some (0, 7)) else ((iMul i11 x_base).bind fun i27 =>
  (iAdd i27 r18).bind fun i28 =>
  (iAdd i12 1).bind fun i30 =>
  rec2 i28 i30)

def numeral_read_L2 (x_s : Str) (x_base : Int) (x_most : Int) : Nat → Int → Int → Option (Int × Int)
  | 0, _, _ => none
  | n + 1, i11, i12 =>
  if (decide (i12 < (x_s.length : Int))) then ((sAt x_s i12).bind fun b17 =>
  (numeral_worth b17).bind fun r18 =>
  if (decide (x_most < r18)) then (numeral_read_j3 (numeral_read_L2 x_s x_base x_most n) x_base i11 i12 r18 true) else ((iSub x_most r18).bind fun i21 =>
  (iDiv i21 x_base).bind fun i22 =>
  numeral_read_j3 (numeral_read_L2 x_s x_base x_most n) x_base i11 i12 r18 (decide (i22 < i11)))) else (some (i11, 0))

def numeral_read_j1 (x_s : Str) (x_base : Int) (x_most : Int) (t5 : Bool) : Option (Int × Int) :=
  if t5 then (some (0, 2)) else (numeral_read_L2 x_s x_base x_most fuel 0 0)

def numeral_read (x_s : Str) (x_base : Int) (x_most : Int) (x_is : UInt8 → Option Bool) : Option (Int × Int) :=
  if (x_s == []) then (numeral_read_j1 x_s x_base x_most true) else ((octet_All x_is [x_s]).bind fun r4 =>
  numeral_read_j1 x_s x_base x_most (!r4))

def numeral_Decimal (x_s : Str) (x_most : Int) : Option (Int × Int) :=
  (numeral_read x_s 10 x_most octet_IsDigit).bind fun r2 =>
  some (r2.1, r2.2)

def numeral_text (x_n : Int) (x_base : Int) : Option Str :=
  if (decide (x_n < 0)) then (some []) else ((strconv_FormatInt x_n x_base).bind fun r6 =>
  some r6)

def numeral_Text (x_n : Int) : Option Str :=
  (numeral_text x_n 10).bind fun r2 =>
  some r2

def hostport_small_j1 (t6 : Bool) : Option Bool :=
  some t6

def hostport_small (x_s : Str) (x_most : Int) : Option Bool :=
  (numeral_Decimal x_s x_most).bind fun r2 =>
  if (r2.2 == 0) then ((numeral_Text r2.1).bind fun r5 =>
  hostport_small_j1 (r5 == x_s)) else (hostport_small_j1 false)

def hostport_Four (s : Str) : Option Bool := if s.length < 1000000000 then ((splitOn 46 s).mapM (fun x => hostport_small x 255)).bind fun bs => some (bs.all id && decide ((bs.length : Int) = 4)) else none

def octet_Fold (s : Str) : Option Str := if s.length < 4294967281 then s.mapM octet_Lower else none

def stringslite_HasSuffix_j1 (t5 : Bool) : Option Bool :=
  some t5

def stringslite_HasSuffix (x_s : Str) (x_suffix : Str) : Option Bool :=
  if (decide ((x_suffix.length : Int) ≤ (x_s.length : Int))) then ((iSub (x_s.length : Int) (x_suffix.length : Int)).bind fun i3 =>
  (sFrom x_s i3).bind fun s4 =>
  stringslite_HasSuffix_j1 (s4 == x_suffix)) else (stringslite_HasSuffix_j1 false)

def strings_HasSuffix (x_s : Str) (x_suffix : Str) : Option Bool :=
  (stringslite_HasSuffix x_s x_suffix).bind fun r2 =>
  some r2

def hostport_Under_j2 (t19 : Bool) : Option Bool :=
  some t19

def hostport_Under_j1 (x_name : Str) (x_domain : Str) (t9 : Bool) : Option Bool :=
  if t9 then (some false) else ((octet_Fold x_name).bind fun r13 =>
  (octet_Fold x_domain).bind fun r14 =>
  if (r13 == r14) then (hostport_Under_j2 true) else ((sCat [46] r14).bind fun s17 =>
  (strings_HasSuffix r13 s17).bind fun r18 =>
  hostport_Under_j2 r18))

def hostport_Under (x_name : Str) (x_domain : Str) : Option Bool :=
  (hostport_Name x_name).bind fun r2 =>
  if (!r2) then (hostport_Under_j1 x_name x_domain true) else ((hostport_Name x_domain).bind fun r4 =>
  if (!r4) then (hostport_Under_j1 x_name x_domain true) else ((hostport_Four x_name).bind fun r6 =>
  if r6 then (hostport_Under_j1 x_name x_domain true) else ((hostport_Four x_domain).bind fun r8 =>
  hostport_Under_j1 x_name x_domain r8)))

def domains_Map_L1 (x_name : Str) (x_l : List api_Swap) (r2 : Str) : Nat → Int → Option (Str × Bool)
  | 0, _ => none
  | n + 1, i5 =>
  if (decide (i5 < (x_l.length : Int))) then ((lAt x_l i5).bind fun x9 =>
  (hostport_Under r2 x9.From).bind fun r14 =>
  if r14 then ((iSub (r2.length : Int) (x9.From.length : Int)).bind fun i17 =>
  (sTo r2 i17).bind fun s18 =>
  (sCat s18 x9.To).bind fun s19 =>
  some (s19, true)) else ((iAdd i5 1).bind fun i22 =>
  (domains_Map_L1 x_name x_l r2 n) i22)) else (some (x_name, false))

def domains_Map (x_name : Str) (x_l : List api_Swap) : Option (Str × Bool) :=
  (strings_TrimPrefix x_name [46]).bind fun r2 =>
  domains_Map_L1 x_name x_l r2 fuel 0

def domains_name_j1 (t5 : Bool) : Option Bool :=
  some t5

def domains_name (x_s : Str) : Option Bool :=
  (hostport_Name x_s).bind fun r2 =>
  if r2 then ((hostport_Four x_s).bind fun r4 =>
  domains_name_j1 (!r4)) else (domains_name_j1 false)

def strings_ContainsAny (x_s : Str) (x_chars : Str) : Option Bool :=
  (strings_IndexAny x_s x_chars).bind fun r2 =>
  some (decide (0 ≤ r2))

def domains_Check_j2 (rec1 : Int → Option Int) (i3 : Int) (t17 : Bool) : Option Int :=
  if t17 then (some 27) else ((iAdd i3 1).bind fun i21 =>
  rec1 i21)

def domains_Check_L1 (x_l : List api_Swap) : Nat → Int → Option Int
  | 0, _ => none
  | n + 1, i3 =>
  if (decide (i3 < (x_l.length : Int))) then ((lAt x_l i3).bind fun x7 =>
  (domains_name x7.From).bind fun r12 =>
  if (!r12) then (domains_Check_j2 (domains_Check_L1 x_l n) i3 true) else ((domains_name x7.To).bind fun r14 =>
  if (!r14) then (domains_Check_j2 (domains_Check_L1 x_l n) i3 true) else ((strings_ContainsAny x7.To [44, 59]).bind fun r16 =>
  domains_Check_j2 (domains_Check_L1 x_l n) i3 r16))) else (if (decide (64 < (x_l.length : Int))) then (some 3) else (some 0))

def domains_Check (x_l : List api_Swap) : Option Int :=
  domains_Check_L1 x_l fuel 0

def law29_awake_j1 (t9 : Bool) : Option Bool :=
  some t9

def law29_awake : Option Bool :=
  (domains_Map [46, 97, 46, 117, 112, 46, 101, 120, 97, 109, 112, 108, 101] ([(⟨[117, 112, 46, 101, 120, 97, 109, 112, 108, 101], [98, 46, 100, 101]⟩ : api_Swap)])).bind fun r3 =>
  if r3.2 then (if (r3.1 == [97, 46, 98, 46, 100, 101]) then ((domains_Check ([(⟨[117, 112, 46, 101, 120, 97, 109, 112, 108, 101], [98, 46, 100, 101]⟩ : api_Swap)])).bind fun r8 =>
  law29_awake_j1 (r8 == 0)) else (law29_awake_j1 false)) else (law29_awake_j1 false)

def law29_Few_j2 (rec1 : (List api_Swap) → Int → Option (List api_Swap)) (x_l : List api_Swap) (l6 : List api_Swap) (i7 : Int) (t9 : Bool) : Option (List api_Swap) :=
  if t9 then ((lAt x_l i7).bind fun x12 =>
  (lAt x_l i7).bind fun x15 =>
  (sTo x12.From (min (x15.From.length : Int) 60)).bind fun s18 =>
  (lAt x_l i7).bind fun x19 =>
  (lAt x_l i7).bind fun x22 =>
  (sTo x19.To (min (x22.To.length : Int) 60)).bind fun s25 =>
  if fitsApp l6.length 1 32 then ((iAdd i7 1).bind fun i31 =>
  rec1 (l6 ++ [(⟨s18, s25⟩ : api_Swap)]) i31) else none) else (some l6)

def law29_Few_L1 (x_l : List api_Swap) : Nat → (List api_Swap) → Int → Option (List api_Swap)
  | 0, _, _ => none
  | n + 1, l6, i7 =>
  if (decide (i7 < (x_l.length : Int))) then (law29_Few_j2 (law29_Few_L1 x_l n) x_l l6 i7 (decide (i7 < 70))) else (law29_Few_j2 (law29_Few_L1 x_l n) x_l l6 i7 false)

def law29_Few (x_l : List api_Swap) : Option (List api_Swap) :=
  law29_Few_L1 x_l fuel [] 0

def scan_New (x_s : Str) : Option scan_Scanner :=
  some (⟨x_s, 0⟩ : scan_Scanner)

def scan_Scanner_At (x_c : scan_Scanner) : Option Int :=
  some x_c.f_at

def scan_Scanner_Rest (x_c : scan_Scanner) : Option Str :=
  (sFrom x_c.f_s x_c.f_at).bind fun s4 =>
  some s4

def scan_Scanner_End (x_c : scan_Scanner) : Option Bool :=
  (scan_Scanner_Rest x_c).bind fun r2 =>
  some (r2 == [])

def scan_Scanner_Peek (x_c : scan_Scanner) : Option (UInt8 × Bool) :=
  (scan_Scanner_End x_c).bind fun r2 =>
  if r2 then (some (0, false)) else ((sAt x_c.f_s x_c.f_at).bind fun b7 =>
  some (b7, true))

def scan_Scanner_While_j3 (r2 : Int) (s14 : Str) (i15 : Int) : Option (Str × scan_Scanner) :=
  (sSub s14 r2 i15).bind fun s18 =>
  some ((s18, (⟨s14, i15⟩ : scan_Scanner)))

def scan_Scanner_While_j2 (rec1 : Str → Int → Option (Str × scan_Scanner)) (r2 : Int) (s4 : Str) (i5 : Int) (t10 : Bool) : Option (Str × scan_Scanner) :=
  if t10 then (scan_Scanner_While_j3 r2 s4 i5) else ((iAdd i5 1).bind fun i13 =>
  rec1 s4 i13)

def scan_Scanner_While_L1 (x_is : UInt8 → Option Bool) (r2 : Int) : Nat → Str → Int → Option (Str × scan_Scanner)
  | 0, _, _ => none
  | n + 1, s4, i5 =>
  (scan_Scanner_Peek (⟨s4, i5⟩ : scan_Scanner)).bind fun r6 =>
  if (!r6.2) then (scan_Scanner_While_j2 (scan_Scanner_While_L1 x_is r2 n) r2 s4 i5 true) else ((x_is r6.1).bind fun r9 =>
  scan_Scanner_While_j2 (scan_Scanner_While_L1 x_is r2 n) r2 s4 i5 (!r9))

def scan_Scanner_While (x_c : scan_Scanner) (x_is : UInt8 → Option Bool) : Option (Str × scan_Scanner) :=
  (scan_Scanner_At x_c).bind fun r2 =>
  scan_Scanner_While_L1 x_is r2 fuel x_c.f_s x_c.f_at

def octet_IsToken_j1 (t7 : Bool) : Option Bool :=
  some t7

def octet_IsToken (x_b : UInt8) : Option Bool :=
  (octet_IsAlpha x_b).bind fun r2 =>
  if r2 then (octet_IsToken_j1 true) else ((octet_IsDigit x_b).bind fun r4 =>
  if r4 then (octet_IsToken_j1 true) else ((octet_one x_b [33, 35, 36, 37, 38, 39, 42, 43, 45, 46, 94, 95, 96, 124, 126]).bind fun r6 =>
  octet_IsToken_j1 r6))

def scan_Scanner_Token (x_c : scan_Scanner) : Option (Str × Bool × scan_Scanner) :=
  (scan_Scanner_While x_c octet_IsToken).bind fun r2 =>
  some ((r2.1, !(r2.1 == []), r2.2))

def scan_Scanner_Byte_j1 (x_c : scan_Scanner) (t5 : Bool) : Option (Bool × scan_Scanner) :=
  if t5 then (some (false, x_c)) else ((iAdd x_c.f_at 1).bind fun i9 =>
  some ((true, (⟨x_c.f_s, i9⟩ : scan_Scanner))))

def scan_Scanner_Byte (x_c : scan_Scanner) (x_b : UInt8) : Option (Bool × scan_Scanner) :=
  (scan_Scanner_Peek x_c).bind fun r2 =>
  if (!r2.2) then (scan_Scanner_Byte_j1 x_c true) else (scan_Scanner_Byte_j1 x_c (!(r2.1 == x_b)))

def cookie_part_1 (x_a0 : UInt8) : Option Bool :=
  some true

def octet_IsVisible_j1 (t3 : Bool) : Option Bool :=
  some t3

def octet_IsVisible (x_b : UInt8) : Option Bool :=
  if (decide (32 < x_b)) then (octet_IsVisible_j1 (decide (x_b < 127))) else (octet_IsVisible_j1 false)

def octet_IsBlank_j1 (t3 : Bool) : Option Bool :=
  some t3

def octet_IsBlank (x_b : UInt8) : Option Bool :=
  if (x_b == 32) then (octet_IsBlank_j1 true) else (octet_IsBlank_j1 (x_b == 9))

def octet_IsValue_j1 (t6 : Bool) : Option Bool :=
  some t6

def octet_IsValue (x_b : UInt8) : Option Bool :=
  (octet_IsVisible x_b).bind fun r2 =>
  if r2 then (octet_IsValue_j1 true) else ((octet_IsBlank x_b).bind fun r4 =>
  if r4 then (octet_IsValue_j1 true) else (octet_IsValue_j1 (decide (127 < x_b))))

def cookie_part_j2 (r7 : Str × Bool × scan_Scanner) (r9 : Bool × scan_Scanner) (s17 : Str) (t25 : Bool) : Option (api_Attr × Bool) :=
  some (((⟨r7.1, s17, r9.1⟩ : api_Attr), t25))

def cookie_part_j1 (r7 : Str × Bool × scan_Scanner) (r9 : Bool × scan_Scanner) (s15 : Str) (i16 : Int) (s17 : Str) : Option (api_Attr × Bool) :=
  if r7.2.1 then ((scan_Scanner_End (⟨s15, i16⟩ : scan_Scanner)).bind fun r19 =>
  if r19 then ((octet_All octet_IsValue [s17]).bind fun r22 =>
  if r22 then ((strings_Trim s17 [32, 9]).bind fun r24 =>
  cookie_part_j2 r7 r9 s17 (r24 == s17)) else (cookie_part_j2 r7 r9 s17 false)) else (cookie_part_j2 r7 r9 s17 false)) else (cookie_part_j2 r7 r9 s17 false)

def cookie_part (x_s : Str) : Option (api_Attr × Bool) :=
  (strings_Trim x_s [32, 9]).bind fun r3 =>
  (scan_New r3).bind fun r4 =>
  (scan_Scanner_Token r4).bind fun r7 =>
  (scan_Scanner_Byte r7.2.2 61).bind fun r9 =>
  if r9.1 then ((scan_Scanner_While r9.2 cookie_part_1).bind fun r14 =>
  cookie_part_j1 r7 r9 r14.2.f_s r14.2.f_at r14.1) else (cookie_part_j1 r7 r9 r9.2.f_s r9.2.f_at [])

def stringslite_CutPrefix (x_s : Str) (x_prefix : Str) : Option (Str × Bool) :=
  (stringslite_HasPrefix x_s x_prefix).bind fun r2 =>
  if (!r2) then (some (x_s, false)) else ((sFrom x_s (x_prefix.length : Int)).bind fun s7 =>
  some (s7, true))

def strings_CutPrefix (x_s : Str) (x_prefix : Str) : Option (Str × Bool) :=
  (stringslite_CutPrefix x_s x_prefix).bind fun r2 =>
  some (r2.1, r2.2)

def stringslite_CutSuffix (x_s : Str) (x_suffix : Str) : Option (Str × Bool) :=
  (stringslite_HasSuffix x_s x_suffix).bind fun r2 =>
  if (!r2) then (some (x_s, false)) else ((iSub (x_s.length : Int) (x_suffix.length : Int)).bind fun i7 =>
  (sTo x_s i7).bind fun s8 =>
  some (s8, true))

def strings_CutSuffix (x_s : Str) (x_suffix : Str) : Option (Str × Bool) :=
  (stringslite_CutSuffix x_s x_suffix).bind fun r2 =>
  some (r2.1, r2.2)

def cookie_plain_j1 (t5 : Bool) : Option Bool :=
  some t5

def cookie_plain (x_b : UInt8) : Option Bool :=
  (octet_IsVisible x_b).bind fun r2 =>
  if r2 then ((strings_IndexByte [34, 44, 59, 92] x_b).bind fun r4 =>
  cookie_plain_j1 (decide (r4 < 0))) else (cookie_plain_j1 false)

def cookie_value_j1 (t9 : Bool) : Option Bool :=
  some t9

def cookie_value (x_s : Str) : Option Bool :=
  (strings_CutPrefix x_s [34]).bind fun r2 =>
  (strings_CutSuffix r2.1 [34]).bind fun r4 =>
  if (r2.2 == r4.2) then ((octet_All cookie_plain [r4.1]).bind fun r8 =>
  cookie_value_j1 r8) else (cookie_value_j1 false)

def cookie_Parse_j3 (l55 : List api_Attr) (s56 : Str) (s57 : Str) : Option (api_Cookie × Int) :=
  some (((⟨s56, s57, l55⟩ : api_Cookie), 0))

def cookie_Parse_L2 (l23 : List Str) : Nat → (List api_Attr) → Str → Str → Int → Option (api_Cookie × Int)
  | 0, _, _, _, _ => none
  | n + 1, l29, s30, s31, i32 =>
  if (decide (i32 < (l23.length : Int))) then ((lAt l23 i32).bind fun x36 =>
  (cookie_part x36).bind fun r40 =>
  if (!r40.2) then (some (((⟨[], [], []⟩ : api_Cookie), 2))) else (if fitsApp l29.length 1 40 then ((iAdd i32 1).bind fun i52 =>
  (cookie_Parse_L2 l23 n) (l29 ++ [r40.1]) s30 s31 i52) else none)) else (cookie_Parse_j3 l29 s30 s31)

def cookie_Parse_j1 (r3 : List Str) (r10 : api_Attr × Bool) (t16 : Bool) : Option (api_Cookie × Int) :=
  if t16 then (some (((⟨[], [], []⟩ : api_Cookie), 2))) else ((lFrom r3 1).bind fun l23 =>
  cookie_Parse_L2 l23 fuel [] r10.1.Name r10.1.Value 0)

def cookie_Parse (x_s : Str) : Option (api_Cookie × Int) :=
  (strings_Split x_s [59]).bind fun r3 =>
  (lAt r3 0).bind fun x7 =>
  (cookie_part x7).bind fun r10 =>
  if (!r10.2) then (cookie_Parse_j1 r3 r10 true) else (if (!r10.1.Has) then (cookie_Parse_j1 r3 r10 true) else ((cookie_value r10.1.Value).bind fun r15 =>
  cookie_Parse_j1 r3 r10 (!r15)))

def octet_Same (x_a : Str) (x_b : Str) : Option Bool :=
  (octet_Fold x_a).bind fun r2 =>
  (octet_Fold x_b).bind fun r3 =>
  some (r2 == r3)

def cookie_last_L1 (x_c : api_Cookie) (x_name : Str) : Nat → Int → Option Int
  | 0, _ => none
  | n + 1, i5 =>
  if (decide (0 ≤ i5)) then ((lAt x_c.Attrs i5).bind fun x9 =>
  (octet_Same x9.Name x_name).bind fun r12 =>
  if r12 then (some i5) else ((iSub i5 1).bind fun i17 =>
  (cookie_last_L1 x_c x_name n) i17)) else (some (-1))

def cookie_last (x_c : api_Cookie) (x_name : Str) : Option Int :=
  (iSub (x_c.Attrs.length : Int) 1).bind fun i3 =>
  cookie_last_L1 x_c x_name fuel i3

def cookie_Get (x_c : api_Cookie) (x_name : Str) : Option (Str × Bool) :=
  (cookie_last x_c x_name).bind fun r3 =>
  if (decide (r3 < 0)) then (some ([], false)) else ((lAt x_c.Attrs r3).bind fun x9 =>
  some (x9.Value, true))

def cookie_Set_j3 (rec1 : (List api_Attr) → Str → Str → Int → Option api_Cookie) (s12 : Str) (s13 : Str) (i14 : Int) (l36 : List api_Attr) : Option api_Cookie :=
  (iAdd i14 1).bind fun i37 =>
  rec1 l36 s12 s13 i37

def cookie_Set_j2 (rec1 : (List api_Attr) → Str → Str → Int → Option api_Cookie) (l11 : List api_Attr) (s12 : Str) (s13 : Str) (i14 : Int) (x18 : api_Attr) (s28 : Str) (t29 : Bool) : Option api_Cookie :=
  if fitsApp l11.length 1 40 then (cookie_Set_j3 rec1 s12 s13 i14 (l11 ++ [(⟨x18.Name, s28, t29⟩ : api_Attr)])) else none

def cookie_Set_j5 (s41 : Str) (s42 : Str) (l51 : List api_Attr) : Option api_Cookie :=
  some (⟨s41, s42, l51⟩ : api_Cookie)

def cookie_Set_j4 (x_name : Str) (x_value : Str) (r4 : Int) (l40 : List api_Attr) (s41 : Str) (s42 : Str) : Option api_Cookie :=
  if (decide (r4 < 0)) then (if fitsApp l40.length 1 40 then (cookie_Set_j5 s41 s42 (l40 ++ [(⟨x_name, x_value, true⟩ : api_Attr)])) else none) else (cookie_Set_j5 s41 s42 l40)

def cookie_Set_L1 (x_c : api_Cookie) (x_name : Str) (x_value : Str) (r4 : Int) : Nat → (List api_Attr) → Str → Str → Int → Option api_Cookie
  | 0, _, _, _, _ => none
  | n + 1, l11, s12, s13, i14 =>
  if (decide (i14 < (x_c.Attrs.length : Int))) then ((lAt x_c.Attrs i14).bind fun x18 =>
  if (i14 == r4) then (cookie_Set_j2 (cookie_Set_L1 x_c x_name x_value r4 n) l11 s12 s13 i14 x18 x_value true) else ((octet_Same x18.Name x_name).bind fun r25 =>
  if r25 then (cookie_Set_j3 (cookie_Set_L1 x_c x_name x_value r4 n) s12 s13 i14 l11) else (cookie_Set_j2 (cookie_Set_L1 x_c x_name x_value r4 n) l11 s12 s13 i14 x18 x18.Value x18.Has))) else (cookie_Set_j4 x_name x_value r4 l11 s12 s13)

def cookie_Set (x_c : api_Cookie) (x_name : Str) (x_value : Str) : Option api_Cookie :=
  (cookie_last x_c x_name).bind fun r4 =>
  cookie_Set_L1 x_c x_name x_value r4 fuel [] x_c.Name x_c.Value 0

def quill_Join (x_sep : Str) (x_l : List Str) : Option Str :=
  (strings_Join x_l x_sep).bind fun r2 =>
  some r2

def slices_Equal_gapi_Attr_api_Attr__L1 (x_s1 : List api_Attr) (x_s2 : List api_Attr) : Nat → Int → Option Bool
  | 0, _ => none
  | n + 1, i7 =>
  if (decide (i7 < (x_s1.length : Int))) then ((lAt x_s1 i7).bind fun x12 =>
  (lAt x_s2 i7).bind fun x15 =>
  if (!(x12 == x15)) then (some false) else ((iAdd i7 1).bind fun i22 =>
  (slices_Equal_gapi_Attr_api_Attr__L1 x_s1 x_s2 n) i22)) else (some true)

def slices_Equal_gapi_Attr_api_Attr_ (x_s1 : List api_Attr) (x_s2 : List api_Attr) : Option Bool :=
  if (!((x_s1.length : Int) == (x_s2.length : Int))) then (some false) else (slices_Equal_gapi_Attr_api_Attr__L1 x_s1 x_s2 fuel 0)

def cookie_Same_j1 (t7 : Bool) : Option Bool :=
  some t7

def cookie_Same (x_a : api_Cookie) (x_b : api_Cookie) : Option Bool :=
  if (x_a.Name == x_b.Name) then (if (x_a.Value == x_b.Value) then ((slices_Equal_gapi_Attr_api_Attr_ x_a.Attrs x_b.Attrs).bind fun r6 =>
  cookie_Same_j1 r6) else (cookie_Same_j1 false)) else (cookie_Same_j1 false)

def cookie_Text_j2 (rec1 : (List Str) → Int → Option (Str × Int)) (i11 : Int) (l34 : List Str) : Option (Str × Int) :=
  (iAdd i11 1).bind fun i35 =>
  rec1 l34 i35

def cookie_Text_j3 (r37 : Str) (t46 : Bool) : Option (Str × Int) :=
  if t46 then (some ([], 2)) else (some (r37, 0))

def cookie_Text_L1 (x_c : api_Cookie) : Nat → (List Str) → Int → Option (Str × Int)
  | 0, _, _ => none
  | n + 1, l10, i11 =>
  if (decide (i11 < (x_c.Attrs.length : Int))) then ((lAt x_c.Attrs i11).bind fun x15 =>
  if x15.Has then ((sCat x15.Name [61]).bind fun s22 =>
  (sCat s22 x15.Value).bind fun s23 =>
  if fitsApp l10.length 1 16 then (cookie_Text_j2 (cookie_Text_L1 x_c n) i11 (l10 ++ [s23])) else none) else (if fitsApp l10.length 1 16 then (cookie_Text_j2 (cookie_Text_L1 x_c n) i11 (l10 ++ [x15.Name])) else none)) else ((quill_Join [59, 32] l10).bind fun r37 =>
  (cookie_Parse r37).bind fun r39 =>
  if (!(r39.2 == 0)) then (cookie_Text_j3 r37 true) else ((cookie_Same r39.1 x_c).bind fun r45 =>
  cookie_Text_j3 r37 (!r45)))

def cookie_Text (x_c : api_Cookie) : Option (Str × Int) :=
  (sCat x_c.Name [61]).bind fun s3 =>
  (sCat s3 x_c.Value).bind fun s4 =>
  cookie_Text_L1 x_c fuel [s4] 0

def domains_Rewrite (x_s : Str) (x_l : List api_Swap) : Option Str :=
  (cookie_Parse x_s).bind fun r2 =>
  if (!(r2.2 == 0)) then (some x_s) else ((cookie_Get r2.1 [68, 111, 109, 97, 105, 110]).bind fun r11 =>
  (domains_Map r11.1 x_l).bind fun r13 =>
  if (!r13.2) then (some x_s) else ((cookie_Set r2.1 [68, 111, 109, 97, 105, 110] r13.1).bind fun r19 =>
  (cookie_Text r19).bind fun r22 =>
  if (!(r22.2 == 0)) then (some x_s) else (some r22.1)))

def ref08_Parts_j2 (rec1 : (List Str) → Int → Int → Option (List Str)) (i9 : Int) (l25 : List Str) (i26 : Int) : Option (List Str) :=
  (iAdd i9 1).bind fun i27 =>
  rec1 l25 i26 i27

def ref08_Parts_L1 (x_s : Str) (x_c : UInt8) : Nat → (List Str) → Int → Int → Option (List Str)
  | 0, _, _, _ => none
  | n + 1, l7, i8, i9 =>
  if (decide (i9 < (x_s.length : Int))) then ((sAt x_s i9).bind fun b13 =>
  if (b13 == x_c) then ((sSub x_s i8 i9).bind fun s16 =>
  if fitsApp l7.length 1 16 then ((iAdd i9 1).bind fun i22 =>
  ref08_Parts_j2 (ref08_Parts_L1 x_s x_c n) i9 (l7 ++ [s16]) i22) else none) else (ref08_Parts_j2 (ref08_Parts_L1 x_s x_c n) i9 l7 i8)) else ((sFrom x_s i8).bind fun s29 =>
  if fitsApp l7.length 1 16 then (some (l7 ++ [s29])) else none)

def ref08_Parts (x_s : Str) (x_c : UInt8) : Option (List Str) :=
  ref08_Parts_L1 x_s x_c fuel [] 0 0

def ref01_In_L1 (x_b : UInt8) (x_l : Str) : Nat → Int → Option Bool
  | 0, _ => none
  | n + 1, i3 =>
  if (decide (i3 < (x_l.length : Int))) then ((sAt x_l i3).bind fun b7 =>
  if (b7 == x_b) then (some true) else ((iAdd i3 1).bind fun i12 =>
  (ref01_In_L1 x_b x_l n) i12)) else (some false)

def ref01_In (x_b : UInt8) (x_l : Str) : Option Bool :=
  ref01_In_L1 x_b x_l fuel 0

def ref01_Fold_j3 (rec2 : Str → Int → Option Str) (i14 : Int) (s24 : Str) : Option Str :=
  (iAdd i14 1).bind fun i25 =>
  rec2 s24 i25

def ref01_Fold_L2 (rec1 : Str → Int → Option Str) (x_s : Str) (s4 : Str) (i5 : Int) : Nat → Str → Int → Option Str
  | 0, _, _ => none
  | n + 1, s13, i14 =>
  if (decide (i14 < 26)) then ((sAt [65, 66, 67, 68, 69, 70, 71, 72, 73, 74, 75, 76, 77, 78, 79, 80, 81, 82, 83, 84, 85, 86, 87, 88, 89, 90] i14).bind fun b18 =>
  (sAt x_s i5).bind fun b19 =>
  if (b18 == b19) then ((iAdd i14 1).bind fun i22 =>
  (sSub [97, 98, 99, 100, 101, 102, 103, 104, 105, 106, 107, 108, 109, 110, 111, 112, 113, 114, 115, 116, 117, 118, 119, 120, 121, 122] i14 i22).bind fun s23 =>
  ref01_Fold_j3 (ref01_Fold_L2 rec1 x_s s4 i5 n) i14 s23) else (ref01_Fold_j3 (ref01_Fold_L2 rec1 x_s s4 i5 n) i14 s13)) else ((sCat s4 s13).bind fun s27 =>
  (iAdd i5 1).bind fun i29 =>
  rec1 s27 i29)

def ref01_Fold_L1 (x_s : Str) : Nat → Str → Int → Option Str
  | 0, _, _ => none
  | n + 1, s4, i5 =>
  if (decide (i5 < (x_s.length : Int))) then ((iAdd i5 1).bind fun i9 =>
  (sSub x_s i5 i9).bind fun s10 =>
  ref01_Fold_L2 (ref01_Fold_L1 x_s n) x_s s4 i5 fuel s10 0) else (some s4)

def ref01_Fold (x_s : Str) : Option Str :=
  ref01_Fold_L1 x_s fuel [] 0

def ref28_Place_j2 (rec1 : Int → Int → Option Int) (i6 : Int) (i17 : Int) : Option Int :=
  (iAdd i6 1).bind fun i18 =>
  rec1 i17 i18

def ref28_Place_L1 (x_c : api_Cookie) (x_name : Str) : Nat → Int → Int → Option Int
  | 0, _, _ => none
  | n + 1, i5, i6 =>
  if (decide (i6 < (x_c.Attrs.length : Int))) then ((lAt x_c.Attrs i6).bind fun x10 =>
  (ref01_Fold x10.Name).bind fun r13 =>
  (ref01_Fold x_name).bind fun r14 =>
  if (r13 == r14) then (ref28_Place_j2 (ref28_Place_L1 x_c x_name n) i6 i6) else (ref28_Place_j2 (ref28_Place_L1 x_c x_name n) i6 i5)) else (some i5)

def ref28_Place (x_c : api_Cookie) (x_name : Str) : Option Int :=
  ref28_Place_L1 x_c x_name fuel (-1) 0

def ref01_Hex (x_b : UInt8) : Option Bool :=
  (ref01_In x_b [48, 49, 50, 51, 52, 53, 54, 55, 56, 57, 97, 98, 99, 100, 101, 102, 65, 66, 67, 68, 69, 70]).bind fun r2 =>
  some r2

def ref01_Unreserved (x_b : UInt8) : Option Bool :=
  (ref01_In x_b [97, 98, 99, 100, 101, 102, 103, 104, 105, 106, 107, 108, 109, 110, 111, 112, 113, 114, 115, 116, 117, 118, 119, 120, 121, 122, 65, 66, 67, 68, 69, 70, 71, 72, 73, 74, 75, 76, 77, 78, 79, 80, 81, 82, 83, 84, 85, 86, 87, 88, 89, 90, 48, 49, 50, 51, 52, 53, 54, 55, 56, 57, 45, 46, 95, 126]).bind fun r2 =>
  some r2

def ref01_Sub (x_b : UInt8) : Option Bool :=
  (ref01_In x_b [33, 36, 38, 39, 40, 41, 42, 43, 44, 59, 61]).bind fun r2 =>
  some r2

def ref08_Name_j4 (rec1 : Int → Option Bool) (i34 : Int) : Option Bool :=
  (iAdd i34 1).bind fun i35 =>
  rec1 i35

def ref08_Name_j2 (rec1 : Int → Option Bool) (i3 : Int) (t19 : Bool) : Option Bool :=
  if t19 then (some false) else ((iAdd i3 2).bind fun i23 =>
  ref08_Name_j4 rec1 i23)

def ref08_Name_j3 (rec1 : Int → Option Bool) (i3 : Int) (t31 : Bool) : Option Bool :=
  if t31 then (some false) else (ref08_Name_j4 rec1 i3)

def ref08_Name_L1 (x_s : Str) : Nat → Int → Option Bool
  | 0, _ => none
  | n + 1, i3 =>
  if (decide (i3 < (x_s.length : Int))) then ((sAt x_s i3).bind fun b7 =>
  if (b7 == 37) then ((iAdd i3 2).bind fun i10 =>
  if (decide ((x_s.length : Int) ≤ i10)) then (ref08_Name_j2 (ref08_Name_L1 x_s n) i3 true) else ((iAdd i3 1).bind fun i12 =>
  (sAt x_s i12).bind fun b13 =>
  (ref01_Hex b13).bind fun r14 =>
  if (!r14) then (ref08_Name_j2 (ref08_Name_L1 x_s n) i3 true) else ((iAdd i3 2).bind fun i16 =>
  (sAt x_s i16).bind fun b17 =>
  (ref01_Hex b17).bind fun r18 =>
  ref08_Name_j2 (ref08_Name_L1 x_s n) i3 (!r18)))) else ((sAt x_s i3).bind fun b26 =>
  (ref01_Unreserved b26).bind fun r27 =>
  if (!r27) then ((sAt x_s i3).bind fun b29 =>
  (ref01_Sub b29).bind fun r30 =>
  ref08_Name_j3 (ref08_Name_L1 x_s n) i3 (!r30)) else (ref08_Name_j3 (ref08_Name_L1 x_s n) i3 false))) else (some (decide (0 < (x_s.length : Int))))

def ref08_Name (x_s : Str) : Option Bool :=
  ref08_Name_L1 x_s fuel 0

def ref03_worth_j2 (rec1 : Int → Option Int) (i5 : Int) (t12 : Bool) : Option Int :=
  if t12 then (some i5) else ((iAdd i5 1).bind fun i16 =>
  rec1 i16)

def ref03_worth_L1 (x_b : UInt8) (x_base : Int) : Nat → Int → Option Int
  | 0, _ => none
  | n + 1, i5 =>
  if (decide (i5 < x_base)) then ((sAt [48, 49, 50, 51, 52, 53, 54, 55, 56, 57, 97, 98, 99, 100, 101, 102] i5).bind fun b9 =>
  if (b9 == x_b) then (ref03_worth_j2 (ref03_worth_L1 x_b x_base n) i5 true) else ((sAt [48, 49, 50, 51, 52, 53, 54, 55, 56, 57, 65, 66, 67, 68, 69, 70] i5).bind fun b11 =>
  ref03_worth_j2 (ref03_worth_L1 x_b x_base n) i5 (b11 == x_b))) else (some (-1))

def ref03_worth (x_b : UInt8) (x_base : Int) : Option Int :=
  ref03_worth_L1 x_b x_base fuel 0

def ref03_Digits_r : Nat → Int → Int → Option Str
  | 0, _, _ => none
  | n + 1, x_n, x_base =>
  if (decide (x_n < x_base)) then ((iAdd x_n 1).bind fun i5 =>
  (sSub [48, 49, 50, 51, 52, 53, 54, 55, 56, 57, 97, 98, 99, 100, 101, 102] x_n i5).bind fun s6 =>
  some s6) else ((iDiv x_n x_base).bind fun i9 =>
  ((ref03_Digits_r n) i9 x_base).bind fun r10 =>
  (iMod x_n x_base).bind fun i11 =>
  (iMod x_n x_base).bind fun i12 =>
  (iAdd i12 1).bind fun i13 =>
  (sSub [48, 49, 50, 51, 52, 53, 54, 55, 56, 57, 97, 98, 99, 100, 101, 102] i11 i13).bind fun s14 =>
  (sCat r10 s14).bind fun s15 =>
  some s15)

def ref03_Digits (x_n : Int) (x_base : Int) : Option Str := ref03_Digits_r fuel x_n x_base

def ref03_Plain_j3 (rec1 : Str → Int → Option (Str × Bool)) (i5 : Int) (s21 : Str) : Option (Str × Bool) :=
  (iAdd i5 1).bind fun i22 =>
  rec1 s21 i22

def ref03_Plain_j2 (rec1 : Str → Int → Option (Str × Bool)) (x_base : Int) (s4 : Str) (i5 : Int) (r10 : Int) (t17 : Bool) : Option (Str × Bool) :=
  if t17 then ((ref03_Digits r10 x_base).bind fun r19 =>
  (sCat s4 r19).bind fun s20 =>
  ref03_Plain_j3 rec1 i5 s20) else (ref03_Plain_j3 rec1 i5 s4)

def ref03_Plain_j4 (x_s : Str) (s26 : Str) : Option (Str × Bool) :=
  some ((s26, !(x_s == [])))

def ref03_Plain_L1 (x_s : Str) (x_base : Int) : Nat → Str → Int → Option (Str × Bool)
  | 0, _, _ => none
  | n + 1, s4, i5 =>
  if (decide (i5 < (x_s.length : Int))) then ((sAt x_s i5).bind fun b9 =>
  (ref03_worth b9 x_base).bind fun r10 =>
  if (decide (r10 < 0)) then (some ([], false)) else (if (!(s4 == [])) then (ref03_Plain_j2 (ref03_Plain_L1 x_s x_base n) x_base s4 i5 r10 true) else (ref03_Plain_j2 (ref03_Plain_L1 x_s x_base n) x_base s4 i5 r10 (decide (0 < r10))))) else (if (s4 == []) then (ref03_Plain_j4 x_s [48]) else (ref03_Plain_j4 x_s s4))

def ref03_Plain (x_s : Str) (x_base : Int) : Option (Str × Bool) :=
  ref03_Plain_L1 x_s x_base fuel [] 0

def ref03_Less_j1 (t4 : Bool) : Option Bool :=
  some t4

def ref03_Less (x_a : Str) (x_b : Str) : Option Bool :=
  if (decide ((x_a.length : Int) < (x_b.length : Int))) then (ref03_Less_j1 true) else (if ((x_a.length : Int) == (x_b.length : Int)) then (ref03_Less_j1 (sLess x_a x_b)) else (ref03_Less_j1 false))

def ref03_Read_L2 (x_base : Int) (r2 : Str × Bool) : Nat → Int → Int → Option (Int × Int)
  | 0, _, _ => none
  | n + 1, i17, i18 =>
  if (decide (i18 < (r2.1.length : Int))) then ((iMul i17 x_base).bind fun i22 =>
  (sAt r2.1 i18).bind fun b23 =>
  (ref03_worth b23 x_base).bind fun r24 =>
  (iAdd i22 r24).bind fun i25 =>
  (iAdd i18 1).bind fun i27 =>
  (ref03_Read_L2 x_base r2 n) i25 i27) else (some (i17, 0))

def ref03_Read_j1 (x_base : Int) (r2 : Str × Bool) (t11 : Bool) : Option (Int × Int) :=
  if t11 then (some (0, 7)) else (ref03_Read_L2 x_base r2 fuel 0 0)

def ref03_Read (x_s : Str) (x_base : Int) (x_most : Int) : Option (Int × Int) :=
  (ref03_Plain x_s x_base).bind fun r2 =>
  if (!r2.2) then (some (0, 2)) else (if (decide (x_most < 0)) then (ref03_Read_j1 x_base r2 true) else ((ref03_Digits x_most x_base).bind fun r9 =>
  (ref03_Less r9 r2.1).bind fun r10 =>
  ref03_Read_j1 x_base r2 r10))

def ref03_Text (x_n : Int) (x_base : Int) : Option Str :=
  if (decide (x_n < 0)) then (some []) else ((ref03_Digits x_n x_base).bind fun r6 =>
  some r6)

def ref08_Small_j1 (r6 : Int × Int) (t10 : Bool) : Option Int :=
  if t10 then (some (-1)) else (some r6.1)

def ref08_Small (x_s : Str) (x_most : Int) : Option Int :=
  if (decide (5 < (x_s.length : Int))) then (some (-1)) else ((ref03_Read x_s 10 x_most).bind fun r6 =>
  if (!(r6.2 == 0)) then (ref08_Small_j1 r6 true) else ((ref03_Text r6.1 10).bind fun r9 =>
  ref08_Small_j1 r6 (!(r9 == x_s))))

def ref08_Four_L1 (r2 : List Str) : Nat → Int → Option Bool
  | 0, _ => none
  | n + 1, i7 =>
  if (decide (i7 < (r2.length : Int))) then ((lAt r2 i7).bind fun x11 =>
  (ref08_Small x11 255).bind fun r14 =>
  if (decide (r14 < 0)) then (some false) else ((iAdd i7 1).bind fun i19 =>
  (ref08_Four_L1 r2 n) i19)) else (some ((r2.length : Int) == 4))

def ref08_Four (x_s : Str) : Option Bool :=
  (ref08_Parts x_s 46).bind fun r2 =>
  ref08_Four_L1 r2 fuel 0

def ref18_Same_L1 (x_a : List api_Attr) (x_b : List api_Attr) : Nat → Int → Option Bool
  | 0, _ => none
  | n + 1, i7 =>
  if (decide (i7 < (x_a.length : Int))) then ((lAt x_a i7).bind fun x11 =>
  (lAt x_b i7).bind fun x14 =>
  if (!(x11 == x14)) then (some false) else ((iAdd i7 1).bind fun i21 =>
  (ref18_Same_L1 x_a x_b n) i21)) else (some true)

def ref18_Same (x_a : List api_Attr) (x_b : List api_Attr) : Option Bool :=
  if (!((x_a.length : Int) == (x_b.length : Int))) then (some false) else (ref18_Same_L1 x_a x_b fuel 0)

def ref28_Same_j1 (t7 : Bool) : Option Bool :=
  some t7

def ref28_Same (x_a : api_Cookie) (x_b : api_Cookie) : Option Bool :=
  if (x_a.Name == x_b.Name) then (if (x_a.Value == x_b.Value) then ((ref18_Same x_a.Attrs x_b.Attrs).bind fun r6 =>
  ref28_Same_j1 r6) else (ref28_Same_j1 false)) else (ref28_Same_j1 false)

def ref29_Check_j4 (rec3 : Int → Option Int) (i26 : Int) (t33 : Bool) : Option Int :=
  if t33 then (some 27) else ((iAdd i26 1).bind fun i37 =>
  rec3 i37)

def ref29_Check_L3 (rec1 : Int → Option Int) (i3 : Int) (x10 : api_Swap) : Nat → Int → Option Int
  | 0, _ => none
  | n + 1, i26 =>
  if (decide (i26 < (x10.To.length : Int))) then ((sAt x10.To i26).bind fun b30 =>
  if (b30 == 44) then (ref29_Check_j4 (ref29_Check_L3 rec1 i3 x10 n) i26 true) else ((sAt x10.To i26).bind fun b32 =>
  ref29_Check_j4 (ref29_Check_L3 rec1 i3 x10 n) i26 (b32 == 59))) else ((iAdd i3 1).bind fun i39 =>
  rec1 i39)

def ref29_Check_j2 (rec1 : Int → Option Int) (i3 : Int) (x10 : api_Swap) (t21 : Bool) : Option Int :=
  if t21 then (some 27) else (ref29_Check_L3 rec1 i3 x10 fuel 0)

def ref29_Check_L1 (x_l : List api_Swap) : Nat → Int → Option Int
  | 0, _ => none
  | n + 1, i3 =>
  if (decide (i3 < (x_l.length : Int))) then ((lAt x_l i3).bind fun x7 =>
  (lAt x_l i3).bind fun x10 =>
  (ref08_Name x7.From).bind fun r14 =>
  if (!r14) then (ref29_Check_j2 (ref29_Check_L1 x_l n) i3 x10 true) else ((ref08_Four x7.From).bind fun r16 =>
  if r16 then (ref29_Check_j2 (ref29_Check_L1 x_l n) i3 x10 true) else ((ref08_Name x10.To).bind fun r18 =>
  if (!r18) then (ref29_Check_j2 (ref29_Check_L1 x_l n) i3 x10 true) else ((ref08_Four x10.To).bind fun r20 =>
  ref29_Check_j2 (ref29_Check_L1 x_l n) i3 x10 r20)))) else (if (decide (64 < (x_l.length : Int))) then (some 3) else (some 0))

def ref29_Check (x_l : List api_Swap) : Option Int :=
  ref29_Check_L1 x_l fuel 0

def law29_without_j2 (rec1 : (List api_Attr) → Str → Str → Int → Option api_Cookie) (s10 : Str) (s11 : Str) (i12 : Int) (l32 : List api_Attr) : Option api_Cookie :=
  (iAdd i12 1).bind fun i33 =>
  rec1 l32 s10 s11 i33

def law29_without_j3 (l36 : List api_Attr) (s37 : Str) (s38 : Str) : Option api_Cookie :=
  some (⟨s37, s38, l36⟩ : api_Cookie)

def law29_without_L1 (x_c : api_Cookie) : Nat → (List api_Attr) → Str → Str → Int → Option api_Cookie
  | 0, _, _, _, _ => none
  | n + 1, l9, s10, s11, i12 =>
  if (decide (i12 < (x_c.Attrs.length : Int))) then ((iAdd i12 1).bind fun i16 =>
  (lSub x_c.Attrs i12 i16).bind fun l17 =>
  (ref28_Place (⟨[], [], l17⟩ : api_Cookie) [100, 111, 109, 97, 105, 110]).bind fun r20 =>
  if (decide (r20 < 0)) then ((lAt x_c.Attrs i12).bind fun x23 =>
  if fitsApp l9.length 1 40 then (law29_without_j2 (law29_without_L1 x_c n) s10 s11 i12 (l9 ++ [x23])) else none) else (law29_without_j2 (law29_without_L1 x_c n) s10 s11 i12 l9)) else (law29_without_j3 l9 s10 s11)

def law29_without (x_c : api_Cookie) : Option api_Cookie :=
  law29_without_L1 x_c fuel [] x_c.Name x_c.Value 0

def law29_DomainsOnly_j2 (t55 : Bool) : Option Bool :=
  some t55

def law29_DomainsOnly_j1 (s7 : Str) (r8 : List api_Swap) (r18 : Str) (r20 : api_Cookie × Int) (t26 : Bool) : Option Bool :=
  if t26 then (some (r18 == s7)) else ((cookie_Parse r18).bind fun r30 =>
  (cookie_Get r20.1 [100, 111, 109, 97, 105, 110]).bind fun r35 =>
  (domains_Map r35.1 r8).bind fun r37 =>
  (cookie_Get r30.1 [100, 111, 109, 97, 105, 110]).bind fun r39 =>
  if (r30.2 == 0) then (if r35.2 then (if r37.2 then (if r39.2 then (if (r39.1 == r37.1) then (if (r30.1.Name == r20.1.Name) then (if (r30.1.Value == r20.1.Value) then ((law29_without r30.1).bind fun r48 =>
  (law29_without r20.1).bind fun r51 =>
  (ref28_Same r48 r51).bind fun r54 =>
  law29_DomainsOnly_j2 r54) else (law29_DomainsOnly_j2 false)) else (law29_DomainsOnly_j2 false)) else (law29_DomainsOnly_j2 false)) else (law29_DomainsOnly_j2 false)) else (law29_DomainsOnly_j2 false)) else (law29_DomainsOnly_j2 false)) else (law29_DomainsOnly_j2 false))

def law29_DomainsOnly (x_a0 : Str) (x_a1 : List api_Swap) : Option Bool :=
  (law29_awake).bind fun r2 =>
  if (!r2) then (some false) else ((sTo x_a0 (min (x_a0.length : Int) 300)).bind fun s7 =>
  (law29_Few x_a1).bind fun r8 =>
  (domains_Check r8).bind fun r12 =>
  if (!(r12 == 0)) then ((ref29_Check r8).bind fun r15 =>
  some (!(r15 == 0))) else ((domains_Rewrite s7 r8).bind fun r18 =>
  (cookie_Parse s7).bind fun r20 =>
  if (!(r20.2 == 0)) then (law29_DomainsOnly_j1 s7 r8 r18 r20 true) else (law29_DomainsOnly_j1 s7 r8 r18 r20 (r18 == s7))))

end Go.Dm
