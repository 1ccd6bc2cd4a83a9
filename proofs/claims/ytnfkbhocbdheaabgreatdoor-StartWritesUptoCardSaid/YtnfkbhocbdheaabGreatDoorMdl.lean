/-
  The models of the functions: written by a program (wip/gen) off the translation. No program in sight.
-/
import Derived.Test.YtnfkbhocbdheaabGreatDoorPrim
import Derived.Lib.ItoaNum
import Derived.Lib.SplitLaws
import Derived.Lib.SlTrimSet
import Derived.Lib.Join
import Derived.Lib.IndexMore
set_option linter.unusedVariables false
set_option maxRecDepth 10000
namespace Go.Dm
structure scan_Scanner where
  f_s : Str
  f_at : Int
deriving DecidableEq
structure startline_line where
  Scanner : scan_Scanner
deriving DecidableEq
structure api_Host where
  Kind : Int
  Name : Str
  Port : Int
deriving DecidableEq
structure api_Target where
  Kind : Int
  Scheme : Str
  Host : api_Host
  Path : Str
  Query : Str
  HasQuery : Bool
deriving DecidableEq
structure api_Field where
  Name : Str
  Value : Str
deriving DecidableEq
structure api_Head where
  Kind : Int
  Method : Str
  Target : Str
  Code : Int
  Reason : Str
  Minor : Int
  Fields : List api_Field
deriving DecidableEq
def idxByte : Str → UInt8 → Nat → Int
  | [], _, _ => -1
  | x :: l, c, k => if x == c then (k : Int) else idxByte l c (k + 1)
def strings_IndexByte (s : Str) (c : UInt8) : Option Int := some (idxByte s c 0)
/-- Does a text begin with another one? -/
def begins : Str → Str → Bool
  | _, [] => true
  | [], _ :: _ => false
  | x :: s, y :: t => x == y && begins s t
def idxStr : Str → Str → Nat → Int
  | s, t, k => if begins s t then (k : Int) else match s with
    | [] => -1
    | _ :: s => idxStr s t (k + 1)
def strings_Index (s t : Str) : Option Int := if s.length < 4294967281 then some (idxStr s t 0) else none
def strings_Cut (s t : Str) : Option (Str × Str × Bool) := if s.length < 4294967281 then some (Go.Lib.cut s t) else none
def idxAny : Str → Str → Nat → Int
  | [], _, _ => -1
  | x :: l, cs, k => if cs.contains x then (k : Int) else idxAny l cs (k + 1)
/-- Where the bytes that are looked for are ASCII. -/
def strings_IndexAny (s cs : Str) : Option Int := if s.length < 4294967281 ∧ cs.length < 4294967281 ∧ cs.all (fun c => c.toNat < 128) then some (idxAny s cs 0) else none
/-- At the bytes of a separator that is not empty. -/
def strings_Split (s sep : Str) : Option (List Str) := if s.length < 4294967281 ∧ 1 ≤ sep.length then some (Go.Lib.splitK sep 0 (Go.Lib.countB ⟨s.toArray⟩ ⟨sep.toArray⟩) s) else none
/-- What of a text stands between a byte and the next one. -/
def splitOn (c : UInt8) : Str → List Str
  | [] => [[]]
  | x :: s => if x = c then [] :: splitOn c s else match splitOn c s with
    | [] => [[x]]
    | h :: t => (x :: h) :: t
def strconv_FormatInt (n b : Int) : Option Str := if inI n = true ∧ b = 10 then some (Go.Lib.itoa n) else none
def strings_Join (l : List Str) (sep : Str) : Option Str := if l.length ≤ 140737488355328 ∧ (Go.Lib.join l sep).length ≤ 140737488355328 then some (Go.Lib.join l sep) else none
def strings_ContainsAny (x_s : Str) (x_chars : Str) : Option Bool :=
  (strings_IndexAny x_s x_chars).bind fun r2 =>
  some (decide (0 ≤ r2))

def bytealg_LastIndexByteString_L1 (x_s : Str) (x_c : UInt8) : Nat → Int → Option Int
  | 0, _ => none
  | n + 1, i4 =>
  if (decide (0 ≤ i4)) then ((sAt x_s i4).bind fun b8 =>
  if (b8 == x_c) then (some i4) else ((iSub i4 1).bind fun i13 =>
  (bytealg_LastIndexByteString_L1 x_s x_c n) i13)) else (some (-1))

def bytealg_LastIndexByteString (x_s : Str) (x_c : UInt8) : Option Int :=
  (iSub (x_s.length : Int) 1).bind fun i2 =>
  bytealg_LastIndexByteString_L1 x_s x_c fuel i2

def strings_LastIndexByte (x_s : Str) (x_c : UInt8) : Option Int :=
  (bytealg_LastIndexByteString x_s x_c).bind fun r2 =>
  some r2

def scan_New (x_s : Str) : Option scan_Scanner :=
  some (⟨x_s, 0⟩ : scan_Scanner)

def scan_Scanner_Rest (x_c : scan_Scanner) : Option Str :=
  (sFrom x_c.f_s x_c.f_at).bind fun s4 =>
  some s4

def stringslite_HasPrefix_j1 (t4 : Bool) : Option Bool :=
  some t4

def stringslite_HasPrefix (x_s : Str) (x_prefix : Str) : Option Bool :=
  if (decide ((x_prefix.length : Int) ≤ (x_s.length : Int))) then ((sTo x_s (x_prefix.length : Int)).bind fun s3 =>
  stringslite_HasPrefix_j1 (s3 == x_prefix)) else (stringslite_HasPrefix_j1 false)

def strings_HasPrefix (x_s : Str) (x_prefix : Str) : Option Bool :=
  (stringslite_HasPrefix x_s x_prefix).bind fun r2 =>
  some r2

def scan_Scanner_Text (x_c : scan_Scanner) (x_t : Str) : Option (Bool × scan_Scanner) :=
  (scan_Scanner_Rest x_c).bind fun r2 =>
  (strings_HasPrefix r2 x_t).bind fun r3 =>
  if (!r3) then (some (false, x_c)) else ((iAdd x_c.f_at (x_t.length : Int)).bind fun i9 =>
  some ((true, (⟨x_c.f_s, i9⟩ : scan_Scanner))))

def scan_Scanner_End (x_c : scan_Scanner) : Option Bool :=
  (scan_Scanner_Rest x_c).bind fun r2 =>
  some (r2 == [])

def scan_Scanner_Peek (x_c : scan_Scanner) : Option (UInt8 × Bool) :=
  (scan_Scanner_End x_c).bind fun r2 =>
  if r2 then (some (0, false)) else ((sAt x_c.f_s x_c.f_at).bind fun b7 =>
  some (b7, true))

def octet_IsDigit_j1 (t3 : Bool) : Option Bool :=
  some t3

def octet_IsDigit (x_b : UInt8) : Option Bool :=
  if (decide (48 ≤ x_b)) then (octet_IsDigit_j1 (decide (x_b ≤ 57))) else (octet_IsDigit_j1 false)

def scan_Scanner_Byte_j1 (x_c : scan_Scanner) (t5 : Bool) : Option (Bool × scan_Scanner) :=
  if t5 then (some (false, x_c)) else ((iAdd x_c.f_at 1).bind fun i9 =>
  some ((true, (⟨x_c.f_s, i9⟩ : scan_Scanner))))

def scan_Scanner_Byte (x_c : scan_Scanner) (x_b : UInt8) : Option (Bool × scan_Scanner) :=
  (scan_Scanner_Peek x_c).bind fun r2 =>
  if (!r2.2) then (scan_Scanner_Byte_j1 x_c true) else (scan_Scanner_Byte_j1 x_c (!(r2.1 == x_b)))

def startline_line_digit_j1 (x_p : startline_line) (r3 : UInt8 × Bool) (t7 : Bool) : Option (Int × Bool × scan_Scanner) :=
  if t7 then (some (0, false, x_p.Scanner)) else ((scan_Scanner_Byte x_p.Scanner r3.1).bind fun r11 =>
  some ((((r3.1 - 48).toNat : Int), true, r11.2)))

def startline_line_digit (x_p : startline_line) : Option (Int × Bool × scan_Scanner) :=
  (scan_Scanner_Peek x_p.Scanner).bind fun r3 =>
  if (!r3.2) then (startline_line_digit_j1 x_p r3 true) else ((octet_IsDigit r3.1).bind fun r6 =>
  startline_line_digit_j1 x_p r3 (!r6))

def startline_line_version_j1 (r8 : Int × Bool × scan_Scanner) (r12 : Int × Bool × scan_Scanner) (t16 : Bool) : Option (Int × Int × Bool × scan_Scanner) :=
  some (r8.1, r12.1, t16, r12.2.2)

def startline_line_version (x_p : startline_line) : Option (Int × Int × Bool × scan_Scanner) :=
  (scan_Scanner_Text x_p.Scanner [72, 84, 84, 80, 47]).bind fun r3 =>
  if (!r3.1) then (some (0, 0, false, r3.2)) else ((startline_line_digit (⟨r3.2⟩ : startline_line)).bind fun r8 =>
  (scan_Scanner_Byte r8.2.2 46).bind fun r10 =>
  (startline_line_digit (⟨r10.2⟩ : startline_line)).bind fun r12 =>
  if r8.2.1 then (if r10.1 then (startline_line_version_j1 r8 r12 r12.2.1) else (startline_line_version_j1 r8 r12 false)) else (startline_line_version_j1 r8 r12 false))

def startline_other_j1 (t12 : Bool) : Option Bool :=
  some t12

def startline_other (x_s : Str) : Option Bool :=
  (scan_New x_s).bind fun r2 =>
  (startline_line_version (⟨r2⟩ : startline_line)).bind fun r6 =>
  if r6.2.2.1 then ((scan_Scanner_End r6.2.2.2).bind fun r9 =>
  if r9 then (if (!(r6.1 == 1)) then (startline_other_j1 true) else (startline_other_j1 (decide (1 < r6.2.1)))) else (startline_other_j1 false)) else (startline_other_j1 false)

def scan_Scanner_At (x_c : scan_Scanner) : Option Int :=
  some x_c.f_at

def scan_Scanner_While_j3 (r2 : Int) (s14 : Str) (i15 : Int) : Option (Str × scan_Scanner) :=
  (sSub s14 r2 i15).bind fun s18 =>
  some ((s18, (⟨s14, i15⟩ : scan_Scanner)))

def scan_Scanner_While_j2 (rec1 : Str → Int → Option (Str × scan_Scanner)) (r2 : Int) (s4 : Str) (i5 : Int) (t10 : Bool) : Option (Str × scan_Scanner) :=
  if t10 then (scan_Scanner_While_j3 r2 s4 i5) else ((iAdd i5 1).bind fun i13 =>
  rec1 s4 i13)

def scan_Scanner_While_L1 (x_is : UInt8 → Option Bool) (r2 : Int) : Nat → Str → Int → Option (Str × scan_Scanner)
  | 0, _, _ => none
  | n + 1, s4, i5 =>
  (scan_Scanner_Peek (⟨s4, i5⟩ : scan_Scanner)).bind fun r6 =>
  if (!r6.2) then (scan_Scanner_While_j2 (scan_Scanner_While_L1 x_is r2 n) r2 s4 i5 true) else ((x_is r6.1).bind fun r9 =>
  scan_Scanner_While_j2 (scan_Scanner_While_L1 x_is r2 n) r2 s4 i5 (!r9))

def scan_Scanner_While (x_c : scan_Scanner) (x_is : UInt8 → Option Bool) : Option (Str × scan_Scanner) :=
  (scan_Scanner_At x_c).bind fun r2 =>
  scan_Scanner_While_L1 x_is r2 fuel x_c.f_s x_c.f_at

def octet_Lower_j1 (x_b : UInt8) (t3 : Bool) : Option UInt8 :=
  if t3 then (some (x_b + 32)) else (some x_b)

def octet_Lower (x_b : UInt8) : Option UInt8 :=
  if (decide (65 ≤ x_b)) then (octet_Lower_j1 x_b (decide (x_b ≤ 90))) else (octet_Lower_j1 x_b false)

def octet_IsAlpha_j1 (t5 : Bool) : Option Bool :=
  some t5

def octet_IsAlpha (x_b : UInt8) : Option Bool :=
  (octet_Lower x_b).bind fun r2 =>
  if (decide (97 ≤ r2)) then ((octet_Lower x_b).bind fun r4 =>
  octet_IsAlpha_j1 (decide (r4 ≤ 122))) else (octet_IsAlpha_j1 false)

def octet_one (x_b : UInt8) (x_l : Str) : Option Bool :=
  (strings_IndexByte x_l x_b).bind fun r2 =>
  some (decide (0 ≤ r2))

def octet_IsToken_j1 (t7 : Bool) : Option Bool :=
  some t7

def octet_IsToken (x_b : UInt8) : Option Bool :=
  (octet_IsAlpha x_b).bind fun r2 =>
  if r2 then (octet_IsToken_j1 true) else ((octet_IsDigit x_b).bind fun r4 =>
  if r4 then (octet_IsToken_j1 true) else ((octet_one x_b [33, 35, 36, 37, 38, 39, 42, 43, 45, 46, 94, 95, 96, 124, 126]).bind fun r6 =>
  octet_IsToken_j1 r6))

def scan_Scanner_Token (x_c : scan_Scanner) : Option (Str × Bool × scan_Scanner) :=
  (scan_Scanner_While x_c octet_IsToken).bind fun r2 =>
  some ((r2.1, !(r2.1 == []), r2.2))

def startline_request_1 (x_b : UInt8) : Option Bool :=
  some (!(x_b == 32))

def startline_line_minor_j1 (r3 : Int × Int × Bool × scan_Scanner) (t7 : Bool) : Option (Int × Bool × scan_Scanner) :=
  some (r3.2.1, t7, r3.2.2.2)

def startline_line_minor (x_p : startline_line) : Option (Int × Bool × scan_Scanner) :=
  (startline_line_version x_p).bind fun r3 =>
  if r3.2.2.1 then (if (r3.1 == 1) then (startline_line_minor_j1 r3 (decide (r3.2.1 ≤ 1))) else (startline_line_minor_j1 r3 false)) else (startline_line_minor_j1 r3 false)

def octet_All_L2 (rec1 : Int → Option Bool) (x_is : UInt8 → Option Bool) (i3 : Int) (x7 : Str) : Nat → Int → Option Bool
  | 0, _ => none
  | n + 1, i12 =>
  if (decide (i12 < (x7.length : Int))) then ((sAt x7 i12).bind fun b17 =>
  (x_is b17).bind fun r18 =>
  if (!r18) then (some false) else ((iAdd i12 1).bind fun i23 =>
  (octet_All_L2 rec1 x_is i3 x7 n) i23)) else ((iAdd i3 1).bind fun i25 =>
  rec1 i25)

def octet_All_L1 (x_is : UInt8 → Option Bool) (x_l : List Str) : Nat → Int → Option Bool
  | 0, _ => none
  | n + 1, i3 =>
  if (decide (i3 < (x_l.length : Int))) then ((lAt x_l i3).bind fun x7 =>
  octet_All_L2 (octet_All_L1 x_is x_l n) x_is i3 x7 fuel 0) else (some true)

def octet_All (x_is : UInt8 → Option Bool) (x_l : List Str) : Option Bool :=
  octet_All_L1 x_is x_l fuel 0

def numeral_worth (x_b : UInt8) : Option Int :=
  (octet_IsDigit x_b).bind fun r2 =>
  if r2 then (some (((x_b - 48).toNat : Int))) else ((octet_Lower x_b).bind fun r7 =>
  (iAdd (((r7 - 97).toNat : Int)) 10).bind fun i8 =>
  some i8)

def numeral_read_j3 (rec2 : Int → Int → Option (Int × Int)) (x_base : Int) (i11 : Int) (i12 : Int) (r18 : Int) (t23 : Bool) : Option (Int × Int) :=
  if t23 then (some (0, 7)) else ((iMul i11 x_base).bind fun i27 =>
  (iAdd i27 r18).bind fun i28 =>
  (iAdd i12 1).bind fun i30 =>
  rec2 i28 i30)

def numeral_read_L2 (x_s : Str) (x_base : Int) (x_most : Int) : Nat → Int → Int → Option (Int × Int)
  | 0, _, _ => none
  | n + 1, i11, i12 =>
  if (decide (i12 < (x_s.length : Int))) then ((sAt x_s i12).bind fun b17 =>
  (numeral_worth b17).bind fun r18 =>
  if (decide (x_most < r18)) then (numeral_read_j3 (numeral_read_L2 x_s x_base x_most n) x_base i11 i12 r18 true) else ((iSub x_most r18).bind fun i21 =>
  (iDiv i21 x_base).bind fun i22 =>
  numeral_read_j3 (numeral_read_L2 x_s x_base x_most n) x_base i11 i12 r18 (decide (i22 < i11)))) else (some (i11, 0))

def numeral_read_j1 (x_s : Str) (x_base : Int) (x_most : Int) (t5 : Bool) : Option (Int × Int) :=
  if t5 then (some (0, 2)) else (numeral_read_L2 x_s x_base x_most fuel 0 0)

def numeral_read (x_s : Str) (x_base : Int) (x_most : Int) (x_is : UInt8 → Option Bool) : Option (Int × Int) :=
  if (x_s == []) then (numeral_read_j1 x_s x_base x_most true) else ((octet_All x_is [x_s]).bind fun r4 =>
  numeral_read_j1 x_s x_base x_most (!r4))

def numeral_Decimal (x_s : Str) (x_most : Int) : Option (Int × Int) :=
  (numeral_read x_s 10 x_most octet_IsDigit).bind fun r2 =>
  some (r2.1, r2.2)

def numeral_text (x_n : Int) (x_base : Int) : Option Str :=
  if (decide (x_n < 0)) then (some []) else ((strconv_FormatInt x_n x_base).bind fun r6 =>
  some r6)

def numeral_Text (x_n : Int) : Option Str :=
  (numeral_text x_n 10).bind fun r2 =>
  some r2

def hostport_small_j1 (t6 : Bool) : Option Bool :=
  some t6

def hostport_small (x_s : Str) (x_most : Int) : Option Bool :=
  (numeral_Decimal x_s x_most).bind fun r2 =>
  if (r2.2 == 0) then ((numeral_Text r2.1).bind fun r5 =>
  hostport_small_j1 (r5 == x_s)) else (hostport_small_j1 false)

def hostport_Four (s : Str) : Option Bool := if s.length < 1000000000 then ((splitOn 46 s).mapM (fun x => hostport_small x 255)).bind fun bs => some (bs.all id && decide ((bs.length : Int) = 4)) else none

def octet_IsHex_j1 (t7 : Bool) : Option Bool :=
  some t7

def octet_IsHex (x_b : UInt8) : Option Bool :=
  (octet_IsDigit x_b).bind fun r2 =>
  if r2 then (octet_IsHex_j1 true) else ((octet_Lower x_b).bind fun r4 =>
  if (decide (97 ≤ r4)) then ((octet_Lower x_b).bind fun r6 =>
  octet_IsHex_j1 (decide (r6 ≤ 102))) else (octet_IsHex_j1 false))

def hostport_groups_j4 (rec1 : Int → Int → Option Int) (i13 : Int) (i36 : Int) : Option Int :=
  (iAdd i13 1).bind fun i37 =>
  rec1 i36 i37

def hostport_groups_j3 (rec1 : Int → Int → Option Int) (i12 : Int) (i13 : Int) (t32 : Bool) : Option Int :=
  if t32 then ((iAdd i12 1).bind fun i34 =>
  hostport_groups_j4 rec1 i13 i34) else (some (-1))

def hostport_groups_j2 (rec1 : Int → Int → Option Int) (i12 : Int) (i13 : Int) (x17 : Str) (t25 : Bool) : Option Int :=
  if t25 then ((iAdd i12 2).bind fun i27 =>
  hostport_groups_j4 rec1 i13 i27) else (if (decide (1 ≤ (x17.length : Int))) then (if (decide ((x17.length : Int) ≤ 4)) then ((octet_All octet_IsHex [x17]).bind fun r31 =>
  hostport_groups_j3 rec1 i12 i13 r31) else (hostport_groups_j3 rec1 i12 i13 false)) else (hostport_groups_j3 rec1 i12 i13 false))

def hostport_groups_L1 (x_last : Bool) (r6 : List Str) : Nat → Int → Int → Option Int
  | 0, _, _ => none
  | n + 1, i12, i13 =>
  if (decide (i13 < (r6.length : Int))) then ((lAt r6 i13).bind fun x17 =>
  if x_last then ((iSub (r6.length : Int) 1).bind fun i22 =>
  if (i13 == i22) then ((hostport_Four x17).bind fun r24 =>
  hostport_groups_j2 (hostport_groups_L1 x_last r6 n) i12 i13 x17 r24) else (hostport_groups_j2 (hostport_groups_L1 x_last r6 n) i12 i13 x17 false)) else (hostport_groups_j2 (hostport_groups_L1 x_last r6 n) i12 i13 x17 false)) else (some i12)

def hostport_groups (x_s : Str) (x_last : Bool) : Option Int :=
  if (x_s == []) then (some 0) else ((strings_Split x_s [58]).bind fun r6 =>
  hostport_groups_L1 x_last r6 fuel 0 0)

def hostport_Six_j1 (t15 : Bool) : Option Bool :=
  some t15

def hostport_Six (x_s : Str) : Option Bool :=
  (strings_Cut x_s [58, 58]).bind fun r2 =>
  if (!r2.2.2) then ((hostport_groups x_s true).bind fun r6 =>
  some (r6 == 8)) else ((hostport_groups r2.1 false).bind fun r9 =>
  (hostport_groups r2.2.1 true).bind fun r10 =>
  if (decide (0 ≤ r9)) then (if (decide (0 ≤ r10)) then ((iAdd r9 r10).bind fun i14 =>
  hostport_Six_j1 (decide (i14 ≤ 7))) else (hostport_Six_j1 false)) else (hostport_Six_j1 false))

def hostport_percent_j1 (t8 : Bool) : Option Bool :=
  some t8

def hostport_percent (x_s : Str) : Option Bool :=
  if (decide (3 ≤ (x_s.length : Int))) then ((sAt x_s 0).bind fun b3 =>
  if (b3 == 37) then ((sSub x_s 1 3).bind fun s5 =>
  (octet_All octet_IsHex [s5]).bind fun r7 =>
  hostport_percent_j1 r7) else (hostport_percent_j1 false)) else (hostport_percent_j1 false)

def octet_IsUnreserved_j1 (t7 : Bool) : Option Bool :=
  some t7

def octet_IsUnreserved (x_b : UInt8) : Option Bool :=
  (octet_IsAlpha x_b).bind fun r2 =>
  if r2 then (octet_IsUnreserved_j1 true) else ((octet_IsDigit x_b).bind fun r4 =>
  if r4 then (octet_IsUnreserved_j1 true) else ((octet_one x_b [45, 46, 95, 126]).bind fun r6 =>
  octet_IsUnreserved_j1 r6))

def octet_IsSub (x_b : UInt8) : Option Bool :=
  (octet_one x_b [33, 36, 38, 39, 40, 41, 42, 43, 44, 59, 61]).bind fun r2 =>
  some r2

def hostport_Name_j2 (rec1 : Str → Option Bool) (s6 : Str) (t19 : Bool) : Option Bool :=
  if t19 then ((sFrom s6 1).bind fun s21 =>
  rec1 s21) else (some false)

def hostport_Name_L1 : Nat → Str → Option Bool
  | 0, _ => none
  | n + 1, s6 =>
  if (!(s6 == [])) then ((hostport_percent s6).bind fun r10 =>
  if r10 then ((sFrom s6 3).bind fun s13 =>
  (hostport_Name_L1 n) s13) else ((sAt s6 0).bind fun b14 =>
  (octet_IsUnreserved b14).bind fun r15 =>
  if r15 then (hostport_Name_j2 (hostport_Name_L1 n) s6 true) else ((sAt s6 0).bind fun b17 =>
  (octet_IsSub b17).bind fun r18 =>
  hostport_Name_j2 (hostport_Name_L1 n) s6 r18))) else (some true)

def hostport_Name (x_s : Str) : Option Bool :=
  if (x_s == []) then (some false) else (hostport_Name_L1 fuel x_s)

def hostport_of_j2 (i24 : Int) (s25 : Str) : Option (api_Host × Bool) :=
  some (((⟨i24, s25, (-1)⟩ : api_Host), !(i24 == 0)))

def hostport_of_j1 (x_s : Str) (t14 : Bool) : Option (api_Host × Bool) :=
  if t14 then ((iSub (x_s.length : Int) 1).bind fun i16 =>
  (sSub x_s 1 i16).bind fun s17 =>
  hostport_of_j2 3 s17) else ((hostport_Four x_s).bind fun r18 =>
  if r18 then (hostport_of_j2 2 x_s) else ((hostport_Name x_s).bind fun r21 =>
  if r21 then (hostport_of_j2 1 x_s) else (hostport_of_j2 0 x_s)))

def hostport_of (x_s : Str) : Option (api_Host × Bool) :=
  if (decide (2 < (x_s.length : Int))) then ((sAt x_s 0).bind fun b6 =>
  if (b6 == 91) then ((iSub (x_s.length : Int) 1).bind fun i8 =>
  (sAt x_s i8).bind fun b9 =>
  if (b9 == 93) then ((iSub (x_s.length : Int) 1).bind fun i11 =>
  (sSub x_s 1 i11).bind fun s12 =>
  (hostport_Six s12).bind fun r13 =>
  hostport_of_j1 x_s r13) else (hostport_of_j1 x_s false)) else (hostport_of_j1 x_s false)) else (hostport_of_j1 x_s false)

def hostport_Parse_j1 (x_s : Str) (r10 : Int) (r17 : api_Host × Bool) (t24 : Bool) : Option (api_Host × Int) :=
  if t24 then (some (((⟨0, [], 0⟩ : api_Host), 27))) else ((iAdd r10 1).bind fun i28 =>
  (sFrom x_s i28).bind fun s29 =>
  (numeral_Decimal s29 65535).bind fun r30 =>
  some (((⟨r17.1.Kind, r17.1.Name, r30.1⟩ : api_Host), 0)))

def hostport_Parse (x_s : Str) : Option (api_Host × Int) :=
  (hostport_of x_s).bind fun r3 =>
  if r3.2 then (some (r3.1, 0)) else ((strings_LastIndexByte x_s 58).bind fun r10 =>
  if (decide (r10 < 0)) then (some (((⟨0, [], 0⟩ : api_Host), 27))) else ((sTo x_s r10).bind fun s16 =>
  (hostport_of s16).bind fun r17 =>
  if (!r17.2) then (hostport_Parse_j1 x_s r10 r17 true) else ((iAdd r10 1).bind fun i21 =>
  (sFrom x_s i21).bind fun s22 =>
  (hostport_small s22 65535).bind fun r23 =>
  hostport_Parse_j1 x_s r10 r17 (!r23))))

def octet_Fold (s : Str) : Option Str := if s.length < 4294967281 then s.mapM octet_Lower else none

def octet_IsPath_j1 (t7 : Bool) : Option Bool :=
  some t7

def octet_IsPath (x_b : UInt8) : Option Bool :=
  (octet_IsUnreserved x_b).bind fun r2 =>
  if r2 then (octet_IsPath_j1 true) else ((octet_IsSub x_b).bind fun r4 =>
  if r4 then (octet_IsPath_j1 true) else ((octet_one x_b [58, 64]).bind fun r6 =>
  octet_IsPath_j1 r6))

def pathq_of_j4 (rec1 : Int → Option Bool) (i27 : Int) : Option Bool :=
  (iAdd i27 1).bind fun i28 =>
  rec1 i28

def pathq_of_j3 (rec1 : Int → Option Bool) (i3 : Int) (t23 : Bool) : Option Bool :=
  if t23 then ((iAdd i3 2).bind fun i25 =>
  pathq_of_j4 rec1 i25) else (some false)

def pathq_of_j2 (rec1 : Int → Option Bool) (x_s : Str) (i3 : Int) (t12 : Bool) : Option Bool :=
  if t12 then (pathq_of_j4 rec1 i3) else ((sAt x_s i3).bind fun b14 =>
  if (b14 == 37) then ((iAdd i3 2).bind fun i16 =>
  if (decide (i16 < (x_s.length : Int))) then ((iAdd i3 1).bind fun i18 =>
  (iAdd i3 3).bind fun i19 =>
  (sSub x_s i18 i19).bind fun s20 =>
  (octet_All octet_IsHex [s20]).bind fun r22 =>
  pathq_of_j3 rec1 i3 r22) else (pathq_of_j3 rec1 i3 false)) else (pathq_of_j3 rec1 i3 false))

def pathq_of_L1 (x_s : Str) (x_more : Str) : Nat → Int → Option Bool
  | 0, _ => none
  | n + 1, i3 =>
  if (decide (i3 < (x_s.length : Int))) then ((sAt x_s i3).bind fun b7 =>
  (octet_IsPath b7).bind fun r8 =>
  if r8 then (pathq_of_j2 (pathq_of_L1 x_s x_more n) x_s i3 true) else ((sAt x_s i3).bind fun b10 =>
  (strings_IndexByte x_more b10).bind fun r11 =>
  pathq_of_j2 (pathq_of_L1 x_s x_more n) x_s i3 (decide (0 ≤ r11)))) else (some true)

def pathq_of (x_s : Str) (x_more : Str) : Option Bool :=
  pathq_of_L1 x_s x_more fuel 0

def pathq_Path_j1 (t5 : Bool) : Option Bool :=
  some t5

def pathq_Path (x_s : Str) : Option Bool :=
  (strings_HasPrefix x_s [47]).bind fun r2 =>
  if r2 then ((pathq_of x_s [47]).bind fun r4 =>
  pathq_Path_j1 r4) else (pathq_Path_j1 false)

def pathq_Query (x_s : Str) : Option Bool :=
  (pathq_of x_s [47, 63]).bind fun r2 =>
  some r2

def pathq_Cut_j1 (r2 : Str × Str × Bool) (t7 : Bool) : Option (Str × Str × Bool × Int) :=
  if t7 then (some ([], [], false, 2)) else (some (r2.1, r2.2.1, r2.2.2, 0))

def pathq_Cut (x_s : Str) : Option (Str × Str × Bool × Int) :=
  (strings_Cut x_s [63]).bind fun r2 =>
  (pathq_Path r2.1).bind fun r4 =>
  if (!r4) then (pathq_Cut_j1 r2 true) else ((pathq_Query r2.2.1).bind fun r6 =>
  pathq_Cut_j1 r2 (!r6))

def target_tail_j2 (x_t : api_Target) (r15 : Str × Str × Bool × Int) (s19 : Str) : Option (api_Target × Bool) :=
  some (((⟨x_t.Kind, x_t.Scheme, x_t.Host, s19, r15.2.1, r15.2.2.1⟩ : api_Target), r15.2.2.2 == 0))

def target_tail_j1 (x_t : api_Target) (b9 : UInt8) (s14 : Str) : Option (api_Target × Bool) :=
  (pathq_Cut s14).bind fun r15 =>
  if (b9 == 63) then (target_tail_j2 x_t r15 []) else (target_tail_j2 x_t r15 r15.1)

def target_tail (x_t : api_Target) (x_s : Str) : Option (api_Target × Bool) :=
  if (x_s == []) then (some (x_t, true)) else ((sAt x_s 0).bind fun b9 =>
  if (b9 == 63) then ((sCat [47] x_s).bind fun s13 =>
  target_tail_j1 x_t b9 s13) else (target_tail_j1 x_t b9 x_s))

def target_absolute_j2 (r3 : Str × Str × Bool) (r5 : Str) (i18 : Int) : Option (api_Target × Bool) :=
  (sTo r3.2.1 i18).bind fun s19 =>
  (hostport_Parse s19).bind fun r20 =>
  if (!(r20.2 == 0)) then (some (((⟨2, r5, (⟨0, [], 0⟩ : api_Host), [], [], false⟩ : api_Target), false))) else ((sFrom r3.2.1 i18).bind fun s28 =>
  (target_tail (⟨2, r5, r20.1, [], [], false⟩ : api_Target) s28).bind fun r29 =>
  some (r29.1, r29.2))

def target_absolute_j1 (r3 : Str × Str × Bool) (r5 : Str) (t10 : Bool) : Option (api_Target × Bool) :=
  if t10 then (some (((⟨2, r5, (⟨0, [], 0⟩ : api_Host), [], [], false⟩ : api_Target), false))) else ((strings_IndexAny r3.2.1 [47, 63]).bind fun r14 =>
  if (decide (r14 < 0)) then (target_absolute_j2 r3 r5 (r3.2.1.length : Int)) else (target_absolute_j2 r3 r5 r14))

def target_absolute (x_s : Str) : Option (api_Target × Bool) :=
  (strings_Cut x_s [58, 47, 47]).bind fun r3 =>
  (octet_Fold r3.1).bind fun r5 =>
  if (!r3.2.2) then (target_absolute_j1 r3 r5 true) else (if (!(r5 == [104, 116, 116, 112])) then (target_absolute_j1 r3 r5 (!(r5 == [104, 116, 116, 112, 115]))) else (target_absolute_j1 r3 r5 false))

def target_of (x_method : Str) (x_s : Str) : Option (api_Target × Bool) :=
  if (x_s == [42]) then (some (((⟨4, [], (⟨0, [], 0⟩ : api_Host), [], [], false⟩ : api_Target), x_method == [79, 80, 84, 73, 79, 78, 83]))) else ((strings_HasPrefix x_s [47]).bind fun r7 =>
  if (!r7) then ((target_absolute x_s).bind fun r10 =>
  some (r10.1, r10.2)) else ((target_tail ((⟨1, [], (⟨0, [], 0⟩ : api_Host), [], [], false⟩ : api_Target)) x_s).bind fun r13 =>
  some (r13.1, r13.2)))

def target_Parse_j1 (r5 : api_Host × Int) (t9 : Bool) : Option (api_Target × Int) :=
  if t9 then (some (((⟨0, [], (⟨0, [], 0⟩ : api_Host), [], [], false⟩ : api_Target), 20))) else (some (((⟨3, [], r5.1, [], [], false⟩ : api_Target), 0)))

def target_Parse (x_method : Str) (x_s : Str) : Option (api_Target × Int) :=
  if (x_method == [67, 79, 78, 78, 69, 67, 84]) then ((hostport_Parse x_s).bind fun r5 =>
  if (!(r5.2 == 0)) then (target_Parse_j1 r5 true) else (target_Parse_j1 r5 (decide (r5.1.Port < 0)))) else ((target_of x_method x_s).bind fun r15 =>
  if (!r15.2) then (some (((⟨0, [], (⟨0, [], 0⟩ : api_Host), [], [], false⟩ : api_Target), 20))) else (some (r15.1, 0)))

def startline_request_j1 (r17 : Str × Bool × scan_Scanner) (r21 : Str × scan_Scanner) (r25 : Int × Bool × scan_Scanner) (t36 : Bool) : Option (api_Head × Int) :=
  if t36 then (some (((⟨0, [], [], 0, [], 0, []⟩ : api_Head), 20))) else (some (((⟨1, r17.1, r21.1, 0, [], r25.1, []⟩ : api_Head), 0)))

def startline_request (x_a0 : Str) : Option (api_Head × Int) :=
  (strings_LastIndexByte x_a0 32).bind fun r5 =>
  (iAdd r5 1).bind fun i6 =>
  (sFrom x_a0 i6).bind fun s7 =>
  (startline_other s7).bind fun r8 =>
  if r8 then (some (((⟨0, [], [], 0, [], 0, []⟩ : api_Head), 26))) else ((scan_New x_a0).bind fun r13 =>
  (scan_Scanner_Token r13).bind fun r17 =>
  (scan_Scanner_Byte r17.2.2 32).bind fun r19 =>
  (scan_Scanner_While r19.2 startline_request_1).bind fun r21 =>
  (scan_Scanner_Byte r21.2 32).bind fun r23 =>
  (startline_line_minor (⟨r23.2⟩ : startline_line)).bind fun r25 =>
  (target_Parse r17.1 r21.1).bind fun r27 =>
  if (!r17.2.1) then (startline_request_j1 r17 r21 r25 true) else (if (!r19.1) then (startline_request_j1 r17 r21 r25 true) else (if (!r23.1) then (startline_request_j1 r17 r21 r25 true) else (if (!r25.2.1) then (startline_request_j1 r17 r21 r25 true) else ((scan_Scanner_End r25.2.2).bind fun r34 =>
  if (!r34) then (startline_request_j1 r17 r21 r25 true) else (startline_request_j1 r17 r21 r25 (!(r27.2 == 0))))))))

def octet_IsVisible_j1 (t3 : Bool) : Option Bool :=
  some t3

def octet_IsVisible (x_b : UInt8) : Option Bool :=
  if (decide (32 < x_b)) then (octet_IsVisible_j1 (decide (x_b < 127))) else (octet_IsVisible_j1 false)

def octet_IsBlank_j1 (t3 : Bool) : Option Bool :=
  some t3

def octet_IsBlank (x_b : UInt8) : Option Bool :=
  if (x_b == 32) then (octet_IsBlank_j1 true) else (octet_IsBlank_j1 (x_b == 9))

def octet_IsValue_j1 (t6 : Bool) : Option Bool :=
  some t6

def octet_IsValue (x_b : UInt8) : Option Bool :=
  (octet_IsVisible x_b).bind fun r2 =>
  if r2 then (octet_IsValue_j1 true) else ((octet_IsBlank x_b).bind fun r4 =>
  if r4 then (octet_IsValue_j1 true) else (octet_IsValue_j1 (decide (127 < x_b))))

def startline_status_j1 (r14 : Int × Bool × scan_Scanner) (r20 : Bool × scan_Scanner) (r22 : Int × Int) (t33 : Bool) : Option (api_Head × Int) :=
  if t33 then (some (((⟨0, [], [], 0, [], 0, []⟩ : api_Head), 20))) else ((scan_Scanner_Rest r20.2).bind fun r37 =>
  some (((⟨2, [], [], r22.1, r37, r14.1, []⟩ : api_Head), 0)))

def startline_status (x_a0 : Str) : Option (api_Head × Int) :=
  (strings_Cut x_a0 [32]).bind fun r3 =>
  (startline_other r3.1).bind fun r5 =>
  if r5 then (some (((⟨0, [], [], 0, [], 0, []⟩ : api_Head), 26))) else ((scan_New x_a0).bind fun r10 =>
  (startline_line_minor (⟨r10⟩ : startline_line)).bind fun r14 =>
  (scan_Scanner_Byte r14.2.2 32).bind fun r16 =>
  (scan_Scanner_While r16.2 octet_IsDigit).bind fun r18 =>
  (scan_Scanner_Byte r18.2 32).bind fun r20 =>
  (numeral_Decimal r18.1 599).bind fun r22 =>
  if (!r14.2.1) then (startline_status_j1 r14 r20 r22 true) else (if (!r16.1) then (startline_status_j1 r14 r20 r22 true) else (if (!r20.1) then (startline_status_j1 r14 r20 r22 true) else (if (!((r18.1.length : Int) == 3)) then (startline_status_j1 r14 r20 r22 true) else (if (!(r22.2 == 0)) then (startline_status_j1 r14 r20 r22 true) else (if (decide (r22.1 < 100)) then (startline_status_j1 r14 r20 r22 true) else ((scan_Scanner_Rest r20.2).bind fun r30 =>
  (octet_All octet_IsValue [r30]).bind fun r32 =>
  startline_status_j1 r14 r20 r22 (!r32))))))))

def startline_Parse_j1 (x_kind : Int) (x_s : Str) (t4 : Bool) : Option (api_Head × Int) :=
  if t4 then (some (((⟨0, [], [], 0, [], 0, []⟩ : api_Head), 1))) else ((strings_ContainsAny x_s [13, 10]).bind fun r7 =>
  if r7 then (some (((⟨0, [], [], 0, [], 0, []⟩ : api_Head), 24))) else (if (x_kind == 1) then ((startline_request x_s).bind fun r13 =>
  some (r13.1, r13.2)) else ((startline_status x_s).bind fun r18 =>
  some (r18.1, r18.2))))

def startline_Parse (x_kind : Int) (x_s : Str) : Option (api_Head × Int) :=
  if (!(x_kind == 1)) then (startline_Parse_j1 x_kind x_s (!(x_kind == 2))) else (startline_Parse_j1 x_kind x_s false)

def law14_awake_j1 (t24 : Bool) : Option Bool :=
  some t24

def law14_awake : Option Bool :=
  (startline_Parse 1 [71, 69, 84, 32, 47, 32, 72, 84, 84, 80, 47, 49, 46, 49]).bind fun r2 =>
  (startline_Parse 2 [72, 84, 84, 80, 47, 50, 46, 48, 32, 50, 48, 48, 32, 79, 75]).bind fun r7 =>
  (startline_Parse 2 [72, 84, 84, 80, 47, 49, 46, 49, 32, 50, 48, 52, 32]).bind fun r12 =>
  if (r2.2 == 0) then (if (r2.1.Method == [71, 69, 84]) then (if (r2.1.Target == [47]) then (if (r2.1.Minor == 1) then (if (r7.2 == 26) then (if (r12.2 == 0) then (if (r12.1.Code == 204) then (law14_awake_j1 (r12.1.Reason == [])) else (law14_awake_j1 false)) else (law14_awake_j1 false)) else (law14_awake_j1 false)) else (law14_awake_j1 false)) else (law14_awake_j1 false)) else (law14_awake_j1 false)) else (law14_awake_j1 false)

def law14_few (x_s : Str) : Option Str :=
  (sTo x_s (min (x_s.length : Int) 200)).bind fun s2 =>
  some s2

def ref08_Parts_j2 (rec1 : (List Str) → Int → Int → Option (List Str)) (i9 : Int) (l25 : List Str) (i26 : Int) : Option (List Str) :=
  (iAdd i9 1).bind fun i27 =>
  rec1 l25 i26 i27

def ref08_Parts_L1 (x_s : Str) (x_c : UInt8) : Nat → (List Str) → Int → Int → Option (List Str)
  | 0, _, _, _ => none
  | n + 1, l7, i8, i9 =>
  if (decide (i9 < (x_s.length : Int))) then ((sAt x_s i9).bind fun b13 =>
  if (b13 == x_c) then ((sSub x_s i8 i9).bind fun s16 =>
  if fitsApp l7.length 1 16 then ((iAdd i9 1).bind fun i22 =>
  ref08_Parts_j2 (ref08_Parts_L1 x_s x_c n) i9 (l7 ++ [s16]) i22) else none) else (ref08_Parts_j2 (ref08_Parts_L1 x_s x_c n) i9 l7 i8)) else ((sFrom x_s i8).bind fun s29 =>
  if fitsApp l7.length 1 16 then (some (l7 ++ [s29])) else none)

def ref08_Parts (x_s : Str) (x_c : UInt8) : Option (List Str) :=
  ref08_Parts_L1 x_s x_c fuel [] 0 0

def ref01_In_L1 (x_b : UInt8) (x_l : Str) : Nat → Int → Option Bool
  | 0, _ => none
  | n + 1, i3 =>
  if (decide (i3 < (x_l.length : Int))) then ((sAt x_l i3).bind fun b7 =>
  if (b7 == x_b) then (some true) else ((iAdd i3 1).bind fun i12 =>
  (ref01_In_L1 x_b x_l n) i12)) else (some false)

def ref01_In (x_b : UInt8) (x_l : Str) : Option Bool :=
  ref01_In_L1 x_b x_l fuel 0

def ref01_Digit (x_b : UInt8) : Option Bool :=
  (ref01_In x_b [48, 49, 50, 51, 52, 53, 54, 55, 56, 57]).bind fun r2 =>
  some r2

def ref14_Version_j1 (x_s : Str) (t12 : Bool) : Option Int :=
  if t12 then (some (-1)) else ((sFrom x_s 5).bind fun s16 =>
  if (s16 == [49, 46, 48]) then (some 0) else ((sFrom x_s 5).bind fun s21 =>
  if (s21 == [49, 46, 49]) then (some 1) else (some 2)))

def ref14_Version (x_s : Str) : Option Int :=
  if (!((x_s.length : Int) == 8)) then (ref14_Version_j1 x_s true) else ((sTo x_s 5).bind fun s3 =>
  if (!(s3 == [72, 84, 84, 80, 47])) then (ref14_Version_j1 x_s true) else ((sAt x_s 5).bind fun b5 =>
  (ref01_Digit b5).bind fun r6 =>
  if (!r6) then (ref14_Version_j1 x_s true) else ((sAt x_s 6).bind fun b8 =>
  if (!(b8 == 46)) then (ref14_Version_j1 x_s true) else ((sAt x_s 7).bind fun b10 =>
  (ref01_Digit b10).bind fun r11 =>
  ref14_Version_j1 x_s (!r11)))))

def ref01_Tok (x_b : UInt8) : Option Bool :=
  (ref01_In x_b [97, 98, 99, 100, 101, 102, 103, 104, 105, 106, 107, 108, 109, 110, 111, 112, 113, 114, 115, 116, 117, 118, 119, 120, 121, 122, 65, 66, 67, 68, 69, 70, 71, 72, 73, 74, 75, 76, 77, 78, 79, 80, 81, 82, 83, 84, 85, 86, 87, 88, 89, 90, 48, 49, 50, 51, 52, 53, 54, 55, 56, 57, 33, 35, 36, 37, 38, 39, 42, 43, 45, 46, 94, 95, 96, 124, 126]).bind fun r2 =>
  some r2

def ref01_Token_L1 (x_s : Str) : Nat → Int → Option Bool
  | 0, _ => none
  | n + 1, i3 =>
  if (decide (i3 < (x_s.length : Int))) then ((sAt x_s i3).bind fun b7 =>
  (ref01_Tok b7).bind fun r8 =>
  if (!r8) then (some false) else ((iAdd i3 1).bind fun i13 =>
  (ref01_Token_L1 x_s n) i13)) else (some (decide (0 < (x_s.length : Int))))

def ref01_Token (x_s : Str) : Option Bool :=
  ref01_Token_L1 x_s fuel 0

def ref03_worth_j2 (rec1 : Int → Option Int) (i5 : Int) (t12 : Bool) : Option Int :=
  if t12 then (some i5) else ((iAdd i5 1).bind fun i16 =>
  rec1 i16)

def ref03_worth_L1 (x_b : UInt8) (x_base : Int) : Nat → Int → Option Int
  | 0, _ => none
  | n + 1, i5 =>
  if (decide (i5 < x_base)) then ((sAt [48, 49, 50, 51, 52, 53, 54, 55, 56, 57, 97, 98, 99, 100, 101, 102] i5).bind fun b9 =>
  if (b9 == x_b) then (ref03_worth_j2 (ref03_worth_L1 x_b x_base n) i5 true) else ((sAt [48, 49, 50, 51, 52, 53, 54, 55, 56, 57, 65, 66, 67, 68, 69, 70] i5).bind fun b11 =>
  ref03_worth_j2 (ref03_worth_L1 x_b x_base n) i5 (b11 == x_b))) else (some (-1))

def ref03_worth (x_b : UInt8) (x_base : Int) : Option Int :=
  ref03_worth_L1 x_b x_base fuel 0

def ref03_Digits_r : Nat → Int → Int → Option Str
  | 0, _, _ => none
  | n + 1, x_n, x_base =>
  if (decide (x_n < x_base)) then ((iAdd x_n 1).bind fun i5 =>
  (sSub [48, 49, 50, 51, 52, 53, 54, 55, 56, 57, 97, 98, 99, 100, 101, 102] x_n i5).bind fun s6 =>
  some s6) else ((iDiv x_n x_base).bind fun i9 =>
  ((ref03_Digits_r n) i9 x_base).bind fun r10 =>
  (iMod x_n x_base).bind fun i11 =>
  (iMod x_n x_base).bind fun i12 =>
  (iAdd i12 1).bind fun i13 =>
  (sSub [48, 49, 50, 51, 52, 53, 54, 55, 56, 57, 97, 98, 99, 100, 101, 102] i11 i13).bind fun s14 =>
  (sCat r10 s14).bind fun s15 =>
  some s15)

def ref03_Digits (x_n : Int) (x_base : Int) : Option Str := ref03_Digits_r fuel x_n x_base

def ref03_Plain_j3 (rec1 : Str → Int → Option (Str × Bool)) (i5 : Int) (s21 : Str) : Option (Str × Bool) :=
  (iAdd i5 1).bind fun i22 =>
  rec1 s21 i22

def ref03_Plain_j2 (rec1 : Str → Int → Option (Str × Bool)) (x_base : Int) (s4 : Str) (i5 : Int) (r10 : Int) (t17 : Bool) : Option (Str × Bool) :=
  if t17 then ((ref03_Digits r10 x_base).bind fun r19 =>
  (sCat s4 r19).bind fun s20 =>
  ref03_Plain_j3 rec1 i5 s20) else (ref03_Plain_j3 rec1 i5 s4)

def ref03_Plain_j4 (x_s : Str) (s26 : Str) : Option (Str × Bool) :=
  some ((s26, !(x_s == [])))

def ref03_Plain_L1 (x_s : Str) (x_base : Int) : Nat → Str → Int → Option (Str × Bool)
  | 0, _, _ => none
  | n + 1, s4, i5 =>
  if (decide (i5 < (x_s.length : Int))) then ((sAt x_s i5).bind fun b9 =>
  (ref03_worth b9 x_base).bind fun r10 =>
  if (decide (r10 < 0)) then (some ([], false)) else (if (!(s4 == [])) then (ref03_Plain_j2 (ref03_Plain_L1 x_s x_base n) x_base s4 i5 r10 true) else (ref03_Plain_j2 (ref03_Plain_L1 x_s x_base n) x_base s4 i5 r10 (decide (0 < r10))))) else (if (s4 == []) then (ref03_Plain_j4 x_s [48]) else (ref03_Plain_j4 x_s s4))

def ref03_Plain (x_s : Str) (x_base : Int) : Option (Str × Bool) :=
  ref03_Plain_L1 x_s x_base fuel [] 0

def ref03_Less_j1 (t4 : Bool) : Option Bool :=
  some t4

def ref03_Less (x_a : Str) (x_b : Str) : Option Bool :=
  if (decide ((x_a.length : Int) < (x_b.length : Int))) then (ref03_Less_j1 true) else (if ((x_a.length : Int) == (x_b.length : Int)) then (ref03_Less_j1 (sLess x_a x_b)) else (ref03_Less_j1 false))

def ref03_Read_L2 (x_base : Int) (r2 : Str × Bool) : Nat → Int → Int → Option (Int × Int)
  | 0, _, _ => none
  | n + 1, i17, i18 =>
  if (decide (i18 < (r2.1.length : Int))) then ((iMul i17 x_base).bind fun i22 =>
  (sAt r2.1 i18).bind fun b23 =>
  (ref03_worth b23 x_base).bind fun r24 =>
  (iAdd i22 r24).bind fun i25 =>
  (iAdd i18 1).bind fun i27 =>
  (ref03_Read_L2 x_base r2 n) i25 i27) else (some (i17, 0))

def ref03_Read_j1 (x_base : Int) (r2 : Str × Bool) (t11 : Bool) : Option (Int × Int) :=
  if t11 then (some (0, 7)) else (ref03_Read_L2 x_base r2 fuel 0 0)

def ref03_Read (x_s : Str) (x_base : Int) (x_most : Int) : Option (Int × Int) :=
  (ref03_Plain x_s x_base).bind fun r2 =>
  if (!r2.2) then (some (0, 2)) else (if (decide (x_most < 0)) then (ref03_Read_j1 x_base r2 true) else ((ref03_Digits x_most x_base).bind fun r9 =>
  (ref03_Less r9 r2.1).bind fun r10 =>
  ref03_Read_j1 x_base r2 r10))

def ref03_Text (x_n : Int) (x_base : Int) : Option Str :=
  if (decide (x_n < 0)) then (some []) else ((ref03_Digits x_n x_base).bind fun r6 =>
  some r6)

def ref08_Small_j1 (r6 : Int × Int) (t10 : Bool) : Option Int :=
  if t10 then (some (-1)) else (some r6.1)

def ref08_Small (x_s : Str) (x_most : Int) : Option Int :=
  if (decide (5 < (x_s.length : Int))) then (some (-1)) else ((ref03_Read x_s 10 x_most).bind fun r6 =>
  if (!(r6.2 == 0)) then (ref08_Small_j1 r6 true) else ((ref03_Text r6.1 10).bind fun r9 =>
  ref08_Small_j1 r6 (!(r9 == x_s))))

def ref08_Four_L1 (r2 : List Str) : Nat → Int → Option Bool
  | 0, _ => none
  | n + 1, i7 =>
  if (decide (i7 < (r2.length : Int))) then ((lAt r2 i7).bind fun x11 =>
  (ref08_Small x11 255).bind fun r14 =>
  if (decide (r14 < 0)) then (some false) else ((iAdd i7 1).bind fun i19 =>
  (ref08_Four_L1 r2 n) i19)) else (some ((r2.length : Int) == 4))

def ref08_Four (x_s : Str) : Option Bool :=
  (ref08_Parts x_s 46).bind fun r2 =>
  ref08_Four_L1 r2 fuel 0

def ref01_Hex (x_b : UInt8) : Option Bool :=
  (ref01_In x_b [48, 49, 50, 51, 52, 53, 54, 55, 56, 57, 97, 98, 99, 100, 101, 102, 65, 66, 67, 68, 69, 70]).bind fun r2 =>
  some r2

def ref08_whole_j5 (rec1 : Int → Int → Option Bool) (i9 : Int) (i55 : Int) : Option Bool :=
  (iAdd i9 1).bind fun i56 =>
  rec1 i55 i56

def ref08_whole_j4 (rec1 : Int → Int → Option Bool) (i8 : Int) (i9 : Int) (t50 : Bool) : Option Bool :=
  if t50 then (some false) else ((iAdd i8 1).bind fun i54 =>
  ref08_whole_j5 rec1 i9 i54)

def ref08_whole_L3 (rec1 : Int → Int → Option Bool) (r2 : List Str) (i8 : Int) (i9 : Int) : Nat → Int → Option Bool
  | 0, _ => none
  | n + 1, i25 =>
  (lAt r2 i9).bind fun x26 =>
  if (decide (i25 < (x26.length : Int))) then ((lAt r2 i9).bind fun x32 =>
  (sAt x32 i25).bind fun b35 =>
  (ref01_Hex b35).bind fun r36 =>
  if (!r36) then (some false) else ((iAdd i25 1).bind fun i41 =>
  (ref08_whole_L3 rec1 r2 i8 i9 n) i41)) else ((lAt r2 i9).bind fun x43 =>
  if (decide ((x43.length : Int) < 1)) then (ref08_whole_j4 rec1 i8 i9 true) else ((lAt r2 i9).bind fun x47 =>
  ref08_whole_j4 rec1 i8 i9 (decide (4 < (x47.length : Int)))))

def ref08_whole_j2 (rec1 : Int → Int → Option Bool) (r2 : List Str) (i8 : Int) (i9 : Int) (t19 : Bool) : Option Bool :=
  if t19 then ((iAdd i8 2).bind fun i21 =>
  ref08_whole_j5 rec1 i9 i21) else (ref08_whole_L3 rec1 r2 i8 i9 fuel 0)

def ref08_whole_L1 (r2 : List Str) : Nat → Int → Int → Option Bool
  | 0, _, _ => none
  | n + 1, i8, i9 =>
  if (decide (i9 < (r2.length : Int))) then ((iSub (r2.length : Int) 1).bind fun i13 =>
  if (i9 == i13) then ((lAt r2 i9).bind fun x15 =>
  (ref08_Four x15).bind fun r18 =>
  ref08_whole_j2 (ref08_whole_L1 r2 n) r2 i8 i9 r18) else (ref08_whole_j2 (ref08_whole_L1 r2 n) r2 i8 i9 false)) else (some (i8 == 8))

def ref08_whole (x_s : Str) : Option Bool :=
  (ref08_Parts x_s 58).bind fun r2 =>
  ref08_whole_L1 r2 fuel 0 0

def ref08_Six_j5 (rec4 : Str → Int → Option Bool) (i24 : Int) (s31 : Str) : Option Bool :=
  (sCat s31 [48]).bind fun s32 =>
  (iAdd i24 1).bind fun i34 =>
  rec4 s32 i34

def ref08_Six_j6 (rec3 : Int → Option Bool) (i16 : Int) (s44 : Str) : Option Bool :=
  (ref08_whole s44).bind fun r45 =>
  if r45 then (some true) else ((iAdd i16 1).bind fun i50 =>
  rec3 i50)

def ref08_Six_L4 (rec3 : Int → Option Bool) (x_s : Str) (i3 : Int) (i16 : Int) : Nat → Str → Int → Option Bool
  | 0, _, _ => none
  | n + 1, s23, i24 =>
  if (decide (i24 < i16)) then (if (!(s23 == [])) then ((sCat s23 [58]).bind fun s30 =>
  ref08_Six_j5 (ref08_Six_L4 rec3 x_s i3 i16 n) i24 s30) else (ref08_Six_j5 (ref08_Six_L4 rec3 x_s i3 i16 n) i24 s23)) else ((iAdd i3 2).bind fun i36 =>
  (sFrom x_s i36).bind fun s37 =>
  if (!(s37 == [])) then ((sCat s23 [58]).bind fun s40 =>
  (iAdd i3 2).bind fun i41 =>
  (sFrom x_s i41).bind fun s42 =>
  (sCat s40 s42).bind fun s43 =>
  ref08_Six_j6 rec3 i16 s43) else (ref08_Six_j6 rec3 i16 s23))

def ref08_Six_L3 (x_s : Str) (i3 : Int) : Nat → Int → Option Bool
  | 0, _ => none
  | n + 1, i16 =>
  if (decide (i16 ≤ 8)) then ((sTo x_s i3).bind fun s20 =>
  ref08_Six_L4 (ref08_Six_L3 x_s i3 n) x_s i3 i16 fuel s20 0) else (some false)

def ref08_Six_j2 (rec1 : Int → Option Bool) (x_s : Str) (i3 : Int) (t12 : Bool) : Option Bool :=
  if t12 then ((iAdd i3 1).bind fun i54 =>
  rec1 i54) else (ref08_Six_L3 x_s i3 fuel 1)

def ref08_Six_L1 (x_s : Str) : Nat → Int → Option Bool
  | 0, _ => none
  | n + 1, i3 =>
  (iAdd i3 1).bind fun i4 =>
  if (decide (i4 < (x_s.length : Int))) then ((sAt x_s i3).bind fun b8 =>
  if (!(b8 == 58)) then (ref08_Six_j2 (ref08_Six_L1 x_s n) x_s i3 true) else ((iAdd i3 1).bind fun i10 =>
  (sAt x_s i10).bind fun b11 =>
  ref08_Six_j2 (ref08_Six_L1 x_s n) x_s i3 (!(b11 == 58)))) else ((ref08_whole x_s).bind fun r56 =>
  some r56)

def ref08_Six (x_s : Str) : Option Bool :=
  ref08_Six_L1 x_s fuel 0

def ref01_Unreserved (x_b : UInt8) : Option Bool :=
  (ref01_In x_b [97, 98, 99, 100, 101, 102, 103, 104, 105, 106, 107, 108, 109, 110, 111, 112, 113, 114, 115, 116, 117, 118, 119, 120, 121, 122, 65, 66, 67, 68, 69, 70, 71, 72, 73, 74, 75, 76, 77, 78, 79, 80, 81, 82, 83, 84, 85, 86, 87, 88, 89, 90, 48, 49, 50, 51, 52, 53, 54, 55, 56, 57, 45, 46, 95, 126]).bind fun r2 =>
  some r2

def ref01_Sub (x_b : UInt8) : Option Bool :=
  (ref01_In x_b [33, 36, 38, 39, 40, 41, 42, 43, 44, 59, 61]).bind fun r2 =>
  some r2

def ref08_Name_j4 (rec1 : Int → Option Bool) (i34 : Int) : Option Bool :=
  (iAdd i34 1).bind fun i35 =>
  rec1 i35

def ref08_Name_j2 (rec1 : Int → Option Bool) (i3 : Int) (t19 : Bool) : Option Bool :=
  if t19 then (some false) else ((iAdd i3 2).bind fun i23 =>
  ref08_Name_j4 rec1 i23)

def ref08_Name_j3 (rec1 : Int → Option Bool) (i3 : Int) (t31 : Bool) : Option Bool :=
  if t31 then (some false) else (ref08_Name_j4 rec1 i3)

def ref08_Name_L1 (x_s : Str) : Nat → Int → Option Bool
  | 0, _ => none
  | n + 1, i3 =>
  if (decide (i3 < (x_s.length : Int))) then ((sAt x_s i3).bind fun b7 =>
  if (b7 == 37) then ((iAdd i3 2).bind fun i10 =>
  if (decide ((x_s.length : Int) ≤ i10)) then (ref08_Name_j2 (ref08_Name_L1 x_s n) i3 true) else ((iAdd i3 1).bind fun i12 =>
  (sAt x_s i12).bind fun b13 =>
  (ref01_Hex b13).bind fun r14 =>
  if (!r14) then (ref08_Name_j2 (ref08_Name_L1 x_s n) i3 true) else ((iAdd i3 2).bind fun i16 =>
  (sAt x_s i16).bind fun b17 =>
  (ref01_Hex b17).bind fun r18 =>
  ref08_Name_j2 (ref08_Name_L1 x_s n) i3 (!r18)))) else ((sAt x_s i3).bind fun b26 =>
  (ref01_Unreserved b26).bind fun r27 =>
  if (!r27) then ((sAt x_s i3).bind fun b29 =>
  (ref01_Sub b29).bind fun r30 =>
  ref08_Name_j3 (ref08_Name_L1 x_s n) i3 (!r30)) else (ref08_Name_j3 (ref08_Name_L1 x_s n) i3 false))) else (some (decide (0 < (x_s.length : Int))))

def ref08_Name (x_s : Str) : Option Bool :=
  ref08_Name_L1 x_s fuel 0

def ref08_of_j1 (x_s : Str) (t12 : Bool) : Option api_Host :=
  if t12 then ((iSub (x_s.length : Int) 1).bind fun i14 =>
  (sSub x_s 1 i14).bind fun s15 =>
  some ((⟨3, s15, (-1)⟩ : api_Host))) else ((ref08_Four x_s).bind fun r18 =>
  if r18 then (some ((⟨2, x_s, (-1)⟩ : api_Host))) else ((ref08_Name x_s).bind fun r23 =>
  if r23 then (some ((⟨1, x_s, (-1)⟩ : api_Host))) else (some (⟨0, [], 0⟩ : api_Host))))

def ref08_of (x_s : Str) : Option api_Host :=
  if (decide (2 < (x_s.length : Int))) then ((sAt x_s 0).bind fun b4 =>
  if (b4 == 91) then ((iSub (x_s.length : Int) 1).bind fun i6 =>
  (sAt x_s i6).bind fun b7 =>
  if (b7 == 93) then ((iSub (x_s.length : Int) 1).bind fun i9 =>
  (sSub x_s 1 i9).bind fun s10 =>
  (ref08_Six s10).bind fun r11 =>
  ref08_of_j1 x_s r11) else (ref08_of_j1 x_s false)) else (ref08_of_j1 x_s false)) else (ref08_of_j1 x_s false)

def ref08_Parse_j2 (r21 : api_Host) (r25 : Int) (t28 : Bool) : Option (api_Host × Int) :=
  if t28 then (some (((⟨0, [], 0⟩ : api_Host), 27))) else (some (((⟨r21.Kind, r21.Name, r25⟩ : api_Host), 0)))

def ref08_Parse_L1 (x_s : Str) : Nat → Int → Option (api_Host × Int)
  | 0, _ => none
  | n + 1, i12 =>
  if (decide (0 ≤ i12)) then ((sAt x_s i12).bind fun b16 =>
  if (!(b16 == 58)) then ((iSub i12 1).bind fun i35 =>
  (ref08_Parse_L1 x_s n) i35) else ((sTo x_s i12).bind fun s20 =>
  (ref08_of s20).bind fun r21 =>
  (iAdd i12 1).bind fun i23 =>
  (sFrom x_s i23).bind fun s24 =>
  (ref08_Small s24 65535).bind fun r25 =>
  if (r21.Kind == 0) then (ref08_Parse_j2 r21 r25 true) else (ref08_Parse_j2 r21 r25 (decide (r25 < 0))))) else (some (((⟨0, [], 0⟩ : api_Host), 27)))

def ref08_Parse (x_s : Str) : Option (api_Host × Int) :=
  (ref08_of x_s).bind fun r3 =>
  if (!(r3.Kind == 0)) then (some (r3, 0)) else ((iSub (x_s.length : Int) 1).bind fun i10 =>
  ref08_Parse_L1 x_s fuel i10)

def ref09_Mark_j2 (rec1 : Int → Option Int) (i3 : Int) (t6 : Bool) : Option Int :=
  if t6 then ((iAdd i3 1).bind fun i9 =>
  rec1 i9) else (some i3)

def ref09_Mark_L1 (x_s : Str) : Nat → Int → Option Int
  | 0, _ => none
  | n + 1, i3 =>
  if (decide (i3 < (x_s.length : Int))) then ((sAt x_s i3).bind fun b5 =>
  ref09_Mark_j2 (ref09_Mark_L1 x_s n) i3 (!(b5 == 63))) else (ref09_Mark_j2 (ref09_Mark_L1 x_s n) i3 false)

def ref09_Mark (x_s : Str) : Option Int :=
  ref09_Mark_L1 x_s fuel 0

def ref01_Path_j1 (t7 : Bool) : Option Bool :=
  some t7

def ref01_Path (x_b : UInt8) : Option Bool :=
  (ref01_Unreserved x_b).bind fun r2 =>
  if r2 then (ref01_Path_j1 true) else ((ref01_Sub x_b).bind fun r4 =>
  if r4 then (ref01_Path_j1 true) else (if (x_b == 58) then (ref01_Path_j1 true) else (ref01_Path_j1 (x_b == 64))))

def ref09_Of_j1 (t18 : Bool) : Option Bool :=
  some t18

def ref09_Of_j2 (t30 : Bool) : Option Bool :=
  some t30

def ref09_Of_r : Nat → Str → Str → Option Bool
  | 0, _, _ => none
  | n + 1, x_s, x_more =>
  if (x_s == []) then (some true) else ((sAt x_s 0).bind fun b6 =>
  if (b6 == 37) then (if (decide (2 < (x_s.length : Int))) then ((sAt x_s 1).bind fun b10 =>
  (ref01_Hex b10).bind fun r11 =>
  if r11 then ((sAt x_s 2).bind fun b13 =>
  (ref01_Hex b13).bind fun r14 =>
  if r14 then ((sFrom x_s 3).bind fun s16 =>
  ((ref09_Of_r n) s16 x_more).bind fun r17 =>
  ref09_Of_j1 r17) else (ref09_Of_j1 false)) else (ref09_Of_j1 false)) else (ref09_Of_j1 false)) else ((sAt x_s 0).bind fun b20 =>
  (ref01_Path b20).bind fun r21 =>
  if r21 then ((sFrom x_s 1).bind fun s23 =>
  ((ref09_Of_r n) s23 x_more).bind fun r24 =>
  ref09_Of_j2 r24) else ((sAt x_s 0).bind fun b25 =>
  (ref01_In b25 x_more).bind fun r26 =>
  if r26 then ((sFrom x_s 1).bind fun s28 =>
  ((ref09_Of_r n) s28 x_more).bind fun r29 =>
  ref09_Of_j2 r29) else (ref09_Of_j2 false))))

def ref09_Of (x_s : Str) (x_more : Str) : Option Bool := ref09_Of_r fuel x_s x_more

def ref09_Path_j1 (t6 : Bool) : Option Bool :=
  some t6

def ref09_Path (x_s : Str) : Option Bool :=
  if (decide (0 < (x_s.length : Int))) then ((sAt x_s 0).bind fun b3 =>
  if (b3 == 47) then ((ref09_Of x_s [47]).bind fun r5 =>
  ref09_Path_j1 r5) else (ref09_Path_j1 false)) else (ref09_Path_j1 false)

def ref09_Query (x_s : Str) : Option Bool :=
  (ref09_Of x_s [47, 63]).bind fun r2 =>
  some r2

def ref10_origin_j2 (x_t : api_Target) (x_s : Str) (r4 : Int) (s6 : Str) (s13 : Str) (t17 : Bool) : Option (api_Target × Bool) :=
  some (((⟨x_t.Kind, x_t.Scheme, x_t.Host, s6, s13, decide (r4 < (x_s.length : Int))⟩ : api_Target), t17))

def ref10_origin_j1 (x_t : api_Target) (x_s : Str) (r4 : Int) (s6 : Str) (s13 : Str) : Option (api_Target × Bool) :=
  (ref09_Path s6).bind fun r14 =>
  if r14 then ((ref09_Query s13).bind fun r16 =>
  ref10_origin_j2 x_t x_s r4 s6 s13 r16) else (ref10_origin_j2 x_t x_s r4 s6 s13 false)

def ref10_origin (x_t : api_Target) (x_s : Str) : Option (api_Target × Bool) :=
  (ref09_Mark x_s).bind fun r4 =>
  (sTo x_s r4).bind fun s6 =>
  if (decide (r4 < (x_s.length : Int))) then ((iAdd r4 1).bind fun i11 =>
  (sFrom x_s i11).bind fun s12 =>
  ref10_origin_j1 x_t x_s r4 s6 s12) else (ref10_origin_j1 x_t x_s r4 s6 x_t.Query)

def ref01_Fold_j3 (rec2 : Str → Int → Option Str) (i14 : Int) (s24 : Str) : Option Str :=
  (iAdd i14 1).bind fun i25 =>
  rec2 s24 i25

def ref01_Fold_L2 (rec1 : Str → Int → Option Str) (x_s : Str) (s4 : Str) (i5 : Int) : Nat → Str → Int → Option Str
  | 0, _, _ => none
  | n + 1, s13, i14 =>
  if (decide (i14 < 26)) then ((sAt [65, 66, 67, 68, 69, 70, 71, 72, 73, 74, 75, 76, 77, 78, 79, 80, 81, 82, 83, 84, 85, 86, 87, 88, 89, 90] i14).bind fun b18 =>
  (sAt x_s i5).bind fun b19 =>
  if (b18 == b19) then ((iAdd i14 1).bind fun i22 =>
  (sSub [97, 98, 99, 100, 101, 102, 103, 104, 105, 106, 107, 108, 109, 110, 111, 112, 113, 114, 115, 116, 117, 118, 119, 120, 121, 122] i14 i22).bind fun s23 =>
  ref01_Fold_j3 (ref01_Fold_L2 rec1 x_s s4 i5 n) i14 s23) else (ref01_Fold_j3 (ref01_Fold_L2 rec1 x_s s4 i5 n) i14 s13)) else ((sCat s4 s13).bind fun s27 =>
  (iAdd i5 1).bind fun i29 =>
  rec1 s27 i29)

def ref01_Fold_L1 (x_s : Str) : Nat → Str → Int → Option Str
  | 0, _, _ => none
  | n + 1, s4, i5 =>
  if (decide (i5 < (x_s.length : Int))) then ((iAdd i5 1).bind fun i9 =>
  (sSub x_s i5 i9).bind fun s10 =>
  ref01_Fold_L2 (ref01_Fold_L1 x_s n) x_s s4 i5 fuel s10 0) else (some s4)

def ref01_Fold (x_s : Str) : Option Str :=
  ref01_Fold_L1 x_s fuel [] 0

def ref10_Parse_j1 (r5 : api_Host × Int) (t9 : Bool) : Option (api_Target × Int) :=
  if t9 then (some (((⟨0, [], (⟨0, [], 0⟩ : api_Host), [], [], false⟩ : api_Target), 20))) else (some (((⟨3, [], r5.1, [], [], false⟩ : api_Target), 0)))

def ref10_Parse_j7 (t84 : Bool) (i85 : Int) (s86 : Str) (i87 : Int) (s88 : Str) (i89 : Int) (s90 : Str) (s91 : Str) (t92 : Bool) : Option (api_Target × Int) :=
  if (!t84) then (some (((⟨0, [], (⟨0, [], 0⟩ : api_Host), [], [], false⟩ : api_Target), 20))) else (some (((⟨i85, s86, (⟨i87, s88, i89⟩ : api_Host), s90, s91, t92⟩ : api_Target), 0)))

def ref10_Parse_j6 (rec5 : Int → Option (api_Target × Int)) (x34 : Str) (s47 : Str) (i50 : Int) (t55 : Bool) : Option (api_Target × Int) :=
  if t55 then ((iAdd i50 1).bind fun i58 =>
  rec5 i58) else ((sTo s47 i50).bind fun s60 =>
  (ref08_Parse s60).bind fun r61 =>
  if (!(r61.2 == 0)) then (some (((⟨0, [], (⟨0, [], 0⟩ : api_Host), [], [], false⟩ : api_Target), 20))) else (if (i50 == (s47.length : Int)) then (some (((⟨2, x34, r61.1, [], [], false⟩ : api_Target), 0))) else ((sAt s47 i50).bind fun b74 =>
  if (b74 == 63) then ((iAdd i50 1).bind fun i78 =>
  (sFrom s47 i78).bind fun s79 =>
  (ref09_Query s79).bind fun r81 =>
  ref10_Parse_j7 r81 2 x34 r61.1.Kind r61.1.Name r61.1.Port [] s79 true) else ((sFrom s47 i50).bind fun s82 =>
  (ref10_origin (⟨2, x34, r61.1, [], [], false⟩ : api_Target) s82).bind fun r83 =>
  ref10_Parse_j7 r83.2 r83.1.Kind r83.1.Scheme r83.1.Host.Kind r83.1.Host.Name r83.1.Host.Port r83.1.Path r83.1.Query r83.1.HasQuery))))

def ref10_Parse_L5 (x34 : Str) (s47 : Str) : Nat → Int → Option (api_Target × Int)
  | 0, _ => none
  | n + 1, i50 =>
  if (decide (i50 < (s47.length : Int))) then ((sAt s47 i50).bind fun b52 =>
  if (!(b52 == 47)) then ((sAt s47 i50).bind fun b54 =>
  ref10_Parse_j6 (ref10_Parse_L5 x34 s47 n) x34 s47 i50 (!(b54 == 63))) else (ref10_Parse_j6 (ref10_Parse_L5 x34 s47 n) x34 s47 i50 false)) else (ref10_Parse_j6 (ref10_Parse_L5 x34 s47 n) x34 s47 i50 false)

def ref10_Parse_j4 (rec3 : Str → Int → Option (api_Target × Int)) (s29 : Str) (i30 : Int) (x34 : Str) (i38 : Int) (t44 : Bool) : Option (api_Target × Int) :=
  if t44 then ((iAdd i30 1).bind fun i99 =>
  rec3 s29 i99) else ((sFrom s29 i38).bind fun s47 =>
  ref10_Parse_L5 x34 s47 fuel 0)

def ref10_Parse_L3 : Nat → Str → Int → Option (api_Target × Int)
  | 0, _, _ => none
  | n + 1, s29, i30 =>
  if (decide (i30 < ((([[104, 116, 116, 112], [104, 116, 116, 112, 115]]).length : Int)))) then ((lAt ([[104, 116, 116, 112], [104, 116, 116, 112, 115]]) i30).bind fun x34 =>
  (iAdd (x34.length : Int) 3).bind fun i38 =>
  if (decide ((s29.length : Int) < i38)) then (ref10_Parse_j4 (ref10_Parse_L3 n) s29 i30 x34 i38 true) else ((sTo s29 i38).bind fun s41 =>
  (ref01_Fold s41).bind fun r42 =>
  (sCat x34 [58, 47, 47]).bind fun s43 =>
  ref10_Parse_j4 (ref10_Parse_L3 n) s29 i30 x34 i38 (!(r42 == s43)))) else (some (((⟨0, [], (⟨0, [], 0⟩ : api_Host), [], [], false⟩ : api_Target), 20)))

def ref10_Parse_j2 (x_a1 : Str) (t16 : Bool) : Option (api_Target × Int) :=
  if t16 then (some (((⟨4, [], (⟨0, [], 0⟩ : api_Host), [], [], false⟩ : api_Target), 0))) else ((ref10_origin ((⟨1, [], (⟨0, [], 0⟩ : api_Host), [], [], false⟩ : api_Target)) x_a1).bind fun r20 =>
  if r20.2 then (some (r20.1, 0)) else (ref10_Parse_L3 fuel x_a1 0))

def ref10_Parse (x_a0 : Str) (x_a1 : Str) : Option (api_Target × Int) :=
  if (x_a0 == [67, 79, 78, 78, 69, 67, 84]) then ((ref08_Parse x_a1).bind fun r5 =>
  if (!(r5.2 == 0)) then (ref10_Parse_j1 r5 true) else (ref10_Parse_j1 r5 (decide (r5.1.Port < 0)))) else (if (x_a1 == [42]) then (ref10_Parse_j2 x_a1 (x_a0 == [79, 80, 84, 73, 79, 78, 83])) else (ref10_Parse_j2 x_a1 false))

def ref01_Value_j1 (t4 : Bool) : Option Bool :=
  some t4

def ref01_Value (x_b : UInt8) : Option Bool :=
  if (decide (32 ≤ x_b)) then (if (!(x_b == 127)) then (ref01_Value_j1 true) else (ref01_Value_j1 (x_b == 9))) else (ref01_Value_j1 (x_b == 9))

def ref14_Parse_j3 (rec2 : Int → Option (api_Head × Int)) (i9 : Int) (t16 : Bool) : Option (api_Head × Int) :=
  if t16 then (some (((⟨0, [], [], 0, [], 0, []⟩ : api_Head), 24))) else ((iAdd i9 1).bind fun i20 =>
  rec2 i20)

def ref14_Parse_j4 (r22 : List Str) (r32 : Int) (t44 : Bool) : Option (api_Head × Int) :=
  if t44 then (some (((⟨0, [], [], 0, [], 0, []⟩ : api_Head), 20))) else ((lAt r22 0).bind fun x48 =>
  (lAt r22 1).bind fun x51 =>
  (ref10_Parse x48 x51).bind fun r54 =>
  if (!(r54.2 == 0)) then (some (((⟨0, [], [], 0, [], 0, []⟩ : api_Head), 20))) else ((lAt r22 0).bind fun x61 =>
  (lAt r22 1).bind fun x64 =>
  some (((⟨1, x61, x64, 0, [], r32, []⟩ : api_Head), 0))))

def ref14_Parse_j7 (r72 : Int) (r90 : Int × Int) (s92 : Str) (t108 : Bool) : Option (api_Head × Int) :=
  if t108 then (some (((⟨0, [], [], 0, [], 0, []⟩ : api_Head), 20))) else (some (((⟨2, [], [], r90.1, s92, r72, []⟩ : api_Head), 0)))

def ref14_Parse_L6 (r72 : Int) (r90 : Int × Int) (s92 : Str) : Nat → Int → Option (api_Head × Int)
  | 0, _ => none
  | n + 1, i95 =>
  if (decide (i95 < (s92.length : Int))) then ((sAt s92 i95).bind fun b99 =>
  (ref01_Value b99).bind fun r100 =>
  if (!r100) then (some (((⟨0, [], [], 0, [], 0, []⟩ : api_Head), 20))) else ((iAdd i95 1).bind fun i105 =>
  (ref14_Parse_L6 r72 r90 s92 n) i105)) else (if (!(r90.2 == 0)) then (ref14_Parse_j7 r72 r90 s92 true) else (ref14_Parse_j7 r72 r90 s92 (decide (r90.1 < 100))))

def ref14_Parse_j5 (x_a1 : Str) (r22 : List Str) (r72 : Int) (t83 : Bool) : Option (api_Head × Int) :=
  if t83 then (some (((⟨0, [], [], 0, [], 0, []⟩ : api_Head), 20))) else ((lAt r22 1).bind fun x87 =>
  (ref03_Read x87 10 599).bind fun r90 =>
  (sFrom x_a1 13).bind fun s92 =>
  ref14_Parse_L6 r72 r90 s92 fuel 0)

def ref14_Parse_L2 (x_a0 : Int) (x_a1 : Str) : Nat → Int → Option (api_Head × Int)
  | 0, _ => none
  | n + 1, i9 =>
  if (decide (i9 < (x_a1.length : Int))) then ((sAt x_a1 i9).bind fun b13 =>
  if (b13 == 13) then (ref14_Parse_j3 (ref14_Parse_L2 x_a0 x_a1 n) i9 true) else ((sAt x_a1 i9).bind fun b15 =>
  ref14_Parse_j3 (ref14_Parse_L2 x_a0 x_a1 n) i9 (b15 == 10))) else ((ref08_Parts x_a1 32).bind fun r22 =>
  if (x_a0 == 1) then ((iSub (r22.length : Int) 1).bind fun i28 =>
  (lAt r22 i28).bind fun x29 =>
  (ref14_Version x29).bind fun r32 =>
  if (r32 == 2) then (some (((⟨0, [], [], 0, [], 0, []⟩ : api_Head), 26))) else (if (!((r22.length : Int) == 3)) then (ref14_Parse_j4 r22 r32 true) else (if (decide (r32 < 0)) then (ref14_Parse_j4 r22 r32 true) else ((lAt r22 0).bind fun x40 =>
  (ref01_Token x40).bind fun r43 =>
  ref14_Parse_j4 r22 r32 (!r43))))) else ((lAt r22 0).bind fun x69 =>
  (ref14_Version x69).bind fun r72 =>
  if (r72 == 2) then (some (((⟨0, [], [], 0, [], 0, []⟩ : api_Head), 26))) else (if (decide ((r22.length : Int) < 3)) then (ref14_Parse_j5 x_a1 r22 r72 true) else (if (decide (r72 < 0)) then (ref14_Parse_j5 x_a1 r22 r72 true) else ((lAt r22 1).bind fun x80 =>
  ref14_Parse_j5 x_a1 r22 r72 (!((x80.length : Int) == 3)))))))

def ref14_Parse_j1 (x_a0 : Int) (x_a1 : Str) (t4 : Bool) : Option (api_Head × Int) :=
  if t4 then (some (((⟨0, [], [], 0, [], 0, []⟩ : api_Head), 1))) else (ref14_Parse_L2 x_a0 x_a1 fuel 0)

def ref14_Parse (x_a0 : Int) (x_a1 : Str) : Option (api_Head × Int) :=
  if (!(x_a0 == 1)) then (ref14_Parse_j1 x_a0 x_a1 (!(x_a0 == 2))) else (ref14_Parse_j1 x_a0 x_a1 false)

def ref14_Same_j1 (t9 : Bool) : Option Bool :=
  some t9

def ref14_Same (x_a : api_Head) (x_b : api_Head) : Option Bool :=
  if (x_a.Kind == x_b.Kind) then (if (x_a.Method == x_b.Method) then (if (x_a.Target == x_b.Target) then (if (x_a.Minor == x_b.Minor) then (if (x_a.Code == x_b.Code) then (ref14_Same_j1 (x_a.Reason == x_b.Reason)) else (ref14_Same_j1 false)) else (ref14_Same_j1 false)) else (ref14_Same_j1 false)) else (ref14_Same_j1 false)) else (ref14_Same_j1 false)

def quill_Join (x_sep : Str) (x_l : List Str) : Option Str :=
  (strings_Join x_l x_sep).bind fun r2 =>
  some r2

def startline_Text_j3 (s14 : Str) (t30 : Bool) : Option (Str × Int) :=
  if t30 then (some ([], 20)) else (some (s14, 0))

def startline_Text_j2 (s14 : Str) (r15 : api_Head × Int) (t28 : Bool) : Option (Str × Int) :=
  if (!(r15.2 == 0)) then (startline_Text_j3 s14 true) else (startline_Text_j3 s14 (!t28))

def startline_Text_j1 (x_a0 : api_Head) (s14 : Str) : Option (Str × Int) :=
  (startline_Parse x_a0.Kind s14).bind fun r15 =>
  if (r15.2 == 1) then (some ([], r15.2)) else (if (r15.1.Method == x_a0.Method) then (if (r15.1.Target == x_a0.Target) then (if (r15.1.Minor == x_a0.Minor) then (if (r15.1.Code == x_a0.Code) then (startline_Text_j2 s14 r15 (r15.1.Reason == x_a0.Reason)) else (startline_Text_j2 s14 r15 false)) else (startline_Text_j2 s14 r15 false)) else (startline_Text_j2 s14 r15 false)) else (startline_Text_j2 s14 r15 false))

def startline_Text (x_a0 : api_Head) : Option (Str × Int) :=
  (numeral_Text x_a0.Minor).bind fun r3 =>
  (sCat [72, 84, 84, 80, 47, 49, 46] r3).bind fun s4 =>
  (quill_Join [32] [x_a0.Method, x_a0.Target, s4]).bind fun r7 =>
  if (x_a0.Kind == 2) then ((numeral_Text x_a0.Code).bind fun r11 =>
  (quill_Join [32] [s4, r11, x_a0.Reason]).bind fun r13 =>
  startline_Text_j1 x_a0 r13) else (startline_Text_j1 x_a0 r7)

def ref14_Text_j2 (s18 : Str) (t33 : Bool) : Option (Str × Int) :=
  if t33 then (some ([], 20)) else (some (s18, 0))

def ref14_Text_j1 (x_a0 : api_Head) (s18 : Str) : Option (Str × Int) :=
  (ref14_Parse x_a0.Kind s18).bind fun r19 =>
  if (r19.2 == 1) then (some ([], 1)) else (if (!(r19.2 == 0)) then (ref14_Text_j2 s18 true) else (if (!(r19.1.Method == x_a0.Method)) then (ref14_Text_j2 s18 true) else (if (!(r19.1.Target == x_a0.Target)) then (ref14_Text_j2 s18 true) else (if (!(r19.1.Minor == x_a0.Minor)) then (ref14_Text_j2 s18 true) else (if (!(r19.1.Code == x_a0.Code)) then (ref14_Text_j2 s18 true) else (ref14_Text_j2 s18 (!(r19.1.Reason == x_a0.Reason))))))))

def ref14_Text (x_a0 : api_Head) : Option (Str × Int) :=
  (ref03_Text x_a0.Minor 10).bind fun r3 =>
  (sCat [72, 84, 84, 80, 47, 49, 46] r3).bind fun s4 =>
  (sCat x_a0.Method [32]).bind fun s6 =>
  (sCat s6 x_a0.Target).bind fun s7 =>
  (sCat s7 [32]).bind fun s8 =>
  (sCat s8 s4).bind fun s9 =>
  if (x_a0.Kind == 2) then ((sCat s4 [32]).bind fun s13 =>
  (ref03_Text x_a0.Code 10).bind fun r14 =>
  (sCat s13 r14).bind fun s15 =>
  (sCat s15 [32]).bind fun s16 =>
  (sCat s16 x_a0.Reason).bind fun s17 =>
  ref14_Text_j1 x_a0 s17) else (ref14_Text_j1 x_a0 s9)

def law14_StartWrites_j2 (t31 : Bool) : Option Bool :=
  some t31

def law14_StartWrites_j1 (x_h : api_Head) (r8 : Str) (r10 : Str) (r12 : Str) (r14 : Str × Int) (t19 : Bool) : Option Bool :=
  if t19 then (some false) else ((startline_Parse x_h.Kind r14.1).bind fun r23 =>
  if (!(r14.2 == 0)) then (law14_StartWrites_j2 true) else (if (r23.2 == 0) then ((ref14_Same r23.1 (⟨x_h.Kind, r8, r10, x_h.Code, r12, x_h.Minor, x_h.Fields⟩ : api_Head)).bind fun r30 =>
  law14_StartWrites_j2 r30) else (law14_StartWrites_j2 false)))

def law14_StartWrites (x_h : api_Head) : Option Bool :=
  (law14_awake).bind fun r3 =>
  if (!r3) then (some false) else ((law14_few x_h.Method).bind fun r8 =>
  (law14_few x_h.Target).bind fun r10 =>
  (law14_few x_h.Reason).bind fun r12 =>
  (startline_Text (⟨x_h.Kind, r8, r10, x_h.Code, r12, x_h.Minor, x_h.Fields⟩ : api_Head)).bind fun r14 =>
  (ref14_Text (⟨x_h.Kind, r8, r10, x_h.Code, r12, x_h.Minor, x_h.Fields⟩ : api_Head)).bind fun r16 =>
  if (!(r14.1 == r16.1)) then (law14_StartWrites_j1 x_h r8 r10 r12 r14 true) else (law14_StartWrites_j1 x_h r8 r10 r12 r14 (!(r14.2 == r16.2))))

end Go.Dm
