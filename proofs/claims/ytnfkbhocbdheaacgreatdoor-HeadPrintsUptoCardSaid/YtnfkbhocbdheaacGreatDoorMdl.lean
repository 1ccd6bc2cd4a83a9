/-
  The models of the functions: written by a program (wip/gen) off the translation. No program in sight.
-/
import Derived.Test.YtnfkbhocbdheaacGreatDoorPrim
import Derived.Lib.ItoaNum
import Derived.Lib.SplitLaws
import Derived.Lib.SlTrimSet
import Derived.Lib.Join
import Derived.Lib.IndexMore
set_option linter.unusedVariables false
set_option maxRecDepth 10000
namespace Go.Dm
structure scan_Scanner where
  f_s : Str
  f_at : Int
deriving DecidableEq
structure startline_line where
  Scanner : scan_Scanner
deriving DecidableEq
structure api_Host where
  Kind : Int
  Name : Str
  Port : Int
deriving DecidableEq
structure api_Target where
  Kind : Int
  Scheme : Str
  Host : api_Host
  Path : Str
  Query : Str
  HasQuery : Bool
deriving DecidableEq
structure api_Field where
  Name : Str
  Value : Str
deriving DecidableEq
structure api_Head where
  Kind : Int
  Method : Str
  Target : Str
  Code : Int
  Reason : Str
  Minor : Int
  Fields : List api_Field
deriving DecidableEq
structure bag_Bag where
  f_l : List api_Field
deriving DecidableEq
structure quill_Quill where
  f_b : List UInt8
  f_most : Int
deriving DecidableEq
structure head_printer where
  Quill : quill_Quill
  f_full : Bool
deriving DecidableEq

def idxByte : Str → UInt8 → Nat → Int
  | [], _, _ => -1
  | x :: l, c, k => if x == c then (k : Int) else idxByte l c (k + 1)
def strings_IndexByte (s : Str) (c : UInt8) : Option Int := some (idxByte s c 0)
/-- Does a text begin with another one? -/
def begins : Str → Str → Bool
  | _, [] => true
  | [], _ :: _ => false
  | x :: s, y :: t => x == y && begins s t
def idxStr : Str → Str → Nat → Int
  | s, t, k => if begins s t then (k : Int) else match s with
    | [] => -1
    | _ :: s => idxStr s t (k + 1)
def strings_Index (s t : Str) : Option Int := if s.length < 4294967281 then some (idxStr s t 0) else none
def strings_Cut (s t : Str) : Option (Str × Str × Bool) := if s.length < 4294967281 then some (Go.Lib.cut s t) else none
def idxAny : Str → Str → Nat → Int
  | [], _, _ => -1
  | x :: l, cs, k => if cs.contains x then (k : Int) else idxAny l cs (k + 1)
/-- Where the bytes that are looked for are ASCII. -/
def strings_IndexAny (s cs : Str) : Option Int := if s.length < 4294967281 ∧ cs.length < 4294967281 ∧ cs.all (fun c => c.toNat < 128) then some (idxAny s cs 0) else none
/-- At the bytes of a separator that is not empty. -/
def strings_Split (s sep : Str) : Option (List Str) := if s.length < 4294967281 ∧ 1 ≤ sep.length then some (Go.Lib.splitK sep 0 (Go.Lib.countB ⟨s.toArray⟩ ⟨sep.toArray⟩) s) else none
/-- What of a text stands between a byte and the next one. -/
def splitOn (c : UInt8) : Str → List Str
  | [] => [[]]
  | x :: s => if x = c then [] :: splitOn c s else match splitOn c s with
    | [] => [[x]]
    | h :: t => (x :: h) :: t
def strconv_FormatInt (n b : Int) : Option Str := if inI n = true ∧ b = 10 then some (Go.Lib.itoa n) else none
def strings_Trim (s cs : Str) : Option Str := if s.length < 4294967281 ∧ cs.length < 4294967281 ∧ cs.all (fun c => c.toNat < 128) then some (Go.Lib.trimS s cs) else none
def strings_Join (l : List Str) (sep : Str) : Option Str := if l.length ≤ 140737488355328 ∧ (Go.Lib.join l sep).length ≤ 140737488355328 then some (Go.Lib.join l sep) else none
def strings_ContainsAny (x_s : Str) (x_chars : Str) : Option Bool :=
  (strings_IndexAny x_s x_chars).bind fun r2 =>
  some (decide (0 ≤ r2))

def bytealg_LastIndexByteString_L1 (x_s : Str) (x_c : UInt8) : Nat → Int → Option Int
  | 0, _ => none
  | n + 1, i4 =>
  if (decide (0 ≤ i4)) then ((sAt x_s i4).bind fun b8 =>
  if (b8 == x_c) then (some i4) else ((iSub i4 1).bind fun i13 =>
  (bytealg_LastIndexByteString_L1 x_s x_c n) i13)) else (some (-1))

def bytealg_LastIndexByteString (x_s : Str) (x_c : UInt8) : Option Int :=
  (iSub (x_s.length : Int) 1).bind fun i2 =>
  bytealg_LastIndexByteString_L1 x_s x_c fuel i2

def strings_LastIndexByte (x_s : Str) (x_c : UInt8) : Option Int :=
  (bytealg_LastIndexByteString x_s x_c).bind fun r2 =>
  some r2

def scan_New (x_s : Str) : Option scan_Scanner :=
  some (⟨x_s, 0⟩ : scan_Scanner)

def scan_Scanner_Rest (x_c : scan_Scanner) : Option Str :=
  (sFrom x_c.f_s x_c.f_at).bind fun s4 =>
  some s4

def stringslite_HasPrefix_j1 (t4 : Bool) : Option Bool :=
  some t4

def stringslite_HasPrefix (x_s : Str) (x_prefix : Str) : Option Bool :=
  if (decide ((x_prefix.length : Int) ≤ (x_s.length : Int))) then ((sTo x_s (x_prefix.length : Int)).bind fun s3 =>
  stringslite_HasPrefix_j1 (s3 == x_prefix)) else (stringslite_HasPrefix_j1 false)

def strings_HasPrefix (x_s : Str) (x_prefix : Str) : Option Bool :=
  (stringslite_HasPrefix x_s x_prefix).bind fun r2 =>
  some r2

def scan_Scanner_Text (x_c : scan_Scanner) (x_t : Str) : Option (Bool × scan_Scanner) :=
  (scan_Scanner_Rest x_c).bind fun r2 =>
  (strings_HasPrefix r2 x_t).bind fun r3 =>
  if (!r3) then (some (false, x_c)) else ((iAdd x_c.f_at (x_t.length : Int)).bind fun i9 =>
  some ((true, (⟨x_c.f_s, i9⟩ : scan_Scanner))))

def scan_Scanner_End (x_c : scan_Scanner) : Option Bool :=
  (scan_Scanner_Rest x_c).bind fun r2 =>
  some (r2 == [])

def scan_Scanner_Peek (x_c : scan_Scanner) : Option (UInt8 × Bool) :=
  (scan_Scanner_End x_c).bind fun r2 =>
  if r2 then (some (0, false)) else ((sAt x_c.f_s x_c.f_at).bind fun b7 =>
  some (b7, true))

def octet_IsDigit_j1 (t3 : Bool) : Option Bool :=
  some t3

def octet_IsDigit (x_b : UInt8) : Option Bool :=
  if (decide (48 ≤ x_b)) then (octet_IsDigit_j1 (decide (x_b ≤ 57))) else (octet_IsDigit_j1 false)

def scan_Scanner_Byte_j1 (x_c : scan_Scanner) (t5 : Bool) : Option (Bool × scan_Scanner) :=
  if t5 then (some (false, x_c)) else ((iAdd x_c.f_at 1).bind fun i9 =>
  some ((true, (⟨x_c.f_s, i9⟩ : scan_Scanner))))

def scan_Scanner_Byte (x_c : scan_Scanner) (x_b : UInt8) : Option (Bool × scan_Scanner) :=
  (scan_Scanner_Peek x_c).bind fun r2 =>
  if (!r2.2) then (scan_Scanner_Byte_j1 x_c true) else (scan_Scanner_Byte_j1 x_c (!(r2.1 == x_b)))

def startline_line_digit_j1 (x_p : startline_line) (r3 : UInt8 × Bool) (t7 : Bool) : Option (Int × Bool × scan_Scanner) :=
  if t7 then (some (0, false, x_p.Scanner)) else ((scan_Scanner_Byte x_p.Scanner r3.1).bind fun r11 =>
  some ((((r3.1 - 48).toNat : Int), true, r11.2)))

def startline_line_digit (x_p : startline_line) : Option (Int × Bool × scan_Scanner) :=
  (scan_Scanner_Peek x_p.Scanner).bind fun r3 =>
  if (!r3.2) then (startline_line_digit_j1 x_p r3 true) else ((octet_IsDigit r3.1).bind fun r6 =>
  startline_line_digit_j1 x_p r3 (!r6))

def startline_line_version_j1 (r9 : Int × Bool × scan_Scanner) (r15 : Int × Bool × scan_Scanner) (t20 : Bool) : Option (Int × Int × Bool × scan_Scanner) :=
  some (r9.1, r15.1, t20, r15.2.2)

def startline_line_version (x_p : startline_line) : Option (Int × Int × Bool × scan_Scanner) :=
  (scan_Scanner_Text x_p.Scanner [72, 84, 84, 80, 47]).bind fun r3 =>
  if (!r3.1) then (some (0, 0, false, r3.2)) else ((startline_line_digit (⟨r3.2⟩ : startline_line)).bind fun r9 =>
  (scan_Scanner_Byte r9.2.2 46).bind fun r12 =>
  (startline_line_digit (⟨r12.2⟩ : startline_line)).bind fun r15 =>
  if r9.2.1 then (if r12.1 then (startline_line_version_j1 r9 r15 r15.2.1) else (startline_line_version_j1 r9 r15 false)) else (startline_line_version_j1 r9 r15 false))

def startline_other_j1 (t13 : Bool) : Option Bool :=
  some t13

def startline_other (x_s : Str) : Option Bool :=
  (scan_New x_s).bind fun r2 =>
  (startline_line_version (⟨r2⟩ : startline_line)).bind fun r6 =>
  if r6.2.2.1 then ((scan_Scanner_End r6.2.2.2).bind fun r10 =>
  if r10 then (if (!(r6.1 == 1)) then (startline_other_j1 true) else (startline_other_j1 (decide (1 < r6.2.1)))) else (startline_other_j1 false)) else (startline_other_j1 false)

def scan_Scanner_At (x_c : scan_Scanner) : Option Int :=
  some x_c.f_at

def scan_Scanner_While_j3 (r2 : Int) (s14 : Str) (i15 : Int) : Option (Str × scan_Scanner) :=
  (sSub s14 r2 i15).bind fun s18 =>
  some ((s18, (⟨s14, i15⟩ : scan_Scanner)))

def scan_Scanner_While_j2 (rec1 : Str → Int → Option (Str × scan_Scanner)) (r2 : Int) (s4 : Str) (i5 : Int) (t10 : Bool) : Option (Str × scan_Scanner) :=
  if t10 then (scan_Scanner_While_j3 r2 s4 i5) else ((iAdd i5 1).bind fun i13 =>
  rec1 s4 i13)

def scan_Scanner_While_L1 (x_is : UInt8 → Option Bool) (r2 : Int) : Nat → Str → Int → Option (Str × scan_Scanner)
  | 0, _, _ => none
  | n + 1, s4, i5 =>
  (scan_Scanner_Peek (⟨s4, i5⟩ : scan_Scanner)).bind fun r6 =>
  if (!r6.2) then (scan_Scanner_While_j2 (scan_Scanner_While_L1 x_is r2 n) r2 s4 i5 true) else ((x_is r6.1).bind fun r9 =>
  scan_Scanner_While_j2 (scan_Scanner_While_L1 x_is r2 n) r2 s4 i5 (!r9))

def scan_Scanner_While (x_c : scan_Scanner) (x_is : UInt8 → Option Bool) : Option (Str × scan_Scanner) :=
  (scan_Scanner_At x_c).bind fun r2 =>
  scan_Scanner_While_L1 x_is r2 fuel x_c.f_s x_c.f_at

def octet_Lower_j1 (x_b : UInt8) (t3 : Bool) : Option UInt8 :=
  if t3 then (some (x_b + 32)) else (some x_b)

def octet_Lower (x_b : UInt8) : Option UInt8 :=
  if (decide (65 ≤ x_b)) then (octet_Lower_j1 x_b (decide (x_b ≤ 90))) else (octet_Lower_j1 x_b false)

def octet_IsAlpha_j1 (t5 : Bool) : Option Bool :=
  some t5

def octet_IsAlpha (x_b : UInt8) : Option Bool :=
  (octet_Lower x_b).bind fun r2 =>
  if (decide (97 ≤ r2)) then ((octet_Lower x_b).bind fun r4 =>
  octet_IsAlpha_j1 (decide (r4 ≤ 122))) else (octet_IsAlpha_j1 false)

def octet_one (x_b : UInt8) (x_l : Str) : Option Bool :=
  (strings_IndexByte x_l x_b).bind fun r2 =>
  some (decide (0 ≤ r2))

def octet_IsToken_j1 (t7 : Bool) : Option Bool :=
  some t7

def octet_IsToken (x_b : UInt8) : Option Bool :=
  (octet_IsAlpha x_b).bind fun r2 =>
  if r2 then (octet_IsToken_j1 true) else ((octet_IsDigit x_b).bind fun r4 =>
  if r4 then (octet_IsToken_j1 true) else ((octet_one x_b [33, 35, 36, 37, 38, 39, 42, 43, 45, 46, 94, 95, 96, 124, 126]).bind fun r6 =>
  octet_IsToken_j1 r6))

def scan_Scanner_Token (x_c : scan_Scanner) : Option (Str × Bool × scan_Scanner) :=
  (scan_Scanner_While x_c octet_IsToken).bind fun r2 =>
  some ((r2.1, !(r2.1 == []), r2.2))

def startline_request_1 (x_b : UInt8) : Option Bool :=
  some (!(x_b == 32))

def startline_line_minor_j1 (r3 : Int × Int × Bool × scan_Scanner) (t8 : Bool) : Option (Int × Bool × scan_Scanner) :=
  some (r3.2.1, t8, r3.2.2.2)

def startline_line_minor (x_p : startline_line) : Option (Int × Bool × scan_Scanner) :=
  (startline_line_version x_p).bind fun r3 =>
  if r3.2.2.1 then (if (r3.1 == 1) then (startline_line_minor_j1 r3 (decide (r3.2.1 ≤ 1))) else (startline_line_minor_j1 r3 false)) else (startline_line_minor_j1 r3 false)

def octet_All_L2 (rec1 : Int → Option Bool) (x_is : UInt8 → Option Bool) (i3 : Int) (x7 : Str) : Nat → Int → Option Bool
  | 0, _ => none
  | n + 1, i12 =>
  if (decide (i12 < (x7.length : Int))) then ((sAt x7 i12).bind fun b17 =>
  (x_is b17).bind fun r18 =>
  if (!r18) then (some false) else ((iAdd i12 1).bind fun i23 =>
  (octet_All_L2 rec1 x_is i3 x7 n) i23)) else ((iAdd i3 1).bind fun i25 =>
  rec1 i25)

def octet_All_L1 (x_is : UInt8 → Option Bool) (x_l : List Str) : Nat → Int → Option Bool
  | 0, _ => none
  | n + 1, i3 =>
  if (decide (i3 < (x_l.length : Int))) then ((lAt x_l i3).bind fun x7 =>
  octet_All_L2 (octet_All_L1 x_is x_l n) x_is i3 x7 fuel 0) else (some true)

def octet_All (x_is : UInt8 → Option Bool) (x_l : List Str) : Option Bool :=
  octet_All_L1 x_is x_l fuel 0

def numeral_worth (x_b : UInt8) : Option Int :=
  (octet_IsDigit x_b).bind fun r2 =>
  if r2 then (some (((x_b - 48).toNat : Int))) else ((octet_Lower x_b).bind fun r7 =>
  (iAdd (((r7 - 97).toNat : Int)) 10).bind fun i8 =>
  some i8)

def numeral_read_j3 (rec2 : Int → Int → Option (Int × Int)) (x_base : Int) (i11 : Int) (i12 : Int) (r18 : Int) (t23 : Bool) : Option (Int × Int) :=
  if t23 then (some (0, 7)) else ((iMul i11 x_base).bind fun i27 =>
  (iAdd i27 r18).bind fun i28 =>
  (iAdd i12 1).bind fun i30 =>
  rec2 i28 i30)

def numeral_read_L2 (x_s : Str) (x_base : Int) (x_most : Int) : Nat → Int → Int → Option (Int × Int)
  | 0, _, _ => none
  | n + 1, i11, i12 =>
  if (decide (i12 < (x_s.length : Int))) then ((sAt x_s i12).bind fun b17 =>
  (numeral_worth b17).bind fun r18 =>
  if (decide (x_most < r18)) then (numeral_read_j3 (numeral_read_L2 x_s x_base x_most n) x_base i11 i12 r18 true) else ((iSub x_most r18).bind fun i21 =>
  (iDiv i21 x_base).bind fun i22 =>
  numeral_read_j3 (numeral_read_L2 x_s x_base x_most n) x_base i11 i12 r18 (decide (i22 < i11)))) else (some (i11, 0))

def numeral_read_j1 (x_s : Str) (x_base : Int) (x_most : Int) (t5 : Bool) : Option (Int × Int) :=
  if t5 then (some (0, 2)) else (numeral_read_L2 x_s x_base x_most fuel 0 0)

def numeral_read (x_s : Str) (x_base : Int) (x_most : Int) (x_is : UInt8 → Option Bool) : Option (Int × Int) :=
  if (x_s == []) then (numeral_read_j1 x_s x_base x_most true) else ((octet_All x_is ([x_s] : List Str)).bind fun r4 =>
  numeral_read_j1 x_s x_base x_most (!r4))

def numeral_Decimal (x_s : Str) (x_most : Int) : Option (Int × Int) :=
  (numeral_read x_s 10 x_most octet_IsDigit).bind fun r2 =>
  some (r2.1, r2.2)

def numeral_text (x_n : Int) (x_base : Int) : Option Str :=
  if (decide (x_n < 0)) then (some []) else ((strconv_FormatInt x_n x_base).bind fun r6 =>
  some r6)

def numeral_Text (x_n : Int) : Option Str :=
  (numeral_text x_n 10).bind fun r2 =>
  some r2

def hostport_small_j1 (t6 : Bool) : Option Bool :=
  some t6

def hostport_small (x_s : Str) (x_most : Int) : Option Bool :=
  (numeral_Decimal x_s x_most).bind fun r2 =>
  if (r2.2 == 0) then ((numeral_Text r2.1).bind fun r5 =>
  hostport_small_j1 (r5 == x_s)) else (hostport_small_j1 false)

def hostport_Four (s : Str) : Option Bool := if s.length < 1000000000 then ((splitOn 46 s).mapM (fun x => hostport_small x 255)).bind fun bs => some (bs.all id && decide ((bs.length : Int) = 4)) else none

def octet_IsHex_j1 (t7 : Bool) : Option Bool :=
  some t7

def octet_IsHex (x_b : UInt8) : Option Bool :=
  (octet_IsDigit x_b).bind fun r2 =>
  if r2 then (octet_IsHex_j1 true) else ((octet_Lower x_b).bind fun r4 =>
  if (decide (97 ≤ r4)) then ((octet_Lower x_b).bind fun r6 =>
  octet_IsHex_j1 (decide (r6 ≤ 102))) else (octet_IsHex_j1 false))

def hostport_groups_j4 (rec1 : Int → Int → Option Int) (i13 : Int) (i36 : Int) : Option Int :=
  (iAdd i13 1).bind fun i37 =>
  rec1 i36 i37

def hostport_groups_j3 (rec1 : Int → Int → Option Int) (i12 : Int) (i13 : Int) (t32 : Bool) : Option Int :=
  if t32 then ((iAdd i12 1).bind fun i34 =>
  hostport_groups_j4 rec1 i13 i34) else (some (-1))

def hostport_groups_j2 (rec1 : Int → Int → Option Int) (i12 : Int) (i13 : Int) (x17 : Str) (t25 : Bool) : Option Int :=
  if t25 then ((iAdd i12 2).bind fun i27 =>
  hostport_groups_j4 rec1 i13 i27) else (if (decide (1 ≤ (x17.length : Int))) then (if (decide ((x17.length : Int) ≤ 4)) then ((octet_All octet_IsHex ([x17] : List Str)).bind fun r31 =>
  hostport_groups_j3 rec1 i12 i13 r31) else (hostport_groups_j3 rec1 i12 i13 false)) else (hostport_groups_j3 rec1 i12 i13 false))

def hostport_groups_L1 (x_last : Bool) (r6 : List Str) : Nat → Int → Int → Option Int
  | 0, _, _ => none
  | n + 1, i12, i13 =>
  if (decide (i13 < (r6.length : Int))) then ((lAt r6 i13).bind fun x17 =>
  if x_last then ((iSub (r6.length : Int) 1).bind fun i22 =>
  if (i13 == i22) then ((hostport_Four x17).bind fun r24 =>
  hostport_groups_j2 (hostport_groups_L1 x_last r6 n) i12 i13 x17 r24) else (hostport_groups_j2 (hostport_groups_L1 x_last r6 n) i12 i13 x17 false)) else (hostport_groups_j2 (hostport_groups_L1 x_last r6 n) i12 i13 x17 false)) else (some i12)

def hostport_groups (x_s : Str) (x_last : Bool) : Option Int :=
  if (x_s == []) then (some 0) else ((strings_Split x_s [58]).bind fun r6 =>
  hostport_groups_L1 x_last r6 fuel 0 0)

def hostport_Six_j1 (t15 : Bool) : Option Bool :=
  some t15

def hostport_Six (x_s : Str) : Option Bool :=
  (strings_Cut x_s [58, 58]).bind fun r2 =>
  if (!r2.2.2) then ((hostport_groups x_s true).bind fun r6 =>
  some (r6 == 8)) else ((hostport_groups r2.1 false).bind fun r9 =>
  (hostport_groups r2.2.1 true).bind fun r10 =>
  if (decide (0 ≤ r9)) then (if (decide (0 ≤ r10)) then ((iAdd r9 r10).bind fun i14 =>
  hostport_Six_j1 (decide (i14 ≤ 7))) else (hostport_Six_j1 false)) else (hostport_Six_j1 false))

def hostport_percent_j1 (t8 : Bool) : Option Bool :=
  some t8

def hostport_percent (x_s : Str) : Option Bool :=
  if (decide (3 ≤ (x_s.length : Int))) then ((sAt x_s 0).bind fun b3 =>
  if (b3 == 37) then ((sSub x_s 1 3).bind fun s5 =>
  (octet_All octet_IsHex ([s5] : List Str)).bind fun r7 =>
  hostport_percent_j1 r7) else (hostport_percent_j1 false)) else (hostport_percent_j1 false)

def octet_IsUnreserved_j1 (t7 : Bool) : Option Bool :=
  some t7

def octet_IsUnreserved (x_b : UInt8) : Option Bool :=
  (octet_IsAlpha x_b).bind fun r2 =>
  if r2 then (octet_IsUnreserved_j1 true) else ((octet_IsDigit x_b).bind fun r4 =>
  if r4 then (octet_IsUnreserved_j1 true) else ((octet_one x_b [45, 46, 95, 126]).bind fun r6 =>
  octet_IsUnreserved_j1 r6))

def octet_IsSub (x_b : UInt8) : Option Bool :=
  (octet_one x_b [33, 36, 38, 39, 40, 41, 42, 43, 44, 59, 61]).bind fun r2 =>
  some r2

def hostport_Name_j2 (rec1 : Str → Option Bool) (s6 : Str) (t19 : Bool) : Option Bool :=
  if t19 then ((sFrom s6 1).bind fun s21 =>
  rec1 s21) else (some false)

def hostport_Name_L1 : Nat → Str → Option Bool
  | 0, _ => none
  | n + 1, s6 =>
  if (!(s6 == [])) then ((hostport_percent s6).bind fun r10 =>
  if r10 then ((sFrom s6 3).bind fun s13 =>
  (hostport_Name_L1 n) s13) else ((sAt s6 0).bind fun b14 =>
  (octet_IsUnreserved b14).bind fun r15 =>
  if r15 then (hostport_Name_j2 (hostport_Name_L1 n) s6 true) else ((sAt s6 0).bind fun b17 =>
  (octet_IsSub b17).bind fun r18 =>
  hostport_Name_j2 (hostport_Name_L1 n) s6 r18))) else (some true)

def hostport_Name (x_s : Str) : Option Bool :=
  if (x_s == []) then (some false) else (hostport_Name_L1 fuel x_s)

def hostport_of_j2 (i24 : Int) (s25 : Str) : Option (api_Host × Bool) :=
  some (((⟨i24, s25, (-1)⟩ : api_Host), !(i24 == 0)))

def hostport_of_j1 (x_s : Str) (t14 : Bool) : Option (api_Host × Bool) :=
  if t14 then ((iSub (x_s.length : Int) 1).bind fun i16 =>
  (sSub x_s 1 i16).bind fun s17 =>
  hostport_of_j2 3 s17) else ((hostport_Four x_s).bind fun r18 =>
  if r18 then (hostport_of_j2 2 x_s) else ((hostport_Name x_s).bind fun r21 =>
  if r21 then (hostport_of_j2 1 x_s) else (hostport_of_j2 0 x_s)))

def hostport_of (x_s : Str) : Option (api_Host × Bool) :=
  if (decide (2 < (x_s.length : Int))) then ((sAt x_s 0).bind fun b6 =>
  if (b6 == 91) then ((iSub (x_s.length : Int) 1).bind fun i8 =>
  (sAt x_s i8).bind fun b9 =>
  if (b9 == 93) then ((iSub (x_s.length : Int) 1).bind fun i11 =>
  (sSub x_s 1 i11).bind fun s12 =>
  (hostport_Six s12).bind fun r13 =>
  hostport_of_j1 x_s r13) else (hostport_of_j1 x_s false)) else (hostport_of_j1 x_s false)) else (hostport_of_j1 x_s false)

def hostport_Parse_j1 (x_s : Str) (r10 : Int) (r17 : api_Host × Bool) (t24 : Bool) : Option (api_Host × Int) :=
  if t24 then (some (((⟨0, [], 0⟩ : api_Host), 27))) else ((iAdd r10 1).bind fun i28 =>
  (sFrom x_s i28).bind fun s29 =>
  (numeral_Decimal s29 65535).bind fun r30 =>
  some (((⟨r17.1.Kind, r17.1.Name, r30.1⟩ : api_Host), 0)))

def hostport_Parse (x_s : Str) : Option (api_Host × Int) :=
  (hostport_of x_s).bind fun r3 =>
  if r3.2 then (some (r3.1, 0)) else ((strings_LastIndexByte x_s 58).bind fun r10 =>
  if (decide (r10 < 0)) then (some (((⟨0, [], 0⟩ : api_Host), 27))) else ((sTo x_s r10).bind fun s16 =>
  (hostport_of s16).bind fun r17 =>
  if (!r17.2) then (hostport_Parse_j1 x_s r10 r17 true) else ((iAdd r10 1).bind fun i21 =>
  (sFrom x_s i21).bind fun s22 =>
  (hostport_small s22 65535).bind fun r23 =>
  hostport_Parse_j1 x_s r10 r17 (!r23))))

def octet_Fold (s : Str) : Option Str := if s.length < 4294967281 then s.mapM octet_Lower else none

def octet_IsPath_j1 (t7 : Bool) : Option Bool :=
  some t7

def octet_IsPath (x_b : UInt8) : Option Bool :=
  (octet_IsUnreserved x_b).bind fun r2 =>
  if r2 then (octet_IsPath_j1 true) else ((octet_IsSub x_b).bind fun r4 =>
  if r4 then (octet_IsPath_j1 true) else ((octet_one x_b [58, 64]).bind fun r6 =>
  octet_IsPath_j1 r6))

def pathq_of_j4 (rec1 : Int → Option Bool) (i27 : Int) : Option Bool :=
  (iAdd i27 1).bind fun i28 =>
  rec1 i28

def pathq_of_j3 (rec1 : Int → Option Bool) (i3 : Int) (t23 : Bool) : Option Bool :=
  if t23 then ((iAdd i3 2).bind fun i25 =>
  pathq_of_j4 rec1 i25) else (some false)

def pathq_of_j2 (rec1 : Int → Option Bool) (x_s : Str) (i3 : Int) (t12 : Bool) : Option Bool :=
  if t12 then (pathq_of_j4 rec1 i3) else ((sAt x_s i3).bind fun b14 =>
  if (b14 == 37) then ((iAdd i3 2).bind fun i16 =>
  if (decide (i16 < (x_s.length : Int))) then ((iAdd i3 1).bind fun i18 =>
  (iAdd i3 3).bind fun i19 =>
  (sSub x_s i18 i19).bind fun s20 =>
  (octet_All octet_IsHex ([s20] : List Str)).bind fun r22 =>
  pathq_of_j3 rec1 i3 r22) else (pathq_of_j3 rec1 i3 false)) else (pathq_of_j3 rec1 i3 false))

def pathq_of_L1 (x_s : Str) (x_more : Str) : Nat → Int → Option Bool
  | 0, _ => none
  | n + 1, i3 =>
  if (decide (i3 < (x_s.length : Int))) then ((sAt x_s i3).bind fun b7 =>
  (octet_IsPath b7).bind fun r8 =>
  if r8 then (pathq_of_j2 (pathq_of_L1 x_s x_more n) x_s i3 true) else ((sAt x_s i3).bind fun b10 =>
  (strings_IndexByte x_more b10).bind fun r11 =>
  pathq_of_j2 (pathq_of_L1 x_s x_more n) x_s i3 (decide (0 ≤ r11)))) else (some true)

def pathq_of (x_s : Str) (x_more : Str) : Option Bool :=
  pathq_of_L1 x_s x_more fuel 0

def pathq_Path_j1 (t5 : Bool) : Option Bool :=
  some t5

def pathq_Path (x_s : Str) : Option Bool :=
  (strings_HasPrefix x_s [47]).bind fun r2 =>
  if r2 then ((pathq_of x_s [47]).bind fun r4 =>
  pathq_Path_j1 r4) else (pathq_Path_j1 false)

def pathq_Query (x_s : Str) : Option Bool :=
  (pathq_of x_s [47, 63]).bind fun r2 =>
  some r2

def pathq_Cut_j1 (r2 : Str × Str × Bool) (t7 : Bool) : Option (Str × Str × Bool × Int) :=
  if t7 then (some ([], [], false, 2)) else (some (r2.1, r2.2.1, r2.2.2, 0))

def pathq_Cut (x_s : Str) : Option (Str × Str × Bool × Int) :=
  (strings_Cut x_s [63]).bind fun r2 =>
  (pathq_Path r2.1).bind fun r4 =>
  if (!r4) then (pathq_Cut_j1 r2 true) else ((pathq_Query r2.2.1).bind fun r6 =>
  pathq_Cut_j1 r2 (!r6))

def target_tail_j2 (x_t : api_Target) (r15 : Str × Str × Bool × Int) (s19 : Str) : Option (api_Target × Bool) :=
  some (((⟨x_t.Kind, x_t.Scheme, x_t.Host, s19, r15.2.1, r15.2.2.1⟩ : api_Target), r15.2.2.2 == 0))

def target_tail_j1 (x_t : api_Target) (b9 : UInt8) (s14 : Str) : Option (api_Target × Bool) :=
  (pathq_Cut s14).bind fun r15 =>
  if (b9 == 63) then (target_tail_j2 x_t r15 []) else (target_tail_j2 x_t r15 r15.1)

def target_tail (x_t : api_Target) (x_s : Str) : Option (api_Target × Bool) :=
  if (x_s == []) then (some (x_t, true)) else ((sAt x_s 0).bind fun b9 =>
  if (b9 == 63) then ((sCat [47] x_s).bind fun s13 =>
  target_tail_j1 x_t b9 s13) else (target_tail_j1 x_t b9 x_s))

def target_absolute_j2 (r3 : Str × Str × Bool) (r5 : Str) (i18 : Int) : Option (api_Target × Bool) :=
  (sTo r3.2.1 i18).bind fun s19 =>
  (hostport_Parse s19).bind fun r20 =>
  if (!(r20.2 == 0)) then (some (((⟨2, r5, (⟨0, [], 0⟩ : api_Host), [], [], false⟩ : api_Target), false))) else ((sFrom r3.2.1 i18).bind fun s28 =>
  (target_tail (⟨2, r5, r20.1, [], [], false⟩ : api_Target) s28).bind fun r29 =>
  some (r29.1, r29.2))

def target_absolute_j1 (r3 : Str × Str × Bool) (r5 : Str) (t10 : Bool) : Option (api_Target × Bool) :=
  if t10 then (some (((⟨2, r5, (⟨0, [], 0⟩ : api_Host), [], [], false⟩ : api_Target), false))) else ((strings_IndexAny r3.2.1 [47, 63]).bind fun r14 =>
  if (decide (r14 < 0)) then (target_absolute_j2 r3 r5 (r3.2.1.length : Int)) else (target_absolute_j2 r3 r5 r14))

def target_absolute (x_s : Str) : Option (api_Target × Bool) :=
  (strings_Cut x_s [58, 47, 47]).bind fun r3 =>
  (octet_Fold r3.1).bind fun r5 =>
  if (!r3.2.2) then (target_absolute_j1 r3 r5 true) else (if (!(r5 == [104, 116, 116, 112])) then (target_absolute_j1 r3 r5 (!(r5 == [104, 116, 116, 112, 115]))) else (target_absolute_j1 r3 r5 false))

def target_of (x_method : Str) (x_s : Str) : Option (api_Target × Bool) :=
  if (x_s == [42]) then (some (((⟨4, [], (⟨0, [], 0⟩ : api_Host), [], [], false⟩ : api_Target), x_method == [79, 80, 84, 73, 79, 78, 83]))) else ((strings_HasPrefix x_s [47]).bind fun r7 =>
  if (!r7) then ((target_absolute x_s).bind fun r10 =>
  some (r10.1, r10.2)) else ((target_tail ((⟨1, [], (⟨0, [], 0⟩ : api_Host), [], [], false⟩ : api_Target)) x_s).bind fun r13 =>
  some (r13.1, r13.2)))

def target_Parse_j1 (r5 : api_Host × Int) (t9 : Bool) : Option (api_Target × Int) :=
  if t9 then (some (((⟨0, [], (⟨0, [], 0⟩ : api_Host), [], [], false⟩ : api_Target), 20))) else (some (((⟨3, [], r5.1, [], [], false⟩ : api_Target), 0)))

def target_Parse (x_method : Str) (x_s : Str) : Option (api_Target × Int) :=
  if (x_method == [67, 79, 78, 78, 69, 67, 84]) then ((hostport_Parse x_s).bind fun r5 =>
  if (!(r5.2 == 0)) then (target_Parse_j1 r5 true) else (target_Parse_j1 r5 (decide (r5.1.Port < 0)))) else ((target_of x_method x_s).bind fun r15 =>
  if (!r15.2) then (some (((⟨0, [], (⟨0, [], 0⟩ : api_Host), [], [], false⟩ : api_Target), 20))) else (some (r15.1, 0)))

def startline_request_j1 (r17 : Str × Bool × scan_Scanner) (r23 : Str × scan_Scanner) (r29 : Int × Bool × scan_Scanner) (t41 : Bool) : Option (api_Head × Int) :=
  if t41 then (some (((⟨0, [], [], 0, [], 0, []⟩ : api_Head), 20))) else (some (((⟨1, r17.1, r23.1, 0, [], r29.1, []⟩ : api_Head), 0)))

def startline_request (x_a0 : Str) : Option (api_Head × Int) :=
  (strings_LastIndexByte x_a0 32).bind fun r5 =>
  (iAdd r5 1).bind fun i6 =>
  (sFrom x_a0 i6).bind fun s7 =>
  (startline_other s7).bind fun r8 =>
  if r8 then (some (((⟨0, [], [], 0, [], 0, []⟩ : api_Head), 26))) else ((scan_New x_a0).bind fun r13 =>
  (scan_Scanner_Token r13).bind fun r17 =>
  (scan_Scanner_Byte r17.2.2 32).bind fun r20 =>
  (scan_Scanner_While r20.2 startline_request_1).bind fun r23 =>
  (scan_Scanner_Byte r23.2 32).bind fun r26 =>
  (startline_line_minor (⟨r26.2⟩ : startline_line)).bind fun r29 =>
  (target_Parse r17.1 r23.1).bind fun r32 =>
  if (!r17.2.1) then (startline_request_j1 r17 r23 r29 true) else (if (!r20.1) then (startline_request_j1 r17 r23 r29 true) else (if (!r26.1) then (startline_request_j1 r17 r23 r29 true) else (if (!r29.2.1) then (startline_request_j1 r17 r23 r29 true) else ((scan_Scanner_End r29.2.2).bind fun r39 =>
  if (!r39) then (startline_request_j1 r17 r23 r29 true) else (startline_request_j1 r17 r23 r29 (!(r32.2 == 0))))))))

def octet_IsVisible_j1 (t3 : Bool) : Option Bool :=
  some t3

def octet_IsVisible (x_b : UInt8) : Option Bool :=
  if (decide (32 < x_b)) then (octet_IsVisible_j1 (decide (x_b < 127))) else (octet_IsVisible_j1 false)

def octet_IsBlank_j1 (t3 : Bool) : Option Bool :=
  some t3

def octet_IsBlank (x_b : UInt8) : Option Bool :=
  if (x_b == 32) then (octet_IsBlank_j1 true) else (octet_IsBlank_j1 (x_b == 9))

def octet_IsValue_j1 (t6 : Bool) : Option Bool :=
  some t6

def octet_IsValue (x_b : UInt8) : Option Bool :=
  (octet_IsVisible x_b).bind fun r2 =>
  if r2 then (octet_IsValue_j1 true) else ((octet_IsBlank x_b).bind fun r4 =>
  if r4 then (octet_IsValue_j1 true) else (octet_IsValue_j1 (decide (127 < x_b))))

def startline_status_j1 (r14 : Int × Bool × scan_Scanner) (r23 : Bool × scan_Scanner) (r26 : Int × Int) (t37 : Bool) : Option (api_Head × Int) :=
  if t37 then (some (((⟨0, [], [], 0, [], 0, []⟩ : api_Head), 20))) else ((scan_Scanner_Rest r23.2).bind fun r41 =>
  some (((⟨2, [], [], r26.1, r41, r14.1, []⟩ : api_Head), 0)))

def startline_status (x_a0 : Str) : Option (api_Head × Int) :=
  (strings_Cut x_a0 [32]).bind fun r3 =>
  (startline_other r3.1).bind fun r5 =>
  if r5 then (some (((⟨0, [], [], 0, [], 0, []⟩ : api_Head), 26))) else ((scan_New x_a0).bind fun r10 =>
  (startline_line_minor (⟨r10⟩ : startline_line)).bind fun r14 =>
  (scan_Scanner_Byte r14.2.2 32).bind fun r17 =>
  (scan_Scanner_While r17.2 octet_IsDigit).bind fun r20 =>
  (scan_Scanner_Byte r20.2 32).bind fun r23 =>
  (numeral_Decimal r20.1 599).bind fun r26 =>
  if (!r14.2.1) then (startline_status_j1 r14 r23 r26 true) else (if (!r17.1) then (startline_status_j1 r14 r23 r26 true) else (if (!r23.1) then (startline_status_j1 r14 r23 r26 true) else (if (!((r20.1.length : Int) == 3)) then (startline_status_j1 r14 r23 r26 true) else (if (!(r26.2 == 0)) then (startline_status_j1 r14 r23 r26 true) else (if (decide (r26.1 < 100)) then (startline_status_j1 r14 r23 r26 true) else ((scan_Scanner_Rest r23.2).bind fun r34 =>
  (octet_All octet_IsValue ([r34] : List Str)).bind fun r36 =>
  startline_status_j1 r14 r23 r26 (!r36))))))))

def startline_Parse_j1 (x_kind : Int) (x_s : Str) (t4 : Bool) : Option (api_Head × Int) :=
  if t4 then (some (((⟨0, [], [], 0, [], 0, []⟩ : api_Head), 1))) else ((strings_ContainsAny x_s [13, 10]).bind fun r7 =>
  if r7 then (some (((⟨0, [], [], 0, [], 0, []⟩ : api_Head), 24))) else (if (x_kind == 1) then ((startline_request x_s).bind fun r13 =>
  some (r13.1, r13.2)) else ((startline_status x_s).bind fun r18 =>
  some (r18.1, r18.2))))

def startline_Parse (x_kind : Int) (x_s : Str) : Option (api_Head × Int) :=
  if (!(x_kind == 1)) then (startline_Parse_j1 x_kind x_s (!(x_kind == 2))) else (startline_Parse_j1 x_kind x_s false)

def scan_Scanner_Blanks (x_c : scan_Scanner) : Option (Str × scan_Scanner) :=
  (scan_Scanner_While x_c octet_IsBlank).bind fun r2 =>
  some (r2.1, r2.2)

def fieldline_Parse_j1 (r17 : Str × Bool × scan_Scanner) (r20 : Str × scan_Scanner) (t26 : Bool) (s27 : Str) (i28 : Int) : Option (api_Field × Int) :=
  if t26 then (some (((⟨[], []⟩ : api_Field), 21))) else (if (!(r20.1 == [])) then (some (((⟨[], []⟩ : api_Field), 22))) else ((scan_Scanner_Rest (⟨s27, i28⟩ : scan_Scanner)).bind fun r34 =>
  (octet_All octet_IsValue ([r34] : List Str)).bind fun r36 =>
  if (!r36) then (some (((⟨[], []⟩ : api_Field), 25))) else ((scan_Scanner_Rest (⟨s27, i28⟩ : scan_Scanner)).bind fun r41 =>
  (strings_Trim r41 [32, 9]).bind fun r42 =>
  some (((⟨r17.1, r42⟩ : api_Field), 0)))))

def fieldline_Parse (x_s : Str) : Option (api_Field × Int) :=
  (strings_ContainsAny x_s [13, 10]).bind fun r3 =>
  if r3 then (some (((⟨[], []⟩ : api_Field), 24))) else ((scan_New x_s).bind fun r8 =>
  (scan_Scanner_Blanks r8).bind fun r11 =>
  if (!(r11.1 == [])) then (some (((⟨[], []⟩ : api_Field), 23))) else ((scan_Scanner_Token r11.2).bind fun r17 =>
  (scan_Scanner_Blanks r17.2.2).bind fun r20 =>
  if (!r17.2.1) then (fieldline_Parse_j1 r17 r20 true r20.2.f_s r20.2.f_at) else ((scan_Scanner_Byte r20.2 58).bind fun r24 =>
  fieldline_Parse_j1 r17 r20 (!r24.1) r24.2.f_s r24.2.f_at)))

def slices_Clone_gapi_Field_api_Field_ (x_s : List api_Field) : Option (List api_Field) :=
  if fitsApp 0 x_s.length 32 then (some x_s) else none

def bag_New (x_l : List api_Field) : Option bag_Bag :=
  (slices_Clone_gapi_Field_api_Field_ x_l).bind fun r2 =>
  some (⟨r2⟩ : bag_Bag)

def bag_Bag_List (x_b : bag_Bag) : Option (List api_Field) :=
  (slices_Clone_gapi_Field_api_Field_ x_b.f_l).bind fun r4 =>
  some r4

def octet_Same (x_a : Str) (x_b : Str) : Option Bool :=
  (octet_Fold x_a).bind fun r2 =>
  (octet_Fold x_b).bind fun r3 =>
  some (r2 == r3)

def bag_Bag_Values_j2 (rec1 : (List Str) → Int → Option (List Str)) (i10 : Int) (l28 : List Str) : Option (List Str) :=
  (iAdd i10 1).bind fun i29 =>
  rec1 l28 i29

def bag_Bag_Values_L1 (x_name : Str) (r3 : List api_Field) : Nat → (List Str) → Int → Option (List Str)
  | 0, _, _ => none
  | n + 1, l9, i10 =>
  if (decide (i10 < (r3.length : Int))) then ((lAt r3 i10).bind fun x14 =>
  (octet_Same x14.Name x_name).bind fun r19 =>
  if r19 then (if fitsApp l9.length 1 16 then (bag_Bag_Values_j2 (bag_Bag_Values_L1 x_name r3 n) i10 (l9 ++ ([x14.Value] : List Str))) else none) else (bag_Bag_Values_j2 (bag_Bag_Values_L1 x_name r3 n) i10 l9)) else (some l9)

def bag_Bag_Values (x_b : bag_Bag) (x_name : Str) : Option (List Str) :=
  (bag_Bag_List x_b).bind fun r3 =>
  bag_Bag_Values_L1 x_name r3 fuel [] 0

def head_hosts_j3 (rec2 : Int → Option Bool) (i21 : Int) (t33 : Bool) : Option Bool :=
  if t33 then (some false) else ((iAdd i21 1).bind fun i37 =>
  rec2 i37)

def head_hosts_L2 (r11 : List Str) : Nat → Int → Option Bool
  | 0, _ => none
  | n + 1, i21 =>
  if (decide (i21 < (r11.length : Int))) then ((lAt r11 i21).bind fun x25 =>
  (hostport_Parse x25).bind fun r29 =>
  if (!(r29.2 == 0)) then (head_hosts_j3 (head_hosts_L2 r11 n) i21 (!(x25 == []))) else (head_hosts_j3 (head_hosts_L2 r11 n) i21 false)) else (some true)

def head_hosts_j1 (r11 : List Str) (t16 : Bool) : Option Bool :=
  if t16 then (some false) else (head_hosts_L2 r11 fuel 0)

def head_hosts (x_h : api_Head) : Option Bool :=
  if (!(x_h.Kind == 1)) then (some true) else ((bag_New x_h.Fields).bind fun r7 =>
  (bag_Bag_Values r7 [72, 111, 115, 116]).bind fun r11 =>
  if (decide (1 < (r11.length : Int))) then (head_hosts_j1 r11 true) else (head_hosts_j1 r11 (decide ((r11.length : Int) < x_h.Minor))))

def head_whole (x_h : api_Head) : Option Int :=
  if (decide (100 < (x_h.Fields.length : Int))) then (some 3) else ((head_hosts x_h).bind fun r6 =>
  if (!r6) then (some 27) else (some 0))

def head_Parse_j3 (i75 : Int) (s76 : Str) (s77 : Str) (i78 : Int) (s79 : Str) (i80 : Int) (l83 : List api_Field) : Option (api_Head × Int) :=
  (head_whole (⟨i75, s76, s77, i78, s79, i80, l83⟩ : api_Head)).bind fun r84 =>
  if (!(r84 == 0)) then (some (((⟨0, [], [], 0, [], 0, []⟩ : api_Head), r84))) else (some (((⟨i75, s76, s77, i78, s79, i80, l83⟩ : api_Head), 0)))

def head_Parse_L2 (l41 : List Str) : Nat → Int → Str → Str → Int → Str → Int → (List api_Field) → Int → Option (api_Head × Int)
  | 0, _, _, _, _, _, _, _, _ => none
  | n + 1, i45, s46, s47, i48, s49, i50, l53, i54 =>
  if (decide (i54 < (l41.length : Int))) then ((lAt l41 i54).bind fun x58 =>
  (fieldline_Parse x58).bind fun r62 =>
  if (!(r62.2 == 0)) then (some (((⟨0, [], [], 0, [], 0, []⟩ : api_Head), r62.2))) else (if fitsApp l53.length 1 32 then ((iAdd i54 1).bind fun i74 =>
  (head_Parse_L2 l41 n) i45 s46 s47 i48 s49 i50 (l53 ++ [r62.1]) i74) else none)) else (head_Parse_j3 i45 s46 s47 i48 s49 i50 l53)

def head_Parse_j1 (x_a0 : Int) (x_a1 : Str) (r12 : Int) (t19 : Bool) : Option (api_Head × Int) :=
  if t19 then (some (((⟨0, [], [], 0, [], 0, []⟩ : api_Head), 6))) else ((sTo x_a1 r12).bind fun s23 =>
  (strings_Split s23 [13, 10]).bind fun r24 =>
  (lAt r24 0).bind fun x28 =>
  (startline_Parse x_a0 x28).bind fun r31 =>
  if (!(r31.2 == 0)) then (some (((⟨0, [], [], 0, [], 0, []⟩ : api_Head), r31.2))) else ((lFrom r24 1).bind fun l41 =>
  head_Parse_L2 l41 fuel r31.1.Kind r31.1.Method r31.1.Target r31.1.Code r31.1.Reason r31.1.Minor r31.1.Fields 0))

def head_Parse (x_a0 : Int) (x_a1 : Str) (x_a2 : Int) : Option (api_Head × Int) :=
  (startline_Parse x_a0 []).bind fun r3 =>
  if (r3.2 == 1) then (some (((⟨0, [], [], 0, [], 0, []⟩ : api_Head), r3.2))) else ((strings_Index x_a1 [13, 10, 13, 10]).bind fun r12 =>
  if (decide (x_a2 < (x_a1.length : Int))) then (some (((⟨0, [], [], 0, [], 0, []⟩ : api_Head), 3))) else (if (decide (r12 < 0)) then (head_Parse_j1 x_a0 x_a1 r12 true) else ((iAdd r12 4).bind fun i18 =>
  head_Parse_j1 x_a0 x_a1 r12 (!(i18 == (x_a1.length : Int))))))

def quill_Join (x_sep : Str) (x_l : List Str) : Option Str :=
  (strings_Join x_l x_sep).bind fun r2 =>
  some r2

def startline_Text_j3 (s14 : Str) (t30 : Bool) : Option (Str × Int) :=
  if t30 then (some ([], 20)) else (some (s14, 0))

def startline_Text_j2 (s14 : Str) (r15 : api_Head × Int) (t28 : Bool) : Option (Str × Int) :=
  if (!(r15.2 == 0)) then (startline_Text_j3 s14 true) else (startline_Text_j3 s14 (!t28))

def startline_Text_j1 (x_a0 : api_Head) (s14 : Str) : Option (Str × Int) :=
  (startline_Parse x_a0.Kind s14).bind fun r15 =>
  if (r15.2 == 1) then (some ([], r15.2)) else (if (r15.1.Method == x_a0.Method) then (if (r15.1.Target == x_a0.Target) then (if (r15.1.Minor == x_a0.Minor) then (if (r15.1.Code == x_a0.Code) then (startline_Text_j2 s14 r15 (r15.1.Reason == x_a0.Reason)) else (startline_Text_j2 s14 r15 false)) else (startline_Text_j2 s14 r15 false)) else (startline_Text_j2 s14 r15 false)) else (startline_Text_j2 s14 r15 false))

def startline_Text (x_a0 : api_Head) : Option (Str × Int) :=
  (numeral_Text x_a0.Minor).bind fun r3 =>
  (sCat [72, 84, 84, 80, 47, 49, 46] r3).bind fun s4 =>
  (quill_Join [32] ([x_a0.Method, x_a0.Target, s4] : List Str)).bind fun r7 =>
  if (x_a0.Kind == 2) then ((numeral_Text x_a0.Code).bind fun r11 =>
  (quill_Join [32] ([s4, r11, x_a0.Reason] : List Str)).bind fun r13 =>
  startline_Text_j1 x_a0 r13) else (startline_Text_j1 x_a0 r7)

def octet_Token_j1 (t5 : Bool) : Option Bool :=
  some t5

def octet_Token (x_s : Str) : Option Bool :=
  if (!(x_s == [])) then ((octet_All octet_IsToken ([x_s] : List Str)).bind fun r4 =>
  octet_Token_j1 r4) else (octet_Token_j1 false)

def fieldline_Check_j1 (t11 : Bool) : Option Int :=
  if t11 then (some 25) else (some 0)

def fieldline_Check (x_f : api_Field) : Option Int :=
  (octet_Token x_f.Name).bind fun r3 =>
  if (!r3) then (some 21) else ((octet_All octet_IsValue ([x_f.Value] : List Str)).bind fun r8 =>
  if (!r8) then (fieldline_Check_j1 true) else ((strings_Trim x_f.Value [32, 9]).bind fun r10 =>
  fieldline_Check_j1 (!(r10 == x_f.Value))))

def head_Check_L1 (x_h : api_Head) : Nat → Int → Option Int
  | 0, _ => none
  | n + 1, i10 =>
  if (decide (i10 < (x_h.Fields.length : Int))) then ((lAt x_h.Fields i10).bind fun x14 =>
  (fieldline_Check x14).bind fun r19 =>
  if (!(r19 == 0)) then (some r19) else ((iAdd i10 1).bind fun i25 =>
  (head_Check_L1 x_h n) i25)) else ((head_whole x_h).bind fun r27 =>
  some r27)

def head_Check (x_h : api_Head) : Option Int :=
  (startline_Text x_h).bind fun r3 =>
  if (!(r3.2 == 0)) then (some r3.2) else (head_Check_L1 x_h fuel 0)

def quill_New (x_most : Int) : Option quill_Quill :=
  some (⟨[], max x_most 0⟩ : quill_Quill)

def quill_Quill_Left (x_q : quill_Quill) : Option Int :=
  (iSub x_q.f_most (x_q.f_b.length : Int)).bind fun i4 =>
  some i4

def quill_Quill_Put_j3 (l44 : List UInt8) (i45 : Int) : Option (Int × quill_Quill) :=
  some ((0, (⟨l44, i45⟩ : quill_Quill)))

def quill_Quill_Put_L2 (x_l : List Str) : Nat → (List UInt8) → Int → Int → Option (Int × quill_Quill)
  | 0, _, _, _ => none
  | n + 1, l27, i28, i29 =>
  if (decide (i29 < (x_l.length : Int))) then ((lAt x_l i29).bind fun x33 =>
  if fitsApp l27.length x33.length 1 then ((iAdd i29 1).bind fun i41 =>
  (quill_Quill_Put_L2 x_l n) (l27 ++ x33) i28 i41) else none) else (quill_Quill_Put_j3 l27 i28)

def quill_Quill_Put_L1 (x_q : quill_Quill) (x_l : List Str) : Nat → Int → Int → Option (Int × quill_Quill)
  | 0, _, _ => none
  | n + 1, i7, i8 =>
  if (decide (i8 < (x_l.length : Int))) then ((lAt x_l i8).bind fun x12 =>
  if (decide (i7 < (x12.length : Int))) then (some (10, x_q)) else ((iSub i7 (x12.length : Int)).bind fun i20 =>
  (iAdd i8 1).bind fun i22 =>
  (quill_Quill_Put_L1 x_q x_l n) i20 i22)) else (quill_Quill_Put_L2 x_l fuel x_q.f_b x_q.f_most 0)

def quill_Quill_Put (x_q : quill_Quill) (x_l : List Str) : Option (Int × quill_Quill) :=
  (quill_Quill_Left x_q).bind fun r4 =>
  quill_Quill_Put_L1 x_q x_l fuel r4 0

def quill_Quill_Line (x_q : quill_Quill) (x_l : List Str) : Option (Int × quill_Quill) :=
  if fitsApp 0 x_l.length 16 then (if fitsApp x_l.length 1 16 then ((quill_Quill_Put x_q (x_l ++ ([[13, 10]] : List Str))).bind fun r10 =>
  some (r10.1, r10.2)) else none) else none

def head_printer_line (x_p : head_printer) (x_s : Str) : Option head_printer :=
  (quill_Quill_Line x_p.Quill ([x_s] : List Str)).bind fun r2 =>
  if (!(r2.1 == 0)) then (some (⟨r2.2, true⟩ : head_printer)) else (some (⟨r2.2, x_p.f_full⟩ : head_printer))

def fieldline_Text (x_f : api_Field) : Option (Str × Int) :=
  (fieldline_Check x_f).bind fun r3 =>
  if (!(r3 == 0)) then (some ([], r3)) else (if (x_f.Value == []) then ((sCat x_f.Name [58]).bind fun s11 =>
  some (s11, 0)) else ((sCat x_f.Name [58, 32]).bind fun s14 =>
  (sCat s14 x_f.Value).bind fun s15 =>
  some (s15, 0)))

def quill_Quill_Text (x_q : quill_Quill) : Option Str :=
  some x_q.f_b

def head_Print_j2 (t45 : Bool) (l48 : List UInt8) (i49 : Int) : Option (Str × Int) :=
  (head_printer_line ((⟨(⟨l48, i49⟩ : quill_Quill), t45⟩ : head_printer)) []).bind fun r50 =>
  if r50.f_full then (some ([], 3)) else ((quill_Quill_Text r50.Quill).bind fun r59 =>
  some (r59, 0))

def head_Print_L1 (x_h : api_Head) : Nat → Bool → (List UInt8) → Int → Int → Option (Str × Int)
  | 0, _, _, _, _ => none
  | n + 1, t23, l26, i27, i28 =>
  if (decide (i28 < (x_h.Fields.length : Int))) then ((lAt x_h.Fields i28).bind fun x32 =>
  (fieldline_Text x32).bind fun r37 =>
  (head_printer_line ((⟨(⟨l26, i27⟩ : quill_Quill), t23⟩ : head_printer)) r37.1).bind fun r39 =>
  (iAdd i28 1).bind fun i44 =>
  (head_Print_L1 x_h n) r39.f_full r39.Quill.f_b r39.Quill.f_most i44) else (head_Print_j2 t23 l26 i27)

def head_Print (x_h : api_Head) (x_limit : Int) : Option (Str × Int) :=
  (head_Check x_h).bind fun r3 =>
  if (!(r3 == 0)) then (some ([], r3)) else ((quill_New x_limit).bind fun r9 =>
  (startline_Text x_h).bind fun r15 =>
  (head_printer_line (⟨r9, false⟩ : head_printer) r15.1).bind fun r17 =>
  head_Print_L1 x_h fuel r17.f_full r17.Quill.f_b r17.Quill.f_most 0)

def law15_awake_j1 (t11 : Bool) : Option Bool :=
  some t11

def law15_awake : Option Bool :=
  (head_Parse 1 [71, 69, 84, 32, 47, 32, 72, 84, 84, 80, 47, 49, 46, 49, 13, 10, 72, 111, 115, 116, 58, 97, 32, 13, 10, 13, 10] 99).bind fun r2 =>
  (head_Print r2.1 99).bind fun r7 =>
  if (r2.2 == 0) then (if (r7.2 == 0) then (law15_awake_j1 (r7.1 == [71, 69, 84, 32, 47, 32, 72, 84, 84, 80, 47, 49, 46, 49, 13, 10, 72, 111, 115, 116, 58, 32, 97, 13, 10, 13, 10])) else (law15_awake_j1 false)) else (law15_awake_j1 false)

def ref14_Same_j1 (t9 : Bool) : Option Bool :=
  some t9

def ref14_Same (x_a : api_Head) (x_b : api_Head) : Option Bool :=
  if (x_a.Kind == x_b.Kind) then (if (x_a.Method == x_b.Method) then (if (x_a.Target == x_b.Target) then (if (x_a.Minor == x_b.Minor) then (if (x_a.Code == x_b.Code) then (ref14_Same_j1 (x_a.Reason == x_b.Reason)) else (ref14_Same_j1 false)) else (ref14_Same_j1 false)) else (ref14_Same_j1 false)) else (ref14_Same_j1 false)) else (ref14_Same_j1 false)

def ref12_Same_L1 (x_a : List api_Field) (x_b : List api_Field) : Nat → Int → Option Bool
  | 0, _ => none
  | n + 1, i7 =>
  if (decide (i7 < (x_a.length : Int))) then ((lAt x_a i7).bind fun x11 =>
  (lAt x_b i7).bind fun x14 =>
  if (!(x11 == x14)) then (some false) else ((iAdd i7 1).bind fun i21 =>
  (ref12_Same_L1 x_a x_b n) i21)) else (some true)

def ref12_Same (x_a : List api_Field) (x_b : List api_Field) : Option Bool :=
  if (!((x_a.length : Int) == (x_b.length : Int))) then (some false) else (ref12_Same_L1 x_a x_b fuel 0)

def ref15_Same_j1 (t7 : Bool) : Option Bool :=
  some t7

def ref15_Same (x_a : api_Head) (x_b : api_Head) : Option Bool :=
  (ref14_Same x_a x_b).bind fun r4 =>
  if r4 then ((ref12_Same x_a.Fields x_b.Fields).bind fun r6 =>
  ref15_Same_j1 r6) else (ref15_Same_j1 false)

def law15_bare_j3 (rec1 : (List UInt8) → Int → Option Str) (i7 : Int) (l23 : List UInt8) : Option Str :=
  (iAdd i7 1).bind fun i24 =>
  rec1 l23 i24

def law15_bare_j2 (rec1 : (List UInt8) → Int → Option Str) (x_s : Str) (l6 : List UInt8) (i7 : Int) (t14 : Bool) : Option Str :=
  if t14 then ((sAt x_s i7).bind fun b16 =>
  if fitsApp l6.length 1 1 then (law15_bare_j3 rec1 i7 (l6 ++ [b16])) else none) else (law15_bare_j3 rec1 i7 l6)

def law15_bare_L1 (x_s : Str) : Nat → (List UInt8) → Int → Option Str
  | 0, _, _ => none
  | n + 1, l6, i7 =>
  if (decide (i7 < (x_s.length : Int))) then ((sAt x_s i7).bind fun b11 =>
  if (!(b11 == 32)) then ((sAt x_s i7).bind fun b13 =>
  law15_bare_j2 (law15_bare_L1 x_s n) x_s l6 i7 (!(b13 == 9))) else (law15_bare_j2 (law15_bare_L1 x_s n) x_s l6 i7 false)) else (some l6)

def law15_bare (x_s : Str) : Option Str :=
  law15_bare_L1 x_s fuel [] 0

def law15_HeadPrints_j1 (t36 : Bool) : Option Bool :=
  some t36

def law15_HeadPrints (x_a0 : Int) (x_a1 : Str) : Option Bool :=
  (law15_awake).bind fun r2 =>
  if (!r2) then (some false) else ((sTo x_a1 (min (x_a1.length : Int) 3000)).bind fun s7 =>
  (head_Parse x_a0 s7 5000).bind fun r9 =>
  if (!(r9.2 == 0)) then ((ref15_Same r9.1 (⟨0, [], [], 0, [], 0, []⟩ : api_Head)).bind fun r16 =>
  some r16) else ((head_Print r9.1 5000).bind fun r19 =>
  (head_Parse x_a0 r19.1 5000).bind fun r21 =>
  (head_Print r21.1 5000).bind fun r26 =>
  if (r19.2 == 0) then (if (r21.2 == 0) then (if (r26.2 == 0) then ((ref15_Same r21.1 r9.1).bind fun r31 =>
  if r31 then (if (r26.1 == r19.1) then ((law15_bare r19.1).bind fun r34 =>
  (law15_bare s7).bind fun r35 =>
  law15_HeadPrints_j1 (r34 == r35)) else (law15_HeadPrints_j1 false)) else (law15_HeadPrints_j1 false)) else (law15_HeadPrints_j1 false)) else (law15_HeadPrints_j1 false)) else (law15_HeadPrints_j1 false)))

end Go.Dm
