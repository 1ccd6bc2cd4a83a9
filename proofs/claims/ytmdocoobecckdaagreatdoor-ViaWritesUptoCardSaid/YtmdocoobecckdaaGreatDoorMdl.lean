/-
  The models of the functions: written by a program (wip/gen) off the translation. No program in sight.
-/
import Derived.Test.YtmdocoobecckdaaGreatDoorPrim
import Derived.Lib.ItoaNum
import Derived.Lib.SplitLaws
import Derived.Lib.SlTrimSet
import Derived.Lib.Join
import Derived.Lib.IndexMore
set_option linter.unusedVariables false
set_option maxRecDepth 10000
namespace Go.Dm
structure scan_Scanner where
  f_s : Str
  f_at : Int
deriving DecidableEq
structure quoted_reader where
  Scanner : scan_Scanner
  f_out : List UInt8
deriving DecidableEq
structure commas_splitter where
  Scanner : scan_Scanner
  f_out : List Str
  f_from : Int
  f_s : Str
deriving DecidableEq
structure via_reader where
  Scanner : scan_Scanner
deriving DecidableEq
structure api_Via where
  Proto : Str
  Version : Str
  By : Str
  Comment : Str
deriving DecidableEq
structure api_Host where
  Kind : Int
  Name : Str
  Port : Int
deriving DecidableEq
def idxByte : Str → UInt8 → Nat → Int
  | [], _, _ => -1
  | x :: l, c, k => if x == c then (k : Int) else idxByte l c (k + 1)
def strings_IndexByte (s : Str) (c : UInt8) : Option Int := some (idxByte s c 0)
/-- Does a text begin with another one? -/
def begins : Str → Str → Bool
  | _, [] => true
  | [], _ :: _ => false
  | x :: s, y :: t => x == y && begins s t
def idxStr : Str → Str → Nat → Int
  | s, t, k => if begins s t then (k : Int) else match s with
    | [] => -1
    | _ :: s => idxStr s t (k + 1)
def strings_Index (s t : Str) : Option Int := if s.length < 4294967281 then some (idxStr s t 0) else none
def strings_Cut (s t : Str) : Option (Str × Str × Bool) := if s.length < 4294967281 then some (Go.Lib.cut s t) else none
def idxAny : Str → Str → Nat → Int
  | [], _, _ => -1
  | x :: l, cs, k => if cs.contains x then (k : Int) else idxAny l cs (k + 1)
/-- Where the bytes that are looked for are ASCII. -/
def strings_IndexAny (s cs : Str) : Option Int := if s.length < 4294967281 ∧ cs.length < 4294967281 ∧ cs.all (fun c => c.toNat < 128) then some (idxAny s cs 0) else none
/-- At the bytes of a separator that is not empty. -/
def strings_Split (s sep : Str) : Option (List Str) := if s.length < 4294967281 ∧ 1 ≤ sep.length then some (Go.Lib.splitK sep 0 (Go.Lib.countB ⟨s.toArray⟩ ⟨sep.toArray⟩) s) else none
/-- What of a text stands between a byte and the next one. -/
def splitOn (c : UInt8) : Str → List Str
  | [] => [[]]
  | x :: s => if x = c then [] :: splitOn c s else match splitOn c s with
    | [] => [[x]]
    | h :: t => (x :: h) :: t
def strconv_FormatInt (n b : Int) : Option Str := if inI n = true ∧ b = 10 then some (Go.Lib.itoa n) else none
def strings_Trim (s cs : Str) : Option Str := if s.length < 4294967281 ∧ cs.length < 4294967281 ∧ cs.all (fun c => c.toNat < 128) then some (Go.Lib.trimS s cs) else none
def strings_Join (l : List Str) (sep : Str) : Option Str := if l.length ≤ 140737488355328 ∧ (Go.Lib.join l sep).length ≤ 140737488355328 then some (Go.Lib.join l sep) else none
def octet_All_L2 (rec1 : Int → Option Bool) (x_is : UInt8 → Option Bool) (i3 : Int) (x7 : Str) : Nat → Int → Option Bool
  | 0, _ => none
  | n + 1, i12 =>
  if (decide (i12 < (x7.length : Int))) then ((sAt x7 i12).bind fun b17 =>
  (x_is b17).bind fun r18 =>
  if (!r18) then (some false) else ((iAdd i12 1).bind fun i23 =>
  (octet_All_L2 rec1 x_is i3 x7 n) i23)) else ((iAdd i3 1).bind fun i25 =>
  rec1 i25)

def octet_All_L1 (x_is : UInt8 → Option Bool) (x_l : List Str) : Nat → Int → Option Bool
  | 0, _ => none
  | n + 1, i3 =>
  if (decide (i3 < (x_l.length : Int))) then ((lAt x_l i3).bind fun x7 =>
  octet_All_L2 (octet_All_L1 x_is x_l n) x_is i3 x7 fuel 0) else (some true)

def octet_All (x_is : UInt8 → Option Bool) (x_l : List Str) : Option Bool :=
  octet_All_L1 x_is x_l fuel 0

def octet_IsDigit_j1 (t3 : Bool) : Option Bool :=
  some t3

def octet_IsDigit (x_b : UInt8) : Option Bool :=
  if (decide (48 ≤ x_b)) then (octet_IsDigit_j1 (decide (x_b ≤ 57))) else (octet_IsDigit_j1 false)

def octet_Lower_j1 (x_b : UInt8) (t3 : Bool) : Option UInt8 :=
  if t3 then (some (x_b + 32)) else (some x_b)

def octet_Lower (x_b : UInt8) : Option UInt8 :=
  if (decide (65 ≤ x_b)) then (octet_Lower_j1 x_b (decide (x_b ≤ 90))) else (octet_Lower_j1 x_b false)

def numeral_worth (x_b : UInt8) : Option Int :=
  (octet_IsDigit x_b).bind fun r2 =>
  if r2 then (some (((x_b - 48).toNat : Int))) else ((octet_Lower x_b).bind fun r7 =>
  (iAdd (((r7 - 97).toNat : Int)) 10).bind fun i8 =>
  some i8)

def numeral_read_j3 (rec2 : Int → Int → Option (Int × Int)) (x_base : Int) (i11 : Int) (i12 : Int) (r18 : Int) (t23 : Bool) : Option (Int × Int) :=
  if t23 then (some (0, 7)) else ((iMul i11 x_base).bind fun i27 =>
  (iAdd i27 r18).bind fun i28 =>
  (iAdd i12 1).bind fun i30 =>
  rec2 i28 i30)

def numeral_read_L2 (x_s : Str) (x_base : Int) (x_most : Int) : Nat → Int → Int → Option (Int × Int)
  | 0, _, _ => none
  | n + 1, i11, i12 =>
  if (decide (i12 < (x_s.length : Int))) then ((sAt x_s i12).bind fun b17 =>
  (numeral_worth b17).bind fun r18 =>
  if (decide (x_most < r18)) then (numeral_read_j3 (numeral_read_L2 x_s x_base x_most n) x_base i11 i12 r18 true) else ((iSub x_most r18).bind fun i21 =>
  (iDiv i21 x_base).bind fun i22 =>
  numeral_read_j3 (numeral_read_L2 x_s x_base x_most n) x_base i11 i12 r18 (decide (i22 < i11)))) else (some (i11, 0))

def numeral_read_j1 (x_s : Str) (x_base : Int) (x_most : Int) (t5 : Bool) : Option (Int × Int) :=
  if t5 then (some (0, 2)) else (numeral_read_L2 x_s x_base x_most fuel 0 0)

def numeral_read (x_s : Str) (x_base : Int) (x_most : Int) (x_is : UInt8 → Option Bool) : Option (Int × Int) :=
  if (x_s == []) then (numeral_read_j1 x_s x_base x_most true) else ((octet_All x_is ([x_s] : List Str)).bind fun r4 =>
  numeral_read_j1 x_s x_base x_most (!r4))

def numeral_Decimal (x_s : Str) (x_most : Int) : Option (Int × Int) :=
  (numeral_read x_s 10 x_most octet_IsDigit).bind fun r2 =>
  some (r2.1, r2.2)

def numeral_text (x_n : Int) (x_base : Int) : Option Str :=
  if (decide (x_n < 0)) then (some []) else ((strconv_FormatInt x_n x_base).bind fun r6 =>
  some r6)

def numeral_Text (x_n : Int) : Option Str :=
  (numeral_text x_n 10).bind fun r2 =>
  some r2

def hostport_small_j1 (t6 : Bool) : Option Bool :=
  some t6

def hostport_small (x_s : Str) (x_most : Int) : Option Bool :=
  (numeral_Decimal x_s x_most).bind fun r2 =>
  if (r2.2 == 0) then ((numeral_Text r2.1).bind fun r5 =>
  hostport_small_j1 (r5 == x_s)) else (hostport_small_j1 false)

def hostport_Four (s : Str) : Option Bool := if s.length < 1000000000 then ((splitOn 46 s).mapM (fun x => hostport_small x 255)).bind fun bs => some (bs.all id && decide ((bs.length : Int) = 4)) else none

def octet_IsHex_j1 (t7 : Bool) : Option Bool :=
  some t7

def octet_IsHex (x_b : UInt8) : Option Bool :=
  (octet_IsDigit x_b).bind fun r2 =>
  if r2 then (octet_IsHex_j1 true) else ((octet_Lower x_b).bind fun r4 =>
  if (decide (97 ≤ r4)) then ((octet_Lower x_b).bind fun r6 =>
  octet_IsHex_j1 (decide (r6 ≤ 102))) else (octet_IsHex_j1 false))

def hostport_groups_j4 (rec1 : Int → Int → Option Int) (i13 : Int) (i36 : Int) : Option Int :=
  (iAdd i13 1).bind fun i37 =>
  rec1 i36 i37

def hostport_groups_j3 (rec1 : Int → Int → Option Int) (i12 : Int) (i13 : Int) (t32 : Bool) : Option Int :=
  if t32 then ((iAdd i12 1).bind fun i34 =>
  hostport_groups_j4 rec1 i13 i34) else (some (-1))

def hostport_groups_j2 (rec1 : Int → Int → Option Int) (i12 : Int) (i13 : Int) (x17 : Str) (t25 : Bool) : Option Int :=
  if t25 then ((iAdd i12 2).bind fun i27 =>
  hostport_groups_j4 rec1 i13 i27) else (if (decide (1 ≤ (x17.length : Int))) then (if (decide ((x17.length : Int) ≤ 4)) then ((octet_All octet_IsHex ([x17] : List Str)).bind fun r31 =>
  hostport_groups_j3 rec1 i12 i13 r31) else (hostport_groups_j3 rec1 i12 i13 false)) else (hostport_groups_j3 rec1 i12 i13 false))

def hostport_groups_L1 (x_last : Bool) (r6 : List Str) : Nat → Int → Int → Option Int
  | 0, _, _ => none
  | n + 1, i12, i13 =>
  if (decide (i13 < (r6.length : Int))) then ((lAt r6 i13).bind fun x17 =>
  if x_last then ((iSub (r6.length : Int) 1).bind fun i22 =>
  if (i13 == i22) then ((hostport_Four x17).bind fun r24 =>
  hostport_groups_j2 (hostport_groups_L1 x_last r6 n) i12 i13 x17 r24) else (hostport_groups_j2 (hostport_groups_L1 x_last r6 n) i12 i13 x17 false)) else (hostport_groups_j2 (hostport_groups_L1 x_last r6 n) i12 i13 x17 false)) else (some i12)

def hostport_groups (x_s : Str) (x_last : Bool) : Option Int :=
  if (x_s == []) then (some 0) else ((strings_Split x_s [58]).bind fun r6 =>
  hostport_groups_L1 x_last r6 fuel 0 0)

def hostport_Six_j1 (t15 : Bool) : Option Bool :=
  some t15

def hostport_Six (x_s : Str) : Option Bool :=
  (strings_Cut x_s [58, 58]).bind fun r2 =>
  if (!r2.2.2) then ((hostport_groups x_s true).bind fun r6 =>
  some (r6 == 8)) else ((hostport_groups r2.1 false).bind fun r9 =>
  (hostport_groups r2.2.1 true).bind fun r10 =>
  if (decide (0 ≤ r9)) then (if (decide (0 ≤ r10)) then ((iAdd r9 r10).bind fun i14 =>
  hostport_Six_j1 (decide (i14 ≤ 7))) else (hostport_Six_j1 false)) else (hostport_Six_j1 false))

def octet_IsAlpha_j1 (t5 : Bool) : Option Bool :=
  some t5

def octet_IsAlpha (x_b : UInt8) : Option Bool :=
  (octet_Lower x_b).bind fun r2 =>
  if (decide (97 ≤ r2)) then ((octet_Lower x_b).bind fun r4 =>
  octet_IsAlpha_j1 (decide (r4 ≤ 122))) else (octet_IsAlpha_j1 false)

def octet_one (x_b : UInt8) (x_l : Str) : Option Bool :=
  (strings_IndexByte x_l x_b).bind fun r2 =>
  some (decide (0 ≤ r2))

def octet_IsToken_j1 (t7 : Bool) : Option Bool :=
  some t7

def octet_IsToken (x_b : UInt8) : Option Bool :=
  (octet_IsAlpha x_b).bind fun r2 =>
  if r2 then (octet_IsToken_j1 true) else ((octet_IsDigit x_b).bind fun r4 =>
  if r4 then (octet_IsToken_j1 true) else ((octet_one x_b [33, 35, 36, 37, 38, 39, 42, 43, 45, 46, 94, 95, 96, 124, 126]).bind fun r6 =>
  octet_IsToken_j1 r6))

def octet_Token_j1 (t5 : Bool) : Option Bool :=
  some t5

def octet_Token (x_s : Str) : Option Bool :=
  if (!(x_s == [])) then ((octet_All octet_IsToken ([x_s] : List Str)).bind fun r4 =>
  octet_Token_j1 r4) else (octet_Token_j1 false)

def octet_IsVisible_j1 (t3 : Bool) : Option Bool :=
  some t3

def octet_IsVisible (x_b : UInt8) : Option Bool :=
  if (decide (32 < x_b)) then (octet_IsVisible_j1 (decide (x_b < 127))) else (octet_IsVisible_j1 false)

def octet_IsBlank_j1 (t3 : Bool) : Option Bool :=
  some t3

def octet_IsBlank (x_b : UInt8) : Option Bool :=
  if (x_b == 32) then (octet_IsBlank_j1 true) else (octet_IsBlank_j1 (x_b == 9))

def octet_IsValue_j1 (t6 : Bool) : Option Bool :=
  some t6

def octet_IsValue (x_b : UInt8) : Option Bool :=
  (octet_IsVisible x_b).bind fun r2 =>
  if r2 then (octet_IsValue_j1 true) else ((octet_IsBlank x_b).bind fun r4 =>
  if r4 then (octet_IsValue_j1 true) else (octet_IsValue_j1 (decide (127 < x_b))))

def quill_Join (x_sep : Str) (x_l : List Str) : Option Str :=
  (strings_Join x_l x_sep).bind fun r2 =>
  some r2

def ref01_In_L1 (x_b : UInt8) (x_l : Str) : Nat → Int → Option Bool
  | 0, _ => none
  | n + 1, i3 =>
  if (decide (i3 < (x_l.length : Int))) then ((sAt x_l i3).bind fun b7 =>
  if (b7 == x_b) then (some true) else ((iAdd i3 1).bind fun i12 =>
  (ref01_In_L1 x_b x_l n) i12)) else (some false)

def ref01_In (x_b : UInt8) (x_l : Str) : Option Bool :=
  ref01_In_L1 x_b x_l fuel 0

def ref01_Tok (x_b : UInt8) : Option Bool :=
  (ref01_In x_b [97, 98, 99, 100, 101, 102, 103, 104, 105, 106, 107, 108, 109, 110, 111, 112, 113, 114, 115, 116, 117, 118, 119, 120, 121, 122, 65, 66, 67, 68, 69, 70, 71, 72, 73, 74, 75, 76, 77, 78, 79, 80, 81, 82, 83, 84, 85, 86, 87, 88, 89, 90, 48, 49, 50, 51, 52, 53, 54, 55, 56, 57, 33, 35, 36, 37, 38, 39, 42, 43, 45, 46, 94, 95, 96, 124, 126]).bind fun r2 =>
  some r2

def ref01_Token_L1 (x_s : Str) : Nat → Int → Option Bool
  | 0, _ => none
  | n + 1, i3 =>
  if (decide (i3 < (x_s.length : Int))) then ((sAt x_s i3).bind fun b7 =>
  (ref01_Tok b7).bind fun r8 =>
  if (!r8) then (some false) else ((iAdd i3 1).bind fun i13 =>
  (ref01_Token_L1 x_s n) i13)) else (some (decide (0 < (x_s.length : Int))))

def ref01_Token (x_s : Str) : Option Bool :=
  ref01_Token_L1 x_s fuel 0

def ref01_Value_j1 (t4 : Bool) : Option Bool :=
  some t4

def ref01_Value (x_b : UInt8) : Option Bool :=
  if (decide (32 ≤ x_b)) then (if (!(x_b == 127)) then (ref01_Value_j1 true) else (ref01_Value_j1 (x_b == 9))) else (ref01_Value_j1 (x_b == 9))

def scan_New (x_s : Str) : Option scan_Scanner :=
  some (⟨x_s, 0⟩ : scan_Scanner)

def scan_Scanner_At (x_c : scan_Scanner) : Option Int :=
  some x_c.f_at

def scan_Scanner_Rest (x_c : scan_Scanner) : Option Str :=
  (sFrom x_c.f_s x_c.f_at).bind fun s4 =>
  some s4

def scan_Scanner_End (x_c : scan_Scanner) : Option Bool :=
  (scan_Scanner_Rest x_c).bind fun r2 =>
  some (r2 == [])

def scan_Scanner_Peek (x_c : scan_Scanner) : Option (UInt8 × Bool) :=
  (scan_Scanner_End x_c).bind fun r2 =>
  if r2 then (some (0, false)) else ((sAt x_c.f_s x_c.f_at).bind fun b7 =>
  some (b7, true))

def scan_Scanner_While_j3 (r2 : Int) (s14 : Str) (i15 : Int) : Option (Str × scan_Scanner) :=
  (sSub s14 r2 i15).bind fun s18 =>
  some ((s18, (⟨s14, i15⟩ : scan_Scanner)))

def scan_Scanner_While_j2 (rec1 : Str → Int → Option (Str × scan_Scanner)) (r2 : Int) (s4 : Str) (i5 : Int) (t10 : Bool) : Option (Str × scan_Scanner) :=
  if t10 then (scan_Scanner_While_j3 r2 s4 i5) else ((iAdd i5 1).bind fun i13 =>
  rec1 s4 i13)

def scan_Scanner_While_L1 (x_is : UInt8 → Option Bool) (r2 : Int) : Nat → Str → Int → Option (Str × scan_Scanner)
  | 0, _, _ => none
  | n + 1, s4, i5 =>
  (scan_Scanner_Peek (⟨s4, i5⟩ : scan_Scanner)).bind fun r6 =>
  if (!r6.2) then (scan_Scanner_While_j2 (scan_Scanner_While_L1 x_is r2 n) r2 s4 i5 true) else ((x_is r6.1).bind fun r9 =>
  scan_Scanner_While_j2 (scan_Scanner_While_L1 x_is r2 n) r2 s4 i5 (!r9))

def scan_Scanner_While (x_c : scan_Scanner) (x_is : UInt8 → Option Bool) : Option (Str × scan_Scanner) :=
  (scan_Scanner_At x_c).bind fun r2 =>
  scan_Scanner_While_L1 x_is r2 fuel x_c.f_s x_c.f_at

def scan_Scanner_Token (x_c : scan_Scanner) : Option (Str × Bool × scan_Scanner) :=
  (scan_Scanner_While x_c octet_IsToken).bind fun r2 =>
  some ((r2.1, !(r2.1 == []), r2.2))

def scan_Scanner_Byte_j1 (x_c : scan_Scanner) (t5 : Bool) : Option (Bool × scan_Scanner) :=
  if t5 then (some (false, x_c)) else ((iAdd x_c.f_at 1).bind fun i9 =>
  some ((true, (⟨x_c.f_s, i9⟩ : scan_Scanner))))

def scan_Scanner_Byte (x_c : scan_Scanner) (x_b : UInt8) : Option (Bool × scan_Scanner) :=
  (scan_Scanner_Peek x_c).bind fun r2 =>
  if (!r2.2) then (scan_Scanner_Byte_j1 x_c true) else (scan_Scanner_Byte_j1 x_c (!(r2.1 == x_b)))

def quoted_reader_next_j1 (x_r : quoted_reader) (r2 : Bool × scan_Scanner) (r5 : UInt8 × Bool) (t9 : Bool) : Option (Bool × quoted_reader) :=
  if t9 then (some ((false, (⟨r2.2, x_r.f_out⟩ : quoted_reader)))) else (if fitsApp x_r.f_out.length 1 1 then ((scan_Scanner_Byte r2.2 r5.1).bind fun r18 =>
  some ((r18.1, (⟨r18.2, x_r.f_out ++ [r5.1]⟩ : quoted_reader)))) else none)

def quoted_reader_next (x_r : quoted_reader) : Option (Bool × quoted_reader) :=
  (scan_Scanner_Byte x_r.Scanner 92).bind fun r2 =>
  (scan_Scanner_Peek r2.2).bind fun r5 =>
  if (!r5.2) then (quoted_reader_next_j1 x_r r2 r5 true) else ((octet_IsValue r5.1).bind fun r8 =>
  quoted_reader_next_j1 x_r r2 r5 (!r8))

def scan_Scanner_Back_j1 (x_c : scan_Scanner) (x_at : Int) (t4 : Bool) : Option (Bool × scan_Scanner) :=
  if t4 then (some (false, x_c)) else (some ((true, (⟨x_c.f_s, x_at⟩ : scan_Scanner))))

def scan_Scanner_Back (x_c : scan_Scanner) (x_at : Int) : Option (Bool × scan_Scanner) :=
  if (decide (x_at < 0)) then (scan_Scanner_Back_j1 x_c x_at true) else ((scan_Scanner_At x_c).bind fun r3 =>
  scan_Scanner_Back_j1 x_c x_at (decide (r3 < x_at)))

def quoted_Read_j3 (r2 : Int) (t27 : Bool) (s28 : Str) (i29 : Int) (l32 : List UInt8) : Option (Str × Bool × scan_Scanner) :=
  if (!t27) then ((scan_Scanner_Back (⟨s28, i29⟩ : scan_Scanner) r2).bind fun r35 =>
  some ([], false, r35.2)) else (some ((l32, true, (⟨s28, i29⟩ : scan_Scanner))))

def quoted_Read_j2 (rec1 : Str → Int → (List UInt8) → Bool → Option (Str × Bool × scan_Scanner)) (r2 : Int) (l13 : List UInt8) (t14 : Bool) (t18 : Bool) (s19 : Str) (i20 : Int) : Option (Str × Bool × scan_Scanner) :=
  if t18 then ((quoted_reader_next ((⟨(⟨s19, i20⟩ : scan_Scanner), l13⟩ : quoted_reader))).bind fun r23 =>
  rec1 r23.2.Scanner.f_s r23.2.Scanner.f_at r23.2.f_out r23.1) else (quoted_Read_j3 r2 t14 s19 i20 l13)

def quoted_Read_L1 (r2 : Int) : Nat → Str → Int → (List UInt8) → Bool → Option (Str × Bool × scan_Scanner)
  | 0, _, _, _, _ => none
  | n + 1, s9, i10, l13, t14 =>
  if t14 then ((scan_Scanner_Byte (⟨s9, i10⟩ : scan_Scanner) 34).bind fun r16 =>
  quoted_Read_j2 (quoted_Read_L1 r2 n) r2 l13 t14 (!r16.1) r16.2.f_s r16.2.f_at) else (quoted_Read_j2 (quoted_Read_L1 r2 n) r2 l13 t14 false s9 i10)

def quoted_Read (x_c : scan_Scanner) : Option (Str × Bool × scan_Scanner) :=
  (scan_Scanner_At x_c).bind fun r2 =>
  (scan_Scanner_Byte x_c 34).bind fun r6 =>
  quoted_Read_L1 r2 fuel r6.2.f_s r6.2.f_at [] r6.1

def ref08_Parts_j2 (rec1 : (List Str) → Int → Int → Option (List Str)) (i9 : Int) (l25 : List Str) (i26 : Int) : Option (List Str) :=
  (iAdd i9 1).bind fun i27 =>
  rec1 l25 i26 i27

def ref08_Parts_L1 (x_s : Str) (x_c : UInt8) : Nat → (List Str) → Int → Int → Option (List Str)
  | 0, _, _, _ => none
  | n + 1, l7, i8, i9 =>
  if (decide (i9 < (x_s.length : Int))) then ((sAt x_s i9).bind fun b13 =>
  if (b13 == x_c) then ((sSub x_s i8 i9).bind fun s16 =>
  if fitsApp l7.length 1 16 then ((iAdd i9 1).bind fun i22 =>
  ref08_Parts_j2 (ref08_Parts_L1 x_s x_c n) i9 (l7 ++ ([s16] : List Str)) i22) else none) else (ref08_Parts_j2 (ref08_Parts_L1 x_s x_c n) i9 l7 i8)) else ((sFrom x_s i8).bind fun s29 =>
  if fitsApp l7.length 1 16 then (some (l7 ++ ([s29] : List Str))) else none)

def ref08_Parts (x_s : Str) (x_c : UInt8) : Option (List Str) :=
  ref08_Parts_L1 x_s x_c fuel [] 0 0

def ref03_worth_j2 (rec1 : Int → Option Int) (i5 : Int) (t12 : Bool) : Option Int :=
  if t12 then (some i5) else ((iAdd i5 1).bind fun i16 =>
  rec1 i16)

def ref03_worth_L1 (x_b : UInt8) (x_base : Int) : Nat → Int → Option Int
  | 0, _ => none
  | n + 1, i5 =>
  if (decide (i5 < x_base)) then ((sAt [48, 49, 50, 51, 52, 53, 54, 55, 56, 57, 97, 98, 99, 100, 101, 102] i5).bind fun b9 =>
  if (b9 == x_b) then (ref03_worth_j2 (ref03_worth_L1 x_b x_base n) i5 true) else ((sAt [48, 49, 50, 51, 52, 53, 54, 55, 56, 57, 65, 66, 67, 68, 69, 70] i5).bind fun b11 =>
  ref03_worth_j2 (ref03_worth_L1 x_b x_base n) i5 (b11 == x_b))) else (some (-1))

def ref03_worth (x_b : UInt8) (x_base : Int) : Option Int :=
  ref03_worth_L1 x_b x_base fuel 0

def ref03_Digits_r : Nat → Int → Int → Option Str
  | 0, _, _ => none
  | n + 1, x_n, x_base =>
  if (decide (x_n < x_base)) then ((iAdd x_n 1).bind fun i5 =>
  (sSub [48, 49, 50, 51, 52, 53, 54, 55, 56, 57, 97, 98, 99, 100, 101, 102] x_n i5).bind fun s6 =>
  some s6) else ((iDiv x_n x_base).bind fun i9 =>
  ((ref03_Digits_r n) i9 x_base).bind fun r10 =>
  (iMod x_n x_base).bind fun i11 =>
  (iMod x_n x_base).bind fun i12 =>
  (iAdd i12 1).bind fun i13 =>
  (sSub [48, 49, 50, 51, 52, 53, 54, 55, 56, 57, 97, 98, 99, 100, 101, 102] i11 i13).bind fun s14 =>
  (sCat r10 s14).bind fun s15 =>
  some s15)

def ref03_Digits (x_n : Int) (x_base : Int) : Option Str := ref03_Digits_r fuel x_n x_base

def ref03_Plain_j3 (rec1 : Str → Int → Option (Str × Bool)) (i5 : Int) (s21 : Str) : Option (Str × Bool) :=
  (iAdd i5 1).bind fun i22 =>
  rec1 s21 i22

def ref03_Plain_j2 (rec1 : Str → Int → Option (Str × Bool)) (x_base : Int) (s4 : Str) (i5 : Int) (r10 : Int) (t17 : Bool) : Option (Str × Bool) :=
  if t17 then ((ref03_Digits r10 x_base).bind fun r19 =>
  (sCat s4 r19).bind fun s20 =>
  ref03_Plain_j3 rec1 i5 s20) else (ref03_Plain_j3 rec1 i5 s4)

def ref03_Plain_j4 (x_s : Str) (s26 : Str) : Option (Str × Bool) :=
  some ((s26, !(x_s == [])))

def ref03_Plain_L1 (x_s : Str) (x_base : Int) : Nat → Str → Int → Option (Str × Bool)
  | 0, _, _ => none
  | n + 1, s4, i5 =>
  if (decide (i5 < (x_s.length : Int))) then ((sAt x_s i5).bind fun b9 =>
  (ref03_worth b9 x_base).bind fun r10 =>
  if (decide (r10 < 0)) then (some ([], false)) else (if (!(s4 == [])) then (ref03_Plain_j2 (ref03_Plain_L1 x_s x_base n) x_base s4 i5 r10 true) else (ref03_Plain_j2 (ref03_Plain_L1 x_s x_base n) x_base s4 i5 r10 (decide (0 < r10))))) else (if (s4 == []) then (ref03_Plain_j4 x_s [48]) else (ref03_Plain_j4 x_s s4))

def ref03_Plain (x_s : Str) (x_base : Int) : Option (Str × Bool) :=
  ref03_Plain_L1 x_s x_base fuel [] 0

def ref03_Less_j1 (t4 : Bool) : Option Bool :=
  some t4

def ref03_Less (x_a : Str) (x_b : Str) : Option Bool :=
  if (decide ((x_a.length : Int) < (x_b.length : Int))) then (ref03_Less_j1 true) else (if ((x_a.length : Int) == (x_b.length : Int)) then (ref03_Less_j1 (sLess x_a x_b)) else (ref03_Less_j1 false))

def ref03_Read_L2 (x_base : Int) (r2 : Str × Bool) : Nat → Int → Int → Option (Int × Int)
  | 0, _, _ => none
  | n + 1, i17, i18 =>
  if (decide (i18 < (r2.1.length : Int))) then ((iMul i17 x_base).bind fun i22 =>
  (sAt r2.1 i18).bind fun b23 =>
  (ref03_worth b23 x_base).bind fun r24 =>
  (iAdd i22 r24).bind fun i25 =>
  (iAdd i18 1).bind fun i27 =>
  (ref03_Read_L2 x_base r2 n) i25 i27) else (some (i17, 0))

def ref03_Read_j1 (x_base : Int) (r2 : Str × Bool) (t11 : Bool) : Option (Int × Int) :=
  if t11 then (some (0, 7)) else (ref03_Read_L2 x_base r2 fuel 0 0)

def ref03_Read (x_s : Str) (x_base : Int) (x_most : Int) : Option (Int × Int) :=
  (ref03_Plain x_s x_base).bind fun r2 =>
  if (!r2.2) then (some (0, 2)) else (if (decide (x_most < 0)) then (ref03_Read_j1 x_base r2 true) else ((ref03_Digits x_most x_base).bind fun r9 =>
  (ref03_Less r9 r2.1).bind fun r10 =>
  ref03_Read_j1 x_base r2 r10))

def ref03_Text (x_n : Int) (x_base : Int) : Option Str :=
  if (decide (x_n < 0)) then (some []) else ((ref03_Digits x_n x_base).bind fun r6 =>
  some r6)

def ref08_Small_j1 (r6 : Int × Int) (t10 : Bool) : Option Int :=
  if t10 then (some (-1)) else (some r6.1)

def ref08_Small (x_s : Str) (x_most : Int) : Option Int :=
  if (decide (5 < (x_s.length : Int))) then (some (-1)) else ((ref03_Read x_s 10 x_most).bind fun r6 =>
  if (!(r6.2 == 0)) then (ref08_Small_j1 r6 true) else ((ref03_Text r6.1 10).bind fun r9 =>
  ref08_Small_j1 r6 (!(r9 == x_s))))

def ref08_Four_L1 (r2 : List Str) : Nat → Int → Option Bool
  | 0, _ => none
  | n + 1, i7 =>
  if (decide (i7 < (r2.length : Int))) then ((lAt r2 i7).bind fun x11 =>
  (ref08_Small x11 255).bind fun r14 =>
  if (decide (r14 < 0)) then (some false) else ((iAdd i7 1).bind fun i19 =>
  (ref08_Four_L1 r2 n) i19)) else (some ((r2.length : Int) == 4))

def ref08_Four (x_s : Str) : Option Bool :=
  (ref08_Parts x_s 46).bind fun r2 =>
  ref08_Four_L1 r2 fuel 0

def ref01_Hex (x_b : UInt8) : Option Bool :=
  (ref01_In x_b [48, 49, 50, 51, 52, 53, 54, 55, 56, 57, 97, 98, 99, 100, 101, 102, 65, 66, 67, 68, 69, 70]).bind fun r2 =>
  some r2

def ref08_whole_j5 (rec1 : Int → Int → Option Bool) (i9 : Int) (i55 : Int) : Option Bool :=
  (iAdd i9 1).bind fun i56 =>
  rec1 i55 i56

def ref08_whole_j4 (rec1 : Int → Int → Option Bool) (i8 : Int) (i9 : Int) (t50 : Bool) : Option Bool :=
  if t50 then (some false) else ((iAdd i8 1).bind fun i54 =>
  ref08_whole_j5 rec1 i9 i54)

def ref08_whole_L3 (rec1 : Int → Int → Option Bool) (r2 : List Str) (i8 : Int) (i9 : Int) : Nat → Int → Option Bool
  | 0, _ => none
  | n + 1, i25 =>
  (lAt r2 i9).bind fun x26 =>
  if (decide (i25 < (x26.length : Int))) then ((lAt r2 i9).bind fun x32 =>
  (sAt x32 i25).bind fun b35 =>
  (ref01_Hex b35).bind fun r36 =>
  if (!r36) then (some false) else ((iAdd i25 1).bind fun i41 =>
  (ref08_whole_L3 rec1 r2 i8 i9 n) i41)) else ((lAt r2 i9).bind fun x43 =>
  if (decide ((x43.length : Int) < 1)) then (ref08_whole_j4 rec1 i8 i9 true) else ((lAt r2 i9).bind fun x47 =>
  ref08_whole_j4 rec1 i8 i9 (decide (4 < (x47.length : Int)))))

def ref08_whole_j2 (rec1 : Int → Int → Option Bool) (r2 : List Str) (i8 : Int) (i9 : Int) (t19 : Bool) : Option Bool :=
  if t19 then ((iAdd i8 2).bind fun i21 =>
  ref08_whole_j5 rec1 i9 i21) else (ref08_whole_L3 rec1 r2 i8 i9 fuel 0)

def ref08_whole_L1 (r2 : List Str) : Nat → Int → Int → Option Bool
  | 0, _, _ => none
  | n + 1, i8, i9 =>
  if (decide (i9 < (r2.length : Int))) then ((iSub (r2.length : Int) 1).bind fun i13 =>
  if (i9 == i13) then ((lAt r2 i9).bind fun x15 =>
  (ref08_Four x15).bind fun r18 =>
  ref08_whole_j2 (ref08_whole_L1 r2 n) r2 i8 i9 r18) else (ref08_whole_j2 (ref08_whole_L1 r2 n) r2 i8 i9 false)) else (some (i8 == 8))

def ref08_whole (x_s : Str) : Option Bool :=
  (ref08_Parts x_s 58).bind fun r2 =>
  ref08_whole_L1 r2 fuel 0 0

def ref08_Six_j5 (rec4 : Str → Int → Option Bool) (i24 : Int) (s31 : Str) : Option Bool :=
  (sCat s31 [48]).bind fun s32 =>
  (iAdd i24 1).bind fun i34 =>
  rec4 s32 i34

def ref08_Six_j6 (rec3 : Int → Option Bool) (i16 : Int) (s44 : Str) : Option Bool :=
  (ref08_whole s44).bind fun r45 =>
  if r45 then (some true) else ((iAdd i16 1).bind fun i50 =>
  rec3 i50)

def ref08_Six_L4 (rec3 : Int → Option Bool) (x_s : Str) (i3 : Int) (i16 : Int) : Nat → Str → Int → Option Bool
  | 0, _, _ => none
  | n + 1, s23, i24 =>
  if (decide (i24 < i16)) then (if (!(s23 == [])) then ((sCat s23 [58]).bind fun s30 =>
  ref08_Six_j5 (ref08_Six_L4 rec3 x_s i3 i16 n) i24 s30) else (ref08_Six_j5 (ref08_Six_L4 rec3 x_s i3 i16 n) i24 s23)) else ((iAdd i3 2).bind fun i36 =>
  (sFrom x_s i36).bind fun s37 =>
  if (!(s37 == [])) then ((sCat s23 [58]).bind fun s40 =>
  (iAdd i3 2).bind fun i41 =>
  (sFrom x_s i41).bind fun s42 =>
  (sCat s40 s42).bind fun s43 =>
  ref08_Six_j6 rec3 i16 s43) else (ref08_Six_j6 rec3 i16 s23))

def ref08_Six_L3 (x_s : Str) (i3 : Int) : Nat → Int → Option Bool
  | 0, _ => none
  | n + 1, i16 =>
  if (decide (i16 ≤ 8)) then ((sTo x_s i3).bind fun s20 =>
  ref08_Six_L4 (ref08_Six_L3 x_s i3 n) x_s i3 i16 fuel s20 0) else (some false)

def ref08_Six_j2 (rec1 : Int → Option Bool) (x_s : Str) (i3 : Int) (t12 : Bool) : Option Bool :=
  if t12 then ((iAdd i3 1).bind fun i54 =>
  rec1 i54) else (ref08_Six_L3 x_s i3 fuel 1)

def ref08_Six_L1 (x_s : Str) : Nat → Int → Option Bool
  | 0, _ => none
  | n + 1, i3 =>
  (iAdd i3 1).bind fun i4 =>
  if (decide (i4 < (x_s.length : Int))) then ((sAt x_s i3).bind fun b8 =>
  if (!(b8 == 58)) then (ref08_Six_j2 (ref08_Six_L1 x_s n) x_s i3 true) else ((iAdd i3 1).bind fun i10 =>
  (sAt x_s i10).bind fun b11 =>
  ref08_Six_j2 (ref08_Six_L1 x_s n) x_s i3 (!(b11 == 58)))) else ((ref08_whole x_s).bind fun r56 =>
  some r56)

def ref08_Six (x_s : Str) : Option Bool :=
  ref08_Six_L1 x_s fuel 0

def commas_splitter_end_j1 (x_p : commas_splitter) (l12 : List Str) : Option commas_splitter :=
  (scan_Scanner_At x_p.Scanner).bind fun r13 =>
  some (⟨x_p.Scanner, l12, r13, x_p.f_s⟩ : commas_splitter)

def commas_splitter_end (x_p : commas_splitter) (x_at : Int) : Option commas_splitter :=
  (sSub x_p.f_s x_p.f_from x_at).bind fun s1 =>
  (strings_Trim s1 [32, 9]).bind fun r2 =>
  if (!(r2 == [])) then (if fitsApp x_p.f_out.length 1 16 then (commas_splitter_end_j1 x_p (x_p.f_out ++ ([r2] : List Str))) else none) else (commas_splitter_end_j1 x_p x_p.f_out)

def commas_splitter_comment_j2 (x_p : commas_splitter) (s33 : Str) (i34 : Int) : Option (Bool × commas_splitter) :=
  some ((true, (⟨(⟨s33, i34⟩ : scan_Scanner), x_p.f_out, x_p.f_from, x_p.f_s⟩ : commas_splitter)))

def commas_splitter_comment_L1 (x_p : commas_splitter) : Nat → Str → Int → Int → Option (Bool × commas_splitter)
  | 0, _, _, _ => none
  | n + 1, s3, i4, i5 =>
  if (decide (0 < i5)) then ((scan_Scanner_Peek (⟨s3, i4⟩ : scan_Scanner)).bind fun r9 =>
  if (!r9.2) then (some ((false, (⟨(⟨s3, i4⟩ : scan_Scanner), x_p.f_out, x_p.f_from, x_p.f_s⟩ : commas_splitter)))) else ((scan_Scanner_Byte (⟨s3, i4⟩ : scan_Scanner) r9.1).bind fun r15 =>
  if (r9.1 == 40) then ((iAdd i5 1).bind fun i21 =>
  (commas_splitter_comment_L1 x_p n) r15.2.f_s r15.2.f_at i21) else (if (r9.1 == 41) then ((iSub i5 1).bind fun i24 =>
  (commas_splitter_comment_L1 x_p n) r15.2.f_s r15.2.f_at i24) else (if (r9.1 == 92) then ((scan_Scanner_Peek r15.2).bind fun r27 =>
  if r27.2 then ((scan_Scanner_Byte r15.2 r27.1).bind fun r31 =>
  (commas_splitter_comment_L1 x_p n) r31.2.f_s r31.2.f_at i5) else ((commas_splitter_comment_L1 x_p n) r15.2.f_s r15.2.f_at i5)) else ((commas_splitter_comment_L1 x_p n) r15.2.f_s r15.2.f_at i5))))) else (commas_splitter_comment_j2 x_p s3 i4)

def commas_splitter_comment (x_p : commas_splitter) : Option (Bool × commas_splitter) :=
  commas_splitter_comment_L1 x_p fuel x_p.Scanner.f_s x_p.Scanner.f_at 1

def commas_splitter_step_j1 (l34 : List Str) (i35 : Int) (s36 : Str) (s37 : Str) (i38 : Int) : Option (Bool × commas_splitter) :=
  some ((true, (⟨(⟨s37, i38⟩ : scan_Scanner), l34, i35, s36⟩ : commas_splitter)))

def commas_splitter_step (x_p : commas_splitter) : Option (Bool × commas_splitter) :=
  (scan_Scanner_At x_p.Scanner).bind fun r2 =>
  (scan_Scanner_Byte x_p.Scanner 44).bind fun r4 =>
  if r4.1 then ((commas_splitter_end (⟨r4.2, x_p.f_out, x_p.f_from, x_p.f_s⟩ : commas_splitter) r2).bind fun r8 =>
  commas_splitter_step_j1 r8.f_out r8.f_from r8.f_s r8.Scanner.f_s r8.Scanner.f_at) else ((scan_Scanner_Byte r4.2 40).bind fun r12 =>
  if r12.1 then ((commas_splitter_comment (⟨r12.2, x_p.f_out, x_p.f_from, x_p.f_s⟩ : commas_splitter)).bind fun r16 =>
  some (r16.1, r16.2)) else ((scan_Scanner_Peek r12.2).bind fun r21 =>
  if (r21.1 == 34) then ((quoted_Read r12.2).bind fun r25 =>
  some ((r25.2.1, (⟨r25.2.2, x_p.f_out, x_p.f_from, x_p.f_s⟩ : commas_splitter)))) else ((scan_Scanner_Byte r12.2 r21.1).bind fun r30 =>
  commas_splitter_step_j1 x_p.f_out x_p.f_from x_p.f_s r30.2.f_s r30.2.f_at)))

def commas_Split_j2 (x_s : Str) (l26 : List Str) (i27 : Int) (s28 : Str) (s29 : Str) (i30 : Int) : Option (List Str × Int) :=
  (commas_splitter_end ((⟨(⟨s29, i30⟩ : scan_Scanner), l26, i27, s28⟩ : commas_splitter)) (x_s.length : Int)).bind fun r31 =>
  some (r31.f_out, 0)

def commas_Split_L1 (x_s : Str) : Nat → (List Str) → Int → Str → Str → Int → Option (List Str × Int)
  | 0, _, _, _, _, _ => none
  | n + 1, l8, i9, s10, s11, i12 =>
  (scan_Scanner_End (⟨s11, i12⟩ : scan_Scanner)).bind fun r13 =>
  if (!r13) then ((commas_splitter_step ((⟨(⟨s11, i12⟩ : scan_Scanner), l8, i9, s10⟩ : commas_splitter))).bind fun r17 =>
  if (!r17.1) then (some ([], 2)) else ((commas_Split_L1 x_s n) r17.2.f_out r17.2.f_from r17.2.f_s r17.2.Scanner.f_s r17.2.Scanner.f_at)) else (commas_Split_j2 x_s l8 i9 s10 s11 i12)

def commas_Split (x_s : Str) : Option (List Str × Int) :=
  (scan_New x_s).bind fun r2 =>
  commas_Split_L1 x_s fuel [] 0 x_s r2.f_s r2.f_at

def via_reader_protocol_j2 (x_v : api_Via) (t17 : Bool) (s18 : Str) (i19 : Int) (s20 : Str) (s21 : Str) : Option (Bool × scan_Scanner × api_Via) :=
  some ((t17, (⟨s18, i19⟩ : scan_Scanner), (⟨s20, s21, x_v.By, x_v.Comment⟩ : api_Via)))

def via_reader_protocol_j1 (x_v : api_Via) (r3 : Str × Bool × scan_Scanner) (t10 : Bool) (s11 : Str) (i12 : Int) : Option (Bool × scan_Scanner × api_Via) :=
  if t10 then ((scan_Scanner_Token (⟨s11, i12⟩ : scan_Scanner)).bind fun r15 =>
  via_reader_protocol_j2 x_v r15.2.1 r15.2.2.f_s r15.2.2.f_at r3.1 r15.1) else (via_reader_protocol_j2 x_v r3.2.1 s11 i12 x_v.Proto r3.1)

def via_reader_protocol (x_r : via_reader) (x_v : api_Via) : Option (Bool × scan_Scanner × api_Via) :=
  (scan_Scanner_Token x_r.Scanner).bind fun r3 =>
  if r3.2.1 then ((scan_Scanner_Byte r3.2.2 47).bind fun r8 =>
  via_reader_protocol_j1 x_v r3 r8.1 r8.2.f_s r8.2.f_at) else (via_reader_protocol_j1 x_v r3 false r3.2.2.f_s r3.2.2.f_at)

def via_reader_by_1 (x_b : UInt8) : Option Bool :=
  some (!(x_b == 32))

def hostport_percent_j1 (t8 : Bool) : Option Bool :=
  some t8

def hostport_percent (x_s : Str) : Option Bool :=
  if (decide (3 ≤ (x_s.length : Int))) then ((sAt x_s 0).bind fun b3 =>
  if (b3 == 37) then ((sSub x_s 1 3).bind fun s5 =>
  (octet_All octet_IsHex ([s5] : List Str)).bind fun r7 =>
  hostport_percent_j1 r7) else (hostport_percent_j1 false)) else (hostport_percent_j1 false)

def octet_IsUnreserved_j1 (t7 : Bool) : Option Bool :=
  some t7

def octet_IsUnreserved (x_b : UInt8) : Option Bool :=
  (octet_IsAlpha x_b).bind fun r2 =>
  if r2 then (octet_IsUnreserved_j1 true) else ((octet_IsDigit x_b).bind fun r4 =>
  if r4 then (octet_IsUnreserved_j1 true) else ((octet_one x_b [45, 46, 95, 126]).bind fun r6 =>
  octet_IsUnreserved_j1 r6))

def octet_IsSub (x_b : UInt8) : Option Bool :=
  (octet_one x_b [33, 36, 38, 39, 40, 41, 42, 43, 44, 59, 61]).bind fun r2 =>
  some r2

def hostport_Name_j2 (rec1 : Str → Option Bool) (s6 : Str) (t19 : Bool) : Option Bool :=
  if t19 then ((sFrom s6 1).bind fun s21 =>
  rec1 s21) else (some false)

def hostport_Name_L1 : Nat → Str → Option Bool
  | 0, _ => none
  | n + 1, s6 =>
  if (!(s6 == [])) then ((hostport_percent s6).bind fun r10 =>
  if r10 then ((sFrom s6 3).bind fun s13 =>
  (hostport_Name_L1 n) s13) else ((sAt s6 0).bind fun b14 =>
  (octet_IsUnreserved b14).bind fun r15 =>
  if r15 then (hostport_Name_j2 (hostport_Name_L1 n) s6 true) else ((sAt s6 0).bind fun b17 =>
  (octet_IsSub b17).bind fun r18 =>
  hostport_Name_j2 (hostport_Name_L1 n) s6 r18))) else (some true)

def hostport_Name (x_s : Str) : Option Bool :=
  if (x_s == []) then (some false) else (hostport_Name_L1 fuel x_s)

def hostport_of_j2 (i24 : Int) (s25 : Str) : Option (api_Host × Bool) :=
  some (((⟨i24, s25, (-1)⟩ : api_Host), !(i24 == 0)))

def hostport_of_j1 (x_s : Str) (t14 : Bool) : Option (api_Host × Bool) :=
  if t14 then ((iSub (x_s.length : Int) 1).bind fun i16 =>
  (sSub x_s 1 i16).bind fun s17 =>
  hostport_of_j2 3 s17) else ((hostport_Four x_s).bind fun r18 =>
  if r18 then (hostport_of_j2 2 x_s) else ((hostport_Name x_s).bind fun r21 =>
  if r21 then (hostport_of_j2 1 x_s) else (hostport_of_j2 0 x_s)))

def hostport_of (x_s : Str) : Option (api_Host × Bool) :=
  if (decide (2 < (x_s.length : Int))) then ((sAt x_s 0).bind fun b6 =>
  if (b6 == 91) then ((iSub (x_s.length : Int) 1).bind fun i8 =>
  (sAt x_s i8).bind fun b9 =>
  if (b9 == 93) then ((iSub (x_s.length : Int) 1).bind fun i11 =>
  (sSub x_s 1 i11).bind fun s12 =>
  (hostport_Six s12).bind fun r13 =>
  hostport_of_j1 x_s r13) else (hostport_of_j1 x_s false)) else (hostport_of_j1 x_s false)) else (hostport_of_j1 x_s false)

def bytealg_LastIndexByteString_L1 (x_s : Str) (x_c : UInt8) : Nat → Int → Option Int
  | 0, _ => none
  | n + 1, i4 =>
  if (decide (0 ≤ i4)) then ((sAt x_s i4).bind fun b8 =>
  if (b8 == x_c) then (some i4) else ((iSub i4 1).bind fun i13 =>
  (bytealg_LastIndexByteString_L1 x_s x_c n) i13)) else (some (-1))

def bytealg_LastIndexByteString (x_s : Str) (x_c : UInt8) : Option Int :=
  (iSub (x_s.length : Int) 1).bind fun i2 =>
  bytealg_LastIndexByteString_L1 x_s x_c fuel i2

def strings_LastIndexByte (x_s : Str) (x_c : UInt8) : Option Int :=
  (bytealg_LastIndexByteString x_s x_c).bind fun r2 =>
  some r2

def hostport_Parse_j1 (x_s : Str) (r10 : Int) (r17 : api_Host × Bool) (t24 : Bool) : Option (api_Host × Int) :=
  if t24 then (some (((⟨0, [], 0⟩ : api_Host), 27))) else ((iAdd r10 1).bind fun i28 =>
  (sFrom x_s i28).bind fun s29 =>
  (numeral_Decimal s29 65535).bind fun r30 =>
  some (((⟨r17.1.Kind, r17.1.Name, r30.1⟩ : api_Host), 0)))

def hostport_Parse (x_s : Str) : Option (api_Host × Int) :=
  (hostport_of x_s).bind fun r3 =>
  if r3.2 then (some (r3.1, 0)) else ((strings_LastIndexByte x_s 58).bind fun r10 =>
  if (decide (r10 < 0)) then (some (((⟨0, [], 0⟩ : api_Host), 27))) else ((sTo x_s r10).bind fun s16 =>
  (hostport_of s16).bind fun r17 =>
  if (!r17.2) then (hostport_Parse_j1 x_s r10 r17 true) else ((iAdd r10 1).bind fun i21 =>
  (sFrom x_s i21).bind fun s22 =>
  (hostport_small s22 65535).bind fun r23 =>
  hostport_Parse_j1 x_s r10 r17 (!r23))))

def strings_ContainsAny (x_s : Str) (x_chars : Str) : Option Bool :=
  (strings_IndexAny x_s x_chars).bind fun r2 =>
  some (decide (0 ≤ r2))

def via_reader_by_j1 (x_v : api_Via) (r3 : Str × scan_Scanner) (t13 : Bool) : Option (Bool × scan_Scanner × api_Via) :=
  some ((t13, r3.2, (⟨x_v.Proto, x_v.Version, r3.1, x_v.Comment⟩ : api_Via)))

def via_reader_by (x_r : via_reader) (x_v : api_Via) : Option (Bool × scan_Scanner × api_Via) :=
  (scan_Scanner_While x_r.Scanner via_reader_by_1).bind fun r3 =>
  (hostport_Parse r3.1).bind fun r6 =>
  (octet_Token r3.1).bind fun r9 =>
  if r9 then (via_reader_by_j1 x_v r3 true) else (if (r6.2 == 0) then ((strings_ContainsAny r3.1 [44, 40, 41]).bind fun r12 =>
  via_reader_by_j1 x_v r3 (!r12)) else (via_reader_by_j1 x_v r3 false))

def stringslite_HasPrefix_j1 (t4 : Bool) : Option Bool :=
  some t4

def stringslite_HasPrefix (x_s : Str) (x_prefix : Str) : Option Bool :=
  if (decide ((x_prefix.length : Int) ≤ (x_s.length : Int))) then ((sTo x_s (x_prefix.length : Int)).bind fun s3 =>
  stringslite_HasPrefix_j1 (s3 == x_prefix)) else (stringslite_HasPrefix_j1 false)

def stringslite_CutPrefix (x_s : Str) (x_prefix : Str) : Option (Str × Bool) :=
  (stringslite_HasPrefix x_s x_prefix).bind fun r2 =>
  if (!r2) then (some (x_s, false)) else ((sFrom x_s (x_prefix.length : Int)).bind fun s7 =>
  some (s7, true))

def strings_CutPrefix (x_s : Str) (x_prefix : Str) : Option (Str × Bool) :=
  (stringslite_CutPrefix x_s x_prefix).bind fun r2 =>
  some (r2.1, r2.2)

def stringslite_HasSuffix_j1 (t5 : Bool) : Option Bool :=
  some t5

def stringslite_HasSuffix (x_s : Str) (x_suffix : Str) : Option Bool :=
  if (decide ((x_suffix.length : Int) ≤ (x_s.length : Int))) then ((iSub (x_s.length : Int) (x_suffix.length : Int)).bind fun i3 =>
  (sFrom x_s i3).bind fun s4 =>
  stringslite_HasSuffix_j1 (s4 == x_suffix)) else (stringslite_HasSuffix_j1 false)

def stringslite_CutSuffix (x_s : Str) (x_suffix : Str) : Option (Str × Bool) :=
  (stringslite_HasSuffix x_s x_suffix).bind fun r2 =>
  if (!r2) then (some (x_s, false)) else ((iSub (x_s.length : Int) (x_suffix.length : Int)).bind fun i7 =>
  (sTo x_s i7).bind fun s8 =>
  some (s8, true))

def strings_CutSuffix (x_s : Str) (x_suffix : Str) : Option (Str × Bool) :=
  (stringslite_CutSuffix x_s x_suffix).bind fun r2 =>
  some (r2.1, r2.2)

def via_balanced_j3 (rec1 : Int → Int → Option Bool) (i20 : Int) (i21 : Int) (t23 : Bool) : Option Bool :=
  if t23 then (some false) else ((iAdd i21 1).bind fun i27 =>
  rec1 i20 i27)

def via_balanced_j2 (rec1 : Int → Int → Option Bool) (x_s : Str) (i20 : Int) (i21 : Int) : Option Bool :=
  if (decide (i20 < 0)) then (via_balanced_j3 rec1 i20 i21 true) else (via_balanced_j3 rec1 i20 i21 (decide ((x_s.length : Int) ≤ i21)))

def via_balanced_j4 (t32 : Bool) : Option Bool :=
  some t32

def via_balanced_L1 (x_s : Str) : Nat → Int → Int → Option Bool
  | 0, _, _ => none
  | n + 1, i4, i5 =>
  if (decide (i5 < (x_s.length : Int))) then ((sAt x_s i5).bind fun b9 =>
  if (b9 == 40) then ((iAdd i4 1).bind fun i13 =>
  via_balanced_j2 (via_balanced_L1 x_s n) x_s i13 i5) else (if (b9 == 41) then ((iSub i4 1).bind fun i16 =>
  via_balanced_j2 (via_balanced_L1 x_s n) x_s i16 i5) else (if (b9 == 92) then ((iAdd i5 1).bind fun i19 =>
  via_balanced_j2 (via_balanced_L1 x_s n) x_s i4 i19) else (via_balanced_j2 (via_balanced_L1 x_s n) x_s i4 i5)))) else (if (i4 == 0) then ((octet_All octet_IsValue ([x_s] : List Str)).bind fun r31 =>
  via_balanced_j4 r31) else (via_balanced_j4 false))

def via_balanced (x_s : Str) : Option Bool :=
  via_balanced_L1 x_s fuel 0 0

def via_reader_comment_j1 (x_r : via_reader) (x_v : api_Via) (r11 : Str × Bool) (t18 : Bool) : Option (Bool × scan_Scanner × api_Via) :=
  some ((t18, x_r.Scanner, (⟨x_v.Proto, x_v.Version, x_v.By, r11.1⟩ : api_Via)))

def via_reader_comment (x_r : via_reader) (x_v : api_Via) : Option (Bool × scan_Scanner × api_Via) :=
  (scan_Scanner_End x_r.Scanner).bind fun r3 =>
  if r3 then (some (true, x_r.Scanner, x_v)) else ((scan_Scanner_Rest x_r.Scanner).bind fun r8 =>
  (strings_CutPrefix r8 [32, 40]).bind fun r9 =>
  (strings_CutSuffix r9.1 [41]).bind fun r11 =>
  if r9.2 then (if r11.2 then (if (!(r11.1 == [])) then ((via_balanced r11.1).bind fun r17 =>
  via_reader_comment_j1 x_r x_v r11 r17) else (via_reader_comment_j1 x_r x_v r11 false)) else (via_reader_comment_j1 x_r x_v r11 false)) else (via_reader_comment_j1 x_r x_v r11 false))

def via_Parse_j1 (t20 : Bool) (s21 : Str) (i22 : Int) (s23 : Str) (s24 : Str) (s25 : Str) (s26 : Str) : Option (api_Via × Int) :=
  if t20 then (some (((⟨[], [], [], []⟩ : api_Via), 2))) else (some (((⟨s23, s24, s25, s26⟩ : api_Via), 0)))

def via_Parse (x_s : Str) : Option (api_Via × Int) :=
  (scan_New x_s).bind fun r3 =>
  (via_reader_protocol (⟨r3⟩ : via_reader) (⟨[], [], [], []⟩ : api_Via)).bind fun r9 =>
  if (!r9.1) then (via_Parse_j1 true r9.2.1.f_s r9.2.1.f_at r9.2.2.Proto r9.2.2.Version r9.2.2.By r9.2.2.Comment) else ((scan_Scanner_Byte r9.2.1 32).bind fun r12 =>
  if (!r12.1) then (via_Parse_j1 true r12.2.f_s r12.2.f_at r9.2.2.Proto r9.2.2.Version r9.2.2.By r9.2.2.Comment) else ((via_reader_by (⟨r12.2⟩ : via_reader) r9.2.2).bind fun r15 =>
  if (!r15.1) then (via_Parse_j1 true r15.2.1.f_s r15.2.1.f_at r15.2.2.Proto r15.2.2.Version r15.2.2.By r15.2.2.Comment) else ((via_reader_comment (⟨r15.2.1⟩ : via_reader) r15.2.2).bind fun r18 =>
  via_Parse_j1 (!r18.1) r18.2.1.f_s r18.2.1.f_at r18.2.2.Proto r18.2.2.Version r18.2.2.By r18.2.2.Comment)))

def via_List_L2 (rec1 : (List api_Via) → Int → Option (List api_Via × Int)) (i7 : Int) (r15 : List Str × Int) : Nat → (List api_Via) → Int → Option (List api_Via × Int)
  | 0, _, _ => none
  | n + 1, l26, i27 =>
  if (decide (i27 < (r15.1.length : Int))) then ((lAt r15.1 i27).bind fun x31 =>
  (via_Parse x31).bind fun r35 =>
  if (!(r35.2 == 0)) then (some ([], r35.2)) else (if fitsApp l26.length 1 64 then ((iAdd i27 1).bind fun i47 =>
  (via_List_L2 rec1 i7 r15 n) (l26 ++ [r35.1]) i47) else none)) else ((iAdd i7 1).bind fun i49 =>
  rec1 l26 i49)

def via_List_L1 (x_values : List Str) : Nat → (List api_Via) → Int → Option (List api_Via × Int)
  | 0, _, _ => none
  | n + 1, l6, i7 =>
  if (decide (i7 < (x_values.length : Int))) then ((lAt x_values i7).bind fun x11 =>
  (commas_Split x11).bind fun r15 =>
  if (!(r15.2 == 0)) then (some ([], r15.2)) else (via_List_L2 (via_List_L1 x_values n) i7 r15 fuel l6 0)) else (some (l6, 0))

def via_List (x_values : List Str) : Option (List api_Via × Int) :=
  via_List_L1 x_values fuel [] 0

def ref25_Same_L1 (x_a : List api_Via) (x_b : List api_Via) : Nat → Int → Option Bool
  | 0, _ => none
  | n + 1, i7 =>
  if (decide (i7 < (x_a.length : Int))) then ((lAt x_a i7).bind fun x11 =>
  (lAt x_b i7).bind fun x14 =>
  if (!(x11 == x14)) then (some false) else ((iAdd i7 1).bind fun i21 =>
  (ref25_Same_L1 x_a x_b n) i21)) else (some true)

def ref25_Same (x_a : List api_Via) (x_b : List api_Via) : Option Bool :=
  if (!((x_a.length : Int) == (x_b.length : Int))) then (some false) else (ref25_Same_L1 x_a x_b fuel 0)

def law25_awake_j1 (t10 : Bool) : Option Bool :=
  some t10

def law25_awake : Option Bool :=
  (via_List ([[49, 46, 49, 32, 97, 44, 32, 72, 84, 84, 80, 47, 49, 46, 48, 32, 98, 58, 56, 48, 32, 40, 120, 41]] : List Str)).bind fun r3 =>
  if (r3.2 == 0) then ((ref25_Same r3.1 ([(⟨[], [49, 46, 49], [97], []⟩ : api_Via), (⟨[72, 84, 84, 80], [49, 46, 48], [98, 58, 56, 48], [120]⟩ : api_Via)])).bind fun r9 =>
  law25_awake_j1 r9) else (law25_awake_j1 false)

def ref01_Unreserved (x_b : UInt8) : Option Bool :=
  (ref01_In x_b [97, 98, 99, 100, 101, 102, 103, 104, 105, 106, 107, 108, 109, 110, 111, 112, 113, 114, 115, 116, 117, 118, 119, 120, 121, 122, 65, 66, 67, 68, 69, 70, 71, 72, 73, 74, 75, 76, 77, 78, 79, 80, 81, 82, 83, 84, 85, 86, 87, 88, 89, 90, 48, 49, 50, 51, 52, 53, 54, 55, 56, 57, 45, 46, 95, 126]).bind fun r2 =>
  some r2

def ref01_Sub (x_b : UInt8) : Option Bool :=
  (ref01_In x_b [33, 36, 38, 39, 40, 41, 42, 43, 44, 59, 61]).bind fun r2 =>
  some r2

def ref08_Name_j4 (rec1 : Int → Option Bool) (i34 : Int) : Option Bool :=
  (iAdd i34 1).bind fun i35 =>
  rec1 i35

def ref08_Name_j2 (rec1 : Int → Option Bool) (i3 : Int) (t19 : Bool) : Option Bool :=
  if t19 then (some false) else ((iAdd i3 2).bind fun i23 =>
  ref08_Name_j4 rec1 i23)

def ref08_Name_j3 (rec1 : Int → Option Bool) (i3 : Int) (t31 : Bool) : Option Bool :=
  if t31 then (some false) else (ref08_Name_j4 rec1 i3)

def ref08_Name_L1 (x_s : Str) : Nat → Int → Option Bool
  | 0, _ => none
  | n + 1, i3 =>
  if (decide (i3 < (x_s.length : Int))) then ((sAt x_s i3).bind fun b7 =>
  if (b7 == 37) then ((iAdd i3 2).bind fun i10 =>
  if (decide ((x_s.length : Int) ≤ i10)) then (ref08_Name_j2 (ref08_Name_L1 x_s n) i3 true) else ((iAdd i3 1).bind fun i12 =>
  (sAt x_s i12).bind fun b13 =>
  (ref01_Hex b13).bind fun r14 =>
  if (!r14) then (ref08_Name_j2 (ref08_Name_L1 x_s n) i3 true) else ((iAdd i3 2).bind fun i16 =>
  (sAt x_s i16).bind fun b17 =>
  (ref01_Hex b17).bind fun r18 =>
  ref08_Name_j2 (ref08_Name_L1 x_s n) i3 (!r18)))) else ((sAt x_s i3).bind fun b26 =>
  (ref01_Unreserved b26).bind fun r27 =>
  if (!r27) then ((sAt x_s i3).bind fun b29 =>
  (ref01_Sub b29).bind fun r30 =>
  ref08_Name_j3 (ref08_Name_L1 x_s n) i3 (!r30)) else (ref08_Name_j3 (ref08_Name_L1 x_s n) i3 false))) else (some (decide (0 < (x_s.length : Int))))

def ref08_Name (x_s : Str) : Option Bool :=
  ref08_Name_L1 x_s fuel 0

def ref08_of_j1 (x_s : Str) (t12 : Bool) : Option api_Host :=
  if t12 then ((iSub (x_s.length : Int) 1).bind fun i14 =>
  (sSub x_s 1 i14).bind fun s15 =>
  some ((⟨3, s15, (-1)⟩ : api_Host))) else ((ref08_Four x_s).bind fun r18 =>
  if r18 then (some ((⟨2, x_s, (-1)⟩ : api_Host))) else ((ref08_Name x_s).bind fun r23 =>
  if r23 then (some ((⟨1, x_s, (-1)⟩ : api_Host))) else (some (⟨0, [], 0⟩ : api_Host))))

def ref08_of (x_s : Str) : Option api_Host :=
  if (decide (2 < (x_s.length : Int))) then ((sAt x_s 0).bind fun b4 =>
  if (b4 == 91) then ((iSub (x_s.length : Int) 1).bind fun i6 =>
  (sAt x_s i6).bind fun b7 =>
  if (b7 == 93) then ((iSub (x_s.length : Int) 1).bind fun i9 =>
  (sSub x_s 1 i9).bind fun s10 =>
  (ref08_Six s10).bind fun r11 =>
  ref08_of_j1 x_s r11) else (ref08_of_j1 x_s false)) else (ref08_of_j1 x_s false)) else (ref08_of_j1 x_s false)

def ref08_Parse_j2 (r21 : api_Host) (r25 : Int) (t28 : Bool) : Option (api_Host × Int) :=
  if t28 then (some (((⟨0, [], 0⟩ : api_Host), 27))) else (some (((⟨r21.Kind, r21.Name, r25⟩ : api_Host), 0)))

def ref08_Parse_L1 (x_s : Str) : Nat → Int → Option (api_Host × Int)
  | 0, _ => none
  | n + 1, i12 =>
  if (decide (0 ≤ i12)) then ((sAt x_s i12).bind fun b16 =>
  if (!(b16 == 58)) then ((iSub i12 1).bind fun i35 =>
  (ref08_Parse_L1 x_s n) i35) else ((sTo x_s i12).bind fun s20 =>
  (ref08_of s20).bind fun r21 =>
  (iAdd i12 1).bind fun i23 =>
  (sFrom x_s i23).bind fun s24 =>
  (ref08_Small s24 65535).bind fun r25 =>
  if (r21.Kind == 0) then (ref08_Parse_j2 r21 r25 true) else (ref08_Parse_j2 r21 r25 (decide (r25 < 0))))) else (some (((⟨0, [], 0⟩ : api_Host), 27)))

def ref08_Parse (x_s : Str) : Option (api_Host × Int) :=
  (ref08_of x_s).bind fun r3 =>
  if (!(r3.Kind == 0)) then (some (r3, 0)) else ((iSub (x_s.length : Int) 1).bind fun i10 =>
  ref08_Parse_L1 x_s fuel i10)

def ref25_comma_j2 (rec1 : Int → Option Bool) (i3 : Int) (t12 : Bool) : Option Bool :=
  if t12 then (some true) else ((iAdd i3 1).bind fun i16 =>
  rec1 i16)

def ref25_comma_L1 (x_s : Str) : Nat → Int → Option Bool
  | 0, _ => none
  | n + 1, i3 =>
  if (decide (i3 < (x_s.length : Int))) then ((sAt x_s i3).bind fun b7 =>
  if (b7 == 44) then (ref25_comma_j2 (ref25_comma_L1 x_s n) i3 true) else ((sAt x_s i3).bind fun b9 =>
  if (b9 == 40) then (ref25_comma_j2 (ref25_comma_L1 x_s n) i3 true) else ((sAt x_s i3).bind fun b11 =>
  ref25_comma_j2 (ref25_comma_L1 x_s n) i3 (b11 == 41)))) else (some false)

def ref25_comma (x_s : Str) : Option Bool :=
  ref25_comma_L1 x_s fuel 0

def ref25_Comment_j5 (rec1 : Int → Int → Option Bool) (i41 : Int) (i42 : Int) : Option Bool :=
  (iAdd i42 1).bind fun i43 =>
  rec1 i41 i43

def ref25_Comment_j2 (rec1 : Int → Int → Option Bool) (i4 : Int) (i18 : Int) (t23 : Bool) : Option Bool :=
  if t23 then (some false) else (ref25_Comment_j5 rec1 i4 i18)

def ref25_Comment_j4 (rec1 : Int → Int → Option Bool) (i5 : Int) (i37 : Int) : Option Bool :=
  if (decide (i37 < 0)) then (some false) else (ref25_Comment_j5 rec1 i37 i5)

def ref25_Comment_j3 (rec1 : Int → Int → Option Bool) (x_s : Str) (i5 : Int) (i32 : Int) : Option Bool :=
  (sAt x_s i5).bind fun b33 =>
  if (b33 == 41) then ((iSub i32 1).bind fun i36 =>
  ref25_Comment_j4 rec1 i5 i36) else (ref25_Comment_j4 rec1 i5 i32)

def ref25_Comment_L1 (x_s : Str) : Nat → Int → Int → Option Bool
  | 0, _, _ => none
  | n + 1, i4, i5 =>
  if (decide (i5 < (x_s.length : Int))) then ((sAt x_s i5).bind fun b9 =>
  (ref01_Value b9).bind fun r10 =>
  if (!r10) then (some false) else ((sAt x_s i5).bind fun b15 =>
  if (b15 == 92) then ((iAdd i5 1).bind fun i18 =>
  if (i18 == (x_s.length : Int)) then (ref25_Comment_j2 (ref25_Comment_L1 x_s n) i4 i18 true) else ((sAt x_s i18).bind fun b21 =>
  (ref01_Value b21).bind fun r22 =>
  ref25_Comment_j2 (ref25_Comment_L1 x_s n) i4 i18 (!r22))) else ((sAt x_s i5).bind fun b28 =>
  if (b28 == 40) then ((iAdd i4 1).bind fun i31 =>
  ref25_Comment_j3 (ref25_Comment_L1 x_s n) x_s i5 i31) else (ref25_Comment_j3 (ref25_Comment_L1 x_s n) x_s i5 i4)))) else (some (i4 == 0))

def ref25_Comment (x_s : Str) : Option Bool :=
  ref25_Comment_L1 x_s fuel 0 0

def ref25_Parse_j7 (s28 : Str) (s45 : Str) (s46 : Str) (s77 : Str) (t89 : Bool) : Option (api_Via × Int) :=
  if t89 then (some (((⟨[], [], [], []⟩ : api_Via), 2))) else ((iSub (s77.length : Int) 1).bind fun i93 =>
  (sSub s77 1 i93).bind fun s94 =>
  some (((⟨s45, s46, s28, s94⟩ : api_Via), 0)))

def ref25_Parse_j6 (x_a0 : Str) (i18 : Int) (s28 : Str) (s45 : Str) (s46 : Str) (t68 : Bool) : Option (api_Via × Int) :=
  if t68 then (some (((⟨[], [], [], []⟩ : api_Via), 2))) else (if (i18 == (x_a0.length : Int)) then (some (((⟨s45, s46, s28, []⟩ : api_Via), 0))) else ((iAdd i18 1).bind fun i76 =>
  (sFrom x_a0 i76).bind fun s77 =>
  if (decide ((s77.length : Int) < 3)) then (ref25_Parse_j7 s28 s45 s46 s77 true) else ((sAt s77 0).bind fun b81 =>
  if (!(b81 == 40)) then (ref25_Parse_j7 s28 s45 s46 s77 true) else ((iSub (s77.length : Int) 1).bind fun i83 =>
  (sAt s77 i83).bind fun b84 =>
  if (!(b84 == 41)) then (ref25_Parse_j7 s28 s45 s46 s77 true) else ((iSub (s77.length : Int) 1).bind fun i86 =>
  (sSub s77 1 i86).bind fun s87 =>
  (ref25_Comment s87).bind fun r88 =>
  ref25_Parse_j7 s28 s45 s46 s77 (!r88))))))

def ref25_Parse_j5 (x_a0 : Str) (i18 : Int) (s28 : Str) (r32 : List Str) (s45 : Str) (s46 : Str) : Option (api_Via × Int) :=
  (ref08_Parse s28).bind fun r47 =>
  if (decide (2 < (r32.length : Int))) then (ref25_Parse_j6 x_a0 i18 s28 s45 s46 true) else (if ((r32.length : Int) == 2) then ((ref01_Token s45).bind fun r52 =>
  if (!r52) then (ref25_Parse_j6 x_a0 i18 s28 s45 s46 true) else ((ref01_Token s46).bind fun r54 =>
  if (!r54) then (ref25_Parse_j6 x_a0 i18 s28 s45 s46 true) else (if (!(r47.2 == 0)) then ((ref01_Token s28).bind fun r57 =>
  ref25_Parse_j6 x_a0 i18 s28 s45 s46 (!r57)) else ((ref25_comma s28).bind fun r58 =>
  if r58 then ((ref01_Token s28).bind fun r60 =>
  ref25_Parse_j6 x_a0 i18 s28 s45 s46 (!r60)) else (ref25_Parse_j6 x_a0 i18 s28 s45 s46 false))))) else ((ref01_Token s46).bind fun r61 =>
  if (!r61) then (ref25_Parse_j6 x_a0 i18 s28 s45 s46 true) else (if (!(r47.2 == 0)) then ((ref01_Token s28).bind fun r64 =>
  ref25_Parse_j6 x_a0 i18 s28 s45 s46 (!r64)) else ((ref25_comma s28).bind fun r65 =>
  if r65 then ((ref01_Token s28).bind fun r67 =>
  ref25_Parse_j6 x_a0 i18 s28 s45 s46 (!r67)) else (ref25_Parse_j6 x_a0 i18 s28 s45 s46 false)))))

def ref25_Parse_j4 (rec3 : Int → Option (api_Via × Int)) (x_a0 : Str) (i4 : Int) (i18 : Int) (t21 : Bool) : Option (api_Via × Int) :=
  if t21 then ((iAdd i18 1).bind fun i24 =>
  rec3 i24) else ((sTo x_a0 i4).bind fun s26 =>
  (iAdd i4 1).bind fun i27 =>
  (sSub x_a0 i27 i18).bind fun s28 =>
  (sTo x_a0 i4).bind fun s31 =>
  (ref08_Parts s31 47).bind fun r32 =>
  if ((r32.length : Int) == 2) then ((lAt r32 0).bind fun x38 =>
  (lAt r32 1).bind fun x42 =>
  ref25_Parse_j5 x_a0 i18 s28 r32 x38 x42) else (ref25_Parse_j5 x_a0 i18 s28 r32 [] s26))

def ref25_Parse_L3 (x_a0 : Str) (i4 : Int) : Nat → Int → Option (api_Via × Int)
  | 0, _ => none
  | n + 1, i18 =>
  if (decide (i18 < (x_a0.length : Int))) then ((sAt x_a0 i18).bind fun b20 =>
  ref25_Parse_j4 (ref25_Parse_L3 x_a0 i4 n) x_a0 i4 i18 (!(b20 == 32))) else (ref25_Parse_j4 (ref25_Parse_L3 x_a0 i4 n) x_a0 i4 i18 false)

def ref25_Parse_j2 (rec1 : Int → Option (api_Via × Int)) (x_a0 : Str) (i4 : Int) (t7 : Bool) : Option (api_Via × Int) :=
  if t7 then ((iAdd i4 1).bind fun i10 =>
  rec1 i10) else (if (i4 == (x_a0.length : Int)) then (some (((⟨[], [], [], []⟩ : api_Via), 2))) else ((iAdd i4 1).bind fun i16 =>
  ref25_Parse_L3 x_a0 i4 fuel i16))

def ref25_Parse_L1 (x_a0 : Str) : Nat → Int → Option (api_Via × Int)
  | 0, _ => none
  | n + 1, i4 =>
  if (decide (i4 < (x_a0.length : Int))) then ((sAt x_a0 i4).bind fun b6 =>
  ref25_Parse_j2 (ref25_Parse_L1 x_a0 n) x_a0 i4 (!(b6 == 32))) else (ref25_Parse_j2 (ref25_Parse_L1 x_a0 n) x_a0 i4 false)

def ref25_Parse (x_a0 : Str) : Option (api_Via × Int) :=
  ref25_Parse_L1 x_a0 fuel 0

def via_Text_j3 (r23 : Str) (t29 : Bool) : Option (Str × Int) :=
  if t29 then (some ([], 2)) else (some (r23, 0))

def via_Text_j2 (x_v : api_Via) (l22 : List Str) : Option (Str × Int) :=
  (quill_Join [] l22).bind fun r23 =>
  (via_Parse r23).bind fun r25 =>
  if (!(r25.2 == 0)) then (via_Text_j3 r23 true) else (via_Text_j3 r23 (!(r25.1 == x_v)))

def via_Text_j1 (x_v : api_Via) (l13 : List Str) : Option (Str × Int) :=
  if (!(x_v.Comment == [])) then (if fitsApp l13.length 3 16 then (via_Text_j2 x_v (l13 ++ ([[32, 40], x_v.Comment, [41]] : List Str))) else none) else (via_Text_j2 x_v l13)

def via_Text (x_v : api_Via) : Option (Str × Int) :=
  if (!(x_v.Proto == [])) then (if fitsApp (([x_v.Proto, [47]] : List Str).length) 3 16 then (via_Text_j1 x_v (([x_v.Proto, [47]] : List Str) ++ ([x_v.Version, [32], x_v.By] : List Str))) else none) else (via_Text_j1 x_v ([x_v.Version, [32], x_v.By] : List Str))

def law25_few_j2 (s22 : Str) (s23 : Str) (s24 : Str) (s25 : Str) : Option api_Via :=
  some (⟨s22, s23, s24, s25⟩ : api_Via)

def law25_few_L1 : Nat → Str → Str → Str → Str → Int → Option api_Via
  | 0, _, _, _, _, _ => none
  | n + 1, s7, s8, s9, s10, i11 =>
  if (decide (i11 < 4)) then ((lAt [s7, s8, s9, s10] i11).bind fun x15 =>
  (lAt [s7, s8, s9, s10] i11).bind fun x16 =>
  (sTo x15 (min (x16.length : Int) 60)).bind fun s17 =>
  (lAt [s7, s8, s9, s10] i11).bind fun x18 =>
  ((lSet [s7, s8, s9, s10] i11 s17).bind tup4).bind fun r19 =>
  (iAdd i11 1).bind fun i21 =>
  (law25_few_L1 n) r19.1 r19.2.1 r19.2.2.1 r19.2.2.2 i21) else (law25_few_j2 s7 s8 s9 s10)

def law25_few (x_v : api_Via) : Option api_Via :=
  law25_few_L1 fuel x_v.Proto x_v.Version x_v.By x_v.Comment 0

def ref25_Text_j3 (s16 : Str) (t21 : Bool) : Option (Str × Int) :=
  if t21 then (some ([], 2)) else (some (s16, 0))

def ref25_Text_j2 (x_v : api_Via) (s16 : Str) : Option (Str × Int) :=
  (ref25_Parse s16).bind fun r17 =>
  if (!(r17.2 == 0)) then (ref25_Text_j3 s16 true) else (ref25_Text_j3 s16 (!(r17.1 == x_v)))

def ref25_Text_j1 (x_v : api_Via) (s10 : Str) : Option (Str × Int) :=
  if (!(x_v.Comment == [])) then ((sCat s10 [32, 40]).bind fun s13 =>
  (sCat s13 x_v.Comment).bind fun s14 =>
  (sCat s14 [41]).bind fun s15 =>
  ref25_Text_j2 x_v s15) else (ref25_Text_j2 x_v s10)

def ref25_Text (x_v : api_Via) : Option (Str × Int) :=
  (sCat x_v.Version [32]).bind fun s3 =>
  (sCat s3 x_v.By).bind fun s4 =>
  if (!(x_v.Proto == [])) then ((sCat x_v.Proto [47]).bind fun s8 =>
  (sCat s8 s4).bind fun s9 =>
  ref25_Text_j1 x_v s9) else (ref25_Text_j1 x_v s4)

def law25_ViaWrites_j1 (t21 : Bool) : Option Bool :=
  some t21

def law25_ViaWrites (x_v : api_Via) : Option Bool :=
  (law25_awake).bind fun r3 =>
  if (!r3) then (some false) else ((law25_few x_v).bind fun r8 =>
  (via_Text r8).bind fun r10 =>
  (ref25_Text r8).bind fun r12 =>
  (via_Parse r10.1).bind fun r14 =>
  if (r10.1 == r12.1) then (if (r10.2 == r12.2) then (if (!(r10.2 == 0)) then (law25_ViaWrites_j1 true) else (if (r14.2 == 0) then (law25_ViaWrites_j1 (r14.1 == r8)) else (law25_ViaWrites_j1 false))) else (law25_ViaWrites_j1 false)) else (law25_ViaWrites_j1 false))

end Go.Dm
