/-
  The models of the functions: written by a program (wip/gen) off the translation. No program in sight.
-/
import Derived.Test.YtnfkbhocbdheaabGreatDoorPrim
import Derived.Lib.ItoaNum
import Derived.Lib.SplitLaws
import Derived.Lib.SlTrimSet
import Derived.Lib.Join
import Derived.Lib.IndexMore
set_option linter.unusedVariables false
set_option maxRecDepth 10000
namespace Go.Dm
structure scan_Scanner where
  f_s : Str
  f_at : Int
deriving DecidableEq
structure api_Field where
  Name : Str
  Value : Str
deriving DecidableEq
structure commas_splitter where
  Scanner : scan_Scanner
  f_out : List Str
  f_from : Int
  f_s : Str
deriving DecidableEq
structure quoted_reader where
  Scanner : scan_Scanner
  f_out : List UInt8
deriving DecidableEq
structure bag_Bag where
  f_l : List api_Field
deriving DecidableEq
/-- Does a text begin with another one? -/
def begins : Str → Str → Bool
  | _, [] => true
  | [], _ :: _ => false
  | x :: s, y :: t => x == y && begins s t
def idxStr : Str → Str → Nat → Int
  | s, t, k => if begins s t then (k : Int) else match s with
    | [] => -1
    | _ :: s => idxStr s t (k + 1)
def strings_Index (s t : Str) : Option Int := if s.length < 4294967281 then some (idxStr s t 0) else none
def strings_Cut (s t : Str) : Option (Str × Str × Bool) := if s.length < 4294967281 then some (Go.Lib.cut s t) else none
/-- At the bytes of a separator that is not empty. -/
def strings_Split (s sep : Str) : Option (List Str) := if s.length < 4294967281 ∧ 1 ≤ sep.length then some (Go.Lib.splitK sep 0 (Go.Lib.countB ⟨s.toArray⟩ ⟨sep.toArray⟩) s) else none
/-- What of a text stands between a byte and the next one. -/
def splitOn (c : UInt8) : Str → List Str
  | [] => [[]]
  | x :: s => if x = c then [] :: splitOn c s else match splitOn c s with
    | [] => [[x]]
    | h :: t => (x :: h) :: t
def strconv_FormatInt (n b : Int) : Option Str := if inI n = true ∧ b = 10 then some (Go.Lib.itoa n) else none
def strings_Trim (s cs : Str) : Option Str := if s.length < 4294967281 ∧ cs.length < 4294967281 ∧ cs.all (fun c => c.toNat < 128) then some (Go.Lib.trimS s cs) else none
def strings_TrimRight (s cs : Str) : Option Str := if s.length < 4294967281 ∧ cs.length < 4294967281 ∧ cs.all (fun c => c.toNat < 128) then some (Go.Lib.trimRightS s cs) else none
def strings_Join (l : List Str) (sep : Str) : Option Str := if l.length ≤ 140737488355328 ∧ (Go.Lib.join l sep).length ≤ 140737488355328 then some (Go.Lib.join l sep) else none
def scan_New (x_s : Str) : Option scan_Scanner :=
  some (⟨x_s, 0⟩ : scan_Scanner)

def scan_Scanner_Rest (x_c : scan_Scanner) : Option Str :=
  (sFrom x_c.f_s x_c.f_at).bind fun s4 =>
  some s4

def stringslite_HasPrefix_j1 (t4 : Bool) : Option Bool :=
  some t4

def stringslite_HasPrefix (x_s : Str) (x_prefix : Str) : Option Bool :=
  if (decide ((x_prefix.length : Int) ≤ (x_s.length : Int))) then ((sTo x_s (x_prefix.length : Int)).bind fun s3 =>
  stringslite_HasPrefix_j1 (s3 == x_prefix)) else (stringslite_HasPrefix_j1 false)

def scan_Scanner_End (x_c : scan_Scanner) : Option Bool :=
  (scan_Scanner_Rest x_c).bind fun r2 =>
  some (r2 == [])

def scan_Scanner_Peek (x_c : scan_Scanner) : Option (UInt8 × Bool) :=
  (scan_Scanner_End x_c).bind fun r2 =>
  if r2 then (some (0, false)) else ((sAt x_c.f_s x_c.f_at).bind fun b7 =>
  some (b7, true))

def octet_IsDigit_j1 (t3 : Bool) : Option Bool :=
  some t3

def octet_IsDigit (x_b : UInt8) : Option Bool :=
  if (decide (48 ≤ x_b)) then (octet_IsDigit_j1 (decide (x_b ≤ 57))) else (octet_IsDigit_j1 false)

def scan_Scanner_Byte_j1 (x_c : scan_Scanner) (t5 : Bool) : Option (Bool × scan_Scanner) :=
  if t5 then (some (false, x_c)) else ((iAdd x_c.f_at 1).bind fun i9 =>
  some ((true, (⟨x_c.f_s, i9⟩ : scan_Scanner))))

def scan_Scanner_Byte (x_c : scan_Scanner) (x_b : UInt8) : Option (Bool × scan_Scanner) :=
  (scan_Scanner_Peek x_c).bind fun r2 =>
  if (!r2.2) then (scan_Scanner_Byte_j1 x_c true) else (scan_Scanner_Byte_j1 x_c (!(r2.1 == x_b)))

def scan_Scanner_At (x_c : scan_Scanner) : Option Int :=
  some x_c.f_at

def octet_Lower_j1 (x_b : UInt8) (t3 : Bool) : Option UInt8 :=
  if t3 then (some (x_b + 32)) else (some x_b)

def octet_Lower (x_b : UInt8) : Option UInt8 :=
  if (decide (65 ≤ x_b)) then (octet_Lower_j1 x_b (decide (x_b ≤ 90))) else (octet_Lower_j1 x_b false)

def octet_All_L2 (rec1 : Int → Option Bool) (x_is : UInt8 → Option Bool) (i3 : Int) (x7 : Str) : Nat → Int → Option Bool
  | 0, _ => none
  | n + 1, i12 =>
  if (decide (i12 < (x7.length : Int))) then ((sAt x7 i12).bind fun b17 =>
  (x_is b17).bind fun r18 =>
  if (!r18) then (some false) else ((iAdd i12 1).bind fun i23 =>
  (octet_All_L2 rec1 x_is i3 x7 n) i23)) else ((iAdd i3 1).bind fun i25 =>
  rec1 i25)

def octet_All_L1 (x_is : UInt8 → Option Bool) (x_l : List Str) : Nat → Int → Option Bool
  | 0, _ => none
  | n + 1, i3 =>
  if (decide (i3 < (x_l.length : Int))) then ((lAt x_l i3).bind fun x7 =>
  octet_All_L2 (octet_All_L1 x_is x_l n) x_is i3 x7 fuel 0) else (some true)

def octet_All (x_is : UInt8 → Option Bool) (x_l : List Str) : Option Bool :=
  octet_All_L1 x_is x_l fuel 0

def numeral_worth (x_b : UInt8) : Option Int :=
  (octet_IsDigit x_b).bind fun r2 =>
  if r2 then (some (((x_b - 48).toNat : Int))) else ((octet_Lower x_b).bind fun r7 =>
  (iAdd (((r7 - 97).toNat : Int)) 10).bind fun i8 =>
  some i8)

def numeral_read_j3 (rec2 : Int → Int → Option (Int × Int)) (x_base : Int) (i11 : Int) (i12 : Int) (r18 : Int) (t23 : Bool) : Option (Int × Int) :=
  if t23 then (some (0, 7)) else ((iMul i11 x_base).bind fun i27 =>
  (iAdd i27 r18).bind fun i28 =>
  (iAdd i12 1).bind fun i30 =>
  rec2 i28 i30)

def numeral_read_L2 (x_s : Str) (x_base : Int) (x_most : Int) : Nat → Int → Int → Option (Int × Int)
  | 0, _, _ => none
  | n + 1, i11, i12 =>
  if (decide (i12 < (x_s.length : Int))) then ((sAt x_s i12).bind fun b17 =>
  (numeral_worth b17).bind fun r18 =>
  if (decide (x_most < r18)) then (numeral_read_j3 (numeral_read_L2 x_s x_base x_most n) x_base i11 i12 r18 true) else ((iSub x_most r18).bind fun i21 =>
  (iDiv i21 x_base).bind fun i22 =>
  numeral_read_j3 (numeral_read_L2 x_s x_base x_most n) x_base i11 i12 r18 (decide (i22 < i11)))) else (some (i11, 0))

def numeral_read_j1 (x_s : Str) (x_base : Int) (x_most : Int) (t5 : Bool) : Option (Int × Int) :=
  if t5 then (some (0, 2)) else (numeral_read_L2 x_s x_base x_most fuel 0 0)

def numeral_read (x_s : Str) (x_base : Int) (x_most : Int) (x_is : UInt8 → Option Bool) : Option (Int × Int) :=
  if (x_s == []) then (numeral_read_j1 x_s x_base x_most true) else ((octet_All x_is [x_s]).bind fun r4 =>
  numeral_read_j1 x_s x_base x_most (!r4))

def numeral_Decimal (x_s : Str) (x_most : Int) : Option (Int × Int) :=
  (numeral_read x_s 10 x_most octet_IsDigit).bind fun r2 =>
  some (r2.1, r2.2)

def numeral_text (x_n : Int) (x_base : Int) : Option Str :=
  if (decide (x_n < 0)) then (some []) else ((strconv_FormatInt x_n x_base).bind fun r6 =>
  some r6)

def numeral_Text (x_n : Int) : Option Str :=
  (numeral_text x_n 10).bind fun r2 =>
  some r2

def hostport_small_j1 (t6 : Bool) : Option Bool :=
  some t6

def hostport_small (x_s : Str) (x_most : Int) : Option Bool :=
  (numeral_Decimal x_s x_most).bind fun r2 =>
  if (r2.2 == 0) then ((numeral_Text r2.1).bind fun r5 =>
  hostport_small_j1 (r5 == x_s)) else (hostport_small_j1 false)

def hostport_Four (s : Str) : Option Bool := if s.length < 1000000000 then ((splitOn 46 s).mapM (fun x => hostport_small x 255)).bind fun bs => some (bs.all id && decide ((bs.length : Int) = 4)) else none

def octet_IsHex_j1 (t7 : Bool) : Option Bool :=
  some t7

def octet_IsHex (x_b : UInt8) : Option Bool :=
  (octet_IsDigit x_b).bind fun r2 =>
  if r2 then (octet_IsHex_j1 true) else ((octet_Lower x_b).bind fun r4 =>
  if (decide (97 ≤ r4)) then ((octet_Lower x_b).bind fun r6 =>
  octet_IsHex_j1 (decide (r6 ≤ 102))) else (octet_IsHex_j1 false))

def hostport_groups_j4 (rec1 : Int → Int → Option Int) (i13 : Int) (i36 : Int) : Option Int :=
  (iAdd i13 1).bind fun i37 =>
  rec1 i36 i37

def hostport_groups_j3 (rec1 : Int → Int → Option Int) (i12 : Int) (i13 : Int) (t32 : Bool) : Option Int :=
  if t32 then ((iAdd i12 1).bind fun i34 =>
  hostport_groups_j4 rec1 i13 i34) else (some (-1))

def hostport_groups_j2 (rec1 : Int → Int → Option Int) (i12 : Int) (i13 : Int) (x17 : Str) (t25 : Bool) : Option Int :=
  if t25 then ((iAdd i12 2).bind fun i27 =>
  hostport_groups_j4 rec1 i13 i27) else (if (decide (1 ≤ (x17.length : Int))) then (if (decide ((x17.length : Int) ≤ 4)) then ((octet_All octet_IsHex [x17]).bind fun r31 =>
  hostport_groups_j3 rec1 i12 i13 r31) else (hostport_groups_j3 rec1 i12 i13 false)) else (hostport_groups_j3 rec1 i12 i13 false))

def hostport_groups_L1 (x_last : Bool) (r6 : List Str) : Nat → Int → Int → Option Int
  | 0, _, _ => none
  | n + 1, i12, i13 =>
  if (decide (i13 < (r6.length : Int))) then ((lAt r6 i13).bind fun x17 =>
  if x_last then ((iSub (r6.length : Int) 1).bind fun i22 =>
  if (i13 == i22) then ((hostport_Four x17).bind fun r24 =>
  hostport_groups_j2 (hostport_groups_L1 x_last r6 n) i12 i13 x17 r24) else (hostport_groups_j2 (hostport_groups_L1 x_last r6 n) i12 i13 x17 false)) else (hostport_groups_j2 (hostport_groups_L1 x_last r6 n) i12 i13 x17 false)) else (some i12)

def hostport_groups (x_s : Str) (x_last : Bool) : Option Int :=
  if (x_s == []) then (some 0) else ((strings_Split x_s [58]).bind fun r6 =>
  hostport_groups_L1 x_last r6 fuel 0 0)

def hostport_Six_j1 (t15 : Bool) : Option Bool :=
  some t15

def hostport_Six (x_s : Str) : Option Bool :=
  (strings_Cut x_s [58, 58]).bind fun r2 =>
  if (!r2.2.2) then ((hostport_groups x_s true).bind fun r6 =>
  some (r6 == 8)) else ((hostport_groups r2.1 false).bind fun r9 =>
  (hostport_groups r2.2.1 true).bind fun r10 =>
  if (decide (0 ≤ r9)) then (if (decide (0 ≤ r10)) then ((iAdd r9 r10).bind fun i14 =>
  hostport_Six_j1 (decide (i14 ≤ 7))) else (hostport_Six_j1 false)) else (hostport_Six_j1 false))

def octet_Fold (s : Str) : Option Str := if s.length < 4294967281 then s.mapM octet_Lower else none

def octet_IsVisible_j1 (t3 : Bool) : Option Bool :=
  some t3

def octet_IsVisible (x_b : UInt8) : Option Bool :=
  if (decide (32 < x_b)) then (octet_IsVisible_j1 (decide (x_b < 127))) else (octet_IsVisible_j1 false)

def octet_IsBlank_j1 (t3 : Bool) : Option Bool :=
  some t3

def octet_IsBlank (x_b : UInt8) : Option Bool :=
  if (x_b == 32) then (octet_IsBlank_j1 true) else (octet_IsBlank_j1 (x_b == 9))

def octet_IsValue_j1 (t6 : Bool) : Option Bool :=
  some t6

def octet_IsValue (x_b : UInt8) : Option Bool :=
  (octet_IsVisible x_b).bind fun r2 =>
  if r2 then (octet_IsValue_j1 true) else ((octet_IsBlank x_b).bind fun r4 =>
  if r4 then (octet_IsValue_j1 true) else (octet_IsValue_j1 (decide (127 < x_b))))

def ref08_Parts_j2 (rec1 : (List Str) → Int → Int → Option (List Str)) (i9 : Int) (l25 : List Str) (i26 : Int) : Option (List Str) :=
  (iAdd i9 1).bind fun i27 =>
  rec1 l25 i26 i27

def ref08_Parts_L1 (x_s : Str) (x_c : UInt8) : Nat → (List Str) → Int → Int → Option (List Str)
  | 0, _, _, _ => none
  | n + 1, l7, i8, i9 =>
  if (decide (i9 < (x_s.length : Int))) then ((sAt x_s i9).bind fun b13 =>
  if (b13 == x_c) then ((sSub x_s i8 i9).bind fun s16 =>
  if fitsApp l7.length 1 16 then ((iAdd i9 1).bind fun i22 =>
  ref08_Parts_j2 (ref08_Parts_L1 x_s x_c n) i9 (l7 ++ [s16]) i22) else none) else (ref08_Parts_j2 (ref08_Parts_L1 x_s x_c n) i9 l7 i8)) else ((sFrom x_s i8).bind fun s29 =>
  if fitsApp l7.length 1 16 then (some (l7 ++ [s29])) else none)

def ref08_Parts (x_s : Str) (x_c : UInt8) : Option (List Str) :=
  ref08_Parts_L1 x_s x_c fuel [] 0 0

def ref01_In_L1 (x_b : UInt8) (x_l : Str) : Nat → Int → Option Bool
  | 0, _ => none
  | n + 1, i3 =>
  if (decide (i3 < (x_l.length : Int))) then ((sAt x_l i3).bind fun b7 =>
  if (b7 == x_b) then (some true) else ((iAdd i3 1).bind fun i12 =>
  (ref01_In_L1 x_b x_l n) i12)) else (some false)

def ref01_In (x_b : UInt8) (x_l : Str) : Option Bool :=
  ref01_In_L1 x_b x_l fuel 0

def ref03_worth_j2 (rec1 : Int → Option Int) (i5 : Int) (t12 : Bool) : Option Int :=
  if t12 then (some i5) else ((iAdd i5 1).bind fun i16 =>
  rec1 i16)

def ref03_worth_L1 (x_b : UInt8) (x_base : Int) : Nat → Int → Option Int
  | 0, _ => none
  | n + 1, i5 =>
  if (decide (i5 < x_base)) then ((sAt [48, 49, 50, 51, 52, 53, 54, 55, 56, 57, 97, 98, 99, 100, 101, 102] i5).bind fun b9 =>
  if (b9 == x_b) then (ref03_worth_j2 (ref03_worth_L1 x_b x_base n) i5 true) else ((sAt [48, 49, 50, 51, 52, 53, 54, 55, 56, 57, 65, 66, 67, 68, 69, 70] i5).bind fun b11 =>
  ref03_worth_j2 (ref03_worth_L1 x_b x_base n) i5 (b11 == x_b))) else (some (-1))

def ref03_worth (x_b : UInt8) (x_base : Int) : Option Int :=
  ref03_worth_L1 x_b x_base fuel 0

def ref03_Digits_r : Nat → Int → Int → Option Str
  | 0, _, _ => none
  | n + 1, x_n, x_base =>
  if (decide (x_n < x_base)) then ((iAdd x_n 1).bind fun i5 =>
  (sSub [48, 49, 50, 51, 52, 53, 54, 55, 56, 57, 97, 98, 99, 100, 101, 102] x_n i5).bind fun s6 =>
  some s6) else ((iDiv x_n x_base).bind fun i9 =>
  ((ref03_Digits_r n) i9 x_base).bind fun r10 =>
  (iMod x_n x_base).bind fun i11 =>
  (iMod x_n x_base).bind fun i12 =>
  (iAdd i12 1).bind fun i13 =>
  (sSub [48, 49, 50, 51, 52, 53, 54, 55, 56, 57, 97, 98, 99, 100, 101, 102] i11 i13).bind fun s14 =>
  (sCat r10 s14).bind fun s15 =>
  some s15)

def ref03_Digits (x_n : Int) (x_base : Int) : Option Str := ref03_Digits_r fuel x_n x_base

def ref03_Plain_j3 (rec1 : Str → Int → Option (Str × Bool)) (i5 : Int) (s21 : Str) : Option (Str × Bool) :=
  (iAdd i5 1).bind fun i22 =>
  rec1 s21 i22

def ref03_Plain_j2 (rec1 : Str → Int → Option (Str × Bool)) (x_base : Int) (s4 : Str) (i5 : Int) (r10 : Int) (t17 : Bool) : Option (Str × Bool) :=
  if t17 then ((ref03_Digits r10 x_base).bind fun r19 =>
  (sCat s4 r19).bind fun s20 =>
  ref03_Plain_j3 rec1 i5 s20) else (ref03_Plain_j3 rec1 i5 s4)

def ref03_Plain_j4 (x_s : Str) (s26 : Str) : Option (Str × Bool) :=
  some ((s26, !(x_s == [])))

def ref03_Plain_L1 (x_s : Str) (x_base : Int) : Nat → Str → Int → Option (Str × Bool)
  | 0, _, _ => none
  | n + 1, s4, i5 =>
  if (decide (i5 < (x_s.length : Int))) then ((sAt x_s i5).bind fun b9 =>
  (ref03_worth b9 x_base).bind fun r10 =>
  if (decide (r10 < 0)) then (some ([], false)) else (if (!(s4 == [])) then (ref03_Plain_j2 (ref03_Plain_L1 x_s x_base n) x_base s4 i5 r10 true) else (ref03_Plain_j2 (ref03_Plain_L1 x_s x_base n) x_base s4 i5 r10 (decide (0 < r10))))) else (if (s4 == []) then (ref03_Plain_j4 x_s [48]) else (ref03_Plain_j4 x_s s4))

def ref03_Plain (x_s : Str) (x_base : Int) : Option (Str × Bool) :=
  ref03_Plain_L1 x_s x_base fuel [] 0

def ref03_Less_j1 (t4 : Bool) : Option Bool :=
  some t4

def ref03_Less (x_a : Str) (x_b : Str) : Option Bool :=
  if (decide ((x_a.length : Int) < (x_b.length : Int))) then (ref03_Less_j1 true) else (if ((x_a.length : Int) == (x_b.length : Int)) then (ref03_Less_j1 (sLess x_a x_b)) else (ref03_Less_j1 false))

def ref03_Read_L2 (x_base : Int) (r2 : Str × Bool) : Nat → Int → Int → Option (Int × Int)
  | 0, _, _ => none
  | n + 1, i17, i18 =>
  if (decide (i18 < (r2.1.length : Int))) then ((iMul i17 x_base).bind fun i22 =>
  (sAt r2.1 i18).bind fun b23 =>
  (ref03_worth b23 x_base).bind fun r24 =>
  (iAdd i22 r24).bind fun i25 =>
  (iAdd i18 1).bind fun i27 =>
  (ref03_Read_L2 x_base r2 n) i25 i27) else (some (i17, 0))

def ref03_Read_j1 (x_base : Int) (r2 : Str × Bool) (t11 : Bool) : Option (Int × Int) :=
  if t11 then (some (0, 7)) else (ref03_Read_L2 x_base r2 fuel 0 0)

def ref03_Read (x_s : Str) (x_base : Int) (x_most : Int) : Option (Int × Int) :=
  (ref03_Plain x_s x_base).bind fun r2 =>
  if (!r2.2) then (some (0, 2)) else (if (decide (x_most < 0)) then (ref03_Read_j1 x_base r2 true) else ((ref03_Digits x_most x_base).bind fun r9 =>
  (ref03_Less r9 r2.1).bind fun r10 =>
  ref03_Read_j1 x_base r2 r10))

def ref03_Text (x_n : Int) (x_base : Int) : Option Str :=
  if (decide (x_n < 0)) then (some []) else ((ref03_Digits x_n x_base).bind fun r6 =>
  some r6)

def ref08_Small_j1 (r6 : Int × Int) (t10 : Bool) : Option Int :=
  if t10 then (some (-1)) else (some r6.1)

def ref08_Small (x_s : Str) (x_most : Int) : Option Int :=
  if (decide (5 < (x_s.length : Int))) then (some (-1)) else ((ref03_Read x_s 10 x_most).bind fun r6 =>
  if (!(r6.2 == 0)) then (ref08_Small_j1 r6 true) else ((ref03_Text r6.1 10).bind fun r9 =>
  ref08_Small_j1 r6 (!(r9 == x_s))))

def ref08_Four_L1 (r2 : List Str) : Nat → Int → Option Bool
  | 0, _ => none
  | n + 1, i7 =>
  if (decide (i7 < (r2.length : Int))) then ((lAt r2 i7).bind fun x11 =>
  (ref08_Small x11 255).bind fun r14 =>
  if (decide (r14 < 0)) then (some false) else ((iAdd i7 1).bind fun i19 =>
  (ref08_Four_L1 r2 n) i19)) else (some ((r2.length : Int) == 4))

def ref08_Four (x_s : Str) : Option Bool :=
  (ref08_Parts x_s 46).bind fun r2 =>
  ref08_Four_L1 r2 fuel 0

def ref01_Hex (x_b : UInt8) : Option Bool :=
  (ref01_In x_b [48, 49, 50, 51, 52, 53, 54, 55, 56, 57, 97, 98, 99, 100, 101, 102, 65, 66, 67, 68, 69, 70]).bind fun r2 =>
  some r2

def ref08_whole_j5 (rec1 : Int → Int → Option Bool) (i9 : Int) (i55 : Int) : Option Bool :=
  (iAdd i9 1).bind fun i56 =>
  rec1 i55 i56

def ref08_whole_j4 (rec1 : Int → Int → Option Bool) (i8 : Int) (i9 : Int) (t50 : Bool) : Option Bool :=
  if t50 then (some false) else ((iAdd i8 1).bind fun i54 =>
  ref08_whole_j5 rec1 i9 i54)

def ref08_whole_L3 (rec1 : Int → Int → Option Bool) (r2 : List Str) (i8 : Int) (i9 : Int) : Nat → Int → Option Bool
  | 0, _ => none
  | n + 1, i25 =>
  (lAt r2 i9).bind fun x26 =>
  if (decide (i25 < (x26.length : Int))) then ((lAt r2 i9).bind fun x32 =>
  (sAt x32 i25).bind fun b35 =>
  (ref01_Hex b35).bind fun r36 =>
  if (!r36) then (some false) else ((iAdd i25 1).bind fun i41 =>
  (ref08_whole_L3 rec1 r2 i8 i9 n) i41)) else ((lAt r2 i9).bind fun x43 =>
  if (decide ((x43.length : Int) < 1)) then (ref08_whole_j4 rec1 i8 i9 true) else ((lAt r2 i9).bind fun x47 =>
  ref08_whole_j4 rec1 i8 i9 (decide (4 < (x47.length : Int)))))

def ref08_whole_j2 (rec1 : Int → Int → Option Bool) (r2 : List Str) (i8 : Int) (i9 : Int) (t19 : Bool) : Option Bool :=
  if t19 then ((iAdd i8 2).bind fun i21 =>
  ref08_whole_j5 rec1 i9 i21) else (ref08_whole_L3 rec1 r2 i8 i9 fuel 0)

def ref08_whole_L1 (r2 : List Str) : Nat → Int → Int → Option Bool
  | 0, _, _ => none
  | n + 1, i8, i9 =>
  if (decide (i9 < (r2.length : Int))) then ((iSub (r2.length : Int) 1).bind fun i13 =>
  if (i9 == i13) then ((lAt r2 i9).bind fun x15 =>
  (ref08_Four x15).bind fun r18 =>
  ref08_whole_j2 (ref08_whole_L1 r2 n) r2 i8 i9 r18) else (ref08_whole_j2 (ref08_whole_L1 r2 n) r2 i8 i9 false)) else (some (i8 == 8))

def ref08_whole (x_s : Str) : Option Bool :=
  (ref08_Parts x_s 58).bind fun r2 =>
  ref08_whole_L1 r2 fuel 0 0

def ref08_Six_j5 (rec4 : Str → Int → Option Bool) (i24 : Int) (s31 : Str) : Option Bool :=
  (sCat s31 [48]).bind fun s32 =>
  (iAdd i24 1).bind fun i34 =>
  rec4 s32 i34

def ref08_Six_j6 (rec3 : Int → Option Bool) (i16 : Int) (s44 : Str) : Option Bool :=
  (ref08_whole s44).bind fun r45 =>
  if r45 then (some true) else ((iAdd i16 1).bind fun i50 =>
  rec3 i50)

def ref08_Six_L4 (rec3 : Int → Option Bool) (x_s : Str) (i3 : Int) (i16 : Int) : Nat → Str → Int → Option Bool
  | 0, _, _ => none
  | n + 1, s23, i24 =>
  if (decide (i24 < i16)) then (if (!(s23 == [])) then ((sCat s23 [58]).bind fun s30 =>
  ref08_Six_j5 (ref08_Six_L4 rec3 x_s i3 i16 n) i24 s30) else (ref08_Six_j5 (ref08_Six_L4 rec3 x_s i3 i16 n) i24 s23)) else ((iAdd i3 2).bind fun i36 =>
  (sFrom x_s i36).bind fun s37 =>
  if (!(s37 == [])) then ((sCat s23 [58]).bind fun s40 =>
  (iAdd i3 2).bind fun i41 =>
  (sFrom x_s i41).bind fun s42 =>
  (sCat s40 s42).bind fun s43 =>
  ref08_Six_j6 rec3 i16 s43) else (ref08_Six_j6 rec3 i16 s23))

def ref08_Six_L3 (x_s : Str) (i3 : Int) : Nat → Int → Option Bool
  | 0, _ => none
  | n + 1, i16 =>
  if (decide (i16 ≤ 8)) then ((sTo x_s i3).bind fun s20 =>
  ref08_Six_L4 (ref08_Six_L3 x_s i3 n) x_s i3 i16 fuel s20 0) else (some false)

def ref08_Six_j2 (rec1 : Int → Option Bool) (x_s : Str) (i3 : Int) (t12 : Bool) : Option Bool :=
  if t12 then ((iAdd i3 1).bind fun i54 =>
  rec1 i54) else (ref08_Six_L3 x_s i3 fuel 1)

def ref08_Six_L1 (x_s : Str) : Nat → Int → Option Bool
  | 0, _ => none
  | n + 1, i3 =>
  (iAdd i3 1).bind fun i4 =>
  if (decide (i4 < (x_s.length : Int))) then ((sAt x_s i3).bind fun b8 =>
  if (!(b8 == 58)) then (ref08_Six_j2 (ref08_Six_L1 x_s n) x_s i3 true) else ((iAdd i3 1).bind fun i10 =>
  (sAt x_s i10).bind fun b11 =>
  ref08_Six_j2 (ref08_Six_L1 x_s n) x_s i3 (!(b11 == 58)))) else ((ref08_whole x_s).bind fun r56 =>
  some r56)

def ref08_Six (x_s : Str) : Option Bool :=
  ref08_Six_L1 x_s fuel 0

def ref01_Fold_j3 (rec2 : Str → Int → Option Str) (i14 : Int) (s24 : Str) : Option Str :=
  (iAdd i14 1).bind fun i25 =>
  rec2 s24 i25

def ref01_Fold_L2 (rec1 : Str → Int → Option Str) (x_s : Str) (s4 : Str) (i5 : Int) : Nat → Str → Int → Option Str
  | 0, _, _ => none
  | n + 1, s13, i14 =>
  if (decide (i14 < 26)) then ((sAt [65, 66, 67, 68, 69, 70, 71, 72, 73, 74, 75, 76, 77, 78, 79, 80, 81, 82, 83, 84, 85, 86, 87, 88, 89, 90] i14).bind fun b18 =>
  (sAt x_s i5).bind fun b19 =>
  if (b18 == b19) then ((iAdd i14 1).bind fun i22 =>
  (sSub [97, 98, 99, 100, 101, 102, 103, 104, 105, 106, 107, 108, 109, 110, 111, 112, 113, 114, 115, 116, 117, 118, 119, 120, 121, 122] i14 i22).bind fun s23 =>
  ref01_Fold_j3 (ref01_Fold_L2 rec1 x_s s4 i5 n) i14 s23) else (ref01_Fold_j3 (ref01_Fold_L2 rec1 x_s s4 i5 n) i14 s13)) else ((sCat s4 s13).bind fun s27 =>
  (iAdd i5 1).bind fun i29 =>
  rec1 s27 i29)

def ref01_Fold_L1 (x_s : Str) : Nat → Str → Int → Option Str
  | 0, _, _ => none
  | n + 1, s4, i5 =>
  if (decide (i5 < (x_s.length : Int))) then ((iAdd i5 1).bind fun i9 =>
  (sSub x_s i5 i9).bind fun s10 =>
  ref01_Fold_L2 (ref01_Fold_L1 x_s n) x_s s4 i5 fuel s10 0) else (some s4)

def ref01_Fold (x_s : Str) : Option Str :=
  ref01_Fold_L1 x_s fuel [] 0

def ref01_Value_j1 (t4 : Bool) : Option Bool :=
  some t4

def ref01_Value (x_b : UInt8) : Option Bool :=
  if (decide (32 ≤ x_b)) then (if (!(x_b == 127)) then (ref01_Value_j1 true) else (ref01_Value_j1 (x_b == 9))) else (ref01_Value_j1 (x_b == 9))

def quill_Join (x_sep : Str) (x_l : List Str) : Option Str :=
  (strings_Join x_l x_sep).bind fun r2 =>
  some r2

def commas_splitter_end_j1 (x_p : commas_splitter) (l12 : List Str) : Option commas_splitter :=
  (scan_Scanner_At x_p.Scanner).bind fun r13 =>
  some (⟨x_p.Scanner, l12, r13, x_p.f_s⟩ : commas_splitter)

def commas_splitter_end (x_p : commas_splitter) (x_at : Int) : Option commas_splitter :=
  (sSub x_p.f_s x_p.f_from x_at).bind fun s1 =>
  (strings_Trim s1 [32, 9]).bind fun r2 =>
  if (!(r2 == [])) then (if fitsApp x_p.f_out.length 1 16 then (commas_splitter_end_j1 x_p (x_p.f_out ++ [r2])) else none) else (commas_splitter_end_j1 x_p x_p.f_out)

def commas_splitter_comment_j2 (x_p : commas_splitter) (s31 : Str) (i32 : Int) : Option (Bool × commas_splitter) :=
  some ((true, (⟨(⟨s31, i32⟩ : scan_Scanner), x_p.f_out, x_p.f_from, x_p.f_s⟩ : commas_splitter)))

def commas_splitter_comment_L1 (x_p : commas_splitter) : Nat → Str → Int → Int → Option (Bool × commas_splitter)
  | 0, _, _, _ => none
  | n + 1, s3, i4, i5 =>
  if (decide (0 < i5)) then ((scan_Scanner_Peek (⟨s3, i4⟩ : scan_Scanner)).bind fun r9 =>
  if (!r9.2) then (some ((false, (⟨(⟨s3, i4⟩ : scan_Scanner), x_p.f_out, x_p.f_from, x_p.f_s⟩ : commas_splitter)))) else ((scan_Scanner_Byte (⟨s3, i4⟩ : scan_Scanner) r9.1).bind fun r15 =>
  if (r9.1 == 40) then ((iAdd i5 1).bind fun i20 =>
  (commas_splitter_comment_L1 x_p n) r15.2.f_s r15.2.f_at i20) else (if (r9.1 == 41) then ((iSub i5 1).bind fun i23 =>
  (commas_splitter_comment_L1 x_p n) r15.2.f_s r15.2.f_at i23) else (if (r9.1 == 92) then ((scan_Scanner_Peek r15.2).bind fun r26 =>
  if r26.2 then ((scan_Scanner_Byte r15.2 r26.1).bind fun r30 =>
  (commas_splitter_comment_L1 x_p n) r30.2.f_s r30.2.f_at i5) else ((commas_splitter_comment_L1 x_p n) r15.2.f_s r15.2.f_at i5)) else ((commas_splitter_comment_L1 x_p n) r15.2.f_s r15.2.f_at i5))))) else (commas_splitter_comment_j2 x_p s3 i4)

def commas_splitter_comment (x_p : commas_splitter) : Option (Bool × commas_splitter) :=
  commas_splitter_comment_L1 x_p fuel x_p.Scanner.f_s x_p.Scanner.f_at 1

def quoted_reader_next_j1 (x_r : quoted_reader) (r2 : Bool × scan_Scanner) (r4 : UInt8 × Bool) (t8 : Bool) : Option (Bool × quoted_reader) :=
  if t8 then (some ((false, (⟨r2.2, x_r.f_out⟩ : quoted_reader)))) else (if fitsApp x_r.f_out.length 1 1 then ((scan_Scanner_Byte r2.2 r4.1).bind fun r17 =>
  some ((r17.1, (⟨r17.2, x_r.f_out ++ [r4.1]⟩ : quoted_reader)))) else none)

def quoted_reader_next (x_r : quoted_reader) : Option (Bool × quoted_reader) :=
  (scan_Scanner_Byte x_r.Scanner 92).bind fun r2 =>
  (scan_Scanner_Peek r2.2).bind fun r4 =>
  if (!r4.2) then (quoted_reader_next_j1 x_r r2 r4 true) else ((octet_IsValue r4.1).bind fun r7 =>
  quoted_reader_next_j1 x_r r2 r4 (!r7))

def scan_Scanner_Back_j1 (x_c : scan_Scanner) (x_at : Int) (t4 : Bool) : Option (Bool × scan_Scanner) :=
  if t4 then (some (false, x_c)) else (some ((true, (⟨x_c.f_s, x_at⟩ : scan_Scanner))))

def scan_Scanner_Back (x_c : scan_Scanner) (x_at : Int) : Option (Bool × scan_Scanner) :=
  if (decide (x_at < 0)) then (scan_Scanner_Back_j1 x_c x_at true) else ((scan_Scanner_At x_c).bind fun r3 =>
  scan_Scanner_Back_j1 x_c x_at (decide (r3 < x_at)))

def quoted_Read_j3 (r2 : Int) (t24 : Bool) (s25 : Str) (i26 : Int) (l29 : List UInt8) : Option (Str × Bool × scan_Scanner) :=
  if (!t24) then ((scan_Scanner_Back (⟨s25, i26⟩ : scan_Scanner) r2).bind fun r32 =>
  some ([], false, r32.2)) else (some ((l29, true, (⟨s25, i26⟩ : scan_Scanner))))

def quoted_Read_j2 (rec1 : Str → Int → (List UInt8) → Bool → Option (Str × Bool × scan_Scanner)) (r2 : Int) (l12 : List UInt8) (t13 : Bool) (t16 : Bool) (s17 : Str) (i18 : Int) : Option (Str × Bool × scan_Scanner) :=
  if t16 then ((quoted_reader_next ((⟨(⟨s17, i18⟩ : scan_Scanner), l12⟩ : quoted_reader))).bind fun r21 =>
  rec1 r21.2.Scanner.f_s r21.2.Scanner.f_at r21.2.f_out r21.1) else (quoted_Read_j3 r2 t13 s17 i18 l12)

def quoted_Read_L1 (r2 : Int) : Nat → Str → Int → (List UInt8) → Bool → Option (Str × Bool × scan_Scanner)
  | 0, _, _, _, _ => none
  | n + 1, s8, i9, l12, t13 =>
  if t13 then ((scan_Scanner_Byte (⟨s8, i9⟩ : scan_Scanner) 34).bind fun r15 =>
  quoted_Read_j2 (quoted_Read_L1 r2 n) r2 l12 t13 (!r15.1) r15.2.f_s r15.2.f_at) else (quoted_Read_j2 (quoted_Read_L1 r2 n) r2 l12 t13 false s8 i9)

def quoted_Read (x_c : scan_Scanner) : Option (Str × Bool × scan_Scanner) :=
  (scan_Scanner_At x_c).bind fun r2 =>
  (scan_Scanner_Byte x_c 34).bind fun r6 =>
  quoted_Read_L1 r2 fuel r6.2.f_s r6.2.f_at [] r6.1

def commas_splitter_step_j1 (l28 : List Str) (i29 : Int) (s30 : Str) (s31 : Str) (i32 : Int) : Option (Bool × commas_splitter) :=
  some ((true, (⟨(⟨s31, i32⟩ : scan_Scanner), l28, i29, s30⟩ : commas_splitter)))

def commas_splitter_step (x_p : commas_splitter) : Option (Bool × commas_splitter) :=
  (scan_Scanner_At x_p.Scanner).bind fun r2 =>
  (scan_Scanner_Byte x_p.Scanner 44).bind fun r4 =>
  if r4.1 then ((commas_splitter_end (⟨r4.2, x_p.f_out, x_p.f_from, x_p.f_s⟩ : commas_splitter) r2).bind fun r7 =>
  commas_splitter_step_j1 r7.f_out r7.f_from r7.f_s r7.Scanner.f_s r7.Scanner.f_at) else ((scan_Scanner_Byte r4.2 40).bind fun r10 =>
  if r10.1 then ((commas_splitter_comment (⟨r10.2, x_p.f_out, x_p.f_from, x_p.f_s⟩ : commas_splitter)).bind fun r13 =>
  some (r13.1, r13.2)) else ((scan_Scanner_Peek r10.2).bind fun r17 =>
  if (r17.1 == 34) then ((quoted_Read r10.2).bind fun r21 =>
  some ((r21.2.1, (⟨r21.2.2, x_p.f_out, x_p.f_from, x_p.f_s⟩ : commas_splitter)))) else ((scan_Scanner_Byte r10.2 r17.1).bind fun r25 =>
  commas_splitter_step_j1 x_p.f_out x_p.f_from x_p.f_s r25.2.f_s r25.2.f_at)))

def commas_Split_j2 (x_s : Str) (l25 : List Str) (i26 : Int) (s27 : Str) (s28 : Str) (i29 : Int) : Option (List Str × Int) :=
  (commas_splitter_end ((⟨(⟨s28, i29⟩ : scan_Scanner), l25, i26, s27⟩ : commas_splitter)) (x_s.length : Int)).bind fun r30 =>
  some (r30.f_out, 0)

def commas_Split_L1 (x_s : Str) : Nat → (List Str) → Int → Str → Str → Int → Option (List Str × Int)
  | 0, _, _, _, _, _ => none
  | n + 1, l8, i9, s10, s11, i12 =>
  (scan_Scanner_End (⟨s11, i12⟩ : scan_Scanner)).bind fun r13 =>
  if (!r13) then ((commas_splitter_step ((⟨(⟨s11, i12⟩ : scan_Scanner), l8, i9, s10⟩ : commas_splitter))).bind fun r17 =>
  if (!r17.1) then (some ([], 2)) else ((commas_Split_L1 x_s n) r17.2.f_out r17.2.f_from r17.2.f_s r17.2.Scanner.f_s r17.2.Scanner.f_at)) else (commas_Split_j2 x_s l8 i9 s10 s11 i12)

def commas_Split (x_s : Str) : Option (List Str × Int) :=
  (scan_New x_s).bind fun r2 =>
  commas_Split_L1 x_s fuel [] 0 x_s r2.f_s r2.f_at

def stringslite_CutPrefix (x_s : Str) (x_prefix : Str) : Option (Str × Bool) :=
  (stringslite_HasPrefix x_s x_prefix).bind fun r2 =>
  if (!r2) then (some (x_s, false)) else ((sFrom x_s (x_prefix.length : Int)).bind fun s7 =>
  some (s7, true))

def strings_CutPrefix (x_s : Str) (x_prefix : Str) : Option (Str × Bool) :=
  (stringslite_CutPrefix x_s x_prefix).bind fun r2 =>
  some (r2.1, r2.2)

def stringslite_HasSuffix_j1 (t5 : Bool) : Option Bool :=
  some t5

def stringslite_HasSuffix (x_s : Str) (x_suffix : Str) : Option Bool :=
  if (decide ((x_suffix.length : Int) ≤ (x_s.length : Int))) then ((iSub (x_s.length : Int) (x_suffix.length : Int)).bind fun i3 =>
  (sFrom x_s i3).bind fun s4 =>
  stringslite_HasSuffix_j1 (s4 == x_suffix)) else (stringslite_HasSuffix_j1 false)

def stringslite_CutSuffix (x_s : Str) (x_suffix : Str) : Option (Str × Bool) :=
  (stringslite_HasSuffix x_s x_suffix).bind fun r2 =>
  if (!r2) then (some (x_s, false)) else ((iSub (x_s.length : Int) (x_suffix.length : Int)).bind fun i7 =>
  (sTo x_s i7).bind fun s8 =>
  some (s8, true))

def strings_CutSuffix (x_s : Str) (x_suffix : Str) : Option (Str × Bool) :=
  (stringslite_CutSuffix x_s x_suffix).bind fun r2 =>
  some (r2.1, r2.2)

def xff_bare_j1 (t5 : Bool) : Option Bool :=
  some t5

def xff_bare (x_s : Str) : Option Bool :=
  (hostport_Four x_s).bind fun r2 =>
  if r2 then (xff_bare_j1 true) else ((hostport_Six x_s).bind fun r4 =>
  xff_bare_j1 r4)

def octet_Same (x_a : Str) (x_b : Str) : Option Bool :=
  (octet_Fold x_a).bind fun r2 =>
  (octet_Fold x_b).bind fun r3 =>
  some (r2 == r3)

def xff_Is_j1 (t15 : Bool) : Option Bool :=
  some t15

def xff_Is (x_s : Str) : Option Bool :=
  (strings_CutPrefix x_s [91]).bind fun r2 =>
  (strings_CutSuffix r2.1 [93]).bind fun r4 =>
  (xff_bare x_s).bind fun r6 =>
  if r6 then (xff_Is_j1 true) else (if r2.2 then (if r4.2 then ((hostport_Six r4.1).bind fun r10 =>
  if r10 then (xff_Is_j1 true) else ((octet_Same x_s [117, 110, 107, 110, 111, 119, 110]).bind fun r12 =>
  xff_Is_j1 r12)) else ((octet_Same x_s [117, 110, 107, 110, 111, 119, 110]).bind fun r13 =>
  xff_Is_j1 r13)) else ((octet_Same x_s [117, 110, 107, 110, 111, 119, 110]).bind fun r14 =>
  xff_Is_j1 r14))

def xff_List_L2 (rec1 : (List Str) → Int → Option (List Str × Int)) (l6 : List Str) (i7 : Int) (r15 : List Str × Int) : Nat → Int → Option (List Str × Int)
  | 0, _ => none
  | n + 1, i24 =>
  if (decide (i24 < (r15.1.length : Int))) then ((lAt r15.1 i24).bind fun x28 =>
  (xff_Is x28).bind fun r32 =>
  if (!r32) then (some ([], 2)) else ((iAdd i24 1).bind fun i37 =>
  (xff_List_L2 rec1 l6 i7 r15 n) i37)) else (if fitsApp l6.length r15.1.length 16 then ((iAdd i7 1).bind fun i43 =>
  rec1 (l6 ++ r15.1) i43) else none)

def xff_List_L1 (x_values : List Str) : Nat → (List Str) → Int → Option (List Str × Int)
  | 0, _, _ => none
  | n + 1, l6, i7 =>
  if (decide (i7 < (x_values.length : Int))) then ((lAt x_values i7).bind fun x11 =>
  (commas_Split x11).bind fun r15 =>
  if (!(r15.2 == 0)) then (some ([], r15.2)) else (xff_List_L2 (xff_List_L1 x_values n) l6 i7 r15 fuel 0)) else (some (l6, 0))

def xff_List (x_values : List Str) : Option (List Str × Int) :=
  xff_List_L1 x_values fuel [] 0

def slices_Clone_gapi_Field_api_Field_ (x_s : List api_Field) : Option (List api_Field) :=
  if fitsApp 0 x_s.length 32 then (some x_s) else none

def bag_New (x_l : List api_Field) : Option bag_Bag :=
  (slices_Clone_gapi_Field_api_Field_ x_l).bind fun r2 =>
  some (⟨r2⟩ : bag_Bag)

def commas_Join (x_l : List Str) : Option Str :=
  (quill_Join [44, 32] x_l).bind fun r2 =>
  some r2

def commas_Append (x_s : Str) (x_l : List Str) : Option Str :=
  if ((x_l.length : Int) == 0) then (some x_s) else ((strings_Trim x_s [32, 9, 44]).bind fun r5 =>
  if (r5 == []) then ((commas_Join x_l).bind fun r8 =>
  some r8) else ((strings_TrimRight x_s [32, 9]).bind fun r11 =>
  if fitsApp ([r11].length) x_l.length 16 then ((commas_Join ([r11] ++ x_l)).bind fun r16 =>
  some r16) else none))

def bag_Bag_Add (x_b : bag_Bag) (x_l : List api_Field) : Option bag_Bag :=
  if fitsApp x_b.f_l.length x_l.length 32 then (some (⟨x_b.f_l ++ x_l⟩ : bag_Bag)) else none

def bag_Bag_Behind_L1 (x_b : bag_Bag) (x_name : Str) (x_element : Str) : Nat → Int → Option bag_Bag
  | 0, _ => none
  | n + 1, i5 =>
  if (decide (0 ≤ i5)) then ((lAt x_b.f_l i5).bind fun x9 =>
  (octet_Same x9.Name x_name).bind fun r12 =>
  if r12 then ((lAt x_b.f_l i5).bind fun x15 =>
  (commas_Append x15.Value [x_element]).bind fun r19 =>
  (lAt x_b.f_l i5).bind fun x20 =>
  (lSet x_b.f_l i5 (⟨x20.Name, r19⟩ : api_Field)).bind fun l23 =>
  some (⟨l23⟩ : bag_Bag)) else ((iSub i5 1).bind fun i26 =>
  (bag_Bag_Behind_L1 x_b x_name x_element n) i26)) else ((bag_Bag_Add x_b ([(⟨x_name, x_element⟩ : api_Field)])).bind fun r29 =>
  some r29)

def bag_Bag_Behind (x_b : bag_Bag) (x_name : Str) (x_element : Str) : Option bag_Bag :=
  (iSub (x_b.f_l.length : Int) 1).bind fun i3 =>
  bag_Bag_Behind_L1 x_b x_name x_element fuel i3

def bag_Bag_List (x_b : bag_Bag) : Option (List api_Field) :=
  (slices_Clone_gapi_Field_api_Field_ x_b.f_l).bind fun r4 =>
  some r4

def xff_Append_j1 (x_l : List api_Field) (s5 : Str) : Option (List api_Field) :=
  (bag_New x_l).bind fun r6 =>
  (bag_Bag_Behind r6 [88, 45, 70, 111, 114, 119, 97, 114, 100, 101, 100, 45, 70, 111, 114] s5).bind fun r11 =>
  (bag_Bag_List r11).bind fun r15 =>
  some r15

def xff_Append (x_client : Str) (x_l : List api_Field) : Option (List api_Field) :=
  (xff_bare x_client).bind fun r2 =>
  if (!r2) then (xff_Append_j1 x_l [117, 110, 107, 110, 111, 119, 110]) else (xff_Append_j1 x_l x_client)

def ref06_Same_L1 (x_a : List Str) (x_b : List Str) : Nat → Int → Option Bool
  | 0, _ => none
  | n + 1, i7 =>
  if (decide (i7 < (x_a.length : Int))) then ((lAt x_a i7).bind fun x11 =>
  (lAt x_b i7).bind fun x14 =>
  if (!(x11 == x14)) then (some false) else ((iAdd i7 1).bind fun i21 =>
  (ref06_Same_L1 x_a x_b n) i21)) else (some true)

def ref06_Same (x_a : List Str) (x_b : List Str) : Option Bool :=
  if (!((x_a.length : Int) == (x_b.length : Int))) then (some false) else (ref06_Same_L1 x_a x_b fuel 0)

def law27_awake_j1 (t19 : Bool) : Option Bool :=
  some t19

def law27_awake : Option Bool :=
  (xff_List ([[49, 46, 50, 46, 51, 46, 52, 44, 32, 58, 58, 49]])).bind fun r3 =>
  (xff_Append [120] []).bind fun r7 =>
  if (r3.2 == 0) then ((ref06_Same r3.1 ([[49, 46, 50, 46, 51, 46, 52], [58, 58, 49]])).bind fun r13 =>
  if r13 then (if ((r7.length : Int) == 1) then ((lAt r7 0).bind fun x16 =>
  law27_awake_j1 (x16 == (⟨[88, 45, 70, 111, 114, 119, 97, 114, 100, 101, 100, 45, 70, 111, 114], [117, 110, 107, 110, 111, 119, 110]⟩ : api_Field))) else (law27_awake_j1 false)) else (law27_awake_j1 false)) else (law27_awake_j1 false)

def ref05_Front_j4 (rec2 : Str → Int → Option (Str × Int)) (x_s : Str) (s10 : Str) (i25 : Int) (t29 : Bool) : Option (Str × Int) :=
  if t29 then (some ([], 0)) else ((iAdd i25 1).bind fun i33 =>
  (sSub x_s i25 i33).bind fun s34 =>
  (sCat s10 s34).bind fun s35 =>
  (iAdd i25 1).bind fun i37 =>
  rec2 s35 i37)

def ref05_Front_j3 (rec2 : Str → Int → Option (Str × Int)) (x_s : Str) (s10 : Str) (i25 : Int) : Option (Str × Int) :=
  if (i25 == (x_s.length : Int)) then (ref05_Front_j4 rec2 x_s s10 i25 true) else ((sAt x_s i25).bind fun b27 =>
  (ref01_Value b27).bind fun r28 =>
  ref05_Front_j4 rec2 x_s s10 i25 (!r28))

def ref05_Front_L2 (x_s : Str) : Nat → Str → Int → Option (Str × Int)
  | 0, _, _ => none
  | n + 1, s10, i11 =>
  if (decide (i11 < (x_s.length : Int))) then ((sAt x_s i11).bind fun b15 =>
  if (b15 == 34) then ((iAdd i11 1).bind fun i18 =>
  some (s10, i18)) else ((sAt x_s i11).bind fun b21 =>
  if (b21 == 92) then ((iAdd i11 1).bind fun i24 =>
  ref05_Front_j3 (ref05_Front_L2 x_s n) x_s s10 i24) else (ref05_Front_j3 (ref05_Front_L2 x_s n) x_s s10 i11))) else (some ([], 0))

def ref05_Front_j1 (x_s : Str) (t4 : Bool) : Option (Str × Int) :=
  if t4 then (some ([], 0)) else (ref05_Front_L2 x_s fuel [] 1)

def ref05_Front (x_s : Str) : Option (Str × Int) :=
  if ((x_s.length : Int) == 0) then (ref05_Front_j1 x_s true) else ((sAt x_s 0).bind fun b3 =>
  ref05_Front_j1 x_s (!(b3 == 34)))

def ref06_Inner_j2 (rec1 : Int → Int → Option Int) (i27 : Int) (i28 : Int) : Option Int :=
  if (i27 == 0) then ((iAdd i28 1).bind fun i31 =>
  some i31) else ((iAdd i28 1).bind fun i34 =>
  rec1 i27 i34)

def ref06_Inner_L1 (x_s : Str) : Nat → Int → Int → Option Int
  | 0, _, _ => none
  | n + 1, i11, i12 =>
  if (decide (i12 < (x_s.length : Int))) then ((sAt x_s i12).bind fun b16 =>
  if (b16 == 40) then ((iAdd i11 1).bind fun i20 =>
  ref06_Inner_j2 (ref06_Inner_L1 x_s n) i20 i12) else (if (b16 == 41) then ((iSub i11 1).bind fun i23 =>
  ref06_Inner_j2 (ref06_Inner_L1 x_s n) i23 i12) else (if (b16 == 92) then ((iAdd i12 1).bind fun i26 =>
  ref06_Inner_j2 (ref06_Inner_L1 x_s n) i11 i26) else (ref06_Inner_j2 (ref06_Inner_L1 x_s n) i11 i12)))) else (some 0)

def ref06_Inner (x_s : Str) : Option Int :=
  (sAt x_s 0).bind fun b2 =>
  if (b2 == 34) then ((ref05_Front x_s).bind fun r5 =>
  some r5.2) else (ref06_Inner_L1 x_s fuel 0 0)

def ref01_Blank_j1 (t3 : Bool) : Option Bool :=
  some t3

def ref01_Blank (x_b : UInt8) : Option Bool :=
  if (x_b == 32) then (ref01_Blank_j1 true) else (ref01_Blank_j1 (x_b == 9))

def ref06_Trim_j4 (rec3 : Str → Option Str) (s11 : Str) (t16 : Bool) : Option Str :=
  if t16 then ((iSub (s11.length : Int) 1).bind fun i19 =>
  (sTo s11 i19).bind fun s20 =>
  rec3 s20) else (some s11)

def ref06_Trim_L3 : Nat → Str → Option Str
  | 0, _ => none
  | n + 1, s11 =>
  if (decide (0 < (s11.length : Int))) then ((iSub (s11.length : Int) 1).bind fun i13 =>
  (sAt s11 i13).bind fun b14 =>
  (ref01_Blank b14).bind fun r15 =>
  ref06_Trim_j4 (ref06_Trim_L3 n) s11 r15) else (ref06_Trim_j4 (ref06_Trim_L3 n) s11 false)

def ref06_Trim_j2 (rec1 : Str → Option Str) (s2 : Str) (t6 : Bool) : Option Str :=
  if t6 then ((sFrom s2 1).bind fun s9 =>
  rec1 s9) else (ref06_Trim_L3 fuel s2)

def ref06_Trim_L1 : Nat → Str → Option Str
  | 0, _ => none
  | n + 1, s2 =>
  if (decide (0 < (s2.length : Int))) then ((sAt s2 0).bind fun b4 =>
  (ref01_Blank b4).bind fun r5 =>
  ref06_Trim_j2 (ref06_Trim_L1 n) s2 r5) else (ref06_Trim_j2 (ref06_Trim_L1 n) s2 false)

def ref06_Trim (x_s : Str) : Option Str :=
  ref06_Trim_L1 fuel x_s

def ref06_Split_j3 (rec1 : (List Str) → Int → Int → Option (List Str × Int)) (i9 : Int) (l41 : List Str) (i42 : Int) : Option (List Str × Int) :=
  (iAdd i9 1).bind fun i43 =>
  rec1 l41 i42 i43

def ref06_Split_j2 (rec1 : (List Str) → Int → Int → Option (List Str × Int)) (x_a0 : Str) (l7 : List Str) (i8 : Int) (i9 : Int) (t16 : Bool) : Option (List Str × Int) :=
  if t16 then ((sFrom x_a0 i9).bind fun s18 =>
  (ref06_Inner s18).bind fun r19 =>
  if (r19 == 0) then (some ([], 2)) else ((iAdd i9 r19).bind fun i25 =>
  rec1 l7 i8 i25)) else ((sAt x_a0 i9).bind fun b28 =>
  if (b28 == 44) then ((sSub x_a0 i8 i9).bind fun s31 =>
  (ref06_Trim s31).bind fun r32 =>
  if fitsApp l7.length 1 16 then ((iAdd i9 1).bind fun i38 =>
  ref06_Split_j3 rec1 i9 (l7 ++ [r32]) i38) else none) else (ref06_Split_j3 rec1 i9 l7 i8))

def ref06_Split_j5 (rec4 : (List Str) → Int → Option (List Str × Int)) (i57 : Int) (l75 : List Str) : Option (List Str × Int) :=
  (iAdd i57 1).bind fun i76 =>
  rec4 l75 i76

def ref06_Split_L4 (l7 : List Str) (r46 : Str) : Nat → (List Str) → Int → Option (List Str × Int)
  | 0, _, _ => none
  | n + 1, l56, i57 =>
  if (decide (i57 < (((l7 ++ [r46]).length : Int)))) then ((lAt (l7 ++ [r46]) i57).bind fun x61 =>
  if (!(x61 == [])) then ((lAt (l7 ++ [r46]) i57).bind fun x66 =>
  if fitsApp l56.length 1 16 then (ref06_Split_j5 (ref06_Split_L4 l7 r46 n) i57 (l56 ++ [x66])) else none) else (ref06_Split_j5 (ref06_Split_L4 l7 r46 n) i57 l56)) else (some (l56, 0))

def ref06_Split_L1 (x_a0 : Str) : Nat → (List Str) → Int → Int → Option (List Str × Int)
  | 0, _, _, _ => none
  | n + 1, l7, i8, i9 =>
  if (decide (i9 < (x_a0.length : Int))) then ((sAt x_a0 i9).bind fun b13 =>
  if (b13 == 34) then (ref06_Split_j2 (ref06_Split_L1 x_a0 n) x_a0 l7 i8 i9 true) else ((sAt x_a0 i9).bind fun b15 =>
  ref06_Split_j2 (ref06_Split_L1 x_a0 n) x_a0 l7 i8 i9 (b15 == 40))) else ((sFrom x_a0 i8).bind fun s45 =>
  (ref06_Trim s45).bind fun r46 =>
  if fitsApp l7.length 1 16 then (ref06_Split_L4 l7 r46 fuel [] 0) else none)

def ref06_Split (x_a0 : Str) : Option (List Str × Int) :=
  ref06_Split_L1 x_a0 fuel [] 0 0

def ref27_Is_j2 (t19 : Bool) : Option Bool :=
  some t19

def ref27_Is_j1 (x_s : Str) (t7 : Bool) : Option Bool :=
  if t7 then ((iSub (x_s.length : Int) 1).bind fun i9 =>
  (sSub x_s 1 i9).bind fun s10 =>
  (ref08_Six s10).bind fun r11 =>
  some r11) else ((ref08_Four x_s).bind fun r14 =>
  if r14 then (ref27_Is_j2 true) else ((ref08_Six x_s).bind fun r16 =>
  if r16 then (ref27_Is_j2 true) else ((ref01_Fold x_s).bind fun r18 =>
  ref27_Is_j2 (r18 == [117, 110, 107, 110, 111, 119, 110]))))

def ref27_Is (x_s : Str) : Option Bool :=
  if (decide (2 < (x_s.length : Int))) then ((sAt x_s 0).bind fun b3 =>
  if (b3 == 91) then ((iSub (x_s.length : Int) 1).bind fun i5 =>
  (sAt x_s i5).bind fun b6 =>
  ref27_Is_j1 x_s (b6 == 93)) else (ref27_Is_j1 x_s false)) else (ref27_Is_j1 x_s false)

def ref27_List_L2 (rec1 : (List Str) → Int → Option (List Str × Int)) (i7 : Int) (r14 : List Str × Int) : Nat → (List Str) → Int → Option (List Str × Int)
  | 0, _, _ => none
  | n + 1, l25, i26 =>
  if (decide (i26 < (r14.1.length : Int))) then ((lAt r14.1 i26).bind fun x30 =>
  (ref27_Is x30).bind fun r33 =>
  if (!r33) then (some ([], 2)) else ((lAt r14.1 i26).bind fun x38 =>
  if fitsApp l25.length 1 16 then ((iAdd i26 1).bind fun i46 =>
  (ref27_List_L2 rec1 i7 r14 n) (l25 ++ [x38]) i46) else none)) else ((iAdd i7 1).bind fun i48 =>
  rec1 l25 i48)

def ref27_List_L1 (x_values : List Str) : Nat → (List Str) → Int → Option (List Str × Int)
  | 0, _, _ => none
  | n + 1, l6, i7 =>
  if (decide (i7 < (x_values.length : Int))) then ((lAt x_values i7).bind fun x11 =>
  (ref06_Split x11).bind fun r14 =>
  if (!(r14.2 == 0)) then (some ([], r14.2)) else (ref27_List_L2 (ref27_List_L1 x_values n) i7 r14 fuel l6 0)) else (some (l6, 0))

def ref27_List (x_values : List Str) : Option (List Str × Int) :=
  ref27_List_L1 x_values fuel [] 0

def xff_First_j1 (r2 : List Str × Int) (t7 : Bool) : Option Str :=
  if t7 then (some []) else ((lAt r2.1 0).bind fun x11 =>
  some x11)

def xff_First (x_values : List Str) : Option Str :=
  (xff_List x_values).bind fun r2 =>
  if (!(r2.2 == 0)) then (xff_First_j1 r2 true) else (xff_First_j1 r2 ((r2.1.length : Int) == 0))

def law27_XffReads_j2 (t35 : Bool) : Option Bool :=
  some t35

def law27_XffReads_j1 (s7 : Str) (s8 : Str) (r11 : List Str × Int) (r16 : List Str × Int) (s26 : Str) : Option Bool :=
  (xff_Is s7).bind fun r27 =>
  (ref27_Is s7).bind fun r28 =>
  if (r27 == r28) then ((ref06_Same r11.1 r16.1).bind fun r30 =>
  if r30 then (if (r11.2 == r16.2) then ((xff_First [s7, s8]).bind fun r34 =>
  law27_XffReads_j2 (r34 == s26)) else (law27_XffReads_j2 false)) else (law27_XffReads_j2 false)) else (law27_XffReads_j2 false)

def law27_XffReads (x_a0 : Str) (x_a1 : Str) : Option Bool :=
  (law27_awake).bind fun r2 =>
  if (!r2) then (some false) else ((sTo x_a0 (min (x_a0.length : Int) 200)).bind fun s7 =>
  (sTo x_a1 (min (x_a1.length : Int) 200)).bind fun s8 =>
  (xff_List [s7, s8]).bind fun r11 =>
  (ref27_List [s7, s8]).bind fun r16 =>
  if (decide (0 < (r16.1.length : Int))) then ((lAt r16.1 0).bind fun x23 =>
  law27_XffReads_j1 s7 s8 r11 r16 x23) else (law27_XffReads_j1 s7 s8 r11 r16 []))

end Go.Dm
