/-
  The models of the functions: written by a program (wip/gen) off the translation. No program in sight.
-/
import Derived.Test.YtnfkbhocbdheaaaGreatDoorPrim
import Derived.Lib.ItoaNum
import Derived.Lib.SplitLaws
import Derived.Lib.SlTrimSet
import Derived.Lib.Join
import Derived.Lib.IndexMore
set_option linter.unusedVariables false
set_option maxRecDepth 10000
namespace Go.Dm
structure scan_Scanner where
  f_s : Str
  f_at : Int
deriving DecidableEq
structure api_Field where
  Name : Str
  Value : Str
deriving DecidableEq
structure api_Head where
  Kind : Int
  Method : Str
  Target : Str
  Code : Int
  Reason : Str
  Minor : Int
  Fields : List api_Field
deriving DecidableEq
structure commas_splitter where
  Scanner : scan_Scanner
  f_out : List Str
  f_from : Int
  f_s : Str
deriving DecidableEq
structure quoted_reader where
  Scanner : scan_Scanner
  f_out : List UInt8
deriving DecidableEq
structure bag_Bag where
  f_l : List api_Field
deriving DecidableEq

/-- Does a text begin with another one? -/
def begins : Str → Str → Bool
  | _, [] => true
  | [], _ :: _ => false
  | x :: s, y :: t => x == y && begins s t
def idxStr : Str → Str → Nat → Int
  | s, t, k => if begins s t then (k : Int) else match s with
    | [] => -1
    | _ :: s => idxStr s t (k + 1)
def strings_Index (s t : Str) : Option Int := if s.length < 4294967281 then some (idxStr s t 0) else none
def strings_Cut (s t : Str) : Option (Str × Str × Bool) := if s.length < 4294967281 then some (Go.Lib.cut s t) else none
/-- At the bytes of a separator that is not empty. -/
def strings_Split (s sep : Str) : Option (List Str) := if s.length < 4294967281 ∧ 1 ≤ sep.length then some (Go.Lib.splitK sep 0 (Go.Lib.countB ⟨s.toArray⟩ ⟨sep.toArray⟩) s) else none
/-- What of a text stands between a byte and the next one. -/
def splitOn (c : UInt8) : Str → List Str
  | [] => [[]]
  | x :: s => if x = c then [] :: splitOn c s else match splitOn c s with
    | [] => [[x]]
    | h :: t => (x :: h) :: t
def strconv_FormatInt (n b : Int) : Option Str := if inI n = true ∧ b = 10 then some (Go.Lib.itoa n) else none
def strings_Trim (s cs : Str) : Option Str := if s.length < 4294967281 ∧ cs.length < 4294967281 ∧ cs.all (fun c => c.toNat < 128) then some (Go.Lib.trimS s cs) else none
def strings_TrimRight (s cs : Str) : Option Str := if s.length < 4294967281 ∧ cs.length < 4294967281 ∧ cs.all (fun c => c.toNat < 128) then some (Go.Lib.trimRightS s cs) else none
def strings_Join (l : List Str) (sep : Str) : Option Str := if l.length ≤ 140737488355328 ∧ (Go.Lib.join l sep).length ≤ 140737488355328 then some (Go.Lib.join l sep) else none
def octet_All_L2 (rec1 : Int → Option Bool) (x_is : UInt8 → Option Bool) (i3 : Int) (x7 : Str) : Nat → Int → Option Bool
  | 0, _ => none
  | n + 1, i12 =>
  if (decide (i12 < (x7.length : Int))) then ((sAt x7 i12).bind fun b17 =>
  (x_is b17).bind fun r18 =>
  if (!r18) then (some false) else ((iAdd i12 1).bind fun i23 =>
  (octet_All_L2 rec1 x_is i3 x7 n) i23)) else ((iAdd i3 1).bind fun i25 =>
  rec1 i25)

def octet_All_L1 (x_is : UInt8 → Option Bool) (x_l : List Str) : Nat → Int → Option Bool
  | 0, _ => none
  | n + 1, i3 =>
  if (decide (i3 < (x_l.length : Int))) then ((lAt x_l i3).bind fun x7 =>
  octet_All_L2 (octet_All_L1 x_is x_l n) x_is i3 x7 fuel 0) else (some true)

def octet_All (x_is : UInt8 → Option Bool) (x_l : List Str) : Option Bool :=
  octet_All_L1 x_is x_l fuel 0

def octet_IsDigit_j1 (t3 : Bool) : Option Bool :=
  some t3

def octet_IsDigit (x_b : UInt8) : Option Bool :=
  if (decide (48 ≤ x_b)) then (octet_IsDigit_j1 (decide (x_b ≤ 57))) else (octet_IsDigit_j1 false)

def octet_Lower_j1 (x_b : UInt8) (t3 : Bool) : Option UInt8 :=
  if t3 then (some (x_b + 32)) else (some x_b)

def octet_Lower (x_b : UInt8) : Option UInt8 :=
  if (decide (65 ≤ x_b)) then (octet_Lower_j1 x_b (decide (x_b ≤ 90))) else (octet_Lower_j1 x_b false)

def numeral_worth (x_b : UInt8) : Option Int :=
  (octet_IsDigit x_b).bind fun r2 =>
  if r2 then (some (((x_b - 48).toNat : Int))) else ((octet_Lower x_b).bind fun r7 =>
  (iAdd (((r7 - 97).toNat : Int)) 10).bind fun i8 =>
  some i8)

def numeral_read_j3 (rec2 : Int → Int → Option (Int × Int)) (x_base : Int) (i11 : Int) (i12 : Int) (r18 : Int) (t23 : Bool) : Option (Int × Int) :=
  if t23 then (some (0, 7)) else ((iMul i11 x_base).bind fun i27 =>
  (iAdd i27 r18).bind fun i28 =>
  (iAdd i12 1).bind fun i30 =>
  rec2 i28 i30)

def numeral_read_L2 (x_s : Str) (x_base : Int) (x_most : Int) : Nat → Int → Int → Option (Int × Int)
  | 0, _, _ => none
  | n + 1, i11, i12 =>
  if (decide (i12 < (x_s.length : Int))) then ((sAt x_s i12).bind fun b17 =>
  (numeral_worth b17).bind fun r18 =>
  if (decide (x_most < r18)) then (numeral_read_j3 (numeral_read_L2 x_s x_base x_most n) x_base i11 i12 r18 true) else ((iSub x_most r18).bind fun i21 =>
  (iDiv i21 x_base).bind fun i22 =>
  numeral_read_j3 (numeral_read_L2 x_s x_base x_most n) x_base i11 i12 r18 (decide (i22 < i11)))) else (some (i11, 0))

def numeral_read_j1 (x_s : Str) (x_base : Int) (x_most : Int) (t5 : Bool) : Option (Int × Int) :=
  if t5 then (some (0, 2)) else (numeral_read_L2 x_s x_base x_most fuel 0 0)

def numeral_read (x_s : Str) (x_base : Int) (x_most : Int) (x_is : UInt8 → Option Bool) : Option (Int × Int) :=
  if (x_s == []) then (numeral_read_j1 x_s x_base x_most true) else ((octet_All x_is [x_s]).bind fun r4 =>
  numeral_read_j1 x_s x_base x_most (!r4))

def numeral_Decimal (x_s : Str) (x_most : Int) : Option (Int × Int) :=
  (numeral_read x_s 10 x_most octet_IsDigit).bind fun r2 =>
  some (r2.1, r2.2)

def numeral_text (x_n : Int) (x_base : Int) : Option Str :=
  if (decide (x_n < 0)) then (some []) else ((strconv_FormatInt x_n x_base).bind fun r6 =>
  some r6)

def numeral_Text (x_n : Int) : Option Str :=
  (numeral_text x_n 10).bind fun r2 =>
  some r2

def hostport_small_j1 (t6 : Bool) : Option Bool :=
  some t6

def hostport_small (x_s : Str) (x_most : Int) : Option Bool :=
  (numeral_Decimal x_s x_most).bind fun r2 =>
  if (r2.2 == 0) then ((numeral_Text r2.1).bind fun r5 =>
  hostport_small_j1 (r5 == x_s)) else (hostport_small_j1 false)

def hostport_Four (s : Str) : Option Bool := if s.length < 1000000000 then ((splitOn 46 s).mapM (fun x => hostport_small x 255)).bind fun bs => some (bs.all id && decide ((bs.length : Int) = 4)) else none

def octet_IsHex_j1 (t7 : Bool) : Option Bool :=
  some t7

def octet_IsHex (x_b : UInt8) : Option Bool :=
  (octet_IsDigit x_b).bind fun r2 =>
  if r2 then (octet_IsHex_j1 true) else ((octet_Lower x_b).bind fun r4 =>
  if (decide (97 ≤ r4)) then ((octet_Lower x_b).bind fun r6 =>
  octet_IsHex_j1 (decide (r6 ≤ 102))) else (octet_IsHex_j1 false))

def hostport_groups_j4 (rec1 : Int → Int → Option Int) (i13 : Int) (i36 : Int) : Option Int :=
  (iAdd i13 1).bind fun i37 =>
  rec1 i36 i37

def hostport_groups_j3 (rec1 : Int → Int → Option Int) (i12 : Int) (i13 : Int) (t32 : Bool) : Option Int :=
  if t32 then ((iAdd i12 1).bind fun i34 =>
  hostport_groups_j4 rec1 i13 i34) else (some (-1))

def hostport_groups_j2 (rec1 : Int → Int → Option Int) (i12 : Int) (i13 : Int) (x17 : Str) (t25 : Bool) : Option Int :=
  if t25 then ((iAdd i12 2).bind fun i27 =>
  hostport_groups_j4 rec1 i13 i27) else (if (decide (1 ≤ (x17.length : Int))) then (if (decide ((x17.length : Int) ≤ 4)) then ((octet_All octet_IsHex [x17]).bind fun r31 =>
  hostport_groups_j3 rec1 i12 i13 r31) else (hostport_groups_j3 rec1 i12 i13 false)) else (hostport_groups_j3 rec1 i12 i13 false))

def hostport_groups_L1 (x_last : Bool) (r6 : List Str) : Nat → Int → Int → Option Int
  | 0, _, _ => none
  | n + 1, i12, i13 =>
  if (decide (i13 < (r6.length : Int))) then ((lAt r6 i13).bind fun x17 =>
  if x_last then ((iSub (r6.length : Int) 1).bind fun i22 =>
  if (i13 == i22) then ((hostport_Four x17).bind fun r24 =>
  hostport_groups_j2 (hostport_groups_L1 x_last r6 n) i12 i13 x17 r24) else (hostport_groups_j2 (hostport_groups_L1 x_last r6 n) i12 i13 x17 false)) else (hostport_groups_j2 (hostport_groups_L1 x_last r6 n) i12 i13 x17 false)) else (some i12)

def hostport_groups (x_s : Str) (x_last : Bool) : Option Int :=
  if (x_s == []) then (some 0) else ((strings_Split x_s [58]).bind fun r6 =>
  hostport_groups_L1 x_last r6 fuel 0 0)

def hostport_Six_j1 (t15 : Bool) : Option Bool :=
  some t15

def hostport_Six (x_s : Str) : Option Bool :=
  (strings_Cut x_s [58, 58]).bind fun r2 =>
  if (!r2.2.2) then ((hostport_groups x_s true).bind fun r6 =>
  some (r6 == 8)) else ((hostport_groups r2.1 false).bind fun r9 =>
  (hostport_groups r2.2.1 true).bind fun r10 =>
  if (decide (0 ≤ r9)) then (if (decide (0 ≤ r10)) then ((iAdd r9 r10).bind fun i14 =>
  hostport_Six_j1 (decide (i14 ≤ 7))) else (hostport_Six_j1 false)) else (hostport_Six_j1 false))

def stringslite_HasPrefix_j1 (t4 : Bool) : Option Bool :=
  some t4

def stringslite_HasPrefix (x_s : Str) (x_prefix : Str) : Option Bool :=
  if (decide ((x_prefix.length : Int) ≤ (x_s.length : Int))) then ((sTo x_s (x_prefix.length : Int)).bind fun s3 =>
  stringslite_HasPrefix_j1 (s3 == x_prefix)) else (stringslite_HasPrefix_j1 false)

def octet_Fold (s : Str) : Option Str := if s.length < 4294967281 then s.mapM octet_Lower else none

def ref01_Fold_j3 (rec2 : Str → Int → Option Str) (i14 : Int) (s24 : Str) : Option Str :=
  (iAdd i14 1).bind fun i25 =>
  rec2 s24 i25

def ref01_Fold_L2 (rec1 : Str → Int → Option Str) (x_s : Str) (s4 : Str) (i5 : Int) : Nat → Str → Int → Option Str
  | 0, _, _ => none
  | n + 1, s13, i14 =>
  if (decide (i14 < 26)) then ((sAt [65, 66, 67, 68, 69, 70, 71, 72, 73, 74, 75, 76, 77, 78, 79, 80, 81, 82, 83, 84, 85, 86, 87, 88, 89, 90] i14).bind fun b18 =>
  (sAt x_s i5).bind fun b19 =>
  if (b18 == b19) then ((iAdd i14 1).bind fun i22 =>
  (sSub [97, 98, 99, 100, 101, 102, 103, 104, 105, 106, 107, 108, 109, 110, 111, 112, 113, 114, 115, 116, 117, 118, 119, 120, 121, 122] i14 i22).bind fun s23 =>
  ref01_Fold_j3 (ref01_Fold_L2 rec1 x_s s4 i5 n) i14 s23) else (ref01_Fold_j3 (ref01_Fold_L2 rec1 x_s s4 i5 n) i14 s13)) else ((sCat s4 s13).bind fun s27 =>
  (iAdd i5 1).bind fun i29 =>
  rec1 s27 i29)

def ref01_Fold_L1 (x_s : Str) : Nat → Str → Int → Option Str
  | 0, _, _ => none
  | n + 1, s4, i5 =>
  if (decide (i5 < (x_s.length : Int))) then ((iAdd i5 1).bind fun i9 =>
  (sSub x_s i5 i9).bind fun s10 =>
  ref01_Fold_L2 (ref01_Fold_L1 x_s n) x_s s4 i5 fuel s10 0) else (some s4)

def ref01_Fold (x_s : Str) : Option Str :=
  ref01_Fold_L1 x_s fuel [] 0

def quill_Join (x_sep : Str) (x_l : List Str) : Option Str :=
  (strings_Join x_l x_sep).bind fun r2 =>
  some r2

def scan_New (x_s : Str) : Option scan_Scanner :=
  some (⟨x_s, 0⟩ : scan_Scanner)

def scan_Scanner_Rest (x_c : scan_Scanner) : Option Str :=
  (sFrom x_c.f_s x_c.f_at).bind fun s4 =>
  some s4

def scan_Scanner_End (x_c : scan_Scanner) : Option Bool :=
  (scan_Scanner_Rest x_c).bind fun r2 =>
  some (r2 == [])

def scan_Scanner_Peek (x_c : scan_Scanner) : Option (UInt8 × Bool) :=
  (scan_Scanner_End x_c).bind fun r2 =>
  if r2 then (some (0, false)) else ((sAt x_c.f_s x_c.f_at).bind fun b7 =>
  some (b7, true))

def scan_Scanner_Byte_j1 (x_c : scan_Scanner) (t5 : Bool) : Option (Bool × scan_Scanner) :=
  if t5 then (some (false, x_c)) else ((iAdd x_c.f_at 1).bind fun i9 =>
  some ((true, (⟨x_c.f_s, i9⟩ : scan_Scanner))))

def scan_Scanner_Byte (x_c : scan_Scanner) (x_b : UInt8) : Option (Bool × scan_Scanner) :=
  (scan_Scanner_Peek x_c).bind fun r2 =>
  if (!r2.2) then (scan_Scanner_Byte_j1 x_c true) else (scan_Scanner_Byte_j1 x_c (!(r2.1 == x_b)))

def scan_Scanner_At (x_c : scan_Scanner) : Option Int :=
  some x_c.f_at

def octet_IsVisible_j1 (t3 : Bool) : Option Bool :=
  some t3

def octet_IsVisible (x_b : UInt8) : Option Bool :=
  if (decide (32 < x_b)) then (octet_IsVisible_j1 (decide (x_b < 127))) else (octet_IsVisible_j1 false)

def octet_IsBlank_j1 (t3 : Bool) : Option Bool :=
  some t3

def octet_IsBlank (x_b : UInt8) : Option Bool :=
  if (x_b == 32) then (octet_IsBlank_j1 true) else (octet_IsBlank_j1 (x_b == 9))

def octet_IsValue_j1 (t6 : Bool) : Option Bool :=
  some t6

def octet_IsValue (x_b : UInt8) : Option Bool :=
  (octet_IsVisible x_b).bind fun r2 =>
  if r2 then (octet_IsValue_j1 true) else ((octet_IsBlank x_b).bind fun r4 =>
  if r4 then (octet_IsValue_j1 true) else (octet_IsValue_j1 (decide (127 < x_b))))

def commas_splitter_end_j1 (x_p : commas_splitter) (l12 : List Str) : Option commas_splitter :=
  (scan_Scanner_At x_p.Scanner).bind fun r13 =>
  some (⟨x_p.Scanner, l12, r13, x_p.f_s⟩ : commas_splitter)

def commas_splitter_end (x_p : commas_splitter) (x_at : Int) : Option commas_splitter :=
  (sSub x_p.f_s x_p.f_from x_at).bind fun s1 =>
  (strings_Trim s1 [32, 9]).bind fun r2 =>
  if (!(r2 == [])) then (if fitsApp x_p.f_out.length 1 16 then (commas_splitter_end_j1 x_p (x_p.f_out ++ [r2])) else none) else (commas_splitter_end_j1 x_p x_p.f_out)

def commas_splitter_comment_j2 (x_p : commas_splitter) (s31 : Str) (i32 : Int) : Option (Bool × commas_splitter) :=
  some ((true, (⟨(⟨s31, i32⟩ : scan_Scanner), x_p.f_out, x_p.f_from, x_p.f_s⟩ : commas_splitter)))

def commas_splitter_comment_L1 (x_p : commas_splitter) : Nat → Str → Int → Int → Option (Bool × commas_splitter)
  | 0, _, _, _ => none
  | n + 1, s3, i4, i5 =>
  if (decide (0 < i5)) then ((scan_Scanner_Peek (⟨s3, i4⟩ : scan_Scanner)).bind fun r9 =>
  if (!r9.2) then (some ((false, (⟨(⟨s3, i4⟩ : scan_Scanner), x_p.f_out, x_p.f_from, x_p.f_s⟩ : commas_splitter)))) else ((scan_Scanner_Byte (⟨s3, i4⟩ : scan_Scanner) r9.1).bind fun r15 =>
  if (r9.1 == 40) then ((iAdd i5 1).bind fun i20 =>
  (commas_splitter_comment_L1 x_p n) r15.2.f_s r15.2.f_at i20) else (if (r9.1 == 41) then ((iSub i5 1).bind fun i23 =>
  (commas_splitter_comment_L1 x_p n) r15.2.f_s r15.2.f_at i23) else (if (r9.1 == 92) then ((scan_Scanner_Peek r15.2).bind fun r26 =>
  if r26.2 then ((scan_Scanner_Byte r15.2 r26.1).bind fun r30 =>
  (commas_splitter_comment_L1 x_p n) r30.2.f_s r30.2.f_at i5) else ((commas_splitter_comment_L1 x_p n) r15.2.f_s r15.2.f_at i5)) else ((commas_splitter_comment_L1 x_p n) r15.2.f_s r15.2.f_at i5))))) else (commas_splitter_comment_j2 x_p s3 i4)

def commas_splitter_comment (x_p : commas_splitter) : Option (Bool × commas_splitter) :=
  commas_splitter_comment_L1 x_p fuel x_p.Scanner.f_s x_p.Scanner.f_at 1

def quoted_reader_next_j1 (x_r : quoted_reader) (r2 : Bool × scan_Scanner) (r4 : UInt8 × Bool) (t8 : Bool) : Option (Bool × quoted_reader) :=
  if t8 then (some ((false, (⟨r2.2, x_r.f_out⟩ : quoted_reader)))) else (if fitsApp x_r.f_out.length 1 1 then ((scan_Scanner_Byte r2.2 r4.1).bind fun r17 =>
  some ((r17.1, (⟨r17.2, x_r.f_out ++ [r4.1]⟩ : quoted_reader)))) else none)

def quoted_reader_next (x_r : quoted_reader) : Option (Bool × quoted_reader) :=
  (scan_Scanner_Byte x_r.Scanner 92).bind fun r2 =>
  (scan_Scanner_Peek r2.2).bind fun r4 =>
  if (!r4.2) then (quoted_reader_next_j1 x_r r2 r4 true) else ((octet_IsValue r4.1).bind fun r7 =>
  quoted_reader_next_j1 x_r r2 r4 (!r7))

def scan_Scanner_Back_j1 (x_c : scan_Scanner) (x_at : Int) (t4 : Bool) : Option (Bool × scan_Scanner) :=
  if t4 then (some (false, x_c)) else (some ((true, (⟨x_c.f_s, x_at⟩ : scan_Scanner))))

def scan_Scanner_Back (x_c : scan_Scanner) (x_at : Int) : Option (Bool × scan_Scanner) :=
  if (decide (x_at < 0)) then (scan_Scanner_Back_j1 x_c x_at true) else ((scan_Scanner_At x_c).bind fun r3 =>
  scan_Scanner_Back_j1 x_c x_at (decide (r3 < x_at)))

def quoted_Read_j3 (r2 : Int) (t24 : Bool) (s25 : Str) (i26 : Int) (l29 : List UInt8) : Option (Str × Bool × scan_Scanner) :=
  if (!t24) then ((scan_Scanner_Back (⟨s25, i26⟩ : scan_Scanner) r2).bind fun r32 =>
  some ([], false, r32.2)) else (some ((l29, true, (⟨s25, i26⟩ : scan_Scanner))))

def quoted_Read_j2 (rec1 : Str → Int → (List UInt8) → Bool → Option (Str × Bool × scan_Scanner)) (r2 : Int) (l12 : List UInt8) (t13 : Bool) (t16 : Bool) (s17 : Str) (i18 : Int) : Option (Str × Bool × scan_Scanner) :=
  if t16 then ((quoted_reader_next ((⟨(⟨s17, i18⟩ : scan_Scanner), l12⟩ : quoted_reader))).bind fun r21 =>
  rec1 r21.2.Scanner.f_s r21.2.Scanner.f_at r21.2.f_out r21.1) else (quoted_Read_j3 r2 t13 s17 i18 l12)

def quoted_Read_L1 (r2 : Int) : Nat → Str → Int → (List UInt8) → Bool → Option (Str × Bool × scan_Scanner)
  | 0, _, _, _, _ => none
  | n + 1, s8, i9, l12, t13 =>
  if t13 then ((scan_Scanner_Byte (⟨s8, i9⟩ : scan_Scanner) 34).bind fun r15 =>
  quoted_Read_j2 (quoted_Read_L1 r2 n) r2 l12 t13 (!r15.1) r15.2.f_s r15.2.f_at) else (quoted_Read_j2 (quoted_Read_L1 r2 n) r2 l12 t13 false s8 i9)

def quoted_Read (x_c : scan_Scanner) : Option (Str × Bool × scan_Scanner) :=
  (scan_Scanner_At x_c).bind fun r2 =>
  (scan_Scanner_Byte x_c 34).bind fun r6 =>
  quoted_Read_L1 r2 fuel r6.2.f_s r6.2.f_at [] r6.1

def commas_splitter_step_j1 (l28 : List Str) (i29 : Int) (s30 : Str) (s31 : Str) (i32 : Int) : Option (Bool × commas_splitter) :=
  some ((true, (⟨(⟨s31, i32⟩ : scan_Scanner), l28, i29, s30⟩ : commas_splitter)))

def commas_splitter_step (x_p : commas_splitter) : Option (Bool × commas_splitter) :=
  (scan_Scanner_At x_p.Scanner).bind fun r2 =>
  (scan_Scanner_Byte x_p.Scanner 44).bind fun r4 =>
  if r4.1 then ((commas_splitter_end (⟨r4.2, x_p.f_out, x_p.f_from, x_p.f_s⟩ : commas_splitter) r2).bind fun r7 =>
  commas_splitter_step_j1 r7.f_out r7.f_from r7.f_s r7.Scanner.f_s r7.Scanner.f_at) else ((scan_Scanner_Byte r4.2 40).bind fun r10 =>
  if r10.1 then ((commas_splitter_comment (⟨r10.2, x_p.f_out, x_p.f_from, x_p.f_s⟩ : commas_splitter)).bind fun r13 =>
  some (r13.1, r13.2)) else ((scan_Scanner_Peek r10.2).bind fun r17 =>
  if (r17.1 == 34) then ((quoted_Read r10.2).bind fun r21 =>
  some ((r21.2.1, (⟨r21.2.2, x_p.f_out, x_p.f_from, x_p.f_s⟩ : commas_splitter)))) else ((scan_Scanner_Byte r10.2 r17.1).bind fun r25 =>
  commas_splitter_step_j1 x_p.f_out x_p.f_from x_p.f_s r25.2.f_s r25.2.f_at)))

def commas_Split_j2 (x_s : Str) (l25 : List Str) (i26 : Int) (s27 : Str) (s28 : Str) (i29 : Int) : Option (List Str × Int) :=
  (commas_splitter_end ((⟨(⟨s28, i29⟩ : scan_Scanner), l25, i26, s27⟩ : commas_splitter)) (x_s.length : Int)).bind fun r30 =>
  some (r30.f_out, 0)

def commas_Split_L1 (x_s : Str) : Nat → (List Str) → Int → Str → Str → Int → Option (List Str × Int)
  | 0, _, _, _, _, _ => none
  | n + 1, l8, i9, s10, s11, i12 =>
  (scan_Scanner_End (⟨s11, i12⟩ : scan_Scanner)).bind fun r13 =>
  if (!r13) then ((commas_splitter_step ((⟨(⟨s11, i12⟩ : scan_Scanner), l8, i9, s10⟩ : commas_splitter))).bind fun r17 =>
  if (!r17.1) then (some ([], 2)) else ((commas_Split_L1 x_s n) r17.2.f_out r17.2.f_from r17.2.f_s r17.2.Scanner.f_s r17.2.Scanner.f_at)) else (commas_Split_j2 x_s l8 i9 s10 s11 i12)

def commas_Split (x_s : Str) : Option (List Str × Int) :=
  (scan_New x_s).bind fun r2 =>
  commas_Split_L1 x_s fuel [] 0 x_s r2.f_s r2.f_at

def stringslite_CutPrefix (x_s : Str) (x_prefix : Str) : Option (Str × Bool) :=
  (stringslite_HasPrefix x_s x_prefix).bind fun r2 =>
  if (!r2) then (some (x_s, false)) else ((sFrom x_s (x_prefix.length : Int)).bind fun s7 =>
  some (s7, true))

def strings_CutPrefix (x_s : Str) (x_prefix : Str) : Option (Str × Bool) :=
  (stringslite_CutPrefix x_s x_prefix).bind fun r2 =>
  some (r2.1, r2.2)

def stringslite_HasSuffix_j1 (t5 : Bool) : Option Bool :=
  some t5

def stringslite_HasSuffix (x_s : Str) (x_suffix : Str) : Option Bool :=
  if (decide ((x_suffix.length : Int) ≤ (x_s.length : Int))) then ((iSub (x_s.length : Int) (x_suffix.length : Int)).bind fun i3 =>
  (sFrom x_s i3).bind fun s4 =>
  stringslite_HasSuffix_j1 (s4 == x_suffix)) else (stringslite_HasSuffix_j1 false)

def stringslite_CutSuffix (x_s : Str) (x_suffix : Str) : Option (Str × Bool) :=
  (stringslite_HasSuffix x_s x_suffix).bind fun r2 =>
  if (!r2) then (some (x_s, false)) else ((iSub (x_s.length : Int) (x_suffix.length : Int)).bind fun i7 =>
  (sTo x_s i7).bind fun s8 =>
  some (s8, true))

def strings_CutSuffix (x_s : Str) (x_suffix : Str) : Option (Str × Bool) :=
  (stringslite_CutSuffix x_s x_suffix).bind fun r2 =>
  some (r2.1, r2.2)

def xff_bare_j1 (t5 : Bool) : Option Bool :=
  some t5

def xff_bare (x_s : Str) : Option Bool :=
  (hostport_Four x_s).bind fun r2 =>
  if r2 then (xff_bare_j1 true) else ((hostport_Six x_s).bind fun r4 =>
  xff_bare_j1 r4)

def octet_Same (x_a : Str) (x_b : Str) : Option Bool :=
  (octet_Fold x_a).bind fun r2 =>
  (octet_Fold x_b).bind fun r3 =>
  some (r2 == r3)

def xff_Is_j1 (t15 : Bool) : Option Bool :=
  some t15

def xff_Is (x_s : Str) : Option Bool :=
  (strings_CutPrefix x_s [91]).bind fun r2 =>
  (strings_CutSuffix r2.1 [93]).bind fun r4 =>
  (xff_bare x_s).bind fun r6 =>
  if r6 then (xff_Is_j1 true) else (if r2.2 then (if r4.2 then ((hostport_Six r4.1).bind fun r10 =>
  if r10 then (xff_Is_j1 true) else ((octet_Same x_s [117, 110, 107, 110, 111, 119, 110]).bind fun r12 =>
  xff_Is_j1 r12)) else ((octet_Same x_s [117, 110, 107, 110, 111, 119, 110]).bind fun r13 =>
  xff_Is_j1 r13)) else ((octet_Same x_s [117, 110, 107, 110, 111, 119, 110]).bind fun r14 =>
  xff_Is_j1 r14))

def xff_List_L2 (rec1 : (List Str) → Int → Option (List Str × Int)) (l6 : List Str) (i7 : Int) (r15 : List Str × Int) : Nat → Int → Option (List Str × Int)
  | 0, _ => none
  | n + 1, i24 =>
  if (decide (i24 < (r15.1.length : Int))) then ((lAt r15.1 i24).bind fun x28 =>
  (xff_Is x28).bind fun r32 =>
  if (!r32) then (some ([], 2)) else ((iAdd i24 1).bind fun i37 =>
  (xff_List_L2 rec1 l6 i7 r15 n) i37)) else (if fitsApp l6.length r15.1.length 16 then ((iAdd i7 1).bind fun i43 =>
  rec1 (l6 ++ r15.1) i43) else none)

def xff_List_L1 (x_values : List Str) : Nat → (List Str) → Int → Option (List Str × Int)
  | 0, _, _ => none
  | n + 1, l6, i7 =>
  if (decide (i7 < (x_values.length : Int))) then ((lAt x_values i7).bind fun x11 =>
  (commas_Split x11).bind fun r15 =>
  if (!(r15.2 == 0)) then (some ([], r15.2)) else (xff_List_L2 (xff_List_L1 x_values n) l6 i7 r15 fuel 0)) else (some (l6, 0))

def xff_List (x_values : List Str) : Option (List Str × Int) :=
  xff_List_L1 x_values fuel [] 0

def slices_Clone_gapi_Field_api_Field_ (x_s : List api_Field) : Option (List api_Field) :=
  if fitsApp 0 x_s.length 32 then (some x_s) else none

def bag_New (x_l : List api_Field) : Option bag_Bag :=
  (slices_Clone_gapi_Field_api_Field_ x_l).bind fun r2 =>
  some (⟨r2⟩ : bag_Bag)

def commas_Join (x_l : List Str) : Option Str :=
  (quill_Join [44, 32] x_l).bind fun r2 =>
  some r2

def commas_Append (x_s : Str) (x_l : List Str) : Option Str :=
  if ((x_l.length : Int) == 0) then (some x_s) else ((strings_Trim x_s [32, 9, 44]).bind fun r5 =>
  if (r5 == []) then ((commas_Join x_l).bind fun r8 =>
  some r8) else ((strings_TrimRight x_s [32, 9]).bind fun r11 =>
  if fitsApp ([r11].length) x_l.length 16 then ((commas_Join ([r11] ++ x_l)).bind fun r16 =>
  some r16) else none))

def bag_Bag_Add (x_b : bag_Bag) (x_l : List api_Field) : Option bag_Bag :=
  if fitsApp x_b.f_l.length x_l.length 32 then (some (⟨x_b.f_l ++ x_l⟩ : bag_Bag)) else none

def bag_Bag_Behind_L1 (x_b : bag_Bag) (x_name : Str) (x_element : Str) : Nat → Int → Option bag_Bag
  | 0, _ => none
  | n + 1, i5 =>
  if (decide (0 ≤ i5)) then ((lAt x_b.f_l i5).bind fun x9 =>
  (octet_Same x9.Name x_name).bind fun r12 =>
  if r12 then ((lAt x_b.f_l i5).bind fun x15 =>
  (commas_Append x15.Value [x_element]).bind fun r19 =>
  (lAt x_b.f_l i5).bind fun x20 =>
  (lSet x_b.f_l i5 (⟨x20.Name, r19⟩ : api_Field)).bind fun l23 =>
  some (⟨l23⟩ : bag_Bag)) else ((iSub i5 1).bind fun i26 =>
  (bag_Bag_Behind_L1 x_b x_name x_element n) i26)) else ((bag_Bag_Add x_b ([(⟨x_name, x_element⟩ : api_Field)])).bind fun r29 =>
  some r29)

def bag_Bag_Behind (x_b : bag_Bag) (x_name : Str) (x_element : Str) : Option bag_Bag :=
  (iSub (x_b.f_l.length : Int) 1).bind fun i3 =>
  bag_Bag_Behind_L1 x_b x_name x_element fuel i3

def bag_Bag_List (x_b : bag_Bag) : Option (List api_Field) :=
  (slices_Clone_gapi_Field_api_Field_ x_b.f_l).bind fun r4 =>
  some r4

def xff_Append_j1 (x_l : List api_Field) (s5 : Str) : Option (List api_Field) :=
  (bag_New x_l).bind fun r6 =>
  (bag_Bag_Behind r6 [88, 45, 70, 111, 114, 119, 97, 114, 100, 101, 100, 45, 70, 111, 114] s5).bind fun r11 =>
  (bag_Bag_List r11).bind fun r15 =>
  some r15

def xff_Append (x_client : Str) (x_l : List api_Field) : Option (List api_Field) :=
  (xff_bare x_client).bind fun r2 =>
  if (!r2) then (xff_Append_j1 x_l [117, 110, 107, 110, 111, 119, 110]) else (xff_Append_j1 x_l x_client)

def ref06_Same_L1 (x_a : List Str) (x_b : List Str) : Nat → Int → Option Bool
  | 0, _ => none
  | n + 1, i7 =>
  if (decide (i7 < (x_a.length : Int))) then ((lAt x_a i7).bind fun x11 =>
  (lAt x_b i7).bind fun x14 =>
  if (!(x11 == x14)) then (some false) else ((iAdd i7 1).bind fun i21 =>
  (ref06_Same_L1 x_a x_b n) i21)) else (some true)

def ref06_Same (x_a : List Str) (x_b : List Str) : Option Bool :=
  if (!((x_a.length : Int) == (x_b.length : Int))) then (some false) else (ref06_Same_L1 x_a x_b fuel 0)

def law27_awake_j1 (t19 : Bool) : Option Bool :=
  some t19

def law27_awake : Option Bool :=
  (xff_List ([[49, 46, 50, 46, 51, 46, 52, 44, 32, 58, 58, 49]])).bind fun r3 =>
  (xff_Append [120] []).bind fun r7 =>
  if (r3.2 == 0) then ((ref06_Same r3.1 ([[49, 46, 50, 46, 51, 46, 52], [58, 58, 49]])).bind fun r13 =>
  if r13 then (if ((r7.length : Int) == 1) then ((lAt r7 0).bind fun x16 =>
  law27_awake_j1 (x16 == (⟨[88, 45, 70, 111, 114, 119, 97, 114, 100, 101, 100, 45, 70, 111, 114], [117, 110, 107, 110, 111, 119, 110]⟩ : api_Field))) else (law27_awake_j1 false)) else (law27_awake_j1 false)) else (law27_awake_j1 false)

def law15_few (x_s : Str) : Option Str :=
  (sTo x_s (min (x_s.length : Int) 400)).bind fun s2 =>
  some s2

def law15_Few_j2 (rec1 : (List api_Field) → Int → Option api_Head) (x_h : api_Head) (r4 : Str) (r6 : Str) (r8 : Str) (l14 : List api_Field) (i15 : Int) (t17 : Bool) : Option api_Head :=
  if t17 then ((lAt x_h.Fields i15).bind fun x20 =>
  (law15_few x20.Name).bind fun r23 =>
  (lAt x_h.Fields i15).bind fun x24 =>
  (law15_few x24.Value).bind fun r27 =>
  if fitsApp l14.length 1 32 then ((iAdd i15 1).bind fun i33 =>
  rec1 (l14 ++ [(⟨r23, r27⟩ : api_Field)]) i33) else none) else (some (⟨x_h.Kind, r4, r6, x_h.Code, r8, x_h.Minor, l14⟩ : api_Head))

def law15_Few_L1 (x_h : api_Head) (r4 : Str) (r6 : Str) (r8 : Str) : Nat → (List api_Field) → Int → Option api_Head
  | 0, _, _ => none
  | n + 1, l14, i15 =>
  if (decide (i15 < (x_h.Fields.length : Int))) then (law15_Few_j2 (law15_Few_L1 x_h r4 r6 r8 n) x_h r4 r6 r8 l14 i15 (decide (i15 < 120))) else (law15_Few_j2 (law15_Few_L1 x_h r4 r6 r8 n) x_h r4 r6 r8 l14 i15 false)

def law15_Few (x_h : api_Head) : Option api_Head :=
  (law15_few x_h.Method).bind fun r4 =>
  (law15_few x_h.Target).bind fun r6 =>
  (law15_few x_h.Reason).bind fun r8 =>
  law15_Few_L1 x_h r4 r6 r8 fuel [] 0

def ref13_Of (x_f : api_Field) (x_name : Str) : Option Bool :=
  (ref01_Fold x_f.Name).bind fun r3 =>
  (ref01_Fold x_name).bind fun r4 =>
  some (r3 == r4)

def ref12_Same_L1 (x_a : List api_Field) (x_b : List api_Field) : Nat → Int → Option Bool
  | 0, _ => none
  | n + 1, i7 =>
  if (decide (i7 < (x_a.length : Int))) then ((lAt x_a i7).bind fun x11 =>
  (lAt x_b i7).bind fun x14 =>
  if (!(x11 == x14)) then (some false) else ((iAdd i7 1).bind fun i21 =>
  (ref12_Same_L1 x_a x_b n) i21)) else (some true)

def ref12_Same (x_a : List api_Field) (x_b : List api_Field) : Option Bool :=
  if (!((x_a.length : Int) == (x_b.length : Int))) then (some false) else (ref12_Same_L1 x_a x_b fuel 0)

def ref13_Without_j2 (rec1 : (List api_Field) → Int → Option (List api_Field)) (i7 : Int) (l26 : List api_Field) : Option (List api_Field) :=
  (iAdd i7 1).bind fun i27 =>
  rec1 l26 i27

def ref13_Without_L1 (x_l : List api_Field) (x_name : Str) : Nat → (List api_Field) → Int → Option (List api_Field)
  | 0, _, _ => none
  | n + 1, l6, i7 =>
  if (decide (i7 < (x_l.length : Int))) then ((lAt x_l i7).bind fun x11 =>
  (ref13_Of x11 x_name).bind fun r14 =>
  if (!r14) then ((lAt x_l i7).bind fun x17 =>
  if fitsApp l6.length 1 32 then (ref13_Without_j2 (ref13_Without_L1 x_l x_name n) i7 (l6 ++ [x17])) else none) else (ref13_Without_j2 (ref13_Without_L1 x_l x_name n) i7 l6)) else (some l6)

def ref13_Without (x_l : List api_Field) (x_name : Str) : Option (List api_Field) :=
  ref13_Without_L1 x_l x_name fuel [] 0

def law27_XffOthers_j1 (t43 : Bool) : Option Bool :=
  some t43

def law27_XffOthers (x_client : Str) (x_l : List api_Field) : Option Bool :=
  (law27_awake).bind fun r2 =>
  if (!r2) then (some false) else ((law15_Few (⟨0, [], [], 0, [], 0, x_l⟩ : api_Head)).bind fun r7 =>
  (xff_Append x_client r7.Fields).bind fun r11 =>
  (ref13_Without r11 [120, 45, 102, 111, 114, 119, 97, 114, 100, 101, 100, 45, 102, 111, 114]).bind fun r15 =>
  (ref13_Without r7.Fields [120, 45, 102, 111, 114, 119, 97, 114, 100, 101, 100, 45, 102, 111, 114]).bind fun r18 =>
  (ref12_Same r15 r18).bind fun r21 =>
  if (!r21) then (some false) else ((xff_Append x_client []).bind fun r26 =>
  if ((r26.length : Int) == 1) then ((lAt r26 0).bind fun x31 =>
  (xff_Is x31.Value).bind fun r34 =>
  if r34 then ((lAt r26 0).bind fun x36 =>
  if (x36.Value == x_client) then (law27_XffOthers_j1 true) else ((lAt r26 0).bind fun x40 =>
  law27_XffOthers_j1 (x40.Value == [117, 110, 107, 110, 111, 119, 110]))) else (law27_XffOthers_j1 false)) else (law27_XffOthers_j1 false)))

end Go.Dm
