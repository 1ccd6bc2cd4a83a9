/-
  The models of the functions: written by a program (wip/gen) off the translation. No program in sight.
-/
import Derived.Test.YtgdhdeemlhllpabGreatDoorPrim
import Derived.Lib.ItoaNum
import Derived.Lib.SplitLaws
import Derived.Lib.SlTrimSet
import Derived.Lib.Join
import Derived.Lib.IndexMore
set_option linter.unusedVariables false
set_option maxRecDepth 10000
namespace Go.Dm
structure api_Swap where
  From : Str
  To : Str
deriving DecidableEq
structure scan_Scanner where
  f_s : Str
  f_at : Int
deriving DecidableEq
structure api_Attr where
  Name : Str
  Value : Str
  Has : Bool
deriving DecidableEq
structure api_Cookie where
  Name : Str
  Value : Str
  Attrs : List api_Attr
deriving DecidableEq
structure api_Ref where
  Scheme : Str
  Auth : Str
  Path : Str
  Query : Str
  Frag : Str
  HasAuth : Bool
  HasQuery : Bool
  HasFrag : Bool
deriving DecidableEq
structure api_Env where
  Client : Str
  Host : Str
  Scheme : Str
  By : Str
  Domains : List api_Swap
  Locations : List api_Swap
deriving DecidableEq
structure api_Field where
  Name : Str
  Value : Str
deriving DecidableEq
structure api_Head where
  Kind : Int
  Method : Str
  Target : Str
  Code : Int
  Reason : Str
  Minor : Int
  Fields : List api_Field
deriving DecidableEq

def idxByte : Str → UInt8 → Nat → Int
  | [], _, _ => -1
  | x :: l, c, k => if x == c then (k : Int) else idxByte l c (k + 1)
def strings_IndexByte (s : Str) (c : UInt8) : Option Int := some (idxByte s c 0)
/-- Does a text begin with another one? -/
def begins : Str → Str → Bool
  | _, [] => true
  | [], _ :: _ => false
  | x :: s, y :: t => x == y && begins s t
def idxStr : Str → Str → Nat → Int
  | s, t, k => if begins s t then (k : Int) else match s with
    | [] => -1
    | _ :: s => idxStr s t (k + 1)
def strings_Index (s t : Str) : Option Int := if s.length < 4294967281 then some (idxStr s t 0) else none
def strings_Contains (s t : Str) : Option Bool := if s.length < 4294967281 then some (decide (0 ≤ idxStr s t 0)) else none
def idxAny : Str → Str → Nat → Int
  | [], _, _ => -1
  | x :: l, cs, k => if cs.contains x then (k : Int) else idxAny l cs (k + 1)
/-- Where the bytes that are looked for are ASCII. -/
def strings_IndexAny (s cs : Str) : Option Int := if s.length < 4294967281 ∧ cs.length < 4294967281 ∧ cs.all (fun c => c.toNat < 128) then some (idxAny s cs 0) else none
/-- At the bytes of a separator that is not empty. -/
def strings_Split (s sep : Str) : Option (List Str) := if s.length < 4294967281 ∧ 1 ≤ sep.length then some (Go.Lib.splitK sep 0 (Go.Lib.countB ⟨s.toArray⟩ ⟨sep.toArray⟩) s) else none
/-- What of a text stands between a byte and the next one. -/
def splitOn (c : UInt8) : Str → List Str
  | [] => [[]]
  | x :: s => if x = c then [] :: splitOn c s else match splitOn c s with
    | [] => [[x]]
    | h :: t => (x :: h) :: t
def strconv_FormatInt (n b : Int) : Option Str := if inI n = true ∧ b = 10 then some (Go.Lib.itoa n) else none
def strings_Trim (s cs : Str) : Option Str := if s.length < 4294967281 ∧ cs.length < 4294967281 ∧ cs.all (fun c => c.toNat < 128) then some (Go.Lib.trimS s cs) else none
def strings_Join (l : List Str) (sep : Str) : Option Str := if l.length ≤ 140737488355328 ∧ (Go.Lib.join l sep).length ≤ 140737488355328 then some (Go.Lib.join l sep) else none
def stringslite_HasPrefix_j1 (t4 : Bool) : Option Bool :=
  some t4

def stringslite_HasPrefix (x_s : Str) (x_prefix : Str) : Option Bool :=
  if (decide ((x_prefix.length : Int) ≤ (x_s.length : Int))) then ((sTo x_s (x_prefix.length : Int)).bind fun s3 =>
  stringslite_HasPrefix_j1 (s3 == x_prefix)) else (stringslite_HasPrefix_j1 false)

def stringslite_TrimPrefix (x_s : Str) (x_prefix : Str) : Option Str :=
  (stringslite_HasPrefix x_s x_prefix).bind fun r2 =>
  if r2 then ((sFrom x_s (x_prefix.length : Int)).bind fun s5 =>
  some s5) else (some x_s)

def strings_TrimPrefix (x_s : Str) (x_prefix : Str) : Option Str :=
  (stringslite_TrimPrefix x_s x_prefix).bind fun r2 =>
  some r2

def octet_All_L2 (rec1 : Int → Option Bool) (x_is : UInt8 → Option Bool) (i3 : Int) (x7 : Str) : Nat → Int → Option Bool
  | 0, _ => none
  | n + 1, i12 =>
  if (decide (i12 < (x7.length : Int))) then ((sAt x7 i12).bind fun b17 =>
  (x_is b17).bind fun r18 =>
  if (!r18) then (some false) else ((iAdd i12 1).bind fun i23 =>
  (octet_All_L2 rec1 x_is i3 x7 n) i23)) else ((iAdd i3 1).bind fun i25 =>
  rec1 i25)

def octet_All_L1 (x_is : UInt8 → Option Bool) (x_l : List Str) : Nat → Int → Option Bool
  | 0, _ => none
  | n + 1, i3 =>
  if (decide (i3 < (x_l.length : Int))) then ((lAt x_l i3).bind fun x7 =>
  octet_All_L2 (octet_All_L1 x_is x_l n) x_is i3 x7 fuel 0) else (some true)

def octet_All (x_is : UInt8 → Option Bool) (x_l : List Str) : Option Bool :=
  octet_All_L1 x_is x_l fuel 0

def octet_IsDigit_j1 (t3 : Bool) : Option Bool :=
  some t3

def octet_IsDigit (x_b : UInt8) : Option Bool :=
  if (decide (48 ≤ x_b)) then (octet_IsDigit_j1 (decide (x_b ≤ 57))) else (octet_IsDigit_j1 false)

def octet_Lower_j1 (x_b : UInt8) (t3 : Bool) : Option UInt8 :=
  if t3 then (some (x_b + 32)) else (some x_b)

def octet_Lower (x_b : UInt8) : Option UInt8 :=
  if (decide (65 ≤ x_b)) then (octet_Lower_j1 x_b (decide (x_b ≤ 90))) else (octet_Lower_j1 x_b false)

def octet_IsHex_j1 (t7 : Bool) : Option Bool :=
  some t7

def octet_IsHex (x_b : UInt8) : Option Bool :=
  (octet_IsDigit x_b).bind fun r2 =>
  if r2 then (octet_IsHex_j1 true) else ((octet_Lower x_b).bind fun r4 =>
  if (decide (97 ≤ r4)) then ((octet_Lower x_b).bind fun r6 =>
  octet_IsHex_j1 (decide (r6 ≤ 102))) else (octet_IsHex_j1 false))

def hostport_percent_j1 (t8 : Bool) : Option Bool :=
  some t8

def hostport_percent (x_s : Str) : Option Bool :=
  if (decide (3 ≤ (x_s.length : Int))) then ((sAt x_s 0).bind fun b3 =>
  if (b3 == 37) then ((sSub x_s 1 3).bind fun s5 =>
  (octet_All octet_IsHex ([s5] : List Str)).bind fun r7 =>
  hostport_percent_j1 r7) else (hostport_percent_j1 false)) else (hostport_percent_j1 false)

def octet_IsAlpha_j1 (t5 : Bool) : Option Bool :=
  some t5

def octet_IsAlpha (x_b : UInt8) : Option Bool :=
  (octet_Lower x_b).bind fun r2 =>
  if (decide (97 ≤ r2)) then ((octet_Lower x_b).bind fun r4 =>
  octet_IsAlpha_j1 (decide (r4 ≤ 122))) else (octet_IsAlpha_j1 false)

def octet_one (x_b : UInt8) (x_l : Str) : Option Bool :=
  (strings_IndexByte x_l x_b).bind fun r2 =>
  some (decide (0 ≤ r2))

def octet_IsUnreserved_j1 (t7 : Bool) : Option Bool :=
  some t7

def octet_IsUnreserved (x_b : UInt8) : Option Bool :=
  (octet_IsAlpha x_b).bind fun r2 =>
  if r2 then (octet_IsUnreserved_j1 true) else ((octet_IsDigit x_b).bind fun r4 =>
  if r4 then (octet_IsUnreserved_j1 true) else ((octet_one x_b [45, 46, 95, 126]).bind fun r6 =>
  octet_IsUnreserved_j1 r6))

def octet_IsSub (x_b : UInt8) : Option Bool :=
  (octet_one x_b [33, 36, 38, 39, 40, 41, 42, 43, 44, 59, 61]).bind fun r2 =>
  some r2

def hostport_Name_j2 (rec1 : Str → Option Bool) (s6 : Str) (t19 : Bool) : Option Bool :=
  if t19 then ((sFrom s6 1).bind fun s21 =>
  rec1 s21) else (some false)

def hostport_Name_L1 : Nat → Str → Option Bool
  | 0, _ => none
  | n + 1, s6 =>
  if (!(s6 == [])) then ((hostport_percent s6).bind fun r10 =>
  if r10 then ((sFrom s6 3).bind fun s13 =>
  (hostport_Name_L1 n) s13) else ((sAt s6 0).bind fun b14 =>
  (octet_IsUnreserved b14).bind fun r15 =>
  if r15 then (hostport_Name_j2 (hostport_Name_L1 n) s6 true) else ((sAt s6 0).bind fun b17 =>
  (octet_IsSub b17).bind fun r18 =>
  hostport_Name_j2 (hostport_Name_L1 n) s6 r18))) else (some true)

def hostport_Name (x_s : Str) : Option Bool :=
  if (x_s == []) then (some false) else (hostport_Name_L1 fuel x_s)

def numeral_worth (x_b : UInt8) : Option Int :=
  (octet_IsDigit x_b).bind fun r2 =>
  if r2 then (some (((x_b - 48).toNat : Int))) else ((octet_Lower x_b).bind fun r7 =>
  (iAdd (((r7 - 97).toNat : Int)) 10).bind fun i8 =>
  some i8)

def numeral_read_j3 (rec2 : Int → Int → Option (Int × Int)) (x_base : Int) (i11 : Int) (i12 : Int) (r18 : Int) (t23 : Bool) : Option (Int × Int) :=
  if t23 then (some (0, 7)) else ((iMul i11 x_base).bind fun i27 =>
  (iAdd i27 r18).bind fun i28 =>
  (iAdd i12 1).bind fun i30 =>
  rec2 i28 i30)

def numeral_read_L2 (x_s : Str) (x_base : Int) (x_most : Int) : Nat → Int → Int → Option (Int × Int)
  | 0, _, _ => none
  | n + 1, i11, i12 =>
  if (decide (i12 < (x_s.length : Int))) then ((sAt x_s i12).bind fun b17 =>
  (numeral_worth b17).bind fun r18 =>
  if (decide (x_most < r18)) then (numeral_read_j3 (numeral_read_L2 x_s x_base x_most n) x_base i11 i12 r18 true) else ((iSub x_most r18).bind fun i21 =>
  (iDiv i21 x_base).bind fun i22 =>
  numeral_read_j3 (numeral_read_L2 x_s x_base x_most n) x_base i11 i12 r18 (decide (i22 < i11)))) else (some (i11, 0))

def numeral_read_j1 (x_s : Str) (x_base : Int) (x_most : Int) (t5 : Bool) : Option (Int × Int) :=
  if t5 then (some (0, 2)) else (numeral_read_L2 x_s x_base x_most fuel 0 0)

def numeral_read (x_s : Str) (x_base : Int) (x_most : Int) (x_is : UInt8 → Option Bool) : Option (Int × Int) :=
  if (x_s == []) then (numeral_read_j1 x_s x_base x_most true) else ((octet_All x_is ([x_s] : List Str)).bind fun r4 =>
  numeral_read_j1 x_s x_base x_most (!r4))

def numeral_Decimal (x_s : Str) (x_most : Int) : Option (Int × Int) :=
  (numeral_read x_s 10 x_most octet_IsDigit).bind fun r2 =>
  some (r2.1, r2.2)

def numeral_text (x_n : Int) (x_base : Int) : Option Str :=
  if (decide (x_n < 0)) then (some []) else ((strconv_FormatInt x_n x_base).bind fun r6 =>
  some r6)

def numeral_Text (x_n : Int) : Option Str :=
  (numeral_text x_n 10).bind fun r2 =>
  some r2

def hostport_small_j1 (t6 : Bool) : Option Bool :=
  some t6

def hostport_small (x_s : Str) (x_most : Int) : Option Bool :=
  (numeral_Decimal x_s x_most).bind fun r2 =>
  if (r2.2 == 0) then ((numeral_Text r2.1).bind fun r5 =>
  hostport_small_j1 (r5 == x_s)) else (hostport_small_j1 false)

def hostport_Four (s : Str) : Option Bool := if s.length < 1000000000 then ((splitOn 46 s).mapM (fun x => hostport_small x 255)).bind fun bs => some (bs.all id && decide ((bs.length : Int) = 4)) else none

def octet_Fold (s : Str) : Option Str := if s.length < 4294967281 then s.mapM octet_Lower else none

def stringslite_HasSuffix_j1 (t5 : Bool) : Option Bool :=
  some t5

def stringslite_HasSuffix (x_s : Str) (x_suffix : Str) : Option Bool :=
  if (decide ((x_suffix.length : Int) ≤ (x_s.length : Int))) then ((iSub (x_s.length : Int) (x_suffix.length : Int)).bind fun i3 =>
  (sFrom x_s i3).bind fun s4 =>
  stringslite_HasSuffix_j1 (s4 == x_suffix)) else (stringslite_HasSuffix_j1 false)

def strings_HasSuffix (x_s : Str) (x_suffix : Str) : Option Bool :=
  (stringslite_HasSuffix x_s x_suffix).bind fun r2 =>
  some r2

def hostport_Under_j2 (t19 : Bool) : Option Bool :=
  some t19

def hostport_Under_j1 (x_name : Str) (x_domain : Str) (t9 : Bool) : Option Bool :=
  if t9 then (some false) else ((octet_Fold x_name).bind fun r13 =>
  (octet_Fold x_domain).bind fun r14 =>
  if (r13 == r14) then (hostport_Under_j2 true) else ((sCat [46] r14).bind fun s17 =>
  (strings_HasSuffix r13 s17).bind fun r18 =>
  hostport_Under_j2 r18))

def hostport_Under (x_name : Str) (x_domain : Str) : Option Bool :=
  (hostport_Name x_name).bind fun r2 =>
  if (!r2) then (hostport_Under_j1 x_name x_domain true) else ((hostport_Name x_domain).bind fun r4 =>
  if (!r4) then (hostport_Under_j1 x_name x_domain true) else ((hostport_Four x_name).bind fun r6 =>
  if r6 then (hostport_Under_j1 x_name x_domain true) else ((hostport_Four x_domain).bind fun r8 =>
  hostport_Under_j1 x_name x_domain r8)))

def domains_Map_L1 (x_name : Str) (x_l : List api_Swap) (r2 : Str) : Nat → Int → Option (Str × Bool)
  | 0, _ => none
  | n + 1, i5 =>
  if (decide (i5 < (x_l.length : Int))) then ((lAt x_l i5).bind fun x9 =>
  (hostport_Under r2 x9.From).bind fun r14 =>
  if r14 then ((iSub (r2.length : Int) (x9.From.length : Int)).bind fun i17 =>
  (sTo r2 i17).bind fun s18 =>
  (sCat s18 x9.To).bind fun s19 =>
  some (s19, true)) else ((iAdd i5 1).bind fun i22 =>
  (domains_Map_L1 x_name x_l r2 n) i22)) else (some (x_name, false))

def domains_Map (x_name : Str) (x_l : List api_Swap) : Option (Str × Bool) :=
  (strings_TrimPrefix x_name [46]).bind fun r2 =>
  domains_Map_L1 x_name x_l r2 fuel 0

def ref01_In_L1 (x_b : UInt8) (x_l : Str) : Nat → Int → Option Bool
  | 0, _ => none
  | n + 1, i3 =>
  if (decide (i3 < (x_l.length : Int))) then ((sAt x_l i3).bind fun b7 =>
  if (b7 == x_b) then (some true) else ((iAdd i3 1).bind fun i12 =>
  (ref01_In_L1 x_b x_l n) i12)) else (some false)

def ref01_In (x_b : UInt8) (x_l : Str) : Option Bool :=
  ref01_In_L1 x_b x_l fuel 0

def ref01_Hex (x_b : UInt8) : Option Bool :=
  (ref01_In x_b [48, 49, 50, 51, 52, 53, 54, 55, 56, 57, 97, 98, 99, 100, 101, 102, 65, 66, 67, 68, 69, 70]).bind fun r2 =>
  some r2

def ref01_Unreserved (x_b : UInt8) : Option Bool :=
  (ref01_In x_b [97, 98, 99, 100, 101, 102, 103, 104, 105, 106, 107, 108, 109, 110, 111, 112, 113, 114, 115, 116, 117, 118, 119, 120, 121, 122, 65, 66, 67, 68, 69, 70, 71, 72, 73, 74, 75, 76, 77, 78, 79, 80, 81, 82, 83, 84, 85, 86, 87, 88, 89, 90, 48, 49, 50, 51, 52, 53, 54, 55, 56, 57, 45, 46, 95, 126]).bind fun r2 =>
  some r2

def ref01_Sub (x_b : UInt8) : Option Bool :=
  (ref01_In x_b [33, 36, 38, 39, 40, 41, 42, 43, 44, 59, 61]).bind fun r2 =>
  some r2

def ref08_Name_j4 (rec1 : Int → Option Bool) (i34 : Int) : Option Bool :=
  (iAdd i34 1).bind fun i35 =>
  rec1 i35

def ref08_Name_j2 (rec1 : Int → Option Bool) (i3 : Int) (t19 : Bool) : Option Bool :=
  if t19 then (some false) else ((iAdd i3 2).bind fun i23 =>
  ref08_Name_j4 rec1 i23)

def ref08_Name_j3 (rec1 : Int → Option Bool) (i3 : Int) (t31 : Bool) : Option Bool :=
  if t31 then (some false) else (ref08_Name_j4 rec1 i3)

def ref08_Name_L1 (x_s : Str) : Nat → Int → Option Bool
  | 0, _ => none
  | n + 1, i3 =>
  if (decide (i3 < (x_s.length : Int))) then ((sAt x_s i3).bind fun b7 =>
  if (b7 == 37) then ((iAdd i3 2).bind fun i10 =>
  if (decide ((x_s.length : Int) ≤ i10)) then (ref08_Name_j2 (ref08_Name_L1 x_s n) i3 true) else ((iAdd i3 1).bind fun i12 =>
  (sAt x_s i12).bind fun b13 =>
  (ref01_Hex b13).bind fun r14 =>
  if (!r14) then (ref08_Name_j2 (ref08_Name_L1 x_s n) i3 true) else ((iAdd i3 2).bind fun i16 =>
  (sAt x_s i16).bind fun b17 =>
  (ref01_Hex b17).bind fun r18 =>
  ref08_Name_j2 (ref08_Name_L1 x_s n) i3 (!r18)))) else ((sAt x_s i3).bind fun b26 =>
  (ref01_Unreserved b26).bind fun r27 =>
  if (!r27) then ((sAt x_s i3).bind fun b29 =>
  (ref01_Sub b29).bind fun r30 =>
  ref08_Name_j3 (ref08_Name_L1 x_s n) i3 (!r30)) else (ref08_Name_j3 (ref08_Name_L1 x_s n) i3 false))) else (some (decide (0 < (x_s.length : Int))))

def ref08_Name (x_s : Str) : Option Bool :=
  ref08_Name_L1 x_s fuel 0

def ref08_Parts_j2 (rec1 : (List Str) → Int → Int → Option (List Str)) (i9 : Int) (l25 : List Str) (i26 : Int) : Option (List Str) :=
  (iAdd i9 1).bind fun i27 =>
  rec1 l25 i26 i27

def ref08_Parts_L1 (x_s : Str) (x_c : UInt8) : Nat → (List Str) → Int → Int → Option (List Str)
  | 0, _, _, _ => none
  | n + 1, l7, i8, i9 =>
  if (decide (i9 < (x_s.length : Int))) then ((sAt x_s i9).bind fun b13 =>
  if (b13 == x_c) then ((sSub x_s i8 i9).bind fun s16 =>
  if fitsApp l7.length 1 16 then ((iAdd i9 1).bind fun i22 =>
  ref08_Parts_j2 (ref08_Parts_L1 x_s x_c n) i9 (l7 ++ ([s16] : List Str)) i22) else none) else (ref08_Parts_j2 (ref08_Parts_L1 x_s x_c n) i9 l7 i8)) else ((sFrom x_s i8).bind fun s29 =>
  if fitsApp l7.length 1 16 then (some (l7 ++ ([s29] : List Str))) else none)

def ref08_Parts (x_s : Str) (x_c : UInt8) : Option (List Str) :=
  ref08_Parts_L1 x_s x_c fuel [] 0 0

def ref03_worth_j2 (rec1 : Int → Option Int) (i5 : Int) (t12 : Bool) : Option Int :=
  if t12 then (some i5) else ((iAdd i5 1).bind fun i16 =>
  rec1 i16)

def ref03_worth_L1 (x_b : UInt8) (x_base : Int) : Nat → Int → Option Int
  | 0, _ => none
  | n + 1, i5 =>
  if (decide (i5 < x_base)) then ((sAt [48, 49, 50, 51, 52, 53, 54, 55, 56, 57, 97, 98, 99, 100, 101, 102] i5).bind fun b9 =>
  if (b9 == x_b) then (ref03_worth_j2 (ref03_worth_L1 x_b x_base n) i5 true) else ((sAt [48, 49, 50, 51, 52, 53, 54, 55, 56, 57, 65, 66, 67, 68, 69, 70] i5).bind fun b11 =>
  ref03_worth_j2 (ref03_worth_L1 x_b x_base n) i5 (b11 == x_b))) else (some (-1))

def ref03_worth (x_b : UInt8) (x_base : Int) : Option Int :=
  ref03_worth_L1 x_b x_base fuel 0

def ref03_Digits_r : Nat → Int → Int → Option Str
  | 0, _, _ => none
  | n + 1, x_n, x_base =>
  if (decide (x_n < x_base)) then ((iAdd x_n 1).bind fun i5 =>
  (sSub [48, 49, 50, 51, 52, 53, 54, 55, 56, 57, 97, 98, 99, 100, 101, 102] x_n i5).bind fun s6 =>
  some s6) else ((iDiv x_n x_base).bind fun i9 =>
  ((ref03_Digits_r n) i9 x_base).bind fun r10 =>
  (iMod x_n x_base).bind fun i11 =>
  (iMod x_n x_base).bind fun i12 =>
  (iAdd i12 1).bind fun i13 =>
  (sSub [48, 49, 50, 51, 52, 53, 54, 55, 56, 57, 97, 98, 99, 100, 101, 102] i11 i13).bind fun s14 =>
  (sCat r10 s14).bind fun s15 =>
  some s15)

def ref03_Digits (x_n : Int) (x_base : Int) : Option Str := ref03_Digits_r fuel x_n x_base

def ref03_Plain_j3 (rec1 : Str → Int → Option (Str × Bool)) (i5 : Int) (s21 : Str) : Option (Str × Bool) :=
  (iAdd i5 1).bind fun i22 =>
  rec1 s21 i22

def ref03_Plain_j2 (rec1 : Str → Int → Option (Str × Bool)) (x_base : Int) (s4 : Str) (i5 : Int) (r10 : Int) (t17 : Bool) : Option (Str × Bool) :=
  if t17 then ((ref03_Digits r10 x_base).bind fun r19 =>
  (sCat s4 r19).bind fun s20 =>
  ref03_Plain_j3 rec1 i5 s20) else (ref03_Plain_j3 rec1 i5 s4)

def ref03_Plain_j4 (x_s : Str) (s26 : Str) : Option (Str × Bool) :=
  some ((s26, !(x_s == [])))

def ref03_Plain_L1 (x_s : Str) (x_base : Int) : Nat → Str → Int → Option (Str × Bool)
  | 0, _, _ => none
  | n + 1, s4, i5 =>
  if (decide (i5 < (x_s.length : Int))) then ((sAt x_s i5).bind fun b9 =>
  (ref03_worth b9 x_base).bind fun r10 =>
  if (decide (r10 < 0)) then (some ([], false)) else (if (!(s4 == [])) then (ref03_Plain_j2 (ref03_Plain_L1 x_s x_base n) x_base s4 i5 r10 true) else (ref03_Plain_j2 (ref03_Plain_L1 x_s x_base n) x_base s4 i5 r10 (decide (0 < r10))))) else (if (s4 == []) then (ref03_Plain_j4 x_s [48]) else (ref03_Plain_j4 x_s s4))

def ref03_Plain (x_s : Str) (x_base : Int) : Option (Str × Bool) :=
  ref03_Plain_L1 x_s x_base fuel [] 0

def ref03_Less_j1 (t4 : Bool) : Option Bool :=
  some t4

def ref03_Less (x_a : Str) (x_b : Str) : Option Bool :=
  if (decide ((x_a.length : Int) < (x_b.length : Int))) then (ref03_Less_j1 true) else (if ((x_a.length : Int) == (x_b.length : Int)) then (ref03_Less_j1 (sLess x_a x_b)) else (ref03_Less_j1 false))

def ref03_Read_L2 (x_base : Int) (r2 : Str × Bool) : Nat → Int → Int → Option (Int × Int)
  | 0, _, _ => none
  | n + 1, i17, i18 =>
  if (decide (i18 < (r2.1.length : Int))) then ((iMul i17 x_base).bind fun i22 =>
  (sAt r2.1 i18).bind fun b23 =>
  (ref03_worth b23 x_base).bind fun r24 =>
  (iAdd i22 r24).bind fun i25 =>
  (iAdd i18 1).bind fun i27 =>
  (ref03_Read_L2 x_base r2 n) i25 i27) else (some (i17, 0))

def ref03_Read_j1 (x_base : Int) (r2 : Str × Bool) (t11 : Bool) : Option (Int × Int) :=
  if t11 then (some (0, 7)) else (ref03_Read_L2 x_base r2 fuel 0 0)

def ref03_Read (x_s : Str) (x_base : Int) (x_most : Int) : Option (Int × Int) :=
  (ref03_Plain x_s x_base).bind fun r2 =>
  if (!r2.2) then (some (0, 2)) else (if (decide (x_most < 0)) then (ref03_Read_j1 x_base r2 true) else ((ref03_Digits x_most x_base).bind fun r9 =>
  (ref03_Less r9 r2.1).bind fun r10 =>
  ref03_Read_j1 x_base r2 r10))

def ref03_Text (x_n : Int) (x_base : Int) : Option Str :=
  if (decide (x_n < 0)) then (some []) else ((ref03_Digits x_n x_base).bind fun r6 =>
  some r6)

def ref08_Small_j1 (r6 : Int × Int) (t10 : Bool) : Option Int :=
  if t10 then (some (-1)) else (some r6.1)

def ref08_Small (x_s : Str) (x_most : Int) : Option Int :=
  if (decide (5 < (x_s.length : Int))) then (some (-1)) else ((ref03_Read x_s 10 x_most).bind fun r6 =>
  if (!(r6.2 == 0)) then (ref08_Small_j1 r6 true) else ((ref03_Text r6.1 10).bind fun r9 =>
  ref08_Small_j1 r6 (!(r9 == x_s))))

def ref08_Four_L1 (r2 : List Str) : Nat → Int → Option Bool
  | 0, _ => none
  | n + 1, i7 =>
  if (decide (i7 < (r2.length : Int))) then ((lAt r2 i7).bind fun x11 =>
  (ref08_Small x11 255).bind fun r14 =>
  if (decide (r14 < 0)) then (some false) else ((iAdd i7 1).bind fun i19 =>
  (ref08_Four_L1 r2 n) i19)) else (some ((r2.length : Int) == 4))

def ref08_Four (x_s : Str) : Option Bool :=
  (ref08_Parts x_s 46).bind fun r2 =>
  ref08_Four_L1 r2 fuel 0

def scan_New (x_s : Str) : Option scan_Scanner :=
  some (⟨x_s, 0⟩ : scan_Scanner)

def scan_Scanner_At (x_c : scan_Scanner) : Option Int :=
  some x_c.f_at

def scan_Scanner_Rest (x_c : scan_Scanner) : Option Str :=
  (sFrom x_c.f_s x_c.f_at).bind fun s4 =>
  some s4

def scan_Scanner_End (x_c : scan_Scanner) : Option Bool :=
  (scan_Scanner_Rest x_c).bind fun r2 =>
  some (r2 == [])

def scan_Scanner_Peek (x_c : scan_Scanner) : Option (UInt8 × Bool) :=
  (scan_Scanner_End x_c).bind fun r2 =>
  if r2 then (some (0, false)) else ((sAt x_c.f_s x_c.f_at).bind fun b7 =>
  some (b7, true))

def scan_Scanner_While_j3 (r2 : Int) (s14 : Str) (i15 : Int) : Option (Str × scan_Scanner) :=
  (sSub s14 r2 i15).bind fun s18 =>
  some ((s18, (⟨s14, i15⟩ : scan_Scanner)))

def scan_Scanner_While_j2 (rec1 : Str → Int → Option (Str × scan_Scanner)) (r2 : Int) (s4 : Str) (i5 : Int) (t10 : Bool) : Option (Str × scan_Scanner) :=
  if t10 then (scan_Scanner_While_j3 r2 s4 i5) else ((iAdd i5 1).bind fun i13 =>
  rec1 s4 i13)

def scan_Scanner_While_L1 (x_is : UInt8 → Option Bool) (r2 : Int) : Nat → Str → Int → Option (Str × scan_Scanner)
  | 0, _, _ => none
  | n + 1, s4, i5 =>
  (scan_Scanner_Peek (⟨s4, i5⟩ : scan_Scanner)).bind fun r6 =>
  if (!r6.2) then (scan_Scanner_While_j2 (scan_Scanner_While_L1 x_is r2 n) r2 s4 i5 true) else ((x_is r6.1).bind fun r9 =>
  scan_Scanner_While_j2 (scan_Scanner_While_L1 x_is r2 n) r2 s4 i5 (!r9))

def scan_Scanner_While (x_c : scan_Scanner) (x_is : UInt8 → Option Bool) : Option (Str × scan_Scanner) :=
  (scan_Scanner_At x_c).bind fun r2 =>
  scan_Scanner_While_L1 x_is r2 fuel x_c.f_s x_c.f_at

def octet_IsToken_j1 (t7 : Bool) : Option Bool :=
  some t7

def octet_IsToken (x_b : UInt8) : Option Bool :=
  (octet_IsAlpha x_b).bind fun r2 =>
  if r2 then (octet_IsToken_j1 true) else ((octet_IsDigit x_b).bind fun r4 =>
  if r4 then (octet_IsToken_j1 true) else ((octet_one x_b [33, 35, 36, 37, 38, 39, 42, 43, 45, 46, 94, 95, 96, 124, 126]).bind fun r6 =>
  octet_IsToken_j1 r6))

def scan_Scanner_Token (x_c : scan_Scanner) : Option (Str × Bool × scan_Scanner) :=
  (scan_Scanner_While x_c octet_IsToken).bind fun r2 =>
  some ((r2.1, !(r2.1 == []), r2.2))

def scan_Scanner_Byte_j1 (x_c : scan_Scanner) (t5 : Bool) : Option (Bool × scan_Scanner) :=
  if t5 then (some (false, x_c)) else ((iAdd x_c.f_at 1).bind fun i9 =>
  some ((true, (⟨x_c.f_s, i9⟩ : scan_Scanner))))

def scan_Scanner_Byte (x_c : scan_Scanner) (x_b : UInt8) : Option (Bool × scan_Scanner) :=
  (scan_Scanner_Peek x_c).bind fun r2 =>
  if (!r2.2) then (scan_Scanner_Byte_j1 x_c true) else (scan_Scanner_Byte_j1 x_c (!(r2.1 == x_b)))

def cookie_part_1 (x_a0 : UInt8) : Option Bool :=
  some true

def octet_IsVisible_j1 (t3 : Bool) : Option Bool :=
  some t3

def octet_IsVisible (x_b : UInt8) : Option Bool :=
  if (decide (32 < x_b)) then (octet_IsVisible_j1 (decide (x_b < 127))) else (octet_IsVisible_j1 false)

def octet_IsBlank_j1 (t3 : Bool) : Option Bool :=
  some t3

def octet_IsBlank (x_b : UInt8) : Option Bool :=
  if (x_b == 32) then (octet_IsBlank_j1 true) else (octet_IsBlank_j1 (x_b == 9))

def octet_IsValue_j1 (t6 : Bool) : Option Bool :=
  some t6

def octet_IsValue (x_b : UInt8) : Option Bool :=
  (octet_IsVisible x_b).bind fun r2 =>
  if r2 then (octet_IsValue_j1 true) else ((octet_IsBlank x_b).bind fun r4 =>
  if r4 then (octet_IsValue_j1 true) else (octet_IsValue_j1 (decide (127 < x_b))))

def cookie_part_j2 (r7 : Str × Bool × scan_Scanner) (r10 : Bool × scan_Scanner) (s20 : Str) (t28 : Bool) : Option (api_Attr × Bool) :=
  some (((⟨r7.1, s20, r10.1⟩ : api_Attr), t28))

def cookie_part_j1 (r7 : Str × Bool × scan_Scanner) (r10 : Bool × scan_Scanner) (s18 : Str) (i19 : Int) (s20 : Str) : Option (api_Attr × Bool) :=
  if r7.2.1 then ((scan_Scanner_End (⟨s18, i19⟩ : scan_Scanner)).bind fun r22 =>
  if r22 then ((octet_All octet_IsValue ([s20] : List Str)).bind fun r25 =>
  if r25 then ((strings_Trim s20 [32, 9]).bind fun r27 =>
  cookie_part_j2 r7 r10 s20 (r27 == s20)) else (cookie_part_j2 r7 r10 s20 false)) else (cookie_part_j2 r7 r10 s20 false)) else (cookie_part_j2 r7 r10 s20 false)

def cookie_part (x_s : Str) : Option (api_Attr × Bool) :=
  (strings_Trim x_s [32, 9]).bind fun r3 =>
  (scan_New r3).bind fun r4 =>
  (scan_Scanner_Token r4).bind fun r7 =>
  (scan_Scanner_Byte r7.2.2 61).bind fun r10 =>
  if r10.1 then ((scan_Scanner_While r10.2 cookie_part_1).bind fun r16 =>
  cookie_part_j1 r7 r10 r16.2.f_s r16.2.f_at r16.1) else (cookie_part_j1 r7 r10 r10.2.f_s r10.2.f_at [])

def stringslite_CutPrefix (x_s : Str) (x_prefix : Str) : Option (Str × Bool) :=
  (stringslite_HasPrefix x_s x_prefix).bind fun r2 =>
  if (!r2) then (some (x_s, false)) else ((sFrom x_s (x_prefix.length : Int)).bind fun s7 =>
  some (s7, true))

def strings_CutPrefix (x_s : Str) (x_prefix : Str) : Option (Str × Bool) :=
  (stringslite_CutPrefix x_s x_prefix).bind fun r2 =>
  some (r2.1, r2.2)

def stringslite_CutSuffix (x_s : Str) (x_suffix : Str) : Option (Str × Bool) :=
  (stringslite_HasSuffix x_s x_suffix).bind fun r2 =>
  if (!r2) then (some (x_s, false)) else ((iSub (x_s.length : Int) (x_suffix.length : Int)).bind fun i7 =>
  (sTo x_s i7).bind fun s8 =>
  some (s8, true))

def strings_CutSuffix (x_s : Str) (x_suffix : Str) : Option (Str × Bool) :=
  (stringslite_CutSuffix x_s x_suffix).bind fun r2 =>
  some (r2.1, r2.2)

def cookie_plain_j1 (t5 : Bool) : Option Bool :=
  some t5

def cookie_plain (x_b : UInt8) : Option Bool :=
  (octet_IsVisible x_b).bind fun r2 =>
  if r2 then ((strings_IndexByte [34, 44, 59, 92] x_b).bind fun r4 =>
  cookie_plain_j1 (decide (r4 < 0))) else (cookie_plain_j1 false)

def cookie_value_j1 (t9 : Bool) : Option Bool :=
  some t9

def cookie_value (x_s : Str) : Option Bool :=
  (strings_CutPrefix x_s [34]).bind fun r2 =>
  (strings_CutSuffix r2.1 [34]).bind fun r4 =>
  if (r2.2 == r4.2) then ((octet_All cookie_plain ([r4.1] : List Str)).bind fun r8 =>
  cookie_value_j1 r8) else (cookie_value_j1 false)

def cookie_Parse_j3 (s53 : Str) (s54 : Str) (l57 : List api_Attr) : Option (api_Cookie × Int) :=
  some (((⟨s53, s54, l57⟩ : api_Cookie), 0))

def cookie_Parse_L2 (l23 : List Str) : Nat → (List api_Attr) → Str → Str → Int → Option (api_Cookie × Int)
  | 0, _, _, _, _ => none
  | n + 1, l29, s30, s31, i32 =>
  if (decide (i32 < (l23.length : Int))) then ((lAt l23 i32).bind fun x36 =>
  (cookie_part x36).bind fun r40 =>
  if (!r40.2) then (some (((⟨[], [], []⟩ : api_Cookie), 2))) else (if fitsApp l29.length 1 40 then ((iAdd i32 1).bind fun i52 =>
  (cookie_Parse_L2 l23 n) (l29 ++ [r40.1]) s30 s31 i52) else none)) else (cookie_Parse_j3 s30 s31 l29)

def cookie_Parse_j1 (r3 : List Str) (r10 : api_Attr × Bool) (t16 : Bool) : Option (api_Cookie × Int) :=
  if t16 then (some (((⟨[], [], []⟩ : api_Cookie), 2))) else ((lFrom r3 1).bind fun l23 =>
  cookie_Parse_L2 l23 fuel [] r10.1.Name r10.1.Value 0)

def cookie_Parse (x_s : Str) : Option (api_Cookie × Int) :=
  (strings_Split x_s [59]).bind fun r3 =>
  (lAt r3 0).bind fun x7 =>
  (cookie_part x7).bind fun r10 =>
  if (!r10.2) then (cookie_Parse_j1 r3 r10 true) else (if (!r10.1.Has) then (cookie_Parse_j1 r3 r10 true) else ((cookie_value r10.1.Value).bind fun r15 =>
  cookie_Parse_j1 r3 r10 (!r15)))

def octet_Same (x_a : Str) (x_b : Str) : Option Bool :=
  (octet_Fold x_a).bind fun r2 =>
  (octet_Fold x_b).bind fun r3 =>
  some (r2 == r3)

def cookie_last_L1 (x_c : api_Cookie) (x_name : Str) : Nat → Int → Option Int
  | 0, _ => none
  | n + 1, i5 =>
  if (decide (0 ≤ i5)) then ((lAt x_c.Attrs i5).bind fun x9 =>
  (octet_Same x9.Name x_name).bind fun r12 =>
  if r12 then (some i5) else ((iSub i5 1).bind fun i17 =>
  (cookie_last_L1 x_c x_name n) i17)) else (some (-1))

def cookie_last (x_c : api_Cookie) (x_name : Str) : Option Int :=
  (iSub (x_c.Attrs.length : Int) 1).bind fun i3 =>
  cookie_last_L1 x_c x_name fuel i3

def cookie_Get (x_c : api_Cookie) (x_name : Str) : Option (Str × Bool) :=
  (cookie_last x_c x_name).bind fun r3 =>
  if (decide (r3 < 0)) then (some ([], false)) else ((lAt x_c.Attrs r3).bind fun x9 =>
  some (x9.Value, true))

def cookie_Set_j3 (rec1 : (List api_Attr) → Str → Str → Int → Option api_Cookie) (s12 : Str) (s13 : Str) (i14 : Int) (l36 : List api_Attr) : Option api_Cookie :=
  (iAdd i14 1).bind fun i37 =>
  rec1 l36 s12 s13 i37

def cookie_Set_j2 (rec1 : (List api_Attr) → Str → Str → Int → Option api_Cookie) (l11 : List api_Attr) (s12 : Str) (s13 : Str) (i14 : Int) (x18 : api_Attr) (s28 : Str) (t29 : Bool) : Option api_Cookie :=
  if fitsApp l11.length 1 40 then (cookie_Set_j3 rec1 s12 s13 i14 (l11 ++ [(⟨x18.Name, s28, t29⟩ : api_Attr)])) else none

def cookie_Set_j5 (s38 : Str) (s39 : Str) (l51 : List api_Attr) : Option api_Cookie :=
  some (⟨s38, s39, l51⟩ : api_Cookie)

def cookie_Set_j4 (x_name : Str) (x_value : Str) (r4 : Int) (s38 : Str) (s39 : Str) (l42 : List api_Attr) : Option api_Cookie :=
  if (decide (r4 < 0)) then (if fitsApp l42.length 1 40 then (cookie_Set_j5 s38 s39 (l42 ++ [(⟨x_name, x_value, true⟩ : api_Attr)])) else none) else (cookie_Set_j5 s38 s39 l42)

def cookie_Set_L1 (x_c : api_Cookie) (x_name : Str) (x_value : Str) (r4 : Int) : Nat → (List api_Attr) → Str → Str → Int → Option api_Cookie
  | 0, _, _, _, _ => none
  | n + 1, l11, s12, s13, i14 =>
  if (decide (i14 < (x_c.Attrs.length : Int))) then ((lAt x_c.Attrs i14).bind fun x18 =>
  if (i14 == r4) then (cookie_Set_j2 (cookie_Set_L1 x_c x_name x_value r4 n) l11 s12 s13 i14 x18 x_value true) else ((octet_Same x18.Name x_name).bind fun r25 =>
  if r25 then (cookie_Set_j3 (cookie_Set_L1 x_c x_name x_value r4 n) s12 s13 i14 l11) else (cookie_Set_j2 (cookie_Set_L1 x_c x_name x_value r4 n) l11 s12 s13 i14 x18 x18.Value x18.Has))) else (cookie_Set_j4 x_name x_value r4 s12 s13 l11)

def cookie_Set (x_c : api_Cookie) (x_name : Str) (x_value : Str) : Option api_Cookie :=
  (cookie_last x_c x_name).bind fun r4 =>
  cookie_Set_L1 x_c x_name x_value r4 fuel [] x_c.Name x_c.Value 0

def quill_Join (x_sep : Str) (x_l : List Str) : Option Str :=
  (strings_Join x_l x_sep).bind fun r2 =>
  some r2

def slices_Equal_gapi_Attr_api_Attr__L1 (x_s1 : List api_Attr) (x_s2 : List api_Attr) : Nat → Int → Option Bool
  | 0, _ => none
  | n + 1, i7 =>
  if (decide (i7 < (x_s1.length : Int))) then ((lAt x_s1 i7).bind fun x12 =>
  (lAt x_s2 i7).bind fun x15 =>
  if (!(x12 == x15)) then (some false) else ((iAdd i7 1).bind fun i22 =>
  (slices_Equal_gapi_Attr_api_Attr__L1 x_s1 x_s2 n) i22)) else (some true)

def slices_Equal_gapi_Attr_api_Attr_ (x_s1 : List api_Attr) (x_s2 : List api_Attr) : Option Bool :=
  if (!((x_s1.length : Int) == (x_s2.length : Int))) then (some false) else (slices_Equal_gapi_Attr_api_Attr__L1 x_s1 x_s2 fuel 0)

def cookie_Same_j1 (t7 : Bool) : Option Bool :=
  some t7

def cookie_Same (x_a : api_Cookie) (x_b : api_Cookie) : Option Bool :=
  if (x_a.Name == x_b.Name) then (if (x_a.Value == x_b.Value) then ((slices_Equal_gapi_Attr_api_Attr_ x_a.Attrs x_b.Attrs).bind fun r6 =>
  cookie_Same_j1 r6) else (cookie_Same_j1 false)) else (cookie_Same_j1 false)

def cookie_Text_j2 (rec1 : (List Str) → Int → Option (Str × Int)) (i11 : Int) (l34 : List Str) : Option (Str × Int) :=
  (iAdd i11 1).bind fun i35 =>
  rec1 l34 i35

def cookie_Text_j3 (r37 : Str) (t46 : Bool) : Option (Str × Int) :=
  if t46 then (some ([], 2)) else (some (r37, 0))

def cookie_Text_L1 (x_c : api_Cookie) : Nat → (List Str) → Int → Option (Str × Int)
  | 0, _, _ => none
  | n + 1, l10, i11 =>
  if (decide (i11 < (x_c.Attrs.length : Int))) then ((lAt x_c.Attrs i11).bind fun x15 =>
  if x15.Has then ((sCat x15.Name [61]).bind fun s22 =>
  (sCat s22 x15.Value).bind fun s23 =>
  if fitsApp l10.length 1 16 then (cookie_Text_j2 (cookie_Text_L1 x_c n) i11 (l10 ++ ([s23] : List Str))) else none) else (if fitsApp l10.length 1 16 then (cookie_Text_j2 (cookie_Text_L1 x_c n) i11 (l10 ++ ([x15.Name] : List Str))) else none)) else ((quill_Join [59, 32] l10).bind fun r37 =>
  (cookie_Parse r37).bind fun r39 =>
  if (!(r39.2 == 0)) then (cookie_Text_j3 r37 true) else ((cookie_Same r39.1 x_c).bind fun r45 =>
  cookie_Text_j3 r37 (!r45)))

def cookie_Text (x_c : api_Cookie) : Option (Str × Int) :=
  (sCat x_c.Name [61]).bind fun s3 =>
  (sCat s3 x_c.Value).bind fun s4 =>
  cookie_Text_L1 x_c fuel ([s4] : List Str) 0

def domains_Rewrite (x_s : Str) (x_l : List api_Swap) : Option Str :=
  (cookie_Parse x_s).bind fun r2 =>
  if (!(r2.2 == 0)) then (some x_s) else ((cookie_Get r2.1 [68, 111, 109, 97, 105, 110]).bind fun r11 =>
  (domains_Map r11.1 x_l).bind fun r13 =>
  if (!r13.2) then (some x_s) else ((cookie_Set r2.1 [68, 111, 109, 97, 105, 110] r13.1).bind fun r19 =>
  (cookie_Text r19).bind fun r22 =>
  if (!(r22.2 == 0)) then (some x_s) else (some r22.1)))

def ref01_Fold_j3 (rec2 : Str → Int → Option Str) (i14 : Int) (s24 : Str) : Option Str :=
  (iAdd i14 1).bind fun i25 =>
  rec2 s24 i25

def ref01_Fold_L2 (rec1 : Str → Int → Option Str) (x_s : Str) (s4 : Str) (i5 : Int) : Nat → Str → Int → Option Str
  | 0, _, _ => none
  | n + 1, s13, i14 =>
  if (decide (i14 < 26)) then ((sAt [65, 66, 67, 68, 69, 70, 71, 72, 73, 74, 75, 76, 77, 78, 79, 80, 81, 82, 83, 84, 85, 86, 87, 88, 89, 90] i14).bind fun b18 =>
  (sAt x_s i5).bind fun b19 =>
  if (b18 == b19) then ((iAdd i14 1).bind fun i22 =>
  (sSub [97, 98, 99, 100, 101, 102, 103, 104, 105, 106, 107, 108, 109, 110, 111, 112, 113, 114, 115, 116, 117, 118, 119, 120, 121, 122] i14 i22).bind fun s23 =>
  ref01_Fold_j3 (ref01_Fold_L2 rec1 x_s s4 i5 n) i14 s23) else (ref01_Fold_j3 (ref01_Fold_L2 rec1 x_s s4 i5 n) i14 s13)) else ((sCat s4 s13).bind fun s27 =>
  (iAdd i5 1).bind fun i29 =>
  rec1 s27 i29)

def ref01_Fold_L1 (x_s : Str) : Nat → Str → Int → Option Str
  | 0, _, _ => none
  | n + 1, s4, i5 =>
  if (decide (i5 < (x_s.length : Int))) then ((iAdd i5 1).bind fun i9 =>
  (sSub x_s i5 i9).bind fun s10 =>
  ref01_Fold_L2 (ref01_Fold_L1 x_s n) x_s s4 i5 fuel s10 0) else (some s4)

def ref01_Fold (x_s : Str) : Option Str :=
  ref01_Fold_L1 x_s fuel [] 0

def ref28_Place_j2 (rec1 : Int → Int → Option Int) (i6 : Int) (i17 : Int) : Option Int :=
  (iAdd i6 1).bind fun i18 =>
  rec1 i17 i18

def ref28_Place_L1 (x_c : api_Cookie) (x_name : Str) : Nat → Int → Int → Option Int
  | 0, _, _ => none
  | n + 1, i5, i6 =>
  if (decide (i6 < (x_c.Attrs.length : Int))) then ((lAt x_c.Attrs i6).bind fun x10 =>
  (ref01_Fold x10.Name).bind fun r13 =>
  (ref01_Fold x_name).bind fun r14 =>
  if (r13 == r14) then (ref28_Place_j2 (ref28_Place_L1 x_c x_name n) i6 i6) else (ref28_Place_j2 (ref28_Place_L1 x_c x_name n) i6 i5)) else (some i5)

def ref28_Place (x_c : api_Cookie) (x_name : Str) : Option Int :=
  ref28_Place_L1 x_c x_name fuel (-1) 0

def ref18_Same_L1 (x_a : List api_Attr) (x_b : List api_Attr) : Nat → Int → Option Bool
  | 0, _ => none
  | n + 1, i7 =>
  if (decide (i7 < (x_a.length : Int))) then ((lAt x_a i7).bind fun x11 =>
  (lAt x_b i7).bind fun x14 =>
  if (!(x11 == x14)) then (some false) else ((iAdd i7 1).bind fun i21 =>
  (ref18_Same_L1 x_a x_b n) i21)) else (some true)

def ref18_Same (x_a : List api_Attr) (x_b : List api_Attr) : Option Bool :=
  if (!((x_a.length : Int) == (x_b.length : Int))) then (some false) else (ref18_Same_L1 x_a x_b fuel 0)

def ref28_Same_j1 (t7 : Bool) : Option Bool :=
  some t7

def ref28_Same (x_a : api_Cookie) (x_b : api_Cookie) : Option Bool :=
  if (x_a.Name == x_b.Name) then (if (x_a.Value == x_b.Value) then ((ref18_Same x_a.Attrs x_b.Attrs).bind fun r6 =>
  ref28_Same_j1 r6) else (ref28_Same_j1 false)) else (ref28_Same_j1 false)

def uriref_Swap_j4 (rec1 : Int → Option (Str × Bool)) (i3 : Int) : Option (Str × Bool) :=
  (iAdd i3 1).bind fun i27 =>
  rec1 i27

def uriref_Swap_j3 (rec1 : Int → Option (Str × Bool)) (i3 : Int) (x7 : api_Swap) (r12 : Str × Bool) (t23 : Bool) : Option (Str × Bool) :=
  if t23 then ((sCat x7.To r12.1).bind fun s25 =>
  some (s25, true)) else (uriref_Swap_j4 rec1 i3)

def uriref_Swap_j2 (rec1 : Int → Option (Str × Bool)) (i3 : Int) (x7 : api_Swap) (r12 : Str × Bool) (t15 : Bool) : Option (Str × Bool) :=
  if t15 then (uriref_Swap_j4 rec1 i3) else (if (r12.1 == []) then (uriref_Swap_j3 rec1 i3 x7 r12 true) else ((strings_HasSuffix x7.From [47]).bind fun r19 =>
  if r19 then (uriref_Swap_j3 rec1 i3 x7 r12 true) else ((sAt r12.1 0).bind fun b21 =>
  (strings_IndexByte [47, 63, 35] b21).bind fun r22 =>
  uriref_Swap_j3 rec1 i3 x7 r12 (decide (0 ≤ r22)))))

def uriref_Swap_L1 (x_s : Str) (x_l : List api_Swap) : Nat → Int → Option (Str × Bool)
  | 0, _ => none
  | n + 1, i3 =>
  if (decide (i3 < (x_l.length : Int))) then ((lAt x_l i3).bind fun x7 =>
  (strings_CutPrefix x_s x7.From).bind fun r12 =>
  if (!r12.2) then (uriref_Swap_j2 (uriref_Swap_L1 x_s x_l n) i3 x7 r12 true) else (uriref_Swap_j2 (uriref_Swap_L1 x_s x_l n) i3 x7 r12 (x7.From == []))) else (some (x_s, false))

def uriref_Swap (x_s : Str) (x_l : List api_Swap) : Option (Str × Bool) :=
  uriref_Swap_L1 x_s x_l fuel 0

def uriref_scheme_1_j1 (t8 : Bool) : Option Bool :=
  some t8

def uriref_scheme_1 (x_b : UInt8) : Option Bool :=
  (octet_IsAlpha x_b).bind fun r2 =>
  if r2 then (uriref_scheme_1_j1 true) else ((octet_IsDigit x_b).bind fun r4 =>
  if r4 then (uriref_scheme_1_j1 true) else (if (x_b == 43) then (uriref_scheme_1_j1 true) else (if (x_b == 45) then (uriref_scheme_1_j1 true) else (uriref_scheme_1_j1 (x_b == 46)))))

def uriref_scheme_j1 (t9 : Bool) : Option Bool :=
  some t9

def uriref_scheme (x_s : Str) : Option Bool :=
  if (!(x_s == [])) then ((sAt x_s 0).bind fun b4 =>
  (octet_IsAlpha b4).bind fun r5 =>
  if r5 then ((octet_All uriref_scheme_1 ([x_s] : List Str)).bind fun r8 =>
  uriref_scheme_j1 r8) else (uriref_scheme_j1 false)) else (uriref_scheme_j1 false)

def strings_HasPrefix (x_s : Str) (x_prefix : Str) : Option Bool :=
  (stringslite_HasPrefix x_s x_prefix).bind fun r2 =>
  some r2

def uriref_upto (x_s : Str) (x_l : Str) : Option (Str × Str) :=
  (strings_IndexAny x_s x_l).bind fun r2 =>
  if (decide (0 ≤ r2)) then ((sTo x_s r2).bind fun s6 =>
  (sFrom x_s r2).bind fun s7 =>
  some (s6, s7)) else (some (x_s, []))

def uriref_parts_j5 (s16 : Str) (s24 : Str) (t25 : Bool) (r26 : Str × Str) (s35 : Str) (t36 : Bool) (s40 : Str) (t41 : Bool) : Option api_Ref :=
  some (⟨s16, s24, r26.1, s35, s40, t25, t36, t41⟩ : api_Ref)

def uriref_parts_j4 (s16 : Str) (s24 : Str) (t25 : Bool) (r26 : Str × Str) (s34 : Str) (s35 : Str) (t36 : Bool) : Option api_Ref :=
  if (!(s34 == [])) then ((sFrom s34 1).bind fun s39 =>
  uriref_parts_j5 s16 s24 t25 r26 s35 t36 s39 true) else (uriref_parts_j5 s16 s24 t25 r26 s35 t36 [] false)

def uriref_parts_j3 (s16 : Str) (s23 : Str) (s24 : Str) (t25 : Bool) : Option api_Ref :=
  (uriref_upto s23 [63, 35]).bind fun r26 =>
  (strings_HasPrefix r26.2 [63]).bind fun r28 =>
  if r28 then ((sFrom r26.2 1).bind fun s32 =>
  (uriref_upto s32 [35]).bind fun r33 =>
  uriref_parts_j4 s16 s24 t25 r26 r33.2 r33.1 true) else (uriref_parts_j4 s16 s24 t25 r26 r26.2 [] false)

def uriref_parts_j2 (s15 : Str) (s16 : Str) : Option api_Ref :=
  (strings_HasPrefix s15 [47, 47]).bind fun r17 =>
  if r17 then ((sFrom s15 2).bind fun s21 =>
  (uriref_upto s21 [47, 63, 35]).bind fun r22 =>
  uriref_parts_j3 s16 r22.2 r22.1 true) else (uriref_parts_j3 s16 s15 [] false)

def uriref_parts_j1 (x_s : Str) (r5 : Int) (t10 : Bool) : Option api_Ref :=
  if t10 then ((sTo x_s r5).bind fun s12 =>
  (iAdd r5 1).bind fun i13 =>
  (sFrom x_s i13).bind fun s14 =>
  uriref_parts_j2 s14 s12) else (uriref_parts_j2 x_s [])

def uriref_parts (x_s : Str) : Option api_Ref :=
  (strings_IndexByte x_s 58).bind fun r5 =>
  if (decide (0 < r5)) then ((sTo x_s r5).bind fun s8 =>
  (uriref_scheme s8).bind fun r9 =>
  uriref_parts_j1 x_s r5 r9) else (uriref_parts_j1 x_s r5 false)

def octet_IsPath_j1 (t7 : Bool) : Option Bool :=
  some t7

def octet_IsPath (x_b : UInt8) : Option Bool :=
  (octet_IsUnreserved x_b).bind fun r2 =>
  if r2 then (octet_IsPath_j1 true) else ((octet_IsSub x_b).bind fun r4 =>
  if r4 then (octet_IsPath_j1 true) else ((octet_one x_b [58, 64]).bind fun r6 =>
  octet_IsPath_j1 r6))

def uriref_bytes_j4 (rec1 : Int → Option Bool) (i30 : Int) : Option Bool :=
  (iAdd i30 1).bind fun i31 =>
  rec1 i31

def uriref_bytes_j2 (rec1 : Int → Option Bool) (i3 : Int) (t17 : Bool) : Option Bool :=
  if t17 then (some false) else ((iAdd i3 2).bind fun i21 =>
  uriref_bytes_j4 rec1 i21)

def uriref_bytes_j3 (rec1 : Int → Option Bool) (i3 : Int) (t27 : Bool) : Option Bool :=
  if t27 then (some false) else (uriref_bytes_j4 rec1 i3)

def uriref_bytes_L1 (x_s : Str) (x_more : Str) : Nat → Int → Option Bool
  | 0, _ => none
  | n + 1, i3 =>
  if (decide (i3 < (x_s.length : Int))) then ((sAt x_s i3).bind fun b7 =>
  if (b7 == 37) then ((iAdd i3 2).bind fun i10 =>
  if (decide ((x_s.length : Int) ≤ i10)) then (uriref_bytes_j2 (uriref_bytes_L1 x_s x_more n) i3 true) else ((iAdd i3 1).bind fun i12 =>
  (iAdd i3 3).bind fun i13 =>
  (sSub x_s i12 i13).bind fun s14 =>
  (octet_All octet_IsHex ([s14] : List Str)).bind fun r16 =>
  uriref_bytes_j2 (uriref_bytes_L1 x_s x_more n) i3 (!r16))) else ((sAt x_s i3).bind fun b22 =>
  (octet_IsPath b22).bind fun r23 =>
  if (!r23) then ((sAt x_s i3).bind fun b25 =>
  (strings_IndexByte x_more b25).bind fun r26 =>
  uriref_bytes_j3 (uriref_bytes_L1 x_s x_more n) i3 (decide (r26 < 0))) else (uriref_bytes_j3 (uriref_bytes_L1 x_s x_more n) i3 false))) else (some true)

def uriref_bytes (x_s : Str) (x_more : Str) : Option Bool :=
  uriref_bytes_L1 x_s x_more fuel 0

def uriref_well_j2 (t21 : Bool) : Option Bool :=
  some t21

def uriref_well_j3 (t29 : Bool) : Option Bool :=
  some t29

def uriref_well_j1 (x_r : api_Ref) (r3 : Str × Str) (t14 : Bool) : Option Bool :=
  if t14 then (some false) else (if x_r.HasAuth then (if (x_r.Path == []) then (uriref_well_j2 true) else ((sAt x_r.Path 0).bind fun b20 =>
  uriref_well_j2 (b20 == 47))) else ((strings_HasPrefix x_r.Path [47, 47]).bind fun r22 =>
  if r22 then (some false) else (if (!(x_r.Scheme == [])) then (uriref_well_j3 true) else ((strings_Contains r3.1 [58]).bind fun r28 =>
  uriref_well_j3 (!r28)))))

def uriref_well (x_r : api_Ref) : Option Bool :=
  (uriref_upto x_r.Path [47]).bind fun r3 =>
  (uriref_bytes x_r.Auth [91, 93]).bind fun r5 =>
  if (!r5) then (uriref_well_j1 x_r r3 true) else ((strings_Contains x_r.Auth [64]).bind fun r7 =>
  if r7 then (uriref_well_j1 x_r r3 true) else ((uriref_bytes x_r.Path [47]).bind fun r9 =>
  if (!r9) then (uriref_well_j1 x_r r3 true) else ((uriref_bytes x_r.Query [47, 63]).bind fun r11 =>
  if (!r11) then (uriref_well_j1 x_r r3 true) else ((uriref_bytes x_r.Frag [47, 63]).bind fun r13 =>
  uriref_well_j1 x_r r3 (!r13)))))

def uriref_Parse (x_s : Str) : Option (api_Ref × Int) :=
  (uriref_parts x_s).bind fun r3 =>
  (uriref_well r3).bind fun r6 =>
  if (!r6) then (some (((⟨[], [], [], [], [], false, false, false⟩ : api_Ref), 2))) else (some (r3, 0))

def location_is (x_s : Str) : Option Bool :=
  (uriref_Parse x_s).bind fun r2 =>
  some (r2.2 == 0)

def location_Rewrite_j1 (x_s : Str) (r2 : Str × Bool) (t8 : Bool) : Option Str :=
  if t8 then (some x_s) else (some r2.1)

def location_Rewrite (x_s : Str) (x_l : List api_Swap) : Option Str :=
  (uriref_Swap x_s x_l).bind fun r2 =>
  if (!r2.2) then (location_Rewrite_j1 x_s r2 true) else ((location_is x_s).bind fun r5 =>
  if (!r5) then (location_Rewrite_j1 x_s r2 true) else ((location_is r2.1).bind fun r7 =>
  location_Rewrite_j1 x_s r2 (!r7)))

def law30_awake : Option Bool :=
  (location_Rewrite [104, 116, 116, 112, 58, 47, 47, 117, 112, 47, 97, 63, 98] ([(⟨[104, 116, 116, 112, 58, 47, 47, 117, 112], [47, 120]⟩ : api_Swap)])).bind fun r3 =>
  some (r3 == [47, 120, 47, 97, 63, 98])

def law26_swap (x_x : api_Swap) : Option api_Swap :=
  (sTo x_x.From (min (x_x.From.length : Int) 60)).bind fun s4 =>
  (sTo x_x.To (min (x_x.To.length : Int) 60)).bind fun s5 =>
  some (⟨s4, s5⟩ : api_Swap)

def law26_Few_j8 (s90 : Str) (s91 : Str) (s92 : Str) (s93 : Str) (l96 : List api_Swap) (l99 : List api_Swap) : Option api_Env :=
  some (⟨s90, s91, s92, s93, l96, l99⟩ : api_Env)

def law26_Few_j7 (rec6 : (List api_Swap) → Str → Str → Str → Str → (List api_Swap) → Int → Option api_Env) (x_a0 : api_Env) (l67 : List api_Swap) (s68 : Str) (s69 : Str) (s70 : Str) (s71 : Str) (l74 : List api_Swap) (i75 : Int) (t77 : Bool) : Option api_Env :=
  if t77 then ((lAt x_a0.Locations i75).bind fun x80 =>
  (law26_swap x80).bind fun r83 =>
  if fitsApp l67.length 1 32 then ((iAdd i75 1).bind fun i89 =>
  rec6 (l67 ++ [r83]) s68 s69 s70 s71 l74 i89) else none) else (law26_Few_j8 s68 s69 s70 s71 l74 l67)

def law26_Few_L6 (x_a0 : api_Env) : Nat → (List api_Swap) → Str → Str → Str → Str → (List api_Swap) → Int → Option api_Env
  | 0, _, _, _, _, _, _, _ => none
  | n + 1, l67, s68, s69, s70, s71, l74, i75 =>
  if (decide (i75 < (x_a0.Locations.length : Int))) then (law26_Few_j7 (law26_Few_L6 x_a0 n) x_a0 l67 s68 s69 s70 s71 l74 i75 (decide (i75 < 6))) else (law26_Few_j7 (law26_Few_L6 x_a0 n) x_a0 l67 s68 s69 s70 s71 l74 i75 false)

def law26_Few_j5 (x_a0 : api_Env) (s54 : Str) (s55 : Str) (s56 : Str) (s57 : Str) (l60 : List api_Swap) (l63 : List api_Swap) : Option api_Env :=
  law26_Few_L6 x_a0 fuel l63 s54 s55 s56 s57 l60 0

def law26_Few_j4 (rec3 : (List api_Swap) → Str → Str → Str → Str → (List api_Swap) → Int → Option api_Env) (x_a0 : api_Env) (l31 : List api_Swap) (s32 : Str) (s33 : Str) (s34 : Str) (s35 : Str) (l38 : List api_Swap) (i39 : Int) (t41 : Bool) : Option api_Env :=
  if t41 then ((lAt x_a0.Domains i39).bind fun x44 =>
  (law26_swap x44).bind fun r47 =>
  if fitsApp l31.length 1 32 then ((iAdd i39 1).bind fun i53 =>
  rec3 (l31 ++ [r47]) s32 s33 s34 s35 l38 i53) else none) else (law26_Few_j5 x_a0 s32 s33 s34 s35 l31 l38)

def law26_Few_L3 (x_a0 : api_Env) : Nat → (List api_Swap) → Str → Str → Str → Str → (List api_Swap) → Int → Option api_Env
  | 0, _, _, _, _, _, _, _ => none
  | n + 1, l31, s32, s33, s34, s35, l38, i39 =>
  if (decide (i39 < (x_a0.Domains.length : Int))) then (law26_Few_j4 (law26_Few_L3 x_a0 n) x_a0 l31 s32 s33 s34 s35 l38 i39 (decide (i39 < 6))) else (law26_Few_j4 (law26_Few_L3 x_a0 n) x_a0 l31 s32 s33 s34 s35 l38 i39 false)

def law26_Few_j2 (x_a0 : api_Env) (s22 : Str) (s23 : Str) (s24 : Str) (s25 : Str) : Option api_Env :=
  law26_Few_L3 x_a0 fuel [] s22 s23 s24 s25 [] 0

def law26_Few_L1 (x_a0 : api_Env) : Nat → Str → Str → Str → Str → Int → Option api_Env
  | 0, _, _, _, _, _ => none
  | n + 1, s7, s8, s9, s10, i11 =>
  if (decide (i11 < 4)) then ((lAt [s7, s8, s9, s10] i11).bind fun x15 =>
  (lAt [s7, s8, s9, s10] i11).bind fun x16 =>
  (sTo x15 (min (x16.length : Int) 60)).bind fun s17 =>
  (lAt [s7, s8, s9, s10] i11).bind fun x18 =>
  ((lSet [s7, s8, s9, s10] i11 s17).bind tup4).bind fun r19 =>
  (iAdd i11 1).bind fun i21 =>
  (law26_Few_L1 x_a0 n) r19.1 r19.2.1 r19.2.2.1 r19.2.2.2 i21) else (law26_Few_j2 x_a0 s7 s8 s9 s10)

def law26_Few (x_a0 : api_Env) : Option api_Env :=
  law26_Few_L1 x_a0 fuel x_a0.Client x_a0.Host x_a0.Scheme x_a0.By 0

def law15_few (x_s : Str) : Option Str :=
  (sTo x_s (min (x_s.length : Int) 400)).bind fun s2 =>
  some s2

def law15_Few_j2 (rec1 : (List api_Field) → Int → Option api_Head) (x_h : api_Head) (r4 : Str) (r6 : Str) (r8 : Str) (l14 : List api_Field) (i15 : Int) (t17 : Bool) : Option api_Head :=
  if t17 then ((lAt x_h.Fields i15).bind fun x20 =>
  (law15_few x20.Name).bind fun r23 =>
  (lAt x_h.Fields i15).bind fun x24 =>
  (law15_few x24.Value).bind fun r27 =>
  if fitsApp l14.length 1 32 then ((iAdd i15 1).bind fun i33 =>
  rec1 (l14 ++ [(⟨r23, r27⟩ : api_Field)]) i33) else none) else (some (⟨x_h.Kind, r4, r6, x_h.Code, r8, x_h.Minor, l14⟩ : api_Head))

def law15_Few_L1 (x_h : api_Head) (r4 : Str) (r6 : Str) (r8 : Str) : Nat → (List api_Field) → Int → Option api_Head
  | 0, _, _ => none
  | n + 1, l14, i15 =>
  if (decide (i15 < (x_h.Fields.length : Int))) then (law15_Few_j2 (law15_Few_L1 x_h r4 r6 r8 n) x_h r4 r6 r8 l14 i15 (decide (i15 < 120))) else (law15_Few_j2 (law15_Few_L1 x_h r4 r6 r8 n) x_h r4 r6 r8 l14 i15 false)

def law15_Few (x_h : api_Head) : Option api_Head :=
  (law15_few x_h.Method).bind fun r4 =>
  (law15_few x_h.Target).bind fun r6 =>
  (law15_few x_h.Reason).bind fun r8 =>
  law15_Few_L1 x_h r4 r6 r8 fuel [] 0

def location_Fields_j3 (rec1 : (List api_Field) → Int → Option (List api_Field)) (i12 : Int) (l41 : List api_Field) : Option (List api_Field) :=
  (iAdd i12 1).bind fun i42 =>
  rec1 l41 i42

def location_Fields_j2 (rec1 : (List api_Field) → Int → Option (List api_Field)) (x_env : api_Env) (l11 : List api_Field) (i12 : Int) (x16 : api_Field) (r21 : Str) (t25 : Bool) : Option (List api_Field) :=
  if t25 then ((location_Rewrite x16.Value x_env.Locations).bind fun r27 =>
  (lAt l11 i12).bind fun x28 =>
  (lSet l11 i12 (⟨x28.Name, r27⟩ : api_Field)).bind fun l31 =>
  location_Fields_j3 rec1 i12 l31) else (if (r21 == [115, 101, 116, 45, 99, 111, 111, 107, 105, 101]) then ((domains_Rewrite x16.Value x_env.Domains).bind fun r34 =>
  (lAt l11 i12).bind fun x35 =>
  (lSet l11 i12 (⟨x35.Name, r34⟩ : api_Field)).bind fun l38 =>
  location_Fields_j3 rec1 i12 l38) else (location_Fields_j3 rec1 i12 l11))

def location_Fields_j4 (l45 : List api_Field) : Option (List api_Field) :=
  some l45

def location_Fields_L1 (x_env : api_Env) (x_l : List api_Field) : Nat → (List api_Field) → Int → Option (List api_Field)
  | 0, _, _ => none
  | n + 1, l11, i12 =>
  if (decide (i12 < (x_l.length : Int))) then ((lAt l11 i12).bind fun x16 =>
  (octet_Fold x16.Name).bind fun r21 =>
  if (r21 == [108, 111, 99, 97, 116, 105, 111, 110]) then (location_Fields_j2 (location_Fields_L1 x_env x_l n) x_env l11 i12 x16 r21 (r21 == [108, 111, 99, 97, 116, 105, 111, 110])) else (location_Fields_j2 (location_Fields_L1 x_env x_l n) x_env l11 i12 x16 r21 (r21 == [99, 111, 110, 116, 101, 110, 116, 45, 108, 111, 99, 97, 116, 105, 111, 110]))) else (location_Fields_j4 l11)

def location_Fields (x_env : api_Env) (x_l : List api_Field) : Option (List api_Field) :=
  if fitsApp 0 x_l.length 32 then (location_Fields_L1 x_env x_l fuel x_l 0) else none

def ref13_Of (x_f : api_Field) (x_name : Str) : Option Bool :=
  (ref01_Fold x_f.Name).bind fun r3 =>
  (ref01_Fold x_name).bind fun r4 =>
  some (r3 == r4)

def ref11_first_j2 (rec1 : Int → Option Int) (i3 : Int) (t7 : Bool) : Option Int :=
  if t7 then ((iAdd i3 1).bind fun i10 =>
  rec1 i10) else (some i3)

def ref11_first_L1 (x_s : Str) (x_l : Str) : Nat → Int → Option Int
  | 0, _ => none
  | n + 1, i3 =>
  if (decide (i3 < (x_s.length : Int))) then ((sAt x_s i3).bind fun b5 =>
  (ref01_In b5 x_l).bind fun r6 =>
  ref11_first_j2 (ref11_first_L1 x_s x_l n) i3 (!r6)) else (ref11_first_j2 (ref11_first_L1 x_s x_l n) i3 false)

def ref11_first (x_s : Str) (x_l : Str) : Option Int :=
  ref11_first_L1 x_s x_l fuel 0

def ref01_Alpha (x_b : UInt8) : Option Bool :=
  (ref01_In x_b [97, 98, 99, 100, 101, 102, 103, 104, 105, 106, 107, 108, 109, 110, 111, 112, 113, 114, 115, 116, 117, 118, 119, 120, 121, 122, 65, 66, 67, 68, 69, 70, 71, 72, 73, 74, 75, 76, 77, 78, 79, 80, 81, 82, 83, 84, 85, 86, 87, 88, 89, 90]).bind fun r2 =>
  some r2

def ref01_Digit (x_b : UInt8) : Option Bool :=
  (ref01_In x_b [48, 49, 50, 51, 52, 53, 54, 55, 56, 57]).bind fun r2 =>
  some r2

def ref11_scheme_j2 (rec1 : Int → Option Bool) (i3 : Int) (t16 : Bool) : Option Bool :=
  if t16 then (some false) else ((iAdd i3 1).bind fun i20 =>
  rec1 i20)

def ref11_scheme_L1 (x_s : Str) : Nat → Int → Option Bool
  | 0, _ => none
  | n + 1, i3 =>
  if (decide (i3 < (x_s.length : Int))) then ((sAt x_s i3).bind fun b7 =>
  (ref01_Alpha b7).bind fun r8 =>
  if (!r8) then (if (i3 == 0) then (ref11_scheme_j2 (ref11_scheme_L1 x_s n) i3 true) else ((sAt x_s i3).bind fun b11 =>
  (ref01_Digit b11).bind fun r12 =>
  if (!r12) then ((sAt x_s i3).bind fun b14 =>
  (ref01_In b14 [43, 45, 46]).bind fun r15 =>
  ref11_scheme_j2 (ref11_scheme_L1 x_s n) i3 (!r15)) else (ref11_scheme_j2 (ref11_scheme_L1 x_s n) i3 false))) else (ref11_scheme_j2 (ref11_scheme_L1 x_s n) i3 false)) else (some (decide (0 < (x_s.length : Int))))

def ref11_scheme (x_s : Str) : Option Bool :=
  ref11_scheme_L1 x_s fuel 0

def ref01_Path_j1 (t7 : Bool) : Option Bool :=
  some t7

def ref01_Path (x_b : UInt8) : Option Bool :=
  (ref01_Unreserved x_b).bind fun r2 =>
  if r2 then (ref01_Path_j1 true) else ((ref01_Sub x_b).bind fun r4 =>
  if r4 then (ref01_Path_j1 true) else (if (x_b == 58) then (ref01_Path_j1 true) else (ref01_Path_j1 (x_b == 64))))

def ref09_Of_j1 (t18 : Bool) : Option Bool :=
  some t18

def ref09_Of_j2 (t30 : Bool) : Option Bool :=
  some t30

def ref09_Of_r : Nat → Str → Str → Option Bool
  | 0, _, _ => none
  | n + 1, x_s, x_more =>
  if (x_s == []) then (some true) else ((sAt x_s 0).bind fun b6 =>
  if (b6 == 37) then (if (decide (2 < (x_s.length : Int))) then ((sAt x_s 1).bind fun b10 =>
  (ref01_Hex b10).bind fun r11 =>
  if r11 then ((sAt x_s 2).bind fun b13 =>
  (ref01_Hex b13).bind fun r14 =>
  if r14 then ((sFrom x_s 3).bind fun s16 =>
  ((ref09_Of_r n) s16 x_more).bind fun r17 =>
  ref09_Of_j1 r17) else (ref09_Of_j1 false)) else (ref09_Of_j1 false)) else (ref09_Of_j1 false)) else ((sAt x_s 0).bind fun b20 =>
  (ref01_Path b20).bind fun r21 =>
  if r21 then ((sFrom x_s 1).bind fun s23 =>
  ((ref09_Of_r n) s23 x_more).bind fun r24 =>
  ref09_Of_j2 r24) else ((sAt x_s 0).bind fun b25 =>
  (ref01_In b25 x_more).bind fun r26 =>
  if r26 then ((sFrom x_s 1).bind fun s28 =>
  ((ref09_Of_r n) s28 x_more).bind fun r29 =>
  ref09_Of_j2 r29) else (ref09_Of_j2 false))))

def ref09_Of (x_s : Str) (x_more : Str) : Option Bool := ref09_Of_r fuel x_s x_more

def ref11_right_j2 (t20 : Bool) : Option Bool :=
  some t20

def ref11_right_j4 (t33 : Bool) : Option Bool :=
  some t33

def ref11_right_j3 (x_a0 : api_Ref) (t24 : Bool) : Option Bool :=
  if t24 then (some false) else ((ref11_first x_a0.Path [58, 47]).bind fun r28 =>
  if (!(x_a0.Scheme == [])) then (ref11_right_j4 true) else (if (r28 == (x_a0.Path.length : Int)) then (ref11_right_j4 true) else ((sAt x_a0.Path r28).bind fun b32 =>
  ref11_right_j4 (b32 == 47))))

def ref11_right_j1 (x_a0 : api_Ref) (t12 : Bool) : Option Bool :=
  if t12 then (some false) else (if x_a0.HasAuth then (if (x_a0.Path == []) then (ref11_right_j2 true) else ((sAt x_a0.Path 0).bind fun b19 =>
  ref11_right_j2 (b19 == 47))) else (if (decide (1 < (x_a0.Path.length : Int))) then ((sTo x_a0.Path 2).bind fun s23 =>
  ref11_right_j3 x_a0 (s23 == [47, 47])) else (ref11_right_j3 x_a0 false)))

def ref11_right (x_a0 : api_Ref) : Option Bool :=
  (ref09_Of x_a0.Auth [91, 93]).bind fun r3 =>
  if (!r3) then (ref11_right_j1 x_a0 true) else ((ref11_first x_a0.Auth [64]).bind fun r5 =>
  if (decide (r5 < (x_a0.Auth.length : Int))) then (ref11_right_j1 x_a0 true) else ((ref09_Of x_a0.Path [47]).bind fun r7 =>
  if (!r7) then (ref11_right_j1 x_a0 true) else ((ref09_Of x_a0.Query [47, 63]).bind fun r9 =>
  if (!r9) then (ref11_right_j1 x_a0 true) else ((ref09_Of x_a0.Frag [47, 63]).bind fun r11 =>
  ref11_right_j1 x_a0 (!r11)))))

def ref11_Parse_j6 (s15 : Str) (t16 : Bool) (s27 : Str) (t28 : Bool) (s43 : Str) (s57 : Str) (s58 : Str) (t59 : Bool) : Option (api_Ref × Int) :=
  (ref11_right (⟨s43, s58, s57, s27, s15, t59, t28, t16⟩ : api_Ref)).bind fun r61 =>
  if (!r61) then (some (((⟨[], [], [], [], [], false, false, false⟩ : api_Ref), 2))) else (some (((⟨s43, s58, s57, s27, s15, t59, t28, t16⟩ : api_Ref), 0)))

def ref11_Parse_j5 (s15 : Str) (t16 : Bool) (s27 : Str) (t28 : Bool) (s42 : Str) (s43 : Str) (t46 : Bool) : Option (api_Ref × Int) :=
  if t46 then ((sFrom s42 2).bind fun s49 =>
  (ref11_first s49 [47]).bind fun r50 =>
  (iAdd 2 r50).bind fun i52 =>
  (sSub s42 2 i52).bind fun s53 =>
  (iAdd 2 r50).bind fun i55 =>
  (sFrom s42 i55).bind fun s56 =>
  ref11_Parse_j6 s15 t16 s27 t28 s43 s56 s53 true) else (ref11_Parse_j6 s15 t16 s27 t28 s43 s42 [] false)

def ref11_Parse_j4 (s15 : Str) (t16 : Bool) (s27 : Str) (t28 : Bool) (s42 : Str) (s43 : Str) : Option (api_Ref × Int) :=
  if (decide (1 < (s42.length : Int))) then ((sTo s42 2).bind fun s45 =>
  ref11_Parse_j5 s15 t16 s27 t28 s42 s43 (s45 == [47, 47])) else (ref11_Parse_j5 s15 t16 s27 t28 s42 s43 false)

def ref11_Parse_j3 (s15 : Str) (t16 : Bool) (s26 : Str) (s27 : Str) (t28 : Bool) (r29 : Int) (t36 : Bool) : Option (api_Ref × Int) :=
  if t36 then ((sTo s26 r29).bind fun s38 =>
  (iAdd r29 1).bind fun i40 =>
  (sFrom s26 i40).bind fun s41 =>
  ref11_Parse_j4 s15 t16 s27 t28 s41 s38) else (ref11_Parse_j4 s15 t16 s27 t28 s26 [])

def ref11_Parse_j2 (s15 : Str) (t16 : Bool) (s26 : Str) (s27 : Str) (t28 : Bool) : Option (api_Ref × Int) :=
  (ref11_first s26 [58, 47]).bind fun r29 =>
  if (decide (r29 < (s26.length : Int))) then ((sAt s26 r29).bind fun b32 =>
  if (b32 == 58) then ((sTo s26 r29).bind fun s34 =>
  (ref11_scheme s34).bind fun r35 =>
  ref11_Parse_j3 s15 t16 s26 s27 t28 r29 r35) else (ref11_Parse_j3 s15 t16 s26 s27 t28 r29 false)) else (ref11_Parse_j3 s15 t16 s26 s27 t28 r29 false)

def ref11_Parse_j1 (s14 : Str) (s15 : Str) (t16 : Bool) : Option (api_Ref × Int) :=
  (ref11_first s14 [63]).bind fun r17 =>
  if (decide (r17 < (s14.length : Int))) then ((iAdd r17 1).bind fun i22 =>
  (sFrom s14 i22).bind fun s23 =>
  (sTo s14 r17).bind fun s25 =>
  ref11_Parse_j2 s15 t16 s25 s23 true) else (ref11_Parse_j2 s15 t16 s14 [] false)

def ref11_Parse (x_a0 : Str) : Option (api_Ref × Int) :=
  (ref11_first x_a0 [35]).bind fun r5 =>
  if (decide (r5 < (x_a0.length : Int))) then ((iAdd r5 1).bind fun i10 =>
  (sFrom x_a0 i10).bind fun s11 =>
  (sTo x_a0 r5).bind fun s13 =>
  ref11_Parse_j1 s13 s11 true) else (ref11_Parse_j1 x_a0 [] false)

def ref11_Swap_j4 (rec1 : Int → Option (Str × Bool)) (i3 : Int) : Option (Str × Bool) :=
  (iAdd i3 1).bind fun i34 =>
  rec1 i34

def ref11_Swap_j3 (rec1 : Int → Option (Str × Bool)) (x_a0 : Str) (x_a1 : List api_Swap) (i3 : Int) (x7 : api_Swap) (t26 : Bool) : Option (Str × Bool) :=
  if t26 then ((lAt x_a1 i3).bind fun x28 =>
  (sFrom x_a0 (x7.From.length : Int)).bind fun s31 =>
  (sCat x28.To s31).bind fun s32 =>
  some (s32, true)) else (ref11_Swap_j4 rec1 i3)

def ref11_Swap_j2 (rec1 : Int → Option (Str × Bool)) (x_a0 : Str) (x_a1 : List api_Swap) (i3 : Int) (x7 : api_Swap) (t17 : Bool) : Option (Str × Bool) :=
  if t17 then (ref11_Swap_j4 rec1 i3) else (if ((x7.From.length : Int) == (x_a0.length : Int)) then (ref11_Swap_j3 rec1 x_a0 x_a1 i3 x7 true) else ((iSub (x7.From.length : Int) 1).bind fun i21 =>
  (sAt x_a0 i21).bind fun b22 =>
  if (b22 == 47) then (ref11_Swap_j3 rec1 x_a0 x_a1 i3 x7 true) else ((sAt x_a0 (x7.From.length : Int)).bind fun b24 =>
  (ref01_In b24 [47, 63, 35]).bind fun r25 =>
  ref11_Swap_j3 rec1 x_a0 x_a1 i3 x7 r25)))

def ref11_Swap_L1 (x_a0 : Str) (x_a1 : List api_Swap) : Nat → Int → Option (Str × Bool)
  | 0, _ => none
  | n + 1, i3 =>
  if (decide (i3 < (x_a1.length : Int))) then ((lAt x_a1 i3).bind fun x7 =>
  if ((x7.From.length : Int) == 0) then (ref11_Swap_j2 (ref11_Swap_L1 x_a0 x_a1 n) x_a0 x_a1 i3 x7 true) else (if (decide ((x_a0.length : Int) < (x7.From.length : Int))) then (ref11_Swap_j2 (ref11_Swap_L1 x_a0 x_a1 n) x_a0 x_a1 i3 x7 true) else ((sTo x_a0 (x7.From.length : Int)).bind fun s13 =>
  (lAt x_a1 i3).bind fun x14 =>
  ref11_Swap_j2 (ref11_Swap_L1 x_a0 x_a1 n) x_a0 x_a1 i3 x7 (!(s13 == x14.From))))) else (some (x_a0, false))

def ref11_Swap (x_a0 : Str) (x_a1 : List api_Swap) : Option (Str × Bool) :=
  ref11_Swap_L1 x_a0 x_a1 fuel 0

def ref30_Rewrite_j1 (x_s : Str) (r5 : Str × Bool) (t12 : Bool) : Option Str :=
  if t12 then (some r5.1) else (some x_s)

def ref30_Rewrite (x_s : Str) (x_l : List api_Swap) : Option Str :=
  (ref11_Parse x_s).bind fun r2 =>
  (ref11_Swap x_s x_l).bind fun r5 =>
  (ref11_Parse r5.1).bind fun r7 =>
  if (r2.2 == 0) then (if r5.2 then (ref30_Rewrite_j1 x_s r5 (r7.2 == 0)) else (ref30_Rewrite_j1 x_s r5 false)) else (ref30_Rewrite_j1 x_s r5 false)

def ref01_Blank_j1 (t3 : Bool) : Option Bool :=
  some t3

def ref01_Blank (x_b : UInt8) : Option Bool :=
  if (x_b == 32) then (ref01_Blank_j1 true) else (ref01_Blank_j1 (x_b == 9))

def ref06_Trim_j4 (rec3 : Str → Option Str) (s11 : Str) (t16 : Bool) : Option Str :=
  if t16 then ((iSub (s11.length : Int) 1).bind fun i19 =>
  (sTo s11 i19).bind fun s20 =>
  rec3 s20) else (some s11)

def ref06_Trim_L3 : Nat → Str → Option Str
  | 0, _ => none
  | n + 1, s11 =>
  if (decide (0 < (s11.length : Int))) then ((iSub (s11.length : Int) 1).bind fun i13 =>
  (sAt s11 i13).bind fun b14 =>
  (ref01_Blank b14).bind fun r15 =>
  ref06_Trim_j4 (ref06_Trim_L3 n) s11 r15) else (ref06_Trim_j4 (ref06_Trim_L3 n) s11 false)

def ref06_Trim_j2 (rec1 : Str → Option Str) (s2 : Str) (t6 : Bool) : Option Str :=
  if t6 then ((sFrom s2 1).bind fun s9 =>
  rec1 s9) else (ref06_Trim_L3 fuel s2)

def ref06_Trim_L1 : Nat → Str → Option Str
  | 0, _ => none
  | n + 1, s2 =>
  if (decide (0 < (s2.length : Int))) then ((sAt s2 0).bind fun b4 =>
  (ref01_Blank b4).bind fun r5 =>
  ref06_Trim_j2 (ref06_Trim_L1 n) s2 r5) else (ref06_Trim_j2 (ref06_Trim_L1 n) s2 false)

def ref06_Trim (x_s : Str) : Option Str :=
  ref06_Trim_L1 fuel x_s

def ref01_Tok (x_b : UInt8) : Option Bool :=
  (ref01_In x_b [97, 98, 99, 100, 101, 102, 103, 104, 105, 106, 107, 108, 109, 110, 111, 112, 113, 114, 115, 116, 117, 118, 119, 120, 121, 122, 65, 66, 67, 68, 69, 70, 71, 72, 73, 74, 75, 76, 77, 78, 79, 80, 81, 82, 83, 84, 85, 86, 87, 88, 89, 90, 48, 49, 50, 51, 52, 53, 54, 55, 56, 57, 33, 35, 36, 37, 38, 39, 42, 43, 45, 46, 94, 95, 96, 124, 126]).bind fun r2 =>
  some r2

def ref01_Token_L1 (x_s : Str) : Nat → Int → Option Bool
  | 0, _ => none
  | n + 1, i3 =>
  if (decide (i3 < (x_s.length : Int))) then ((sAt x_s i3).bind fun b7 =>
  (ref01_Tok b7).bind fun r8 =>
  if (!r8) then (some false) else ((iAdd i3 1).bind fun i13 =>
  (ref01_Token_L1 x_s n) i13)) else (some (decide (0 < (x_s.length : Int))))

def ref01_Token (x_s : Str) : Option Bool :=
  ref01_Token_L1 x_s fuel 0

def ref01_Value_j1 (t4 : Bool) : Option Bool :=
  some t4

def ref01_Value (x_b : UInt8) : Option Bool :=
  if (decide (32 ≤ x_b)) then (if (!(x_b == 127)) then (ref01_Value_j1 true) else (ref01_Value_j1 (x_b == 9))) else (ref01_Value_j1 (x_b == 9))

def ref28_part_L3 (r3 : Str) (i6 : Int) (s25 : Str) : Nat → Int → Option (api_Attr × Bool)
  | 0, _ => none
  | n + 1, i28 =>
  if (decide (i28 < (s25.length : Int))) then ((sAt s25 i28).bind fun b32 =>
  (ref01_Value b32).bind fun r33 =>
  if (!r33) then (some (((⟨[], [], false⟩ : api_Attr), false))) else ((iAdd i28 1).bind fun i38 =>
  (ref28_part_L3 r3 i6 s25 n) i38)) else ((sTo r3 i6).bind fun s40 =>
  (ref06_Trim s25).bind fun r41 =>
  some (((⟨s40, s25, true⟩ : api_Attr), r41 == s25)))

def ref28_part_j2 (rec1 : Int → Option (api_Attr × Bool)) (r3 : Str) (i6 : Int) (t9 : Bool) : Option (api_Attr × Bool) :=
  if t9 then ((iAdd i6 1).bind fun i12 =>
  rec1 i12) else ((sTo r3 i6).bind fun s14 =>
  (ref01_Token s14).bind fun r15 =>
  if (!r15) then (some (((⟨[], [], false⟩ : api_Attr), false))) else (if (i6 == (r3.length : Int)) then (some (((⟨r3, [], false⟩ : api_Attr), true))) else ((iAdd i6 1).bind fun i24 =>
  (sFrom r3 i24).bind fun s25 =>
  ref28_part_L3 r3 i6 s25 fuel 0)))

def ref28_part_L1 (r3 : Str) : Nat → Int → Option (api_Attr × Bool)
  | 0, _ => none
  | n + 1, i6 =>
  if (decide (i6 < (r3.length : Int))) then ((sAt r3 i6).bind fun b8 =>
  ref28_part_j2 (ref28_part_L1 r3 n) r3 i6 (!(b8 == 61))) else (ref28_part_j2 (ref28_part_L1 r3 n) r3 i6 false)

def ref28_part (x_s : Str) : Option (api_Attr × Bool) :=
  (ref06_Trim x_s).bind fun r3 =>
  ref28_part_L1 r3 fuel 0

def ref28_value_j4 (rec3 : Int → Option Bool) (i14 : Int) (t29 : Bool) : Option Bool :=
  if t29 then (some false) else ((iAdd i14 1).bind fun i33 =>
  rec3 i33)

def ref28_value_L3 (s12 : Str) : Nat → Int → Option Bool
  | 0, _ => none
  | n + 1, i14 =>
  if (decide (i14 < (s12.length : Int))) then ((sAt s12 i14).bind fun b18 =>
  if (decide (b18 < 33)) then (ref28_value_j4 (ref28_value_L3 s12 n) i14 true) else ((sAt s12 i14).bind fun b20 =>
  if (decide (126 < b20)) then (ref28_value_j4 (ref28_value_L3 s12 n) i14 true) else ((sAt s12 i14).bind fun b22 =>
  if (b22 == 34) then (ref28_value_j4 (ref28_value_L3 s12 n) i14 true) else ((sAt s12 i14).bind fun b24 =>
  if (b24 == 44) then (ref28_value_j4 (ref28_value_L3 s12 n) i14 true) else ((sAt s12 i14).bind fun b26 =>
  if (b26 == 59) then (ref28_value_j4 (ref28_value_L3 s12 n) i14 true) else ((sAt s12 i14).bind fun b28 =>
  ref28_value_j4 (ref28_value_L3 s12 n) i14 (b28 == 92))))))) else (some true)

def ref28_value_j2 (s12 : Str) : Option Bool :=
  ref28_value_L3 s12 fuel 0

def ref28_value_j1 (x_a0 : Str) (t8 : Bool) : Option Bool :=
  if t8 then ((iSub (x_a0.length : Int) 1).bind fun i10 =>
  (sSub x_a0 1 i10).bind fun s11 =>
  ref28_value_j2 s11) else (ref28_value_j2 x_a0)

def ref28_value (x_a0 : Str) : Option Bool :=
  if (decide (1 < (x_a0.length : Int))) then ((sAt x_a0 0).bind fun b4 =>
  if (b4 == 34) then ((iSub (x_a0.length : Int) 1).bind fun i6 =>
  (sAt x_a0 i6).bind fun b7 =>
  ref28_value_j1 x_a0 (b7 == 34)) else (ref28_value_j1 x_a0 false)) else (ref28_value_j1 x_a0 false)

def ref28_Parse_j3 (rec1 : (List api_Attr) → Str → Str → Int → Option (api_Cookie × Int)) (i15 : Int) (s40 : Str) (s41 : Str) (l44 : List api_Attr) : Option (api_Cookie × Int) :=
  (iAdd i15 1).bind fun i45 =>
  rec1 l44 s40 s41 i45

def ref28_Parse_j2 (rec1 : (List api_Attr) → Str → Str → Int → Option (api_Cookie × Int)) (l12 : List api_Attr) (s13 : Str) (s14 : Str) (i15 : Int) (r22 : api_Attr × Bool) (t29 : Bool) : Option (api_Cookie × Int) :=
  if t29 then (some (((⟨[], [], []⟩ : api_Cookie), 2))) else (if (i15 == 0) then (ref28_Parse_j3 rec1 i15 r22.1.Name r22.1.Value l12) else (if fitsApp l12.length 1 40 then (ref28_Parse_j3 rec1 i15 s13 s14 (l12 ++ [r22.1])) else none))

def ref28_Parse_j4 (s46 : Str) (s47 : Str) (l50 : List api_Attr) : Option (api_Cookie × Int) :=
  some (((⟨s46, s47, l50⟩ : api_Cookie), 0))

def ref28_Parse_L1 (r3 : List Str) : Nat → (List api_Attr) → Str → Str → Int → Option (api_Cookie × Int)
  | 0, _, _, _, _ => none
  | n + 1, l12, s13, s14, i15 =>
  if (decide (i15 < (r3.length : Int))) then ((lAt r3 i15).bind fun x19 =>
  (ref28_part x19).bind fun r22 =>
  if (!r22.2) then (ref28_Parse_j2 (ref28_Parse_L1 r3 n) l12 s13 s14 i15 r22 true) else (if (i15 == 0) then (if (!r22.1.Has) then (ref28_Parse_j2 (ref28_Parse_L1 r3 n) l12 s13 s14 i15 r22 true) else ((ref28_value r22.1.Value).bind fun r28 =>
  ref28_Parse_j2 (ref28_Parse_L1 r3 n) l12 s13 s14 i15 r22 (!r28))) else (ref28_Parse_j2 (ref28_Parse_L1 r3 n) l12 s13 s14 i15 r22 false))) else (ref28_Parse_j4 s13 s14 l12)

def ref28_Parse (x_s : Str) : Option (api_Cookie × Int) :=
  (ref08_Parts x_s 59).bind fun r3 =>
  ref28_Parse_L1 r3 fuel [] [] [] 0

def ref08_Under_j2 (t30 : Bool) : Option Bool :=
  some t30

def ref08_Under_j1 (x_name : Str) (x_domain : Str) (t9 : Bool) : Option Bool :=
  if t9 then (some false) else ((ref01_Fold x_name).bind fun r13 =>
  (ref01_Fold x_domain).bind fun r14 =>
  (iSub (r13.length : Int) (r14.length : Int)).bind fun i16 =>
  if (i16 == 0) then (if (r13 == r14) then (ref08_Under_j2 true) else (if (decide (0 < i16)) then ((sFrom r13 i16).bind fun s21 =>
  if (s21 == r14) then ((iSub i16 1).bind fun i23 =>
  (sAt r13 i23).bind fun b24 =>
  ref08_Under_j2 (b24 == 46)) else (ref08_Under_j2 false)) else (ref08_Under_j2 false))) else (if (decide (0 < i16)) then ((sFrom r13 i16).bind fun s26 =>
  if (s26 == r14) then ((iSub i16 1).bind fun i28 =>
  (sAt r13 i28).bind fun b29 =>
  ref08_Under_j2 (b29 == 46)) else (ref08_Under_j2 false)) else (ref08_Under_j2 false)))

def ref08_Under (x_name : Str) (x_domain : Str) : Option Bool :=
  (ref08_Name x_name).bind fun r2 =>
  if (!r2) then (ref08_Under_j1 x_name x_domain true) else ((ref08_Name x_domain).bind fun r4 =>
  if (!r4) then (ref08_Under_j1 x_name x_domain true) else ((ref08_Four x_name).bind fun r6 =>
  if r6 then (ref08_Under_j1 x_name x_domain true) else ((ref08_Four x_domain).bind fun r8 =>
  ref08_Under_j1 x_name x_domain r8)))

def ref29_Map_L3 (x_name : Str) (x_l : List api_Swap) (s8 : Str) : Nat → Int → Option (Str × Bool)
  | 0, _ => none
  | n + 1, i10 =>
  if (decide (i10 < (x_l.length : Int))) then ((lAt x_l i10).bind fun x14 =>
  (ref08_Under s8 x14.From).bind fun r17 =>
  if r17 then ((lAt x_l i10).bind fun x20 =>
  (iSub (s8.length : Int) (x20.From.length : Int)).bind fun i23 =>
  (sTo s8 i23).bind fun s24 =>
  (lAt x_l i10).bind fun x25 =>
  (sCat s24 x25.To).bind fun s28 =>
  some (s28, true)) else ((iAdd i10 1).bind fun i31 =>
  (ref29_Map_L3 x_name x_l s8 n) i31)) else (some (x_name, false))

def ref29_Map_j2 (x_name : Str) (x_l : List api_Swap) (s8 : Str) : Option (Str × Bool) :=
  ref29_Map_L3 x_name x_l s8 fuel 0

def ref29_Map_j1 (x_name : Str) (x_l : List api_Swap) (t5 : Bool) : Option (Str × Bool) :=
  if t5 then ((sFrom x_name 1).bind fun s7 =>
  ref29_Map_j2 x_name x_l s7) else (ref29_Map_j2 x_name x_l x_name)

def ref29_Map (x_name : Str) (x_l : List api_Swap) : Option (Str × Bool) :=
  if (!(x_name == [])) then ((sAt x_name 0).bind fun b4 =>
  ref29_Map_j1 x_name x_l (b4 == 46)) else (ref29_Map_j1 x_name x_l false)

def ref28_Set_j2 (rec1 : (List api_Attr) → Str → Str → Int → Option api_Cookie) (s12 : Str) (s13 : Str) (i14 : Int) (l39 : List api_Attr) : Option api_Cookie :=
  (iAdd i14 1).bind fun i40 =>
  rec1 l39 s12 s13 i40

def ref28_Set_j4 (s41 : Str) (s42 : Str) (l54 : List api_Attr) : Option api_Cookie :=
  some (⟨s41, s42, l54⟩ : api_Cookie)

def ref28_Set_j3 (x_a1 : Str) (x_a2 : Str) (r4 : Int) (s41 : Str) (s42 : Str) (l45 : List api_Attr) : Option api_Cookie :=
  if (decide (r4 < 0)) then (if fitsApp l45.length 1 40 then (ref28_Set_j4 s41 s42 (l45 ++ [(⟨x_a1, x_a2, true⟩ : api_Attr)])) else none) else (ref28_Set_j4 s41 s42 l45)

def ref28_Set_L1 (x_a0 : api_Cookie) (x_a1 : Str) (x_a2 : Str) (r4 : Int) : Nat → (List api_Attr) → Str → Str → Int → Option api_Cookie
  | 0, _, _, _, _ => none
  | n + 1, l11, s12, s13, i14 =>
  if (decide (i14 < (x_a0.Attrs.length : Int))) then ((lAt x_a0.Attrs i14).bind fun x18 =>
  if (i14 == r4) then (if fitsApp l11.length 1 40 then (ref28_Set_j2 (ref28_Set_L1 x_a0 x_a1 x_a2 r4 n) s12 s13 i14 (l11 ++ [(⟨x18.Name, x_a2, true⟩ : api_Attr)])) else none) else ((ref01_Fold x18.Name).bind fun r29 =>
  (ref01_Fold x_a1).bind fun r30 =>
  if (!(r29 == r30)) then (if fitsApp l11.length 1 40 then (ref28_Set_j2 (ref28_Set_L1 x_a0 x_a1 x_a2 r4 n) s12 s13 i14 (l11 ++ [x18])) else none) else (ref28_Set_j2 (ref28_Set_L1 x_a0 x_a1 x_a2 r4 n) s12 s13 i14 l11))) else (ref28_Set_j3 x_a1 x_a2 r4 s12 s13 l11)

def ref28_Set (x_a0 : api_Cookie) (x_a1 : Str) (x_a2 : Str) : Option api_Cookie :=
  (ref28_Place x_a0 x_a1).bind fun r4 =>
  ref28_Set_L1 x_a0 x_a1 x_a2 r4 fuel [] x_a0.Name x_a0.Value 0

def ref28_Text_j2 (rec1 : Str → Int → Option (Str × Int)) (i8 : Int) (s28 : Str) : Option (Str × Int) :=
  (iAdd i8 1).bind fun i29 =>
  rec1 s28 i29

def ref28_Text_j3 (s7 : Str) (t38 : Bool) : Option (Str × Int) :=
  if t38 then (some ([], 2)) else (some (s7, 0))

def ref28_Text_L1 (x_c : api_Cookie) : Nat → Str → Int → Option (Str × Int)
  | 0, _, _ => none
  | n + 1, s7, i8 =>
  if (decide (i8 < (x_c.Attrs.length : Int))) then ((sCat s7 [59, 32]).bind fun s12 =>
  (lAt x_c.Attrs i8).bind fun x13 =>
  (sCat s12 x13.Name).bind fun s16 =>
  (lAt x_c.Attrs i8).bind fun x18 =>
  if x18.Has then ((sCat s16 [61]).bind fun s23 =>
  (lAt x_c.Attrs i8).bind fun x24 =>
  (sCat s23 x24.Value).bind fun s27 =>
  ref28_Text_j2 (ref28_Text_L1 x_c n) i8 s27) else (ref28_Text_j2 (ref28_Text_L1 x_c n) i8 s16)) else ((ref28_Parse s7).bind fun r31 =>
  if (!(r31.2 == 0)) then (ref28_Text_j3 s7 true) else ((ref28_Same r31.1 x_c).bind fun r37 =>
  ref28_Text_j3 s7 (!r37)))

def ref28_Text (x_c : api_Cookie) : Option (Str × Int) :=
  (sCat x_c.Name [61]).bind fun s3 =>
  (sCat s3 x_c.Value).bind fun s4 =>
  ref28_Text_L1 x_c fuel s4 0

def ref29_Rewrite_j1 (x_s : Str) (x_l : List api_Swap) (r2 : api_Cookie × Int) (r7 : Int) (t10 : Bool) : Option Str :=
  if t10 then (some x_s) else ((lAt r2.1.Attrs r7).bind fun x14 =>
  (ref29_Map x14.Value x_l).bind fun r17 =>
  if (!r17.2) then (some x_s) else ((ref28_Set r2.1 [68, 111, 109, 97, 105, 110] r17.1).bind fun r23 =>
  (ref28_Text r23).bind fun r26 =>
  if (!(r26.2 == 0)) then (some x_s) else (some r26.1)))

def ref29_Rewrite (x_s : Str) (x_l : List api_Swap) : Option Str :=
  (ref28_Parse x_s).bind fun r2 =>
  (ref28_Place r2.1 [100, 111, 109, 97, 105, 110]).bind fun r7 =>
  if (!(r2.2 == 0)) then (ref29_Rewrite_j1 x_s x_l r2 r7 true) else (ref29_Rewrite_j1 x_s x_l r2 r7 (decide (r7 < 0)))

def ref30_Fields_j4 (rec1 : (List api_Field) → Int → Option (List api_Field)) (l7 : List api_Field) (i8 : Int) (x12 : api_Field) (s28 : Str) : Option (List api_Field) :=
  if fitsApp l7.length 1 32 then ((iAdd i8 1).bind fun i34 =>
  rec1 (l7 ++ [(⟨x12.Name, s28⟩ : api_Field)]) i34) else none

def ref30_Fields_j3 (rec1 : (List api_Field) → Int → Option (List api_Field)) (x_env : api_Env) (l7 : List api_Field) (i8 : Int) (x12 : api_Field) (s23 : Str) : Option (List api_Field) :=
  (ref13_Of (⟨x12.Name, s23⟩ : api_Field) [115, 101, 116, 45, 99, 111, 111, 107, 105, 101]).bind fun r24 =>
  if r24 then ((ref29_Rewrite s23 x_env.Domains).bind fun r27 =>
  ref30_Fields_j4 rec1 l7 i8 x12 r27) else (ref30_Fields_j4 rec1 l7 i8 x12 s23)

def ref30_Fields_j2 (rec1 : (List api_Field) → Int → Option (List api_Field)) (x_env : api_Env) (l7 : List api_Field) (i8 : Int) (x12 : api_Field) (t20 : Bool) : Option (List api_Field) :=
  if t20 then ((ref30_Rewrite x12.Value x_env.Locations).bind fun r22 =>
  ref30_Fields_j3 rec1 x_env l7 i8 x12 r22) else (ref30_Fields_j3 rec1 x_env l7 i8 x12 x12.Value)

def ref30_Fields_L1 (x_env : api_Env) (x_l : List api_Field) : Nat → (List api_Field) → Int → Option (List api_Field)
  | 0, _, _ => none
  | n + 1, l7, i8 =>
  if (decide (i8 < (x_l.length : Int))) then ((lAt x_l i8).bind fun x12 =>
  (ref13_Of x12 [108, 111, 99, 97, 116, 105, 111, 110]).bind fun r17 =>
  if r17 then (ref30_Fields_j2 (ref30_Fields_L1 x_env x_l n) x_env l7 i8 x12 true) else ((ref13_Of x12 [99, 111, 110, 116, 101, 110, 116, 45, 108, 111, 99, 97, 116, 105, 111, 110]).bind fun r19 =>
  ref30_Fields_j2 (ref30_Fields_L1 x_env x_l n) x_env l7 i8 x12 r19)) else (some l7)

def ref30_Fields (x_env : api_Env) (x_l : List api_Field) : Option (List api_Field) :=
  ref30_Fields_L1 x_env x_l fuel [] 0

def ref12_Same_L1 (x_a : List api_Field) (x_b : List api_Field) : Nat → Int → Option Bool
  | 0, _ => none
  | n + 1, i7 =>
  if (decide (i7 < (x_a.length : Int))) then ((lAt x_a i7).bind fun x11 =>
  (lAt x_b i7).bind fun x14 =>
  if (!(x11 == x14)) then (some false) else ((iAdd i7 1).bind fun i21 =>
  (ref12_Same_L1 x_a x_b n) i21)) else (some true)

def ref12_Same (x_a : List api_Field) (x_b : List api_Field) : Option Bool :=
  if (!((x_a.length : Int) == (x_b.length : Int))) then (some false) else (ref12_Same_L1 x_a x_b fuel 0)

def law30_LocationFields (x_env : api_Env) (x_l : List api_Field) : Option Bool :=
  (law30_awake).bind fun r3 =>
  if (!r3) then (some false) else ((law26_Few x_env).bind fun r8 =>
  (law15_Few (⟨0, [], [], 0, [], 0, x_l⟩ : api_Head)).bind fun r13 =>
  (location_Fields r8 r13.Fields).bind fun r17 =>
  (ref30_Fields r8 r13.Fields).bind fun r20 =>
  (ref12_Same r17 r20).bind fun r23 =>
  some r23)

end Go.Dm
