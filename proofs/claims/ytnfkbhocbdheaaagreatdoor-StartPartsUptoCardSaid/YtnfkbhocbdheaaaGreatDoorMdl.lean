/-
  The models of the functions: written by a program (wip/gen) off the translation. No program in sight.
-/
import Derived.Test.YtnfkbhocbdheaaaGreatDoorPrim
import Derived.Lib.ItoaNum
import Derived.Lib.SplitLaws
import Derived.Lib.SlTrimSet
import Derived.Lib.Join
import Derived.Lib.IndexMore
set_option linter.unusedVariables false
set_option maxRecDepth 10000
namespace Go.Dm
structure api_Host where
  Kind : Int
  Name : Str
  Port : Int
deriving DecidableEq
structure api_Target where
  Kind : Int
  Scheme : Str
  Host : api_Host
  Path : Str
  Query : Str
  HasQuery : Bool
deriving DecidableEq
structure scan_Scanner where
  f_s : Str
  f_at : Int
deriving DecidableEq
structure startline_line where
  Scanner : scan_Scanner
deriving DecidableEq
structure api_Field where
  Name : Str
  Value : Str
deriving DecidableEq
structure api_Head where
  Kind : Int
  Method : Str
  Target : Str
  Code : Int
  Reason : Str
  Minor : Int
  Fields : List api_Field
deriving DecidableEq
def idxByte : Str → UInt8 → Nat → Int
  | [], _, _ => -1
  | x :: l, c, k => if x == c then (k : Int) else idxByte l c (k + 1)
def strings_IndexByte (s : Str) (c : UInt8) : Option Int := some (idxByte s c 0)
/-- Does a text begin with another one? -/
def begins : Str → Str → Bool
  | _, [] => true
  | [], _ :: _ => false
  | x :: s, y :: t => x == y && begins s t
def idxStr : Str → Str → Nat → Int
  | s, t, k => if begins s t then (k : Int) else match s with
    | [] => -1
    | _ :: s => idxStr s t (k + 1)
def strings_Index (s t : Str) : Option Int := if s.length < 4294967281 then some (idxStr s t 0) else none
def strings_Cut (s t : Str) : Option (Str × Str × Bool) := if s.length < 4294967281 then some (Go.Lib.cut s t) else none
def idxAny : Str → Str → Nat → Int
  | [], _, _ => -1
  | x :: l, cs, k => if cs.contains x then (k : Int) else idxAny l cs (k + 1)
/-- Where the bytes that are looked for are ASCII. -/
def strings_IndexAny (s cs : Str) : Option Int := if s.length < 4294967281 ∧ cs.length < 4294967281 ∧ cs.all (fun c => c.toNat < 128) then some (idxAny s cs 0) else none
/-- At the bytes of a separator that is not empty. -/
def strings_Split (s sep : Str) : Option (List Str) := if s.length < 4294967281 ∧ 1 ≤ sep.length then some (Go.Lib.splitK sep 0 (Go.Lib.countB ⟨s.toArray⟩ ⟨sep.toArray⟩) s) else none
/-- What of a text stands between a byte and the next one. -/
def splitOn (c : UInt8) : Str → List Str
  | [] => [[]]
  | x :: s => if x = c then [] :: splitOn c s else match splitOn c s with
    | [] => [[x]]
    | h :: t => (x :: h) :: t
def strconv_FormatInt (n b : Int) : Option Str := if inI n = true ∧ b = 10 then some (Go.Lib.itoa n) else none
def octet_All_L2 (rec1 : Int → Option Bool) (x_is : UInt8 → Option Bool) (i3 : Int) (x7 : Str) : Nat → Int → Option Bool
  | 0, _ => none
  | n + 1, i12 =>
  if (decide (i12 < (x7.length : Int))) then ((sAt x7 i12).bind fun b17 =>
  (x_is b17).bind fun r18 =>
  if (!r18) then (some false) else ((iAdd i12 1).bind fun i23 =>
  (octet_All_L2 rec1 x_is i3 x7 n) i23)) else ((iAdd i3 1).bind fun i25 =>
  rec1 i25)

def octet_All_L1 (x_is : UInt8 → Option Bool) (x_l : List Str) : Nat → Int → Option Bool
  | 0, _ => none
  | n + 1, i3 =>
  if (decide (i3 < (x_l.length : Int))) then ((lAt x_l i3).bind fun x7 =>
  octet_All_L2 (octet_All_L1 x_is x_l n) x_is i3 x7 fuel 0) else (some true)

def octet_All (x_is : UInt8 → Option Bool) (x_l : List Str) : Option Bool :=
  octet_All_L1 x_is x_l fuel 0

def octet_IsDigit_j1 (t3 : Bool) : Option Bool :=
  some t3

def octet_IsDigit (x_b : UInt8) : Option Bool :=
  if (decide (48 ≤ x_b)) then (octet_IsDigit_j1 (decide (x_b ≤ 57))) else (octet_IsDigit_j1 false)

def octet_Lower_j1 (x_b : UInt8) (t3 : Bool) : Option UInt8 :=
  if t3 then (some (x_b + 32)) else (some x_b)

def octet_Lower (x_b : UInt8) : Option UInt8 :=
  if (decide (65 ≤ x_b)) then (octet_Lower_j1 x_b (decide (x_b ≤ 90))) else (octet_Lower_j1 x_b false)

def numeral_worth (x_b : UInt8) : Option Int :=
  (octet_IsDigit x_b).bind fun r2 =>
  if r2 then (some (((x_b - 48).toNat : Int))) else ((octet_Lower x_b).bind fun r7 =>
  (iAdd (((r7 - 97).toNat : Int)) 10).bind fun i8 =>
  some i8)

def numeral_read_j3 (rec2 : Int → Int → Option (Int × Int)) (x_base : Int) (i11 : Int) (i12 : Int) (r18 : Int) (t23 : Bool) : Option (Int × Int) :=
  if t23 then (some (0, 7)) else ((iMul i11 x_base).bind fun i27 =>
  (iAdd i27 r18).bind fun i28 =>
  (iAdd i12 1).bind fun i30 =>
  rec2 i28 i30)

def numeral_read_L2 (x_s : Str) (x_base : Int) (x_most : Int) : Nat → Int → Int → Option (Int × Int)
  | 0, _, _ => none
  | n + 1, i11, i12 =>
  if (decide (i12 < (x_s.length : Int))) then ((sAt x_s i12).bind fun b17 =>
  (numeral_worth b17).bind fun r18 =>
  if (decide (x_most < r18)) then (numeral_read_j3 (numeral_read_L2 x_s x_base x_most n) x_base i11 i12 r18 true) else ((iSub x_most r18).bind fun i21 =>
  (iDiv i21 x_base).bind fun i22 =>
  numeral_read_j3 (numeral_read_L2 x_s x_base x_most n) x_base i11 i12 r18 (decide (i22 < i11)))) else (some (i11, 0))

def numeral_read_j1 (x_s : Str) (x_base : Int) (x_most : Int) (t5 : Bool) : Option (Int × Int) :=
  if t5 then (some (0, 2)) else (numeral_read_L2 x_s x_base x_most fuel 0 0)

def numeral_read (x_s : Str) (x_base : Int) (x_most : Int) (x_is : UInt8 → Option Bool) : Option (Int × Int) :=
  if (x_s == []) then (numeral_read_j1 x_s x_base x_most true) else ((octet_All x_is [x_s]).bind fun r4 =>
  numeral_read_j1 x_s x_base x_most (!r4))

def numeral_Decimal (x_s : Str) (x_most : Int) : Option (Int × Int) :=
  (numeral_read x_s 10 x_most octet_IsDigit).bind fun r2 =>
  some (r2.1, r2.2)

def numeral_text (x_n : Int) (x_base : Int) : Option Str :=
  if (decide (x_n < 0)) then (some []) else ((strconv_FormatInt x_n x_base).bind fun r6 =>
  some r6)

def numeral_Text (x_n : Int) : Option Str :=
  (numeral_text x_n 10).bind fun r2 =>
  some r2

def hostport_small_j1 (t6 : Bool) : Option Bool :=
  some t6

def hostport_small (x_s : Str) (x_most : Int) : Option Bool :=
  (numeral_Decimal x_s x_most).bind fun r2 =>
  if (r2.2 == 0) then ((numeral_Text r2.1).bind fun r5 =>
  hostport_small_j1 (r5 == x_s)) else (hostport_small_j1 false)

def hostport_Four (s : Str) : Option Bool := if s.length < 1000000000 then ((splitOn 46 s).mapM (fun x => hostport_small x 255)).bind fun bs => some (bs.all id && decide ((bs.length : Int) = 4)) else none

def octet_IsHex_j1 (t7 : Bool) : Option Bool :=
  some t7

def octet_IsHex (x_b : UInt8) : Option Bool :=
  (octet_IsDigit x_b).bind fun r2 =>
  if r2 then (octet_IsHex_j1 true) else ((octet_Lower x_b).bind fun r4 =>
  if (decide (97 ≤ r4)) then ((octet_Lower x_b).bind fun r6 =>
  octet_IsHex_j1 (decide (r6 ≤ 102))) else (octet_IsHex_j1 false))

def hostport_groups_j4 (rec1 : Int → Int → Option Int) (i13 : Int) (i36 : Int) : Option Int :=
  (iAdd i13 1).bind fun i37 =>
  rec1 i36 i37

def hostport_groups_j3 (rec1 : Int → Int → Option Int) (i12 : Int) (i13 : Int) (t32 : Bool) : Option Int :=
  if t32 then ((iAdd i12 1).bind fun i34 =>
  hostport_groups_j4 rec1 i13 i34) else (some (-1))

def hostport_groups_j2 (rec1 : Int → Int → Option Int) (i12 : Int) (i13 : Int) (x17 : Str) (t25 : Bool) : Option Int :=
  if t25 then ((iAdd i12 2).bind fun i27 =>
  hostport_groups_j4 rec1 i13 i27) else (if (decide (1 ≤ (x17.length : Int))) then (if (decide ((x17.length : Int) ≤ 4)) then ((octet_All octet_IsHex [x17]).bind fun r31 =>
  hostport_groups_j3 rec1 i12 i13 r31) else (hostport_groups_j3 rec1 i12 i13 false)) else (hostport_groups_j3 rec1 i12 i13 false))

def hostport_groups_L1 (x_last : Bool) (r6 : List Str) : Nat → Int → Int → Option Int
  | 0, _, _ => none
  | n + 1, i12, i13 =>
  if (decide (i13 < (r6.length : Int))) then ((lAt r6 i13).bind fun x17 =>
  if x_last then ((iSub (r6.length : Int) 1).bind fun i22 =>
  if (i13 == i22) then ((hostport_Four x17).bind fun r24 =>
  hostport_groups_j2 (hostport_groups_L1 x_last r6 n) i12 i13 x17 r24) else (hostport_groups_j2 (hostport_groups_L1 x_last r6 n) i12 i13 x17 false)) else (hostport_groups_j2 (hostport_groups_L1 x_last r6 n) i12 i13 x17 false)) else (some i12)

def hostport_groups (x_s : Str) (x_last : Bool) : Option Int :=
  if (x_s == []) then (some 0) else ((strings_Split x_s [58]).bind fun r6 =>
  hostport_groups_L1 x_last r6 fuel 0 0)

def hostport_Six_j1 (t15 : Bool) : Option Bool :=
  some t15

def hostport_Six (x_s : Str) : Option Bool :=
  (strings_Cut x_s [58, 58]).bind fun r2 =>
  if (!r2.2.2) then ((hostport_groups x_s true).bind fun r6 =>
  some (r6 == 8)) else ((hostport_groups r2.1 false).bind fun r9 =>
  (hostport_groups r2.2.1 true).bind fun r10 =>
  if (decide (0 ≤ r9)) then (if (decide (0 ≤ r10)) then ((iAdd r9 r10).bind fun i14 =>
  hostport_Six_j1 (decide (i14 ≤ 7))) else (hostport_Six_j1 false)) else (hostport_Six_j1 false))

def hostport_percent_j1 (t8 : Bool) : Option Bool :=
  some t8

def hostport_percent (x_s : Str) : Option Bool :=
  if (decide (3 ≤ (x_s.length : Int))) then ((sAt x_s 0).bind fun b3 =>
  if (b3 == 37) then ((sSub x_s 1 3).bind fun s5 =>
  (octet_All octet_IsHex [s5]).bind fun r7 =>
  hostport_percent_j1 r7) else (hostport_percent_j1 false)) else (hostport_percent_j1 false)

def octet_IsAlpha_j1 (t5 : Bool) : Option Bool :=
  some t5

def octet_IsAlpha (x_b : UInt8) : Option Bool :=
  (octet_Lower x_b).bind fun r2 =>
  if (decide (97 ≤ r2)) then ((octet_Lower x_b).bind fun r4 =>
  octet_IsAlpha_j1 (decide (r4 ≤ 122))) else (octet_IsAlpha_j1 false)

def octet_one (x_b : UInt8) (x_l : Str) : Option Bool :=
  (strings_IndexByte x_l x_b).bind fun r2 =>
  some (decide (0 ≤ r2))

def octet_IsUnreserved_j1 (t7 : Bool) : Option Bool :=
  some t7

def octet_IsUnreserved (x_b : UInt8) : Option Bool :=
  (octet_IsAlpha x_b).bind fun r2 =>
  if r2 then (octet_IsUnreserved_j1 true) else ((octet_IsDigit x_b).bind fun r4 =>
  if r4 then (octet_IsUnreserved_j1 true) else ((octet_one x_b [45, 46, 95, 126]).bind fun r6 =>
  octet_IsUnreserved_j1 r6))

def octet_IsSub (x_b : UInt8) : Option Bool :=
  (octet_one x_b [33, 36, 38, 39, 40, 41, 42, 43, 44, 59, 61]).bind fun r2 =>
  some r2

def hostport_Name_j2 (rec1 : Str → Option Bool) (s6 : Str) (t19 : Bool) : Option Bool :=
  if t19 then ((sFrom s6 1).bind fun s21 =>
  rec1 s21) else (some false)

def hostport_Name_L1 : Nat → Str → Option Bool
  | 0, _ => none
  | n + 1, s6 =>
  if (!(s6 == [])) then ((hostport_percent s6).bind fun r10 =>
  if r10 then ((sFrom s6 3).bind fun s13 =>
  (hostport_Name_L1 n) s13) else ((sAt s6 0).bind fun b14 =>
  (octet_IsUnreserved b14).bind fun r15 =>
  if r15 then (hostport_Name_j2 (hostport_Name_L1 n) s6 true) else ((sAt s6 0).bind fun b17 =>
  (octet_IsSub b17).bind fun r18 =>
  hostport_Name_j2 (hostport_Name_L1 n) s6 r18))) else (some true)

def hostport_Name (x_s : Str) : Option Bool :=
  if (x_s == []) then (some false) else (hostport_Name_L1 fuel x_s)

def hostport_of_j2 (i24 : Int) (s25 : Str) : Option (api_Host × Bool) :=
  some (((⟨i24, s25, (-1)⟩ : api_Host), !(i24 == 0)))

def hostport_of_j1 (x_s : Str) (t14 : Bool) : Option (api_Host × Bool) :=
  if t14 then ((iSub (x_s.length : Int) 1).bind fun i16 =>
  (sSub x_s 1 i16).bind fun s17 =>
  hostport_of_j2 3 s17) else ((hostport_Four x_s).bind fun r18 =>
  if r18 then (hostport_of_j2 2 x_s) else ((hostport_Name x_s).bind fun r21 =>
  if r21 then (hostport_of_j2 1 x_s) else (hostport_of_j2 0 x_s)))

def hostport_of (x_s : Str) : Option (api_Host × Bool) :=
  if (decide (2 < (x_s.length : Int))) then ((sAt x_s 0).bind fun b6 =>
  if (b6 == 91) then ((iSub (x_s.length : Int) 1).bind fun i8 =>
  (sAt x_s i8).bind fun b9 =>
  if (b9 == 93) then ((iSub (x_s.length : Int) 1).bind fun i11 =>
  (sSub x_s 1 i11).bind fun s12 =>
  (hostport_Six s12).bind fun r13 =>
  hostport_of_j1 x_s r13) else (hostport_of_j1 x_s false)) else (hostport_of_j1 x_s false)) else (hostport_of_j1 x_s false)

def bytealg_LastIndexByteString_L1 (x_s : Str) (x_c : UInt8) : Nat → Int → Option Int
  | 0, _ => none
  | n + 1, i4 =>
  if (decide (0 ≤ i4)) then ((sAt x_s i4).bind fun b8 =>
  if (b8 == x_c) then (some i4) else ((iSub i4 1).bind fun i13 =>
  (bytealg_LastIndexByteString_L1 x_s x_c n) i13)) else (some (-1))

def bytealg_LastIndexByteString (x_s : Str) (x_c : UInt8) : Option Int :=
  (iSub (x_s.length : Int) 1).bind fun i2 =>
  bytealg_LastIndexByteString_L1 x_s x_c fuel i2

def strings_LastIndexByte (x_s : Str) (x_c : UInt8) : Option Int :=
  (bytealg_LastIndexByteString x_s x_c).bind fun r2 =>
  some r2

def hostport_Parse_j1 (x_s : Str) (r10 : Int) (r17 : api_Host × Bool) (t24 : Bool) : Option (api_Host × Int) :=
  if t24 then (some (((⟨0, [], 0⟩ : api_Host), 27))) else ((iAdd r10 1).bind fun i28 =>
  (sFrom x_s i28).bind fun s29 =>
  (numeral_Decimal s29 65535).bind fun r30 =>
  some (((⟨r17.1.Kind, r17.1.Name, r30.1⟩ : api_Host), 0)))

def hostport_Parse (x_s : Str) : Option (api_Host × Int) :=
  (hostport_of x_s).bind fun r3 =>
  if r3.2 then (some (r3.1, 0)) else ((strings_LastIndexByte x_s 58).bind fun r10 =>
  if (decide (r10 < 0)) then (some (((⟨0, [], 0⟩ : api_Host), 27))) else ((sTo x_s r10).bind fun s16 =>
  (hostport_of s16).bind fun r17 =>
  if (!r17.2) then (hostport_Parse_j1 x_s r10 r17 true) else ((iAdd r10 1).bind fun i21 =>
  (sFrom x_s i21).bind fun s22 =>
  (hostport_small s22 65535).bind fun r23 =>
  hostport_Parse_j1 x_s r10 r17 (!r23))))

def stringslite_HasPrefix_j1 (t4 : Bool) : Option Bool :=
  some t4

def stringslite_HasPrefix (x_s : Str) (x_prefix : Str) : Option Bool :=
  if (decide ((x_prefix.length : Int) ≤ (x_s.length : Int))) then ((sTo x_s (x_prefix.length : Int)).bind fun s3 =>
  stringslite_HasPrefix_j1 (s3 == x_prefix)) else (stringslite_HasPrefix_j1 false)

def strings_HasPrefix (x_s : Str) (x_prefix : Str) : Option Bool :=
  (stringslite_HasPrefix x_s x_prefix).bind fun r2 =>
  some r2

def octet_Fold (s : Str) : Option Str := if s.length < 4294967281 then s.mapM octet_Lower else none

def octet_IsPath_j1 (t7 : Bool) : Option Bool :=
  some t7

def octet_IsPath (x_b : UInt8) : Option Bool :=
  (octet_IsUnreserved x_b).bind fun r2 =>
  if r2 then (octet_IsPath_j1 true) else ((octet_IsSub x_b).bind fun r4 =>
  if r4 then (octet_IsPath_j1 true) else ((octet_one x_b [58, 64]).bind fun r6 =>
  octet_IsPath_j1 r6))

def pathq_of_j4 (rec1 : Int → Option Bool) (i27 : Int) : Option Bool :=
  (iAdd i27 1).bind fun i28 =>
  rec1 i28

def pathq_of_j3 (rec1 : Int → Option Bool) (i3 : Int) (t23 : Bool) : Option Bool :=
  if t23 then ((iAdd i3 2).bind fun i25 =>
  pathq_of_j4 rec1 i25) else (some false)

def pathq_of_j2 (rec1 : Int → Option Bool) (x_s : Str) (i3 : Int) (t12 : Bool) : Option Bool :=
  if t12 then (pathq_of_j4 rec1 i3) else ((sAt x_s i3).bind fun b14 =>
  if (b14 == 37) then ((iAdd i3 2).bind fun i16 =>
  if (decide (i16 < (x_s.length : Int))) then ((iAdd i3 1).bind fun i18 =>
  (iAdd i3 3).bind fun i19 =>
  (sSub x_s i18 i19).bind fun s20 =>
  (octet_All octet_IsHex [s20]).bind fun r22 =>
  pathq_of_j3 rec1 i3 r22) else (pathq_of_j3 rec1 i3 false)) else (pathq_of_j3 rec1 i3 false))

def pathq_of_L1 (x_s : Str) (x_more : Str) : Nat → Int → Option Bool
  | 0, _ => none
  | n + 1, i3 =>
  if (decide (i3 < (x_s.length : Int))) then ((sAt x_s i3).bind fun b7 =>
  (octet_IsPath b7).bind fun r8 =>
  if r8 then (pathq_of_j2 (pathq_of_L1 x_s x_more n) x_s i3 true) else ((sAt x_s i3).bind fun b10 =>
  (strings_IndexByte x_more b10).bind fun r11 =>
  pathq_of_j2 (pathq_of_L1 x_s x_more n) x_s i3 (decide (0 ≤ r11)))) else (some true)

def pathq_of (x_s : Str) (x_more : Str) : Option Bool :=
  pathq_of_L1 x_s x_more fuel 0

def pathq_Path_j1 (t5 : Bool) : Option Bool :=
  some t5

def pathq_Path (x_s : Str) : Option Bool :=
  (strings_HasPrefix x_s [47]).bind fun r2 =>
  if r2 then ((pathq_of x_s [47]).bind fun r4 =>
  pathq_Path_j1 r4) else (pathq_Path_j1 false)

def pathq_Query (x_s : Str) : Option Bool :=
  (pathq_of x_s [47, 63]).bind fun r2 =>
  some r2

def pathq_Cut_j1 (r2 : Str × Str × Bool) (t7 : Bool) : Option (Str × Str × Bool × Int) :=
  if t7 then (some ([], [], false, 2)) else (some (r2.1, r2.2.1, r2.2.2, 0))

def pathq_Cut (x_s : Str) : Option (Str × Str × Bool × Int) :=
  (strings_Cut x_s [63]).bind fun r2 =>
  (pathq_Path r2.1).bind fun r4 =>
  if (!r4) then (pathq_Cut_j1 r2 true) else ((pathq_Query r2.2.1).bind fun r6 =>
  pathq_Cut_j1 r2 (!r6))

def target_tail_j2 (x_t : api_Target) (r15 : Str × Str × Bool × Int) (s19 : Str) : Option (api_Target × Bool) :=
  some (((⟨x_t.Kind, x_t.Scheme, x_t.Host, s19, r15.2.1, r15.2.2.1⟩ : api_Target), r15.2.2.2 == 0))

def target_tail_j1 (x_t : api_Target) (b9 : UInt8) (s14 : Str) : Option (api_Target × Bool) :=
  (pathq_Cut s14).bind fun r15 =>
  if (b9 == 63) then (target_tail_j2 x_t r15 []) else (target_tail_j2 x_t r15 r15.1)

def target_tail (x_t : api_Target) (x_s : Str) : Option (api_Target × Bool) :=
  if (x_s == []) then (some (x_t, true)) else ((sAt x_s 0).bind fun b9 =>
  if (b9 == 63) then ((sCat [47] x_s).bind fun s13 =>
  target_tail_j1 x_t b9 s13) else (target_tail_j1 x_t b9 x_s))

def target_absolute_j2 (r3 : Str × Str × Bool) (r5 : Str) (i18 : Int) : Option (api_Target × Bool) :=
  (sTo r3.2.1 i18).bind fun s19 =>
  (hostport_Parse s19).bind fun r20 =>
  if (!(r20.2 == 0)) then (some (((⟨2, r5, (⟨0, [], 0⟩ : api_Host), [], [], false⟩ : api_Target), false))) else ((sFrom r3.2.1 i18).bind fun s28 =>
  (target_tail (⟨2, r5, r20.1, [], [], false⟩ : api_Target) s28).bind fun r29 =>
  some (r29.1, r29.2))

def target_absolute_j1 (r3 : Str × Str × Bool) (r5 : Str) (t10 : Bool) : Option (api_Target × Bool) :=
  if t10 then (some (((⟨2, r5, (⟨0, [], 0⟩ : api_Host), [], [], false⟩ : api_Target), false))) else ((strings_IndexAny r3.2.1 [47, 63]).bind fun r14 =>
  if (decide (r14 < 0)) then (target_absolute_j2 r3 r5 (r3.2.1.length : Int)) else (target_absolute_j2 r3 r5 r14))

def target_absolute (x_s : Str) : Option (api_Target × Bool) :=
  (strings_Cut x_s [58, 47, 47]).bind fun r3 =>
  (octet_Fold r3.1).bind fun r5 =>
  if (!r3.2.2) then (target_absolute_j1 r3 r5 true) else (if (!(r5 == [104, 116, 116, 112])) then (target_absolute_j1 r3 r5 (!(r5 == [104, 116, 116, 112, 115]))) else (target_absolute_j1 r3 r5 false))

def target_of (x_method : Str) (x_s : Str) : Option (api_Target × Bool) :=
  if (x_s == [42]) then (some (((⟨4, [], (⟨0, [], 0⟩ : api_Host), [], [], false⟩ : api_Target), x_method == [79, 80, 84, 73, 79, 78, 83]))) else ((strings_HasPrefix x_s [47]).bind fun r7 =>
  if (!r7) then ((target_absolute x_s).bind fun r10 =>
  some (r10.1, r10.2)) else ((target_tail ((⟨1, [], (⟨0, [], 0⟩ : api_Host), [], [], false⟩ : api_Target)) x_s).bind fun r13 =>
  some (r13.1, r13.2)))

def target_Parse_j1 (r5 : api_Host × Int) (t9 : Bool) : Option (api_Target × Int) :=
  if t9 then (some (((⟨0, [], (⟨0, [], 0⟩ : api_Host), [], [], false⟩ : api_Target), 20))) else (some (((⟨3, [], r5.1, [], [], false⟩ : api_Target), 0)))

def target_Parse (x_method : Str) (x_s : Str) : Option (api_Target × Int) :=
  if (x_method == [67, 79, 78, 78, 69, 67, 84]) then ((hostport_Parse x_s).bind fun r5 =>
  if (!(r5.2 == 0)) then (target_Parse_j1 r5 true) else (target_Parse_j1 r5 (decide (r5.1.Port < 0)))) else ((target_of x_method x_s).bind fun r15 =>
  if (!r15.2) then (some (((⟨0, [], (⟨0, [], 0⟩ : api_Host), [], [], false⟩ : api_Target), 20))) else (some (r15.1, 0)))

def strings_ContainsAny (x_s : Str) (x_chars : Str) : Option Bool :=
  (strings_IndexAny x_s x_chars).bind fun r2 =>
  some (decide (0 ≤ r2))

def scan_New (x_s : Str) : Option scan_Scanner :=
  some (⟨x_s, 0⟩ : scan_Scanner)

def scan_Scanner_Rest (x_c : scan_Scanner) : Option Str :=
  (sFrom x_c.f_s x_c.f_at).bind fun s4 =>
  some s4

def scan_Scanner_Text (x_c : scan_Scanner) (x_t : Str) : Option (Bool × scan_Scanner) :=
  (scan_Scanner_Rest x_c).bind fun r2 =>
  (strings_HasPrefix r2 x_t).bind fun r3 =>
  if (!r3) then (some (false, x_c)) else ((iAdd x_c.f_at (x_t.length : Int)).bind fun i9 =>
  some ((true, (⟨x_c.f_s, i9⟩ : scan_Scanner))))

def scan_Scanner_End (x_c : scan_Scanner) : Option Bool :=
  (scan_Scanner_Rest x_c).bind fun r2 =>
  some (r2 == [])

def scan_Scanner_Peek (x_c : scan_Scanner) : Option (UInt8 × Bool) :=
  (scan_Scanner_End x_c).bind fun r2 =>
  if r2 then (some (0, false)) else ((sAt x_c.f_s x_c.f_at).bind fun b7 =>
  some (b7, true))

def scan_Scanner_Byte_j1 (x_c : scan_Scanner) (t5 : Bool) : Option (Bool × scan_Scanner) :=
  if t5 then (some (false, x_c)) else ((iAdd x_c.f_at 1).bind fun i9 =>
  some ((true, (⟨x_c.f_s, i9⟩ : scan_Scanner))))

def scan_Scanner_Byte (x_c : scan_Scanner) (x_b : UInt8) : Option (Bool × scan_Scanner) :=
  (scan_Scanner_Peek x_c).bind fun r2 =>
  if (!r2.2) then (scan_Scanner_Byte_j1 x_c true) else (scan_Scanner_Byte_j1 x_c (!(r2.1 == x_b)))

def startline_line_digit_j1 (x_p : startline_line) (r3 : UInt8 × Bool) (t7 : Bool) : Option (Int × Bool × scan_Scanner) :=
  if t7 then (some (0, false, x_p.Scanner)) else ((scan_Scanner_Byte x_p.Scanner r3.1).bind fun r11 =>
  some ((((r3.1 - 48).toNat : Int), true, r11.2)))

def startline_line_digit (x_p : startline_line) : Option (Int × Bool × scan_Scanner) :=
  (scan_Scanner_Peek x_p.Scanner).bind fun r3 =>
  if (!r3.2) then (startline_line_digit_j1 x_p r3 true) else ((octet_IsDigit r3.1).bind fun r6 =>
  startline_line_digit_j1 x_p r3 (!r6))

def startline_line_version_j1 (r8 : Int × Bool × scan_Scanner) (r12 : Int × Bool × scan_Scanner) (t16 : Bool) : Option (Int × Int × Bool × scan_Scanner) :=
  some (r8.1, r12.1, t16, r12.2.2)

def startline_line_version (x_p : startline_line) : Option (Int × Int × Bool × scan_Scanner) :=
  (scan_Scanner_Text x_p.Scanner [72, 84, 84, 80, 47]).bind fun r3 =>
  if (!r3.1) then (some (0, 0, false, r3.2)) else ((startline_line_digit (⟨r3.2⟩ : startline_line)).bind fun r8 =>
  (scan_Scanner_Byte r8.2.2 46).bind fun r10 =>
  (startline_line_digit (⟨r10.2⟩ : startline_line)).bind fun r12 =>
  if r8.2.1 then (if r10.1 then (startline_line_version_j1 r8 r12 r12.2.1) else (startline_line_version_j1 r8 r12 false)) else (startline_line_version_j1 r8 r12 false))

def startline_other_j1 (t12 : Bool) : Option Bool :=
  some t12

def startline_other (x_s : Str) : Option Bool :=
  (scan_New x_s).bind fun r2 =>
  (startline_line_version (⟨r2⟩ : startline_line)).bind fun r6 =>
  if r6.2.2.1 then ((scan_Scanner_End r6.2.2.2).bind fun r9 =>
  if r9 then (if (!(r6.1 == 1)) then (startline_other_j1 true) else (startline_other_j1 (decide (1 < r6.2.1)))) else (startline_other_j1 false)) else (startline_other_j1 false)

def scan_Scanner_At (x_c : scan_Scanner) : Option Int :=
  some x_c.f_at

def scan_Scanner_While_j3 (r2 : Int) (s14 : Str) (i15 : Int) : Option (Str × scan_Scanner) :=
  (sSub s14 r2 i15).bind fun s18 =>
  some ((s18, (⟨s14, i15⟩ : scan_Scanner)))

def scan_Scanner_While_j2 (rec1 : Str → Int → Option (Str × scan_Scanner)) (r2 : Int) (s4 : Str) (i5 : Int) (t10 : Bool) : Option (Str × scan_Scanner) :=
  if t10 then (scan_Scanner_While_j3 r2 s4 i5) else ((iAdd i5 1).bind fun i13 =>
  rec1 s4 i13)

def scan_Scanner_While_L1 (x_is : UInt8 → Option Bool) (r2 : Int) : Nat → Str → Int → Option (Str × scan_Scanner)
  | 0, _, _ => none
  | n + 1, s4, i5 =>
  (scan_Scanner_Peek (⟨s4, i5⟩ : scan_Scanner)).bind fun r6 =>
  if (!r6.2) then (scan_Scanner_While_j2 (scan_Scanner_While_L1 x_is r2 n) r2 s4 i5 true) else ((x_is r6.1).bind fun r9 =>
  scan_Scanner_While_j2 (scan_Scanner_While_L1 x_is r2 n) r2 s4 i5 (!r9))

def scan_Scanner_While (x_c : scan_Scanner) (x_is : UInt8 → Option Bool) : Option (Str × scan_Scanner) :=
  (scan_Scanner_At x_c).bind fun r2 =>
  scan_Scanner_While_L1 x_is r2 fuel x_c.f_s x_c.f_at

def octet_IsToken_j1 (t7 : Bool) : Option Bool :=
  some t7

def octet_IsToken (x_b : UInt8) : Option Bool :=
  (octet_IsAlpha x_b).bind fun r2 =>
  if r2 then (octet_IsToken_j1 true) else ((octet_IsDigit x_b).bind fun r4 =>
  if r4 then (octet_IsToken_j1 true) else ((octet_one x_b [33, 35, 36, 37, 38, 39, 42, 43, 45, 46, 94, 95, 96, 124, 126]).bind fun r6 =>
  octet_IsToken_j1 r6))

def scan_Scanner_Token (x_c : scan_Scanner) : Option (Str × Bool × scan_Scanner) :=
  (scan_Scanner_While x_c octet_IsToken).bind fun r2 =>
  some ((r2.1, !(r2.1 == []), r2.2))

def startline_request_1 (x_b : UInt8) : Option Bool :=
  some (!(x_b == 32))

def startline_line_minor_j1 (r3 : Int × Int × Bool × scan_Scanner) (t7 : Bool) : Option (Int × Bool × scan_Scanner) :=
  some (r3.2.1, t7, r3.2.2.2)

def startline_line_minor (x_p : startline_line) : Option (Int × Bool × scan_Scanner) :=
  (startline_line_version x_p).bind fun r3 =>
  if r3.2.2.1 then (if (r3.1 == 1) then (startline_line_minor_j1 r3 (decide (r3.2.1 ≤ 1))) else (startline_line_minor_j1 r3 false)) else (startline_line_minor_j1 r3 false)

def startline_request_j1 (r17 : Str × Bool × scan_Scanner) (r21 : Str × scan_Scanner) (r25 : Int × Bool × scan_Scanner) (t36 : Bool) : Option (api_Head × Int) :=
  if t36 then (some (((⟨0, [], [], 0, [], 0, []⟩ : api_Head), 20))) else (some (((⟨1, r17.1, r21.1, 0, [], r25.1, []⟩ : api_Head), 0)))

def startline_request (x_a0 : Str) : Option (api_Head × Int) :=
  (strings_LastIndexByte x_a0 32).bind fun r5 =>
  (iAdd r5 1).bind fun i6 =>
  (sFrom x_a0 i6).bind fun s7 =>
  (startline_other s7).bind fun r8 =>
  if r8 then (some (((⟨0, [], [], 0, [], 0, []⟩ : api_Head), 26))) else ((scan_New x_a0).bind fun r13 =>
  (scan_Scanner_Token r13).bind fun r17 =>
  (scan_Scanner_Byte r17.2.2 32).bind fun r19 =>
  (scan_Scanner_While r19.2 startline_request_1).bind fun r21 =>
  (scan_Scanner_Byte r21.2 32).bind fun r23 =>
  (startline_line_minor (⟨r23.2⟩ : startline_line)).bind fun r25 =>
  (target_Parse r17.1 r21.1).bind fun r27 =>
  if (!r17.2.1) then (startline_request_j1 r17 r21 r25 true) else (if (!r19.1) then (startline_request_j1 r17 r21 r25 true) else (if (!r23.1) then (startline_request_j1 r17 r21 r25 true) else (if (!r25.2.1) then (startline_request_j1 r17 r21 r25 true) else ((scan_Scanner_End r25.2.2).bind fun r34 =>
  if (!r34) then (startline_request_j1 r17 r21 r25 true) else (startline_request_j1 r17 r21 r25 (!(r27.2 == 0))))))))

def octet_IsVisible_j1 (t3 : Bool) : Option Bool :=
  some t3

def octet_IsVisible (x_b : UInt8) : Option Bool :=
  if (decide (32 < x_b)) then (octet_IsVisible_j1 (decide (x_b < 127))) else (octet_IsVisible_j1 false)

def octet_IsBlank_j1 (t3 : Bool) : Option Bool :=
  some t3

def octet_IsBlank (x_b : UInt8) : Option Bool :=
  if (x_b == 32) then (octet_IsBlank_j1 true) else (octet_IsBlank_j1 (x_b == 9))

def octet_IsValue_j1 (t6 : Bool) : Option Bool :=
  some t6

def octet_IsValue (x_b : UInt8) : Option Bool :=
  (octet_IsVisible x_b).bind fun r2 =>
  if r2 then (octet_IsValue_j1 true) else ((octet_IsBlank x_b).bind fun r4 =>
  if r4 then (octet_IsValue_j1 true) else (octet_IsValue_j1 (decide (127 < x_b))))

def startline_status_j1 (r14 : Int × Bool × scan_Scanner) (r20 : Bool × scan_Scanner) (r22 : Int × Int) (t33 : Bool) : Option (api_Head × Int) :=
  if t33 then (some (((⟨0, [], [], 0, [], 0, []⟩ : api_Head), 20))) else ((scan_Scanner_Rest r20.2).bind fun r37 =>
  some (((⟨2, [], [], r22.1, r37, r14.1, []⟩ : api_Head), 0)))

def startline_status (x_a0 : Str) : Option (api_Head × Int) :=
  (strings_Cut x_a0 [32]).bind fun r3 =>
  (startline_other r3.1).bind fun r5 =>
  if r5 then (some (((⟨0, [], [], 0, [], 0, []⟩ : api_Head), 26))) else ((scan_New x_a0).bind fun r10 =>
  (startline_line_minor (⟨r10⟩ : startline_line)).bind fun r14 =>
  (scan_Scanner_Byte r14.2.2 32).bind fun r16 =>
  (scan_Scanner_While r16.2 octet_IsDigit).bind fun r18 =>
  (scan_Scanner_Byte r18.2 32).bind fun r20 =>
  (numeral_Decimal r18.1 599).bind fun r22 =>
  if (!r14.2.1) then (startline_status_j1 r14 r20 r22 true) else (if (!r16.1) then (startline_status_j1 r14 r20 r22 true) else (if (!r20.1) then (startline_status_j1 r14 r20 r22 true) else (if (!((r18.1.length : Int) == 3)) then (startline_status_j1 r14 r20 r22 true) else (if (!(r22.2 == 0)) then (startline_status_j1 r14 r20 r22 true) else (if (decide (r22.1 < 100)) then (startline_status_j1 r14 r20 r22 true) else ((scan_Scanner_Rest r20.2).bind fun r30 =>
  (octet_All octet_IsValue [r30]).bind fun r32 =>
  startline_status_j1 r14 r20 r22 (!r32))))))))

def startline_Parse_j1 (x_kind : Int) (x_s : Str) (t4 : Bool) : Option (api_Head × Int) :=
  if t4 then (some (((⟨0, [], [], 0, [], 0, []⟩ : api_Head), 1))) else ((strings_ContainsAny x_s [13, 10]).bind fun r7 =>
  if r7 then (some (((⟨0, [], [], 0, [], 0, []⟩ : api_Head), 24))) else (if (x_kind == 1) then ((startline_request x_s).bind fun r13 =>
  some (r13.1, r13.2)) else ((startline_status x_s).bind fun r18 =>
  some (r18.1, r18.2))))

def startline_Parse (x_kind : Int) (x_s : Str) : Option (api_Head × Int) :=
  if (!(x_kind == 1)) then (startline_Parse_j1 x_kind x_s (!(x_kind == 2))) else (startline_Parse_j1 x_kind x_s false)

def law14_awake_j1 (t24 : Bool) : Option Bool :=
  some t24

def law14_awake : Option Bool :=
  (startline_Parse 1 [71, 69, 84, 32, 47, 32, 72, 84, 84, 80, 47, 49, 46, 49]).bind fun r2 =>
  (startline_Parse 2 [72, 84, 84, 80, 47, 50, 46, 48, 32, 50, 48, 48, 32, 79, 75]).bind fun r7 =>
  (startline_Parse 2 [72, 84, 84, 80, 47, 49, 46, 49, 32, 50, 48, 52, 32]).bind fun r12 =>
  if (r2.2 == 0) then (if (r2.1.Method == [71, 69, 84]) then (if (r2.1.Target == [47]) then (if (r2.1.Minor == 1) then (if (r7.2 == 26) then (if (r12.2 == 0) then (if (r12.1.Code == 204) then (law14_awake_j1 (r12.1.Reason == [])) else (law14_awake_j1 false)) else (law14_awake_j1 false)) else (law14_awake_j1 false)) else (law14_awake_j1 false)) else (law14_awake_j1 false)) else (law14_awake_j1 false)) else (law14_awake_j1 false)

def law14_few (x_s : Str) : Option Str :=
  (sTo x_s (min (x_s.length : Int) 200)).bind fun s2 =>
  some s2

def ref14_Same_j1 (t9 : Bool) : Option Bool :=
  some t9

def ref14_Same (x_a : api_Head) (x_b : api_Head) : Option Bool :=
  if (x_a.Kind == x_b.Kind) then (if (x_a.Method == x_b.Method) then (if (x_a.Target == x_b.Target) then (if (x_a.Minor == x_b.Minor) then (if (x_a.Code == x_b.Code) then (ref14_Same_j1 (x_a.Reason == x_b.Reason)) else (ref14_Same_j1 false)) else (ref14_Same_j1 false)) else (ref14_Same_j1 false)) else (ref14_Same_j1 false)) else (ref14_Same_j1 false)

def law14_StartParts_j2 (t32 : Bool) : Option Bool :=
  some t32

def law14_StartParts_j1 (x_minor : Int) (r7 : Str) (r8 : Str) (s19 : Str) : Option Bool :=
  (startline_Parse 1 s19).bind fun r20 =>
  if (!(r20.2 == 0)) then ((ref14_Same r20.1 (⟨0, [], [], 0, [], 0, []⟩ : api_Head)).bind fun r27 =>
  some r27) else (if (r20.1.Method == r7) then (if (r20.1.Target == r8) then (law14_StartParts_j2 ((r20.1.Minor == 1) == (x_minor == 1))) else (law14_StartParts_j2 false)) else (law14_StartParts_j2 false))

def law14_StartParts (x_method : Str) (x_at : Str) (x_minor : Int) : Option Bool :=
  (law14_awake).bind fun r2 =>
  if (!r2) then (some false) else ((law14_few x_method).bind fun r7 =>
  (law14_few x_at).bind fun r8 =>
  (sCat r7 [32]).bind fun s10 =>
  (sCat s10 r8).bind fun s11 =>
  (sCat s11 [32, 72, 84, 84, 80, 47, 49, 46, 48]).bind fun s12 =>
  if (x_minor == 1) then ((sCat r7 [32]).bind fun s16 =>
  (sCat s16 r8).bind fun s17 =>
  (sCat s17 [32, 72, 84, 84, 80, 47, 49, 46, 49]).bind fun s18 =>
  law14_StartParts_j1 x_minor r7 r8 s18) else (law14_StartParts_j1 x_minor r7 r8 s12))

end Go.Dm
