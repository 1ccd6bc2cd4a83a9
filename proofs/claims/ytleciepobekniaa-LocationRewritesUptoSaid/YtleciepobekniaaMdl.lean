/-
  The models of the functions: written by a program (wip/gen) off the translation. No program in sight.
-/
import Derived.Test.YtleciepobekniaaPrim
set_option linter.unusedVariables false
set_option maxRecDepth 10000
namespace Go.Dm
structure api_Swap where
  From : Str
  To : Str
deriving DecidableEq
structure api_Ref where
  Scheme : Str
  Auth : Str
  Path : Str
  Query : Str
  Frag : Str
  HasAuth : Bool
  HasQuery : Bool
  HasFrag : Bool
deriving DecidableEq

def idxByte : Str → UInt8 → Nat → Int
  | [], _, _ => -1
  | x :: l, c, k => if x == c then (k : Int) else idxByte l c (k + 1)
def strings_IndexByte (s : Str) (c : UInt8) : Option Int := some (idxByte s c 0)
/-- Does a text begin with another one? -/
def begins : Str → Str → Bool
  | _, [] => true
  | [], _ :: _ => false
  | x :: s, y :: t => x == y && begins s t
def idxStr : Str → Str → Nat → Int
  | s, t, k => if begins s t then (k : Int) else match s with
    | [] => -1
    | _ :: s => idxStr s t (k + 1)
def strings_Index (s t : Str) : Option Int := if s.length < 4294967281 then some (idxStr s t 0) else none
def strings_Contains (s t : Str) : Option Bool := if s.length < 4294967281 then some (decide (0 ≤ idxStr s t 0)) else none
def idxAny : Str → Str → Nat → Int
  | [], _, _ => -1
  | x :: l, cs, k => if cs.contains x then (k : Int) else idxAny l cs (k + 1)
/-- Where the bytes that are looked for are ASCII. -/
def strings_IndexAny (s cs : Str) : Option Int := if s.length < 4294967281 ∧ cs.length < 4294967281 ∧ cs.all (fun c => c.toNat < 128) then some (idxAny s cs 0) else none
def stringslite_HasPrefix_j1 (t4 : Bool) : Option Bool :=
  some t4

def stringslite_HasPrefix (x_s : Str) (x_prefix : Str) : Option Bool :=
  if (decide ((x_prefix.length : Int) ≤ (x_s.length : Int))) then ((sTo x_s (x_prefix.length : Int)).bind fun s3 =>
  stringslite_HasPrefix_j1 (s3 == x_prefix)) else (stringslite_HasPrefix_j1 false)

def stringslite_CutPrefix (x_s : Str) (x_prefix : Str) : Option (Str × Bool) :=
  (stringslite_HasPrefix x_s x_prefix).bind fun r2 =>
  if (!r2) then (some (x_s, false)) else ((sFrom x_s (x_prefix.length : Int)).bind fun s7 =>
  some (s7, true))

def strings_CutPrefix (x_s : Str) (x_prefix : Str) : Option (Str × Bool) :=
  (stringslite_CutPrefix x_s x_prefix).bind fun r2 =>
  some (r2.1, r2.2)

def stringslite_HasSuffix_j1 (t5 : Bool) : Option Bool :=
  some t5

def stringslite_HasSuffix (x_s : Str) (x_suffix : Str) : Option Bool :=
  if (decide ((x_suffix.length : Int) ≤ (x_s.length : Int))) then ((iSub (x_s.length : Int) (x_suffix.length : Int)).bind fun i3 =>
  (sFrom x_s i3).bind fun s4 =>
  stringslite_HasSuffix_j1 (s4 == x_suffix)) else (stringslite_HasSuffix_j1 false)

def strings_HasSuffix (x_s : Str) (x_suffix : Str) : Option Bool :=
  (stringslite_HasSuffix x_s x_suffix).bind fun r2 =>
  some r2

def uriref_Swap_j4 (rec1 : Int → Option (Str × Bool)) (i3 : Int) : Option (Str × Bool) :=
  (iAdd i3 1).bind fun i27 =>
  rec1 i27

def uriref_Swap_j3 (rec1 : Int → Option (Str × Bool)) (i3 : Int) (x7 : api_Swap) (r12 : Str × Bool) (t23 : Bool) : Option (Str × Bool) :=
  if t23 then ((sCat x7.To r12.1).bind fun s25 =>
  some (s25, true)) else (uriref_Swap_j4 rec1 i3)

def uriref_Swap_j2 (rec1 : Int → Option (Str × Bool)) (i3 : Int) (x7 : api_Swap) (r12 : Str × Bool) (t15 : Bool) : Option (Str × Bool) :=
  if t15 then (uriref_Swap_j4 rec1 i3) else (if (r12.1 == []) then (uriref_Swap_j3 rec1 i3 x7 r12 true) else ((strings_HasSuffix x7.From [47]).bind fun r19 =>
  if r19 then (uriref_Swap_j3 rec1 i3 x7 r12 true) else ((sAt r12.1 0).bind fun b21 =>
  (strings_IndexByte [47, 63, 35] b21).bind fun r22 =>
  uriref_Swap_j3 rec1 i3 x7 r12 (decide (0 ≤ r22)))))

def uriref_Swap_L1 (x_s : Str) (x_l : List api_Swap) : Nat → Int → Option (Str × Bool)
  | 0, _ => none
  | n + 1, i3 =>
  if (decide (i3 < (x_l.length : Int))) then ((lAt x_l i3).bind fun x7 =>
  (strings_CutPrefix x_s x7.From).bind fun r12 =>
  if (!r12.2) then (uriref_Swap_j2 (uriref_Swap_L1 x_s x_l n) i3 x7 r12 true) else (uriref_Swap_j2 (uriref_Swap_L1 x_s x_l n) i3 x7 r12 (x7.From == []))) else (some (x_s, false))

def uriref_Swap (x_s : Str) (x_l : List api_Swap) : Option (Str × Bool) :=
  uriref_Swap_L1 x_s x_l fuel 0

def octet_Lower_j1 (x_b : UInt8) (t3 : Bool) : Option UInt8 :=
  if t3 then (some (x_b + 32)) else (some x_b)

def octet_Lower (x_b : UInt8) : Option UInt8 :=
  if (decide (65 ≤ x_b)) then (octet_Lower_j1 x_b (decide (x_b ≤ 90))) else (octet_Lower_j1 x_b false)

def octet_IsAlpha_j1 (t5 : Bool) : Option Bool :=
  some t5

def octet_IsAlpha (x_b : UInt8) : Option Bool :=
  (octet_Lower x_b).bind fun r2 =>
  if (decide (97 ≤ r2)) then ((octet_Lower x_b).bind fun r4 =>
  octet_IsAlpha_j1 (decide (r4 ≤ 122))) else (octet_IsAlpha_j1 false)

def octet_IsDigit_j1 (t3 : Bool) : Option Bool :=
  some t3

def octet_IsDigit (x_b : UInt8) : Option Bool :=
  if (decide (48 ≤ x_b)) then (octet_IsDigit_j1 (decide (x_b ≤ 57))) else (octet_IsDigit_j1 false)

def uriref_scheme_1_j1 (t8 : Bool) : Option Bool :=
  some t8

def uriref_scheme_1 (x_b : UInt8) : Option Bool :=
  (octet_IsAlpha x_b).bind fun r2 =>
  if r2 then (uriref_scheme_1_j1 true) else ((octet_IsDigit x_b).bind fun r4 =>
  if r4 then (uriref_scheme_1_j1 true) else (if (x_b == 43) then (uriref_scheme_1_j1 true) else (if (x_b == 45) then (uriref_scheme_1_j1 true) else (uriref_scheme_1_j1 (x_b == 46)))))

def octet_All_L2 (rec1 : Int → Option Bool) (x_is : UInt8 → Option Bool) (i3 : Int) (x7 : Str) : Nat → Int → Option Bool
  | 0, _ => none
  | n + 1, i12 =>
  if (decide (i12 < (x7.length : Int))) then ((sAt x7 i12).bind fun b17 =>
  (x_is b17).bind fun r18 =>
  if (!r18) then (some false) else ((iAdd i12 1).bind fun i23 =>
  (octet_All_L2 rec1 x_is i3 x7 n) i23)) else ((iAdd i3 1).bind fun i25 =>
  rec1 i25)

def octet_All_L1 (x_is : UInt8 → Option Bool) (x_l : List Str) : Nat → Int → Option Bool
  | 0, _ => none
  | n + 1, i3 =>
  if (decide (i3 < (x_l.length : Int))) then ((lAt x_l i3).bind fun x7 =>
  octet_All_L2 (octet_All_L1 x_is x_l n) x_is i3 x7 fuel 0) else (some true)

def octet_All (x_is : UInt8 → Option Bool) (x_l : List Str) : Option Bool :=
  octet_All_L1 x_is x_l fuel 0

def uriref_scheme_j1 (t9 : Bool) : Option Bool :=
  some t9

def uriref_scheme (x_s : Str) : Option Bool :=
  if (!(x_s == [])) then ((sAt x_s 0).bind fun b4 =>
  (octet_IsAlpha b4).bind fun r5 =>
  if r5 then ((octet_All uriref_scheme_1 [x_s]).bind fun r8 =>
  uriref_scheme_j1 r8) else (uriref_scheme_j1 false)) else (uriref_scheme_j1 false)

def strings_HasPrefix (x_s : Str) (x_prefix : Str) : Option Bool :=
  (stringslite_HasPrefix x_s x_prefix).bind fun r2 =>
  some r2

def uriref_upto (x_s : Str) (x_l : Str) : Option (Str × Str) :=
  (strings_IndexAny x_s x_l).bind fun r2 =>
  if (decide (0 ≤ r2)) then ((sTo x_s r2).bind fun s6 =>
  (sFrom x_s r2).bind fun s7 =>
  some (s6, s7)) else (some (x_s, []))

def uriref_parts_j5 (s16 : Str) (s24 : Str) (t25 : Bool) (r26 : Str × Str) (s35 : Str) (t36 : Bool) (s40 : Str) (t41 : Bool) : Option api_Ref :=
  some (⟨s16, s24, r26.1, s35, s40, t25, t36, t41⟩ : api_Ref)

def uriref_parts_j4 (s16 : Str) (s24 : Str) (t25 : Bool) (r26 : Str × Str) (s34 : Str) (s35 : Str) (t36 : Bool) : Option api_Ref :=
  if (!(s34 == [])) then ((sFrom s34 1).bind fun s39 =>
  uriref_parts_j5 s16 s24 t25 r26 s35 t36 s39 true) else (uriref_parts_j5 s16 s24 t25 r26 s35 t36 [] false)

def uriref_parts_j3 (s16 : Str) (s23 : Str) (s24 : Str) (t25 : Bool) : Option api_Ref :=
  (uriref_upto s23 [63, 35]).bind fun r26 =>
  (strings_HasPrefix r26.2 [63]).bind fun r28 =>
  if r28 then ((sFrom r26.2 1).bind fun s32 =>
  (uriref_upto s32 [35]).bind fun r33 =>
  uriref_parts_j4 s16 s24 t25 r26 r33.2 r33.1 true) else (uriref_parts_j4 s16 s24 t25 r26 r26.2 [] false)

def uriref_parts_j2 (s15 : Str) (s16 : Str) : Option api_Ref :=
  (strings_HasPrefix s15 [47, 47]).bind fun r17 =>
  if r17 then ((sFrom s15 2).bind fun s21 =>
  (uriref_upto s21 [47, 63, 35]).bind fun r22 =>
  uriref_parts_j3 s16 r22.2 r22.1 true) else (uriref_parts_j3 s16 s15 [] false)

def uriref_parts_j1 (x_s : Str) (r5 : Int) (t10 : Bool) : Option api_Ref :=
  if t10 then ((sTo x_s r5).bind fun s12 =>
  (iAdd r5 1).bind fun i13 =>
  (sFrom x_s i13).bind fun s14 =>
  uriref_parts_j2 s14 s12) else (uriref_parts_j2 x_s [])

def uriref_parts (x_s : Str) : Option api_Ref :=
  (strings_IndexByte x_s 58).bind fun r5 =>
  if (decide (0 < r5)) then ((sTo x_s r5).bind fun s8 =>
  (uriref_scheme s8).bind fun r9 =>
  uriref_parts_j1 x_s r5 r9) else (uriref_parts_j1 x_s r5 false)

def octet_IsHex_j1 (t7 : Bool) : Option Bool :=
  some t7

def octet_IsHex (x_b : UInt8) : Option Bool :=
  (octet_IsDigit x_b).bind fun r2 =>
  if r2 then (octet_IsHex_j1 true) else ((octet_Lower x_b).bind fun r4 =>
  if (decide (97 ≤ r4)) then ((octet_Lower x_b).bind fun r6 =>
  octet_IsHex_j1 (decide (r6 ≤ 102))) else (octet_IsHex_j1 false))

def octet_one (x_b : UInt8) (x_l : Str) : Option Bool :=
  (strings_IndexByte x_l x_b).bind fun r2 =>
  some (decide (0 ≤ r2))

def octet_IsUnreserved_j1 (t7 : Bool) : Option Bool :=
  some t7

def octet_IsUnreserved (x_b : UInt8) : Option Bool :=
  (octet_IsAlpha x_b).bind fun r2 =>
  if r2 then (octet_IsUnreserved_j1 true) else ((octet_IsDigit x_b).bind fun r4 =>
  if r4 then (octet_IsUnreserved_j1 true) else ((octet_one x_b [45, 46, 95, 126]).bind fun r6 =>
  octet_IsUnreserved_j1 r6))

def octet_IsSub (x_b : UInt8) : Option Bool :=
  (octet_one x_b [33, 36, 38, 39, 40, 41, 42, 43, 44, 59, 61]).bind fun r2 =>
  some r2

def octet_IsPath_j1 (t7 : Bool) : Option Bool :=
  some t7

def octet_IsPath (x_b : UInt8) : Option Bool :=
  (octet_IsUnreserved x_b).bind fun r2 =>
  if r2 then (octet_IsPath_j1 true) else ((octet_IsSub x_b).bind fun r4 =>
  if r4 then (octet_IsPath_j1 true) else ((octet_one x_b [58, 64]).bind fun r6 =>
  octet_IsPath_j1 r6))

def uriref_bytes_j4 (rec1 : Int → Option Bool) (i30 : Int) : Option Bool :=
  (iAdd i30 1).bind fun i31 =>
  rec1 i31

def uriref_bytes_j2 (rec1 : Int → Option Bool) (i3 : Int) (t17 : Bool) : Option Bool :=
  if t17 then (some false) else ((iAdd i3 2).bind fun i21 =>
  uriref_bytes_j4 rec1 i21)

def uriref_bytes_j3 (rec1 : Int → Option Bool) (i3 : Int) (t27 : Bool) : Option Bool :=
  if t27 then (some false) else (uriref_bytes_j4 rec1 i3)

def uriref_bytes_L1 (x_s : Str) (x_more : Str) : Nat → Int → Option Bool
  | 0, _ => none
  | n + 1, i3 =>
  if (decide (i3 < (x_s.length : Int))) then ((sAt x_s i3).bind fun b7 =>
  if (b7 == 37) then ((iAdd i3 2).bind fun i10 =>
  if (decide ((x_s.length : Int) ≤ i10)) then (uriref_bytes_j2 (uriref_bytes_L1 x_s x_more n) i3 true) else ((iAdd i3 1).bind fun i12 =>
  (iAdd i3 3).bind fun i13 =>
  (sSub x_s i12 i13).bind fun s14 =>
  (octet_All octet_IsHex [s14]).bind fun r16 =>
  uriref_bytes_j2 (uriref_bytes_L1 x_s x_more n) i3 (!r16))) else ((sAt x_s i3).bind fun b22 =>
  (octet_IsPath b22).bind fun r23 =>
  if (!r23) then ((sAt x_s i3).bind fun b25 =>
  (strings_IndexByte x_more b25).bind fun r26 =>
  uriref_bytes_j3 (uriref_bytes_L1 x_s x_more n) i3 (decide (r26 < 0))) else (uriref_bytes_j3 (uriref_bytes_L1 x_s x_more n) i3 false))) else (some true)

def uriref_bytes (x_s : Str) (x_more : Str) : Option Bool :=
  uriref_bytes_L1 x_s x_more fuel 0

def uriref_well_j2 (t21 : Bool) : Option Bool :=
  some t21

def uriref_well_j3 (t29 : Bool) : Option Bool :=
  some t29

def uriref_well_j1 (x_r : api_Ref) (r3 : Str × Str) (t14 : Bool) : Option Bool :=
  if t14 then (some false) else (if x_r.HasAuth then (if (x_r.Path == []) then (uriref_well_j2 true) else ((sAt x_r.Path 0).bind fun b20 =>
  uriref_well_j2 (b20 == 47))) else ((strings_HasPrefix x_r.Path [47, 47]).bind fun r22 =>
  if r22 then (some false) else (if (!(x_r.Scheme == [])) then (uriref_well_j3 true) else ((strings_Contains r3.1 [58]).bind fun r28 =>
  uriref_well_j3 (!r28)))))

def uriref_well (x_r : api_Ref) : Option Bool :=
  (uriref_upto x_r.Path [47]).bind fun r3 =>
  (uriref_bytes x_r.Auth [91, 93]).bind fun r5 =>
  if (!r5) then (uriref_well_j1 x_r r3 true) else ((strings_Contains x_r.Auth [64]).bind fun r7 =>
  if r7 then (uriref_well_j1 x_r r3 true) else ((uriref_bytes x_r.Path [47]).bind fun r9 =>
  if (!r9) then (uriref_well_j1 x_r r3 true) else ((uriref_bytes x_r.Query [47, 63]).bind fun r11 =>
  if (!r11) then (uriref_well_j1 x_r r3 true) else ((uriref_bytes x_r.Frag [47, 63]).bind fun r13 =>
  uriref_well_j1 x_r r3 (!r13)))))

def uriref_Parse (x_s : Str) : Option (api_Ref × Int) :=
  (uriref_parts x_s).bind fun r3 =>
  (uriref_well r3).bind fun r6 =>
  if (!r6) then (some (((⟨[], [], [], [], [], false, false, false⟩ : api_Ref), 2))) else (some (r3, 0))

def location_is (x_s : Str) : Option Bool :=
  (uriref_Parse x_s).bind fun r2 =>
  some (r2.2 == 0)

def location_Rewrite_j1 (x_s : Str) (r2 : Str × Bool) (t8 : Bool) : Option Str :=
  if t8 then (some x_s) else (some r2.1)

def location_Rewrite (x_s : Str) (x_l : List api_Swap) : Option Str :=
  (uriref_Swap x_s x_l).bind fun r2 =>
  if (!r2.2) then (location_Rewrite_j1 x_s r2 true) else ((location_is x_s).bind fun r5 =>
  if (!r5) then (location_Rewrite_j1 x_s r2 true) else ((location_is r2.1).bind fun r7 =>
  location_Rewrite_j1 x_s r2 (!r7)))

def law30_awake : Option Bool :=
  (location_Rewrite [104, 116, 116, 112, 58, 47, 47, 117, 112, 47, 97, 63, 98] ([(⟨[104, 116, 116, 112, 58, 47, 47, 117, 112], [47, 120]⟩ : api_Swap)])).bind fun r3 =>
  some (r3 == [47, 120, 47, 97, 63, 98])

def law29_Few_j2 (rec1 : (List api_Swap) → Int → Option (List api_Swap)) (x_l : List api_Swap) (l6 : List api_Swap) (i7 : Int) (t9 : Bool) : Option (List api_Swap) :=
  if t9 then ((lAt x_l i7).bind fun x12 =>
  (lAt x_l i7).bind fun x15 =>
  (sTo x12.From (min (x15.From.length : Int) 60)).bind fun s18 =>
  (lAt x_l i7).bind fun x19 =>
  (lAt x_l i7).bind fun x22 =>
  (sTo x19.To (min (x22.To.length : Int) 60)).bind fun s25 =>
  if fitsApp l6.length 1 32 then ((iAdd i7 1).bind fun i31 =>
  rec1 (l6 ++ [(⟨s18, s25⟩ : api_Swap)]) i31) else none) else (some l6)

def law29_Few_L1 (x_l : List api_Swap) : Nat → (List api_Swap) → Int → Option (List api_Swap)
  | 0, _, _ => none
  | n + 1, l6, i7 =>
  if (decide (i7 < (x_l.length : Int))) then (law29_Few_j2 (law29_Few_L1 x_l n) x_l l6 i7 (decide (i7 < 70))) else (law29_Few_j2 (law29_Few_L1 x_l n) x_l l6 i7 false)

def law29_Few (x_l : List api_Swap) : Option (List api_Swap) :=
  law29_Few_L1 x_l fuel [] 0

def ref01_In_L1 (x_b : UInt8) (x_l : Str) : Nat → Int → Option Bool
  | 0, _ => none
  | n + 1, i3 =>
  if (decide (i3 < (x_l.length : Int))) then ((sAt x_l i3).bind fun b7 =>
  if (b7 == x_b) then (some true) else ((iAdd i3 1).bind fun i12 =>
  (ref01_In_L1 x_b x_l n) i12)) else (some false)

def ref01_In (x_b : UInt8) (x_l : Str) : Option Bool :=
  ref01_In_L1 x_b x_l fuel 0

def ref11_first_j2 (rec1 : Int → Option Int) (i3 : Int) (t7 : Bool) : Option Int :=
  if t7 then ((iAdd i3 1).bind fun i10 =>
  rec1 i10) else (some i3)

def ref11_first_L1 (x_s : Str) (x_l : Str) : Nat → Int → Option Int
  | 0, _ => none
  | n + 1, i3 =>
  if (decide (i3 < (x_s.length : Int))) then ((sAt x_s i3).bind fun b5 =>
  (ref01_In b5 x_l).bind fun r6 =>
  ref11_first_j2 (ref11_first_L1 x_s x_l n) i3 (!r6)) else (ref11_first_j2 (ref11_first_L1 x_s x_l n) i3 false)

def ref11_first (x_s : Str) (x_l : Str) : Option Int :=
  ref11_first_L1 x_s x_l fuel 0

def ref01_Alpha (x_b : UInt8) : Option Bool :=
  (ref01_In x_b [97, 98, 99, 100, 101, 102, 103, 104, 105, 106, 107, 108, 109, 110, 111, 112, 113, 114, 115, 116, 117, 118, 119, 120, 121, 122, 65, 66, 67, 68, 69, 70, 71, 72, 73, 74, 75, 76, 77, 78, 79, 80, 81, 82, 83, 84, 85, 86, 87, 88, 89, 90]).bind fun r2 =>
  some r2

def ref01_Digit (x_b : UInt8) : Option Bool :=
  (ref01_In x_b [48, 49, 50, 51, 52, 53, 54, 55, 56, 57]).bind fun r2 =>
  some r2

def ref11_scheme_j2 (rec1 : Int → Option Bool) (i3 : Int) (t16 : Bool) : Option Bool :=
  if t16 then (some false) else ((iAdd i3 1).bind fun i20 =>
  rec1 i20)

def ref11_scheme_L1 (x_s : Str) : Nat → Int → Option Bool
  | 0, _ => none
  | n + 1, i3 =>
  if (decide (i3 < (x_s.length : Int))) then ((sAt x_s i3).bind fun b7 =>
  (ref01_Alpha b7).bind fun r8 =>
  if (!r8) then (if (i3 == 0) then (ref11_scheme_j2 (ref11_scheme_L1 x_s n) i3 true) else ((sAt x_s i3).bind fun b11 =>
  (ref01_Digit b11).bind fun r12 =>
  if (!r12) then ((sAt x_s i3).bind fun b14 =>
  (ref01_In b14 [43, 45, 46]).bind fun r15 =>
  ref11_scheme_j2 (ref11_scheme_L1 x_s n) i3 (!r15)) else (ref11_scheme_j2 (ref11_scheme_L1 x_s n) i3 false))) else (ref11_scheme_j2 (ref11_scheme_L1 x_s n) i3 false)) else (some (decide (0 < (x_s.length : Int))))

def ref11_scheme (x_s : Str) : Option Bool :=
  ref11_scheme_L1 x_s fuel 0

def ref01_Hex (x_b : UInt8) : Option Bool :=
  (ref01_In x_b [48, 49, 50, 51, 52, 53, 54, 55, 56, 57, 97, 98, 99, 100, 101, 102, 65, 66, 67, 68, 69, 70]).bind fun r2 =>
  some r2

def ref01_Unreserved (x_b : UInt8) : Option Bool :=
  (ref01_In x_b [97, 98, 99, 100, 101, 102, 103, 104, 105, 106, 107, 108, 109, 110, 111, 112, 113, 114, 115, 116, 117, 118, 119, 120, 121, 122, 65, 66, 67, 68, 69, 70, 71, 72, 73, 74, 75, 76, 77, 78, 79, 80, 81, 82, 83, 84, 85, 86, 87, 88, 89, 90, 48, 49, 50, 51, 52, 53, 54, 55, 56, 57, 45, 46, 95, 126]).bind fun r2 =>
  some r2

def ref01_Sub (x_b : UInt8) : Option Bool :=
  (ref01_In x_b [33, 36, 38, 39, 40, 41, 42, 43, 44, 59, 61]).bind fun r2 =>
  some r2

def ref01_Path_j1 (t7 : Bool) : Option Bool :=
  some t7

def ref01_Path (x_b : UInt8) : Option Bool :=
  (ref01_Unreserved x_b).bind fun r2 =>
  if r2 then (ref01_Path_j1 true) else ((ref01_Sub x_b).bind fun r4 =>
  if r4 then (ref01_Path_j1 true) else (if (x_b == 58) then (ref01_Path_j1 true) else (ref01_Path_j1 (x_b == 64))))

def ref09_Of_j1 (t18 : Bool) : Option Bool :=
  some t18

def ref09_Of_j2 (t30 : Bool) : Option Bool :=
  some t30

def ref09_Of_r : Nat → Str → Str → Option Bool
  | 0, _, _ => none
  | n + 1, x_s, x_more =>
  if (x_s == []) then (some true) else ((sAt x_s 0).bind fun b6 =>
  if (b6 == 37) then (if (decide (2 < (x_s.length : Int))) then ((sAt x_s 1).bind fun b10 =>
  (ref01_Hex b10).bind fun r11 =>
  if r11 then ((sAt x_s 2).bind fun b13 =>
  (ref01_Hex b13).bind fun r14 =>
  if r14 then ((sFrom x_s 3).bind fun s16 =>
  ((ref09_Of_r n) s16 x_more).bind fun r17 =>
  ref09_Of_j1 r17) else (ref09_Of_j1 false)) else (ref09_Of_j1 false)) else (ref09_Of_j1 false)) else ((sAt x_s 0).bind fun b20 =>
  (ref01_Path b20).bind fun r21 =>
  if r21 then ((sFrom x_s 1).bind fun s23 =>
  ((ref09_Of_r n) s23 x_more).bind fun r24 =>
  ref09_Of_j2 r24) else ((sAt x_s 0).bind fun b25 =>
  (ref01_In b25 x_more).bind fun r26 =>
  if r26 then ((sFrom x_s 1).bind fun s28 =>
  ((ref09_Of_r n) s28 x_more).bind fun r29 =>
  ref09_Of_j2 r29) else (ref09_Of_j2 false))))

def ref09_Of (x_s : Str) (x_more : Str) : Option Bool := ref09_Of_r fuel x_s x_more

def ref11_right_j2 (t20 : Bool) : Option Bool :=
  some t20

def ref11_right_j4 (t33 : Bool) : Option Bool :=
  some t33

def ref11_right_j3 (x_a0 : api_Ref) (t24 : Bool) : Option Bool :=
  if t24 then (some false) else ((ref11_first x_a0.Path [58, 47]).bind fun r28 =>
  if (!(x_a0.Scheme == [])) then (ref11_right_j4 true) else (if (r28 == (x_a0.Path.length : Int)) then (ref11_right_j4 true) else ((sAt x_a0.Path r28).bind fun b32 =>
  ref11_right_j4 (b32 == 47))))

def ref11_right_j1 (x_a0 : api_Ref) (t12 : Bool) : Option Bool :=
  if t12 then (some false) else (if x_a0.HasAuth then (if (x_a0.Path == []) then (ref11_right_j2 true) else ((sAt x_a0.Path 0).bind fun b19 =>
  ref11_right_j2 (b19 == 47))) else (if (decide (1 < (x_a0.Path.length : Int))) then ((sTo x_a0.Path 2).bind fun s23 =>
  ref11_right_j3 x_a0 (s23 == [47, 47])) else (ref11_right_j3 x_a0 false)))

def ref11_right (x_a0 : api_Ref) : Option Bool :=
  (ref09_Of x_a0.Auth [91, 93]).bind fun r3 =>
  if (!r3) then (ref11_right_j1 x_a0 true) else ((ref11_first x_a0.Auth [64]).bind fun r5 =>
  if (decide (r5 < (x_a0.Auth.length : Int))) then (ref11_right_j1 x_a0 true) else ((ref09_Of x_a0.Path [47]).bind fun r7 =>
  if (!r7) then (ref11_right_j1 x_a0 true) else ((ref09_Of x_a0.Query [47, 63]).bind fun r9 =>
  if (!r9) then (ref11_right_j1 x_a0 true) else ((ref09_Of x_a0.Frag [47, 63]).bind fun r11 =>
  ref11_right_j1 x_a0 (!r11)))))

def ref11_Parse_j6 (s15 : Str) (t16 : Bool) (s27 : Str) (t28 : Bool) (s43 : Str) (s57 : Str) (s58 : Str) (t59 : Bool) : Option (api_Ref × Int) :=
  (ref11_right (⟨s43, s58, s57, s27, s15, t59, t28, t16⟩ : api_Ref)).bind fun r61 =>
  if (!r61) then (some (((⟨[], [], [], [], [], false, false, false⟩ : api_Ref), 2))) else (some (((⟨s43, s58, s57, s27, s15, t59, t28, t16⟩ : api_Ref), 0)))

def ref11_Parse_j5 (s15 : Str) (t16 : Bool) (s27 : Str) (t28 : Bool) (s42 : Str) (s43 : Str) (t46 : Bool) : Option (api_Ref × Int) :=
  if t46 then ((sFrom s42 2).bind fun s49 =>
  (ref11_first s49 [47]).bind fun r50 =>
  (iAdd 2 r50).bind fun i52 =>
  (sSub s42 2 i52).bind fun s53 =>
  (iAdd 2 r50).bind fun i55 =>
  (sFrom s42 i55).bind fun s56 =>
  ref11_Parse_j6 s15 t16 s27 t28 s43 s56 s53 true) else (ref11_Parse_j6 s15 t16 s27 t28 s43 s42 [] false)

def ref11_Parse_j4 (s15 : Str) (t16 : Bool) (s27 : Str) (t28 : Bool) (s42 : Str) (s43 : Str) : Option (api_Ref × Int) :=
  if (decide (1 < (s42.length : Int))) then ((sTo s42 2).bind fun s45 =>
  ref11_Parse_j5 s15 t16 s27 t28 s42 s43 (s45 == [47, 47])) else (ref11_Parse_j5 s15 t16 s27 t28 s42 s43 false)

def ref11_Parse_j3 (s15 : Str) (t16 : Bool) (s26 : Str) (s27 : Str) (t28 : Bool) (r29 : Int) (t36 : Bool) : Option (api_Ref × Int) :=
  if t36 then ((sTo s26 r29).bind fun s38 =>
  (iAdd r29 1).bind fun i40 =>
  (sFrom s26 i40).bind fun s41 =>
  ref11_Parse_j4 s15 t16 s27 t28 s41 s38) else (ref11_Parse_j4 s15 t16 s27 t28 s26 [])

def ref11_Parse_j2 (s15 : Str) (t16 : Bool) (s26 : Str) (s27 : Str) (t28 : Bool) : Option (api_Ref × Int) :=
  (ref11_first s26 [58, 47]).bind fun r29 =>
  if (decide (r29 < (s26.length : Int))) then ((sAt s26 r29).bind fun b32 =>
  if (b32 == 58) then ((sTo s26 r29).bind fun s34 =>
  (ref11_scheme s34).bind fun r35 =>
  ref11_Parse_j3 s15 t16 s26 s27 t28 r29 r35) else (ref11_Parse_j3 s15 t16 s26 s27 t28 r29 false)) else (ref11_Parse_j3 s15 t16 s26 s27 t28 r29 false)

def ref11_Parse_j1 (s14 : Str) (s15 : Str) (t16 : Bool) : Option (api_Ref × Int) :=
  (ref11_first s14 [63]).bind fun r17 =>
  if (decide (r17 < (s14.length : Int))) then ((iAdd r17 1).bind fun i22 =>
  (sFrom s14 i22).bind fun s23 =>
  (sTo s14 r17).bind fun s25 =>
  ref11_Parse_j2 s15 t16 s25 s23 true) else (ref11_Parse_j2 s15 t16 s14 [] false)

def ref11_Parse (x_a0 : Str) : Option (api_Ref × Int) :=
  (ref11_first x_a0 [35]).bind fun r5 =>
  if (decide (r5 < (x_a0.length : Int))) then ((iAdd r5 1).bind fun i10 =>
  (sFrom x_a0 i10).bind fun s11 =>
  (sTo x_a0 r5).bind fun s13 =>
  ref11_Parse_j1 s13 s11 true) else (ref11_Parse_j1 x_a0 [] false)

def ref11_Swap_j4 (rec1 : Int → Option (Str × Bool)) (i3 : Int) : Option (Str × Bool) :=
  (iAdd i3 1).bind fun i34 =>
  rec1 i34

def ref11_Swap_j3 (rec1 : Int → Option (Str × Bool)) (x_a0 : Str) (x_a1 : List api_Swap) (i3 : Int) (x7 : api_Swap) (t26 : Bool) : Option (Str × Bool) :=
  if t26 then ((lAt x_a1 i3).bind fun x28 =>
  (sFrom x_a0 (x7.From.length : Int)).bind fun s31 =>
  (sCat x28.To s31).bind fun s32 =>
  some (s32, true)) else (ref11_Swap_j4 rec1 i3)

def ref11_Swap_j2 (rec1 : Int → Option (Str × Bool)) (x_a0 : Str) (x_a1 : List api_Swap) (i3 : Int) (x7 : api_Swap) (t17 : Bool) : Option (Str × Bool) :=
  if t17 then (ref11_Swap_j4 rec1 i3) else (if ((x7.From.length : Int) == (x_a0.length : Int)) then (ref11_Swap_j3 rec1 x_a0 x_a1 i3 x7 true) else ((iSub (x7.From.length : Int) 1).bind fun i21 =>
  (sAt x_a0 i21).bind fun b22 =>
  if (b22 == 47) then (ref11_Swap_j3 rec1 x_a0 x_a1 i3 x7 true) else ((sAt x_a0 (x7.From.length : Int)).bind fun b24 =>
  (ref01_In b24 [47, 63, 35]).bind fun r25 =>
  ref11_Swap_j3 rec1 x_a0 x_a1 i3 x7 r25)))

def ref11_Swap_L1 (x_a0 : Str) (x_a1 : List api_Swap) : Nat → Int → Option (Str × Bool)
  | 0, _ => none
  | n + 1, i3 =>
  if (decide (i3 < (x_a1.length : Int))) then ((lAt x_a1 i3).bind fun x7 =>
  if ((x7.From.length : Int) == 0) then (ref11_Swap_j2 (ref11_Swap_L1 x_a0 x_a1 n) x_a0 x_a1 i3 x7 true) else (if (decide ((x_a0.length : Int) < (x7.From.length : Int))) then (ref11_Swap_j2 (ref11_Swap_L1 x_a0 x_a1 n) x_a0 x_a1 i3 x7 true) else ((sTo x_a0 (x7.From.length : Int)).bind fun s13 =>
  (lAt x_a1 i3).bind fun x14 =>
  ref11_Swap_j2 (ref11_Swap_L1 x_a0 x_a1 n) x_a0 x_a1 i3 x7 (!(s13 == x14.From))))) else (some (x_a0, false))

def ref11_Swap (x_a0 : Str) (x_a1 : List api_Swap) : Option (Str × Bool) :=
  ref11_Swap_L1 x_a0 x_a1 fuel 0

def ref30_Rewrite_j1 (x_s : Str) (r5 : Str × Bool) (t12 : Bool) : Option Str :=
  if t12 then (some r5.1) else (some x_s)

def ref30_Rewrite (x_s : Str) (x_l : List api_Swap) : Option Str :=
  (ref11_Parse x_s).bind fun r2 =>
  (ref11_Swap x_s x_l).bind fun r5 =>
  (ref11_Parse r5.1).bind fun r7 =>
  if (r2.2 == 0) then (if r5.2 then (ref30_Rewrite_j1 x_s r5 (r7.2 == 0)) else (ref30_Rewrite_j1 x_s r5 false)) else (ref30_Rewrite_j1 x_s r5 false)

def location_Check_j2 (rec1 : Int → Option Int) (i3 : Int) (t16 : Bool) : Option Int :=
  if t16 then (some 2) else ((iAdd i3 1).bind fun i20 =>
  rec1 i20)

def location_Check_L1 (x_l : List api_Swap) : Nat → Int → Option Int
  | 0, _ => none
  | n + 1, i3 =>
  if (decide (i3 < (x_l.length : Int))) then ((lAt x_l i3).bind fun x7 =>
  if (x7.From == []) then (location_Check_j2 (location_Check_L1 x_l n) i3 true) else ((location_is x7.From).bind fun r13 =>
  if (!r13) then (location_Check_j2 (location_Check_L1 x_l n) i3 true) else ((location_is x7.To).bind fun r15 =>
  location_Check_j2 (location_Check_L1 x_l n) i3 (!r15)))) else (if (decide (64 < (x_l.length : Int))) then (some 3) else (some 0))

def location_Check (x_l : List api_Swap) : Option Int :=
  location_Check_L1 x_l fuel 0

def ref30_Check_j2 (rec1 : Int → Option Int) (i3 : Int) (t24 : Bool) : Option Int :=
  if t24 then (some 2) else ((iAdd i3 1).bind fun i28 =>
  rec1 i28)

def ref30_Check_L1 (x_l : List api_Swap) : Nat → Int → Option Int
  | 0, _ => none
  | n + 1, i3 =>
  if (decide (i3 < (x_l.length : Int))) then ((lAt x_l i3).bind fun x7 =>
  (ref11_Parse x7.From).bind fun r10 =>
  (lAt x_l i3).bind fun x13 =>
  (ref11_Parse x13.To).bind fun r16 =>
  (lAt x_l i3).bind fun x19 =>
  if (x19.From == []) then (ref30_Check_j2 (ref30_Check_L1 x_l n) i3 true) else (if (!(r10.2 == 0)) then (ref30_Check_j2 (ref30_Check_L1 x_l n) i3 true) else (ref30_Check_j2 (ref30_Check_L1 x_l n) i3 (!(r16.2 == 0))))) else (if (decide (64 < (x_l.length : Int))) then (some 3) else (some 0))

def ref30_Check (x_l : List api_Swap) : Option Int :=
  ref30_Check_L1 x_l fuel 0

def law30_LocationRewrites_j1 (t32 : Bool) : Option Bool :=
  some t32

def law30_LocationRewrites (x_s : Str) (x_l : List api_Swap) : Option Bool :=
  (law30_awake).bind fun r2 =>
  if (!r2) then (some false) else ((sTo x_s (min (x_s.length : Int) 200)).bind fun s7 =>
  (law29_Few x_l).bind fun r8 =>
  (location_Rewrite s7 r8).bind fun r12 =>
  (ref11_Parse s7).bind fun r14 =>
  (ref11_Parse r12).bind fun r17 =>
  (ref30_Rewrite s7 r8).bind fun r20 =>
  if (r12 == r20) then (if (!(r14.2 == 0)) then (if (r12 == s7) then ((location_Check r8).bind fun r24 =>
  (ref30_Check r8).bind fun r25 =>
  law30_LocationRewrites_j1 (r24 == r25)) else (if (r17.2 == 0) then ((location_Check r8).bind fun r27 =>
  (ref30_Check r8).bind fun r28 =>
  law30_LocationRewrites_j1 (r27 == r28)) else (law30_LocationRewrites_j1 false))) else (if (r17.2 == 0) then ((location_Check r8).bind fun r30 =>
  (ref30_Check r8).bind fun r31 =>
  law30_LocationRewrites_j1 (r30 == r31)) else (law30_LocationRewrites_j1 false))) else (law30_LocationRewrites_j1 false))

end Go.Dm
