/-
  The models' words: partial operations as functions into Option. No program in sight.
  The models of the functions: written by a program (wip/gen) off the translation. No program in sight.
  The library's functions as the models say them, and as the library's contracts say them. No program in sight.
  Plain tools for the laws: the partial operations at natural numbers, loops over lists. No program in sight.
  Layer 1 (bytes): what the program's and the reference's models come to.
  Layer 3 (numbers): reading and writing: the program's and the document's come to the same. No program in sight.
-/
import Derived.Lib.ItoaNum
import Derived.Lib.SplitLaws
import Derived.Lib.SlTrimSet
import Derived.Lib.Join
import Derived.Lib.IndexMore
import Derived.Lib.Bytealg
import Derived.Lib.Index
import Derived.Lib.IndexAny
section
namespace Go.Dm
abbrev Str := List UInt8

def inI (n : Int) : Bool := decide (-9223372036854775808 ≤ n) && decide (n ≤ 9223372036854775807)
theorem zfV {n : Int} : inI n = true ↔ -9223372036854775808 ≤ n ∧ n ≤ 9223372036854775807 := by simp [inI]

def zaO (m n : Int) : Option Int := if inI (m + n) then some (m + n) else none
def zdX (m n : Int) : Option Int := if inI (m - n) then some (m - n) else none
def zkP (m n : Int) : Option Int := if inI (m * n) then some (m * n) else none
def iDiv (m n : Int) : Option Int := if 0 ≤ m ∧ 1 ≤ n ∧ inI (m / n) = true then some (m / n) else none
def iMod (m n : Int) : Option Int := if 0 ≤ m ∧ 1 ≤ n ∧ inI (m % n) = true then some (m % n) else none
def sAt (l : Str) (i : Int) : Option UInt8 := if 0 ≤ i then l[i.toNat]? else none
def sTo (l : Str) (h : Int) : Option Str := if 0 ≤ h ∧ h ≤ l.length then some (l.take h.toNat) else none
def zd7 (l : Str) (i : Int) : Option Str := if 0 ≤ i ∧ i ≤ l.length then some (l.drop i.toNat) else none
def zf1 (l : Str) (i h : Int) : Option Str := if 0 ≤ i ∧ i ≤ h ∧ h ≤ l.length then some ((l.take h.toNat).drop i.toNat) else none
def sCat (l m : Str) : Option Str := if l.length + m.length ≤ 9223372036854775807 then some (l ++ m) else none
def lAt {α : Type} (l : List α) (i : Int) : Option α := if 0 ≤ i then l[i.toNat]? else none
def zkg {α : Type} (l : List α) (i : Int) : Option (List α) := if 0 ≤ i ∧ i ≤ l.length then some (l.drop i.toNat) else none
def lSub {α : Type} (l : List α) (i h : Int) : Option (List α) := if 0 ≤ i ∧ i ≤ h ∧ h ≤ l.length then some ((l.take h.toNat).drop i.toNat) else none
def zb2 (n m bytes : Nat) : Bool := decide (n + m ≤ 9223372036854775807) && decide ((n + m) * bytes ≤ 140737488355328)
theorem og {α : Type} {b : Bool} {x : Option α} {r : α} (h : (if b = true then x else none) = some r) : b = true ∧ x = some r := by
  cases b with
  | false => cases h
  | true => exact ⟨rfl, h⟩
theorem zfq (b : Bool) : b = true ∨ b = false := by cases b <;> simp
theorem ob {α β : Type} {m : Option α} {f : α → Option β} {r : β} (h : m.bind f = some r) : ∃ x, m = some x ∧ f x = some r := by
  cases m with
  | none => cases h
  | some x => exact ⟨x, rfl, h⟩
theorem it {α : Type} {b : Bool} {x y : Option α} {r : α} (hb : b = true) (h : (if b = true then x else y) = some r) : x = some r := by rwa [if_pos hb] at h
def fuel : Nat := 1000000000000000000
end Go.Dm
end
section
set_option linter.unusedVariables false
set_option maxRecDepth 10000
namespace Go.Dm
structure api_Field where
  Name : Str
  Value : Str
deriving DecidableEq
structure api_Head where
  Kind : Int
  Method : Str
  Target : Str
  Code : Int
  Reason : Str
  Minor : Int
  Fields : List api_Field
deriving DecidableEq
structure accum_Accum where
  f_kind : Int
  f_limit : Int
  f_buf : List UInt8
  f_from : Int
  f_took : Bool
  f_bad : Int
  f_whole : Bool
  f_got : api_Head
deriving DecidableEq
structure scan_Scanner where
  f_s : Str
  f_at : Int
deriving DecidableEq
structure startline_line where
  Scanner : scan_Scanner
deriving DecidableEq
structure api_Host where
  Kind : Int
  Name : Str
  Port : Int
deriving DecidableEq
structure api_Target where
  Kind : Int
  Scheme : Str
  Host : api_Host
  Path : Str
  Query : Str
  HasQuery : Bool
deriving DecidableEq
structure bag_Bag where
  f_l : List api_Field
deriving DecidableEq
abbrev zjN {α : Type} {β : Sort _} (o : Option α) (k0 : β) (k1 : α → β) : β := match o with | none => k0 | some x => k1 x
theorem zjO {α β : Type} {o : Option α} {k0 R : β} {k1 : α → β} (h : o = none) (hm : zjN o k0 k1 = R) : k0 = R := by subst h; exact hm
theorem zjP {α β : Type} {o : Option α} {x : α} {k0 R : β} {k1 : α → β} (h : o = some x) (hm : zjN o k0 k1 = R) : k1 x = R := by subst h; exact hm
theorem zhH {α : Type} {o : Option α} {k0 : Prop} {k1 : α → Prop} (h : o = none) (hm : zjN o k0 k1) : k0 := by subst h; exact hm
theorem zhI {α : Type} {o : Option α} {x : α} {k0 : Prop} {k1 : α → Prop} (h : o = some x) (hm : zjN o k0 k1) : k1 x := by subst h; exact hm

def zdZ : Str → UInt8 → Nat → Int
  | [], _, _ => -1
  | x :: l, c, k => if x == c then (k : Int) else zdZ l c (k + 1)
def strings_IndexByte (s : Str) (c : UInt8) : Option Int := some (zdZ s c 0)
def zgp : Str → Str → Bool
  | _, [] => true
  | [], _ :: _ => false
  | x :: s, y :: t => x == y && zgp s t
def zec : Str → Str → Nat → Int
  | s, t, k => if zgp s t then (k : Int) else match s with
    | [] => -1
    | _ :: s => zec s t (k + 1)
def strings_Index (s t : Str) : Option Int := if s.length < 4294967281 then some (zec s t 0) else none
def strings_Cut (s t : Str) : Option (Str × Str × Bool) := if s.length < 4294967281 then some (Go.Lib.cut s t) else none
def zfJ : Str → Str → Nat → Int
  | [], _, _ => -1
  | x :: l, cs, k => if cs.contains x then (k : Int) else zfJ l cs (k + 1)
def strings_IndexAny (s cs : Str) : Option Int := if s.length < 4294967281 ∧ cs.length < 4294967281 ∧ cs.all (fun c => c.toNat < 128) then some (zfJ s cs 0) else none
def strings_Split (s sep : Str) : Option (List Str) := if s.length < 4294967281 ∧ 1 ≤ sep.length then some (Go.Lib.splitK sep 0 (Go.Lib.countB ⟨s.toArray⟩ ⟨sep.toArray⟩) s) else none
def zp (c : UInt8) : Str → List Str
  | [] => [[]]
  | x :: s => if x = c then [] :: zp c s else match zp c s with
    | [] => [[x]]
    | h :: t => (x :: h) :: t
def zcl (n b : Int) : Option Str := if inI n = true ∧ b = 10 then some (Go.Lib.itoa n) else none
def zdg (s cs : Str) : Option Str := if s.length < 4294967281 ∧ cs.length < 4294967281 ∧ cs.all (fun c => c.toNat < 128) then some (Go.Lib.trimS s cs) else none
def zbI (x_kind : Int) (x_limit : Int) (t6 : Bool) : Option (Option accum_Accum × Int) :=
  if t6 then (some (none, 1)) else (some ((some ((⟨x_kind, x_limit, [], 0, false, 0, false, (⟨0, [], [], 0, [], 0, []⟩ : api_Head)⟩ : accum_Accum)), 0)))

def zc3 (x_kind : Int) (x_limit : Int) : Option (Option accum_Accum × Int) :=
  if (!(x_kind == 1)) then (if (!(x_kind == 2)) then (zbI x_kind x_limit true) else (if (decide (x_limit < 0)) then (zbI x_kind x_limit true) else (zbI x_kind x_limit (decide (65536 < x_limit))))) else (if (decide (x_limit < 0)) then (zbI x_kind x_limit true) else (zbI x_kind x_limit (decide (65536 < x_limit))))

def zaA (x_a : accum_Accum) (t8 : Bool) : Option Bool :=
  (zdX (x_a.f_buf.length : Int) 1).bind fun i9 =>
  (lAt x_a.f_buf i9).bind fun x10 =>
  some (!((x10 == 10) == t8))

def zbU (x_a : accum_Accum) : Option Bool :=
  if (decide (1 < (x_a.f_buf.length : Int))) then ((zdX (x_a.f_buf.length : Int) 2).bind fun i4 =>
  (lAt x_a.f_buf i4).bind fun x5 =>
  zaA x_a (x5 == 13)) else (zaA x_a false)

def strings_ContainsAny (x_s : Str) (x_chars : Str) : Option Bool :=
  (strings_IndexAny x_s x_chars).bind fun r2 =>
  some (decide (0 ≤ r2))

def zt (x_s : Str) (x_c : UInt8) : Nat → Int → Option Int
  | 0, _ => none
  | n + 1, i4 =>
  if (decide (0 ≤ i4)) then ((sAt x_s i4).bind fun b8 =>
  if (b8 == x_c) then (some i4) else ((zdX i4 1).bind fun i13 =>
  (zt x_s x_c n) i13)) else (some (-1))

def zay (x_s : Str) (x_c : UInt8) : Option Int :=
  (zdX (x_s.length : Int) 1).bind fun i2 =>
  zt x_s x_c fuel i2

def z8 (x_s : Str) (x_c : UInt8) : Option Int :=
  (zay x_s x_c).bind fun r2 =>
  some r2

def zed (x_s : Str) : Option scan_Scanner :=
  some (⟨x_s, 0⟩ : scan_Scanner)

def zz (x_c : scan_Scanner) : Option Str :=
  (zd7 x_c.f_s x_c.f_at).bind fun s4 =>
  some s4

def zU (t4 : Bool) : Option Bool :=
  some t4

def stringslite_HasPrefix (x_s : Str) (x_prefix : Str) : Option Bool :=
  if (decide ((x_prefix.length : Int) ≤ (x_s.length : Int))) then ((sTo x_s (x_prefix.length : Int)).bind fun s3 =>
  zU (s3 == x_prefix)) else (zU false)

def strings_HasPrefix (x_s : Str) (x_prefix : Str) : Option Bool :=
  (stringslite_HasPrefix x_s x_prefix).bind fun r2 =>
  some r2

def zaV (x_c : scan_Scanner) (x_t : Str) : Option (Bool × scan_Scanner) :=
  (zz x_c).bind fun r2 =>
  (strings_HasPrefix r2 x_t).bind fun r3 =>
  if (!r3) then (some (false, x_c)) else ((zaO x_c.f_at (x_t.length : Int)).bind fun i9 =>
  some ((true, (⟨x_c.f_s, i9⟩ : scan_Scanner))))

def zar (x_c : scan_Scanner) : Option Bool :=
  (zz x_c).bind fun r2 =>
  some (r2 == [])

def zG (x_c : scan_Scanner) : Option (UInt8 × Bool) :=
  (zar x_c).bind fun r2 =>
  if r2 then (some (0, false)) else ((sAt x_c.f_s x_c.f_at).bind fun b7 =>
  some (b7, true))

def zcx (t3 : Bool) : Option Bool :=
  some t3

def zI (x_b : UInt8) : Option Bool :=
  if (decide (48 ≤ x_b)) then (zcx (decide (x_b ≤ 57))) else (zcx false)

def zaT (x_c : scan_Scanner) (t5 : Bool) : Option (Bool × scan_Scanner) :=
  if t5 then (some (false, x_c)) else ((zaO x_c.f_at 1).bind fun i9 =>
  some ((true, (⟨x_c.f_s, i9⟩ : scan_Scanner))))

def zq (x_c : scan_Scanner) (x_b : UInt8) : Option (Bool × scan_Scanner) :=
  (zG x_c).bind fun r2 =>
  if (!r2.2) then (zaT x_c true) else (zaT x_c (!(r2.1 == x_b)))

def zas (x_p : startline_line) (r3 : UInt8 × Bool) (t7 : Bool) : Option (Int × Bool × scan_Scanner) :=
  if t7 then (some (0, false, x_p.Scanner)) else ((zq x_p.Scanner r3.1).bind fun r11 =>
  some ((((r3.1 - 48).toNat : Int), true, r11.2)))

def zat (x_p : startline_line) : Option (Int × Bool × scan_Scanner) :=
  (zG x_p.Scanner).bind fun r3 =>
  if (!r3.2) then (zas x_p r3 true) else ((zI r3.1).bind fun r6 =>
  zas x_p r3 (!r6))

def zah (r9 : Int × Bool × scan_Scanner) (r15 : Int × Bool × scan_Scanner) (t20 : Bool) : Option (Int × Int × Bool × scan_Scanner) :=
  some (r9.1, r15.1, t20, r15.2.2)

def zaf (x_p : startline_line) : Option (Int × Int × Bool × scan_Scanner) :=
  (zaV x_p.Scanner [72, 84, 84, 80, 47]).bind fun r3 =>
  if (!r3.1) then (some (0, 0, false, r3.2)) else ((zat (⟨r3.2⟩ : startline_line)).bind fun r9 =>
  (zq r9.2.2 46).bind fun r12 =>
  (zat (⟨r12.2⟩ : startline_line)).bind fun r15 =>
  if r9.2.1 then (if r12.1 then (zah r9 r15 r15.2.1) else (zah r9 r15 false)) else (zah r9 r15 false))

def zao (t13 : Bool) : Option Bool :=
  some t13

def zbE (x_s : Str) : Option Bool :=
  (zed x_s).bind fun r2 =>
  (zaf (⟨r2⟩ : startline_line)).bind fun r6 =>
  if r6.2.2.1 then ((zar r6.2.2.2).bind fun r10 =>
  if r10 then (if (!(r6.1 == 1)) then (zao true) else (zao (decide (1 < r6.2.1)))) else (zao false)) else (zao false)

def zcT (x_c : scan_Scanner) : Option Int :=
  some x_c.f_at

def zaH (r2 : Int) (s14 : Str) (i15 : Int) : Option (Str × scan_Scanner) :=
  (zf1 s14 r2 i15).bind fun s18 =>
  some ((s18, (⟨s14, i15⟩ : scan_Scanner)))

def zal (rec1 : Str → Int → Option (Str × scan_Scanner)) (r2 : Int) (s4 : Str) (i5 : Int) (t10 : Bool) : Option (Str × scan_Scanner) :=
  if t10 then (zaH r2 s4 i5) else ((zaO i5 1).bind fun i13 =>
  rec1 s4 i13)

def zw (x_is : UInt8 → Option Bool) (r2 : Int) : Nat → Str → Int → Option (Str × scan_Scanner)
  | 0, _, _ => none
  | n + 1, s4, i5 =>
  (zG (⟨s4, i5⟩ : scan_Scanner)).bind fun r6 =>
  if (!r6.2) then (zal (zw x_is r2 n) r2 s4 i5 true) else ((x_is r6.1).bind fun r9 =>
  zal (zw x_is r2 n) r2 s4 i5 (!r9))

def zP (x_c : scan_Scanner) (x_is : UInt8 → Option Bool) : Option (Str × scan_Scanner) :=
  (zcT x_c).bind fun r2 =>
  zw x_is r2 fuel x_c.f_s x_c.f_at

def zdh (x_b : UInt8) (t3 : Bool) : Option UInt8 :=
  if t3 then (some (x_b + 32)) else (some x_b)

def zaj (x_b : UInt8) : Option UInt8 :=
  if (decide (65 ≤ x_b)) then (zdh x_b (decide (x_b ≤ 90))) else (zdh x_b false)

def zcy (t5 : Bool) : Option Bool :=
  some t5

def zdG (x_b : UInt8) : Option Bool :=
  (zaj x_b).bind fun r2 =>
  if (decide (97 ≤ r2)) then ((zaj x_b).bind fun r4 =>
  zcy (decide (r4 ≤ 122))) else (zcy false)

def zd5 (x_b : UInt8) (x_l : Str) : Option Bool :=
  (strings_IndexByte x_l x_b).bind fun r2 =>
  some (decide (0 ≤ r2))

def zbV (t7 : Bool) : Option Bool :=
  some t7

def zce (x_b : UInt8) : Option Bool :=
  (zdG x_b).bind fun r2 =>
  if r2 then (zbV true) else ((zI x_b).bind fun r4 =>
  if r4 then (zbV true) else ((zd5 x_b [33, 35, 36, 37, 38, 39, 42, 43, 45, 46, 94, 95, 96, 124, 126]).bind fun r6 =>
  zbV r6))

def zaJ (x_c : scan_Scanner) : Option (Str × Bool × scan_Scanner) :=
  (zP x_c zce).bind fun r2 =>
  some ((r2.1, !(r2.1 == []), r2.2))

def za5 (x_b : UInt8) : Option Bool :=
  some (!(x_b == 32))

def zau (r3 : Int × Int × Bool × scan_Scanner) (t8 : Bool) : Option (Int × Bool × scan_Scanner) :=
  some (r3.2.1, t8, r3.2.2.2)

def zav (x_p : startline_line) : Option (Int × Bool × scan_Scanner) :=
  (zaf x_p).bind fun r3 =>
  if r3.2.2.1 then (if (r3.1 == 1) then (zau r3 (decide (r3.2.1 ≤ 1))) else (zau r3 false)) else (zau r3 false)

def zbj (rec1 : Int → Option Bool) (x_is : UInt8 → Option Bool) (i3 : Int) (x7 : Str) : Nat → Int → Option Bool
  | 0, _ => none
  | n + 1, i12 =>
  if (decide (i12 < (x7.length : Int))) then ((sAt x7 i12).bind fun b17 =>
  (x_is b17).bind fun r18 =>
  if (!r18) then (some false) else ((zaO i12 1).bind fun i23 =>
  (zbj rec1 x_is i3 x7 n) i23)) else ((zaO i3 1).bind fun i25 =>
  rec1 i25)

def zbk (x_is : UInt8 → Option Bool) (x_l : List Str) : Nat → Int → Option Bool
  | 0, _ => none
  | n + 1, i3 =>
  if (decide (i3 < (x_l.length : Int))) then ((lAt x_l i3).bind fun x7 =>
  zbj (zbk x_is x_l n) x_is i3 x7 fuel 0) else (some true)

def zcf (x_is : UInt8 → Option Bool) (x_l : List Str) : Option Bool :=
  zbk x_is x_l fuel 0

def zcJ (x_b : UInt8) : Option Int :=
  (zI x_b).bind fun r2 =>
  if r2 then (some (((x_b - 48).toNat : Int))) else ((zaj x_b).bind fun r7 =>
  (zaO (((r7 - 97).toNat : Int)) 10).bind fun i8 =>
  some i8)

def zbF (rec2 : Int → Int → Option (Int × Int)) (x_base : Int) (i11 : Int) (i12 : Int) (r18 : Int) (t23 : Bool) : Option (Int × Int) :=
  if t23 then (some (0, 7)) else ((zkP i11 x_base).bind fun i27 =>
  (zaO i27 r18).bind fun i28 =>
  (zaO i12 1).bind fun i30 =>
  rec2 i28 i30)

def zae (x_s : Str) (x_base : Int) (x_most : Int) : Nat → Int → Int → Option (Int × Int)
  | 0, _, _ => none
  | n + 1, i11, i12 =>
  if (decide (i12 < (x_s.length : Int))) then ((sAt x_s i12).bind fun b17 =>
  (zcJ b17).bind fun r18 =>
  if (decide (x_most < r18)) then (zbF (zae x_s x_base x_most n) x_base i11 i12 r18 true) else ((zdX x_most r18).bind fun i21 =>
  (iDiv i21 x_base).bind fun i22 =>
  zbF (zae x_s x_base x_most n) x_base i11 i12 r18 (decide (i22 < i11)))) else (some (i11, 0))

def zbG (x_s : Str) (x_base : Int) (x_most : Int) (t5 : Bool) : Option (Int × Int) :=
  if t5 then (some (0, 2)) else (zae x_s x_base x_most fuel 0 0)

def zdi (x_s : Str) (x_base : Int) (x_most : Int) (x_is : UInt8 → Option Bool) : Option (Int × Int) :=
  if (x_s == []) then (zbG x_s x_base x_most true) else ((zcf x_is ([x_s] : List Str)).bind fun r4 =>
  zbG x_s x_base x_most (!r4))

def zaY (x_s : Str) (x_most : Int) : Option (Int × Int) :=
  (zdi x_s 10 x_most zI).bind fun r2 =>
  some (r2.1, r2.2)

def zd0 (x_n : Int) (x_base : Int) : Option Str :=
  if (decide (x_n < 0)) then (some []) else ((zcl x_n x_base).bind fun r6 =>
  some r6)

def zdj (x_n : Int) : Option Str :=
  (zd0 x_n 10).bind fun r2 =>
  some r2

def zaW (t6 : Bool) : Option Bool :=
  some t6

def zbt (x_s : Str) (x_most : Int) : Option Bool :=
  (zaY x_s x_most).bind fun r2 =>
  if (r2.2 == 0) then ((zdj r2.1).bind fun r5 =>
  zaW (r5 == x_s)) else (zaW false)

def zcg (s : Str) : Option Bool := if s.length < 1000000000 then ((zp 46 s).mapM (fun x => zbt x 255)).bind fun bs => some (bs.all id && decide ((bs.length : Int) = 4)) else none

def zco (t7 : Bool) : Option Bool :=
  some t7

def zbm (x_b : UInt8) : Option Bool :=
  (zI x_b).bind fun r2 =>
  if r2 then (zco true) else ((zaj x_b).bind fun r4 =>
  if (decide (97 ≤ r4)) then ((zaj x_b).bind fun r6 =>
  zco (decide (r6 ≤ 102))) else (zco false))

def zaK (rec1 : Int → Int → Option Int) (i13 : Int) (i36 : Int) : Option Int :=
  (zaO i13 1).bind fun i37 =>
  rec1 i36 i37

def zap (rec1 : Int → Int → Option Int) (i12 : Int) (i13 : Int) (t32 : Bool) : Option Int :=
  if t32 then ((zaO i12 1).bind fun i34 =>
  zaK rec1 i13 i34) else (some (-1))

def zaq (rec1 : Int → Int → Option Int) (i12 : Int) (i13 : Int) (x17 : Str) (t25 : Bool) : Option Int :=
  if t25 then ((zaO i12 2).bind fun i27 =>
  zaK rec1 i13 i27) else (if (decide (1 ≤ (x17.length : Int))) then (if (decide ((x17.length : Int) ≤ 4)) then ((zcf zbm ([x17] : List Str)).bind fun r31 =>
  zap rec1 i12 i13 r31) else (zap rec1 i12 i13 false)) else (zap rec1 i12 i13 false))

def zu (x_last : Bool) (r6 : List Str) : Nat → Int → Int → Option Int
  | 0, _, _ => none
  | n + 1, i12, i13 =>
  if (decide (i13 < (r6.length : Int))) then ((lAt r6 i13).bind fun x17 =>
  if x_last then ((zdX (r6.length : Int) 1).bind fun i22 =>
  if (i13 == i22) then ((zcg x17).bind fun r24 =>
  zaq (zu x_last r6 n) i12 i13 x17 r24) else (zaq (zu x_last r6 n) i12 i13 x17 false)) else (zaq (zu x_last r6 n) i12 i13 x17 false)) else (some i12)

def zaZ (x_s : Str) (x_last : Bool) : Option Int :=
  if (x_s == []) then (some 0) else ((strings_Split x_s [58]).bind fun r6 =>
  zu x_last r6 fuel 0 0)

def zaG (t15 : Bool) : Option Bool :=
  some t15

def zcz (x_s : Str) : Option Bool :=
  (strings_Cut x_s [58, 58]).bind fun r2 =>
  if (!r2.2.2) then ((zaZ x_s true).bind fun r6 =>
  some (r6 == 8)) else ((zaZ r2.1 false).bind fun r9 =>
  (zaZ r2.2.1 true).bind fun r10 =>
  if (decide (0 ≤ r9)) then (if (decide (0 ≤ r10)) then ((zaO r9 r10).bind fun i14 =>
  zaG (decide (i14 ≤ 7))) else (zaG false)) else (zaG false))

def zK (t8 : Bool) : Option Bool :=
  some t8

def zcA (x_s : Str) : Option Bool :=
  if (decide (3 ≤ (x_s.length : Int))) then ((sAt x_s 0).bind fun b3 =>
  if (b3 == 37) then ((zf1 x_s 1 3).bind fun s5 =>
  (zcf zbm ([s5] : List Str)).bind fun r7 =>
  zK r7) else (zK false)) else (zK false)

def zaI (t7 : Bool) : Option Bool :=
  some t7

def zaL (x_b : UInt8) : Option Bool :=
  (zdG x_b).bind fun r2 =>
  if r2 then (zaI true) else ((zI x_b).bind fun r4 =>
  if r4 then (zaI true) else ((zd5 x_b [45, 46, 95, 126]).bind fun r6 =>
  zaI r6))

def zc4 (x_b : UInt8) : Option Bool :=
  (zd5 x_b [33, 36, 38, 39, 40, 41, 42, 43, 44, 59, 61]).bind fun r2 =>
  some r2

def zbW (rec1 : Str → Option Bool) (s6 : Str) (t19 : Bool) : Option Bool :=
  if t19 then ((zd7 s6 1).bind fun s21 =>
  rec1 s21) else (some false)

def zV : Nat → Str → Option Bool
  | 0, _ => none
  | n + 1, s6 =>
  if (!(s6 == [])) then ((zcA s6).bind fun r10 =>
  if r10 then ((zd7 s6 3).bind fun s13 =>
  (zV n) s13) else ((sAt s6 0).bind fun b14 =>
  (zaL b14).bind fun r15 =>
  if r15 then (zbW (zV n) s6 true) else ((sAt s6 0).bind fun b17 =>
  (zc4 b17).bind fun r18 =>
  zbW (zV n) s6 r18))) else (some true)

def zcK (x_s : Str) : Option Bool :=
  if (x_s == []) then (some false) else (zV fuel x_s)

def zbu (i24 : Int) (s25 : Str) : Option (api_Host × Bool) :=
  some (((⟨i24, s25, (-1)⟩ : api_Host), !(i24 == 0)))

def zaU (x_s : Str) (t14 : Bool) : Option (api_Host × Bool) :=
  if t14 then ((zdX (x_s.length : Int) 1).bind fun i16 =>
  (zf1 x_s 1 i16).bind fun s17 =>
  zbu 3 s17) else ((zcg x_s).bind fun r18 =>
  if r18 then (zbu 2 x_s) else ((zcK x_s).bind fun r21 =>
  if r21 then (zbu 1 x_s) else (zbu 0 x_s)))

def zc5 (x_s : Str) : Option (api_Host × Bool) :=
  if (decide (2 < (x_s.length : Int))) then ((sAt x_s 0).bind fun b6 =>
  if (b6 == 91) then ((zdX (x_s.length : Int) 1).bind fun i8 =>
  (sAt x_s i8).bind fun b9 =>
  if (b9 == 93) then ((zdX (x_s.length : Int) 1).bind fun i11 =>
  (zf1 x_s 1 i11).bind fun s12 =>
  (zcz s12).bind fun r13 =>
  zaU x_s r13) else (zaU x_s false)) else (zaU x_s false)) else (zaU x_s false)

def zbJ (x_s : Str) (r10 : Int) (r17 : api_Host × Bool) (t24 : Bool) : Option (api_Host × Int) :=
  if t24 then (some (((⟨0, [], 0⟩ : api_Host), 27))) else ((zaO r10 1).bind fun i28 =>
  (zd7 x_s i28).bind fun s29 =>
  (zaY s29 65535).bind fun r30 =>
  some (((⟨r17.1.Kind, r17.1.Name, r30.1⟩ : api_Host), 0)))

def zbv (x_s : Str) : Option (api_Host × Int) :=
  (zc5 x_s).bind fun r3 =>
  if r3.2 then (some (r3.1, 0)) else ((z8 x_s 58).bind fun r10 =>
  if (decide (r10 < 0)) then (some (((⟨0, [], 0⟩ : api_Host), 27))) else ((sTo x_s r10).bind fun s16 =>
  (zc5 s16).bind fun r17 =>
  if (!r17.2) then (zbJ x_s r10 r17 true) else ((zaO r10 1).bind fun i21 =>
  (zd7 x_s i21).bind fun s22 =>
  (zbt s22 65535).bind fun r23 =>
  zbJ x_s r10 r17 (!r23))))

def zcX (s : Str) : Option Str := if s.length < 4294967281 then s.mapM zaj else none

def zca (t7 : Bool) : Option Bool :=
  some t7

def zdk (x_b : UInt8) : Option Bool :=
  (zaL x_b).bind fun r2 =>
  if r2 then (zca true) else ((zc4 x_b).bind fun r4 =>
  if r4 then (zca true) else ((zd5 x_b [58, 64]).bind fun r6 =>
  zca r6))

def zc6 (rec1 : Int → Option Bool) (i27 : Int) : Option Bool :=
  (zaO i27 1).bind fun i28 =>
  rec1 i28

def zb1 (rec1 : Int → Option Bool) (i3 : Int) (t23 : Bool) : Option Bool :=
  if t23 then ((zaO i3 2).bind fun i25 =>
  zc6 rec1 i25) else (some false)

def zdM (rec1 : Int → Option Bool) (x_s : Str) (i3 : Int) (t12 : Bool) : Option Bool :=
  if t12 then (zc6 rec1 i3) else ((sAt x_s i3).bind fun b14 =>
  if (b14 == 37) then ((zaO i3 2).bind fun i16 =>
  if (decide (i16 < (x_s.length : Int))) then ((zaO i3 1).bind fun i18 =>
  (zaO i3 3).bind fun i19 =>
  (zf1 x_s i18 i19).bind fun s20 =>
  (zcf zbm ([s20] : List Str)).bind fun r22 =>
  zb1 rec1 i3 r22) else (zb1 rec1 i3 false)) else (zb1 rec1 i3 false))

def zaw (x_s : Str) (x_more : Str) : Nat → Int → Option Bool
  | 0, _ => none
  | n + 1, i3 =>
  if (decide (i3 < (x_s.length : Int))) then ((sAt x_s i3).bind fun b7 =>
  (zdk b7).bind fun r8 =>
  if r8 then (zdM (zaw x_s x_more n) x_s i3 true) else ((sAt x_s i3).bind fun b10 =>
  (strings_IndexByte x_more b10).bind fun r11 =>
  zdM (zaw x_s x_more n) x_s i3 (decide (0 ≤ r11)))) else (some true)

def zeT (x_s : Str) (x_more : Str) : Option Bool :=
  zaw x_s x_more fuel 0

def zcL (t5 : Bool) : Option Bool :=
  some t5

def zee (x_s : Str) : Option Bool :=
  (strings_HasPrefix x_s [47]).bind fun r2 =>
  if r2 then ((zeT x_s [47]).bind fun r4 =>
  zcL r4) else (zcL false)

def zdN (x_s : Str) : Option Bool :=
  (zeT x_s [47, 63]).bind fun r2 =>
  some r2

def zdl (r2 : Str × Str × Bool) (t7 : Bool) : Option (Str × Str × Bool × Int) :=
  if t7 then (some ([], [], false, 2)) else (some (r2.1, r2.2.1, r2.2.2, 0))

def zeU (x_s : Str) : Option (Str × Str × Bool × Int) :=
  (strings_Cut x_s [63]).bind fun r2 =>
  (zee r2.1).bind fun r4 =>
  if (!r4) then (zdl r2 true) else ((zdN r2.2.1).bind fun r6 =>
  zdl r2 (!r6))

def zcp (x_t : api_Target) (r15 : Str × Str × Bool × Int) (s19 : Str) : Option (api_Target × Bool) :=
  some (((⟨x_t.Kind, x_t.Scheme, x_t.Host, s19, r15.2.1, r15.2.2.1⟩ : api_Target), r15.2.2.2 == 0))

def zcq (x_t : api_Target) (b9 : UInt8) (s14 : Str) : Option (api_Target × Bool) :=
  (zeU s14).bind fun r15 =>
  if (b9 == 63) then (zcp x_t r15 []) else (zcp x_t r15 r15.1)

def zc7 (x_t : api_Target) (x_s : Str) : Option (api_Target × Bool) :=
  if (x_s == []) then (some (x_t, true)) else ((sAt x_s 0).bind fun b9 =>
  if (b9 == 63) then ((sCat [47] x_s).bind fun s13 =>
  zcq x_t b9 s13) else (zcq x_t b9 x_s))

def zaM (r3 : Str × Str × Bool) (r5 : Str) (i18 : Int) : Option (api_Target × Bool) :=
  (sTo r3.2.1 i18).bind fun s19 =>
  (zbv s19).bind fun r20 =>
  if (!(r20.2 == 0)) then (some (((⟨2, r5, (⟨0, [], 0⟩ : api_Host), [], [], false⟩ : api_Target), false))) else ((zd7 r3.2.1 i18).bind fun s28 =>
  (zc7 (⟨2, r5, r20.1, [], [], false⟩ : api_Target) s28).bind fun r29 =>
  some (r29.1, r29.2))

def zQ (r3 : Str × Str × Bool) (r5 : Str) (t10 : Bool) : Option (api_Target × Bool) :=
  if t10 then (some (((⟨2, r5, (⟨0, [], 0⟩ : api_Host), [], [], false⟩ : api_Target), false))) else ((strings_IndexAny r3.2.1 [47, 63]).bind fun r14 =>
  if (decide (r14 < 0)) then (zaM r3 r5 (r3.2.1.length : Int)) else (zaM r3 r5 r14))

def zcb (x_s : Str) : Option (api_Target × Bool) :=
  (strings_Cut x_s [58, 47, 47]).bind fun r3 =>
  (zcX r3.1).bind fun r5 =>
  if (!r3.2.2) then (zQ r3 r5 true) else (if (!(r5 == [104, 116, 116, 112])) then (zQ r3 r5 (!(r5 == [104, 116, 116, 112, 115]))) else (zQ r3 r5 false))

def zeV (x_method : Str) (x_s : Str) : Option (api_Target × Bool) :=
  if (x_s == [42]) then (some (((⟨4, [], (⟨0, [], 0⟩ : api_Host), [], [], false⟩ : api_Target), x_method == [79, 80, 84, 73, 79, 78, 83]))) else ((strings_HasPrefix x_s [47]).bind fun r7 =>
  if (!r7) then ((zcb x_s).bind fun r10 =>
  some (r10.1, r10.2)) else ((zc7 ((⟨1, [], (⟨0, [], 0⟩ : api_Host), [], [], false⟩ : api_Target)) x_s).bind fun r13 =>
  some (r13.1, r13.2)))

def zcc (r5 : api_Host × Int) (t9 : Bool) : Option (api_Target × Int) :=
  if t9 then (some (((⟨0, [], (⟨0, [], 0⟩ : api_Host), [], [], false⟩ : api_Target), 20))) else (some (((⟨3, [], r5.1, [], [], false⟩ : api_Target), 0)))

def zdm (x_method : Str) (x_s : Str) : Option (api_Target × Int) :=
  if (x_method == [67, 79, 78, 78, 69, 67, 84]) then ((zbv x_s).bind fun r5 =>
  if (!(r5.2 == 0)) then (zcc r5 true) else (zcc r5 (decide (r5.1.Port < 0)))) else ((zeV x_method x_s).bind fun r15 =>
  if (!r15.2) then (some (((⟨0, [], (⟨0, [], 0⟩ : api_Host), [], [], false⟩ : api_Target), 20))) else (some (r15.1, 0)))

def zH (r17 : Str × Bool × scan_Scanner) (r23 : Str × scan_Scanner) (r29 : Int × Bool × scan_Scanner) (t41 : Bool) : Option (api_Head × Int) :=
  if t41 then (some (((⟨0, [], [], 0, [], 0, []⟩ : api_Head), 20))) else (some (((⟨1, r17.1, r23.1, 0, [], r29.1, []⟩ : api_Head), 0)))

def zbK (x_a0 : Str) : Option (api_Head × Int) :=
  (z8 x_a0 32).bind fun r5 =>
  (zaO r5 1).bind fun i6 =>
  (zd7 x_a0 i6).bind fun s7 =>
  (zbE s7).bind fun r8 =>
  if r8 then (some (((⟨0, [], [], 0, [], 0, []⟩ : api_Head), 26))) else ((zed x_a0).bind fun r13 =>
  (zaJ r13).bind fun r17 =>
  (zq r17.2.2 32).bind fun r20 =>
  (zP r20.2 za5).bind fun r23 =>
  (zq r23.2 32).bind fun r26 =>
  (zav (⟨r26.2⟩ : startline_line)).bind fun r29 =>
  (zdm r17.1 r23.1).bind fun r32 =>
  if (!r17.2.1) then (zH r17 r23 r29 true) else (if (!r20.1) then (zH r17 r23 r29 true) else (if (!r26.1) then (zH r17 r23 r29 true) else (if (!r29.2.1) then (zH r17 r23 r29 true) else ((zar r29.2.2).bind fun r39 =>
  if (!r39) then (zH r17 r23 r29 true) else (zH r17 r23 r29 (!(r32.2 == 0))))))))

def zb3 (t3 : Bool) : Option Bool :=
  some t3

def zdS (x_b : UInt8) : Option Bool :=
  if (decide (32 < x_b)) then (zb3 (decide (x_b < 127))) else (zb3 false)

def zcB (t3 : Bool) : Option Bool :=
  some t3

def zbN (x_b : UInt8) : Option Bool :=
  if (x_b == 32) then (zcB true) else (zcB (x_b == 9))

def zbX (t6 : Bool) : Option Bool :=
  some t6

def zbn (x_b : UInt8) : Option Bool :=
  (zdS x_b).bind fun r2 =>
  if r2 then (zbX true) else ((zbN x_b).bind fun r4 =>
  if r4 then (zbX true) else (zbX (decide (127 < x_b))))

def zB (r14 : Int × Bool × scan_Scanner) (r23 : Bool × scan_Scanner) (r26 : Int × Int) (t37 : Bool) : Option (api_Head × Int) :=
  if t37 then (some (((⟨0, [], [], 0, [], 0, []⟩ : api_Head), 20))) else ((zz r23.2).bind fun r41 =>
  some (((⟨2, [], [], r26.1, r41, r14.1, []⟩ : api_Head), 0)))

def zbY (x_a0 : Str) : Option (api_Head × Int) :=
  (strings_Cut x_a0 [32]).bind fun r3 =>
  (zbE r3.1).bind fun r5 =>
  if r5 then (some (((⟨0, [], [], 0, [], 0, []⟩ : api_Head), 26))) else ((zed x_a0).bind fun r10 =>
  (zav (⟨r10⟩ : startline_line)).bind fun r14 =>
  (zq r14.2.2 32).bind fun r17 =>
  (zP r17.2 zI).bind fun r20 =>
  (zq r20.2 32).bind fun r23 =>
  (zaY r20.1 599).bind fun r26 =>
  if (!r14.2.1) then (zB r14 r23 r26 true) else (if (!r17.1) then (zB r14 r23 r26 true) else (if (!r23.1) then (zB r14 r23 r26 true) else (if (!((r20.1.length : Int) == 3)) then (zB r14 r23 r26 true) else (if (!(r26.2 == 0)) then (zB r14 r23 r26 true) else (if (decide (r26.1 < 100)) then (zB r14 r23 r26 true) else ((zz r23.2).bind fun r34 =>
  (zcf zbn ([r34] : List Str)).bind fun r36 =>
  zB r14 r23 r26 (!r36))))))))

def zbw (x_kind : Int) (x_s : Str) (t4 : Bool) : Option (api_Head × Int) :=
  if t4 then (some (((⟨0, [], [], 0, [], 0, []⟩ : api_Head), 1))) else ((strings_ContainsAny x_s [13, 10]).bind fun r7 =>
  if r7 then (some (((⟨0, [], [], 0, [], 0, []⟩ : api_Head), 24))) else (if (x_kind == 1) then ((zbK x_s).bind fun r13 =>
  some (r13.1, r13.2)) else ((zbY x_s).bind fun r18 =>
  some (r18.1, r18.2))))

def za0 (x_kind : Int) (x_s : Str) : Option (api_Head × Int) :=
  if (!(x_kind == 1)) then (zbw x_kind x_s (!(x_kind == 2))) else (zbw x_kind x_s false)

def zY (x_c : scan_Scanner) : Option (Str × scan_Scanner) :=
  (zP x_c zbN).bind fun r2 =>
  some (r2.1, r2.2)

def zbx (r17 : Str × Bool × scan_Scanner) (r20 : Str × scan_Scanner) (t26 : Bool) (s27 : Str) (i28 : Int) : Option (api_Field × Int) :=
  if t26 then (some (((⟨[], []⟩ : api_Field), 21))) else (if (!(r20.1 == [])) then (some (((⟨[], []⟩ : api_Field), 22))) else ((zz (⟨s27, i28⟩ : scan_Scanner)).bind fun r34 =>
  (zcf zbn ([r34] : List Str)).bind fun r36 =>
  if (!r36) then (some (((⟨[], []⟩ : api_Field), 25))) else ((zz (⟨s27, i28⟩ : scan_Scanner)).bind fun r41 =>
  (zdg r41 [32, 9]).bind fun r42 =>
  some (((⟨r17.1, r42⟩ : api_Field), 0)))))

def za1 (x_s : Str) : Option (api_Field × Int) :=
  (strings_ContainsAny x_s [13, 10]).bind fun r3 =>
  if r3 then (some (((⟨[], []⟩ : api_Field), 24))) else ((zed x_s).bind fun r8 =>
  (zY r8).bind fun r11 =>
  if (!(r11.1 == [])) then (some (((⟨[], []⟩ : api_Field), 23))) else ((zaJ r11.2).bind fun r17 =>
  (zY r17.2.2).bind fun r20 =>
  if (!r17.2.1) then (zbx r17 r20 true r20.2.f_s r20.2.f_at) else ((zq r20.2 58).bind fun r24 =>
  zbx r17 r20 (!r24.1) r24.2.f_s r24.2.f_at)))

def zv (x_s : List api_Field) : Option (List api_Field) :=
  if zb2 0 x_s.length 32 then (some x_s) else none

def zhJ (x_l : List api_Field) : Option bag_Bag :=
  (zv x_l).bind fun r2 =>
  some (⟨r2⟩ : bag_Bag)

def zd1 (x_b : bag_Bag) : Option (List api_Field) :=
  (zv x_b.f_l).bind fun r4 =>
  some r4

def zef (x_a : Str) (x_b : Str) : Option Bool :=
  (zcX x_a).bind fun r2 =>
  (zcX x_b).bind fun r3 =>
  some (r2 == r3)

def zbL (rec1 : (List Str) → Int → Option (List Str)) (i10 : Int) (l28 : List Str) : Option (List Str) :=
  (zaO i10 1).bind fun i29 =>
  rec1 l28 i29

def zab (x_name : Str) (r3 : List api_Field) : Nat → (List Str) → Int → Option (List Str)
  | 0, _, _ => none
  | n + 1, l9, i10 =>
  if (decide (i10 < (r3.length : Int))) then ((lAt r3 i10).bind fun x14 =>
  (zef x14.Name x_name).bind fun r19 =>
  if r19 then (if zb2 l9.length 1 16 then (zbL (zab x_name r3 n) i10 (l9 ++ ([x14.Value] : List Str))) else none) else (zbL (zab x_name r3 n) i10 l9)) else (some l9)

def zcr (x_b : bag_Bag) (x_name : Str) : Option (List Str) :=
  (zd1 x_b).bind fun r3 =>
  zab x_name r3 fuel [] 0

def zcM (rec2 : Int → Option Bool) (i21 : Int) (t33 : Bool) : Option Bool :=
  if t33 then (some false) else ((zaO i21 1).bind fun i37 =>
  rec2 i37)

def zaP (r11 : List Str) : Nat → Int → Option Bool
  | 0, _ => none
  | n + 1, i21 =>
  if (decide (i21 < (r11.length : Int))) then ((lAt r11 i21).bind fun x25 =>
  (zbv x25).bind fun r29 =>
  if (!(r29.2 == 0)) then (zcM (zaP r11 n) i21 (!(x25 == []))) else (zcM (zaP r11 n) i21 false)) else (some true)

def zbO (r11 : List Str) (t16 : Bool) : Option Bool :=
  if t16 then (some false) else (zaP r11 fuel 0)

def zeg (x_h : api_Head) : Option Bool :=
  if (!(x_h.Kind == 1)) then (some true) else ((zhJ x_h.Fields).bind fun r7 =>
  (zcr r7 [72, 111, 115, 116]).bind fun r11 =>
  if (decide (1 < (r11.length : Int))) then (zbO r11 true) else (zbO r11 (decide ((r11.length : Int) < x_h.Minor))))

def zeh (x_h : api_Head) : Option Int :=
  if (decide (100 < (x_h.Fields.length : Int))) then (some 3) else ((zeg x_h).bind fun r6 =>
  if (!r6) then (some 27) else (some 0))

def zcN (i75 : Int) (s76 : Str) (s77 : Str) (i78 : Int) (s79 : Str) (i80 : Int) (l83 : List api_Field) : Option (api_Head × Int) :=
  (zeh (⟨i75, s76, s77, i78, s79, i80, l83⟩ : api_Head)).bind fun r84 =>
  if (!(r84 == 0)) then (some (((⟨0, [], [], 0, [], 0, []⟩ : api_Head), r84))) else (some (((⟨i75, s76, s77, i78, s79, i80, l83⟩ : api_Head), 0)))

def zbP (l41 : List Str) : Nat → Int → Str → Str → Int → Str → Int → (List api_Field) → Int → Option (api_Head × Int)
  | 0, _, _, _, _, _, _, _, _ => none
  | n + 1, i45, s46, s47, i48, s49, i50, l53, i54 =>
  if (decide (i54 < (l41.length : Int))) then ((lAt l41 i54).bind fun x58 =>
  (za1 x58).bind fun r62 =>
  if (!(r62.2 == 0)) then (some (((⟨0, [], [], 0, [], 0, []⟩ : api_Head), r62.2))) else (if zb2 l53.length 1 32 then ((zaO i54 1).bind fun i74 =>
  (zbP l41 n) i45 s46 s47 i48 s49 i50 (l53 ++ [r62.1]) i74) else none)) else (zcN i45 s46 s47 i48 s49 i50 l53)

def zch (x_a0 : Int) (x_a1 : Str) (r12 : Int) (t19 : Bool) : Option (api_Head × Int) :=
  if t19 then (some (((⟨0, [], [], 0, [], 0, []⟩ : api_Head), 6))) else ((sTo x_a1 r12).bind fun s23 =>
  (strings_Split s23 [13, 10]).bind fun r24 =>
  (lAt r24 0).bind fun x28 =>
  (za0 x_a0 x28).bind fun r31 =>
  if (!(r31.2 == 0)) then (some (((⟨0, [], [], 0, [], 0, []⟩ : api_Head), r31.2))) else ((zkg r24 1).bind fun l41 =>
  zbP l41 fuel r31.1.Kind r31.1.Method r31.1.Target r31.1.Code r31.1.Reason r31.1.Minor r31.1.Fields 0))

def zb4 (x_a0 : Int) (x_a1 : Str) (x_a2 : Int) : Option (api_Head × Int) :=
  (za0 x_a0 []).bind fun r3 =>
  if (r3.2 == 1) then (some (((⟨0, [], [], 0, [], 0, []⟩ : api_Head), r3.2))) else ((strings_Index x_a1 [13, 10, 13, 10]).bind fun r12 =>
  if (decide (x_a2 < (x_a1.length : Int))) then (some (((⟨0, [], [], 0, [], 0, []⟩ : api_Head), 3))) else (if (decide (r12 < 0)) then (zch x_a0 x_a1 r12 true) else ((zaO r12 4).bind fun i18 =>
  zch x_a0 x_a1 r12 (!(i18 == (x_a1.length : Int))))))

def za6 (x_a : accum_Accum) (i16 : Int) : Option (Bool × Int × accum_Accum) :=
  some ((false, i16, (⟨x_a.f_kind, x_a.f_limit, x_a.f_buf, (x_a.f_buf.length : Int), x_a.f_took, x_a.f_bad, x_a.f_whole, x_a.f_got⟩ : accum_Accum)))

def zbZ (x_a : accum_Accum) (x_s : Str) : Option (Bool × Int × accum_Accum) :=
  if (x_a.f_from == 0) then ((za0 x_a.f_kind x_s).bind fun r5 =>
  za6 x_a r5.2) else (if (!(x_s == [])) then ((za1 x_s).bind fun r10 =>
  za6 x_a r10.2) else ((zb4 x_a.f_kind x_a.f_buf x_a.f_limit).bind fun r11 =>
  some ((r11.2 == 0, r11.2, (⟨x_a.f_kind, x_a.f_limit, x_a.f_buf, x_a.f_from, x_a.f_took, x_a.f_bad, x_a.f_whole, r11.1⟩ : accum_Accum)))))

def zbp (x_a : accum_Accum) (x_b : UInt8) : Option (Bool × Int × accum_Accum) :=
  if (decide (x_a.f_limit ≤ (x_a.f_buf.length : Int))) then (some (false, 3, x_a)) else (if zb2 x_a.f_buf.length 1 1 then ((zbU (⟨x_a.f_kind, x_a.f_limit, x_a.f_buf ++ [x_b], x_a.f_from, x_a.f_took, x_a.f_bad, x_a.f_whole, x_a.f_got⟩ : accum_Accum)).bind fun r11 =>
  if r11 then (some ((false, 24, (⟨x_a.f_kind, x_a.f_limit, x_a.f_buf ++ [x_b], x_a.f_from, x_a.f_took, x_a.f_bad, x_a.f_whole, x_a.f_got⟩ : accum_Accum)))) else (if (!(x_b == 10)) then (some ((false, 0, (⟨x_a.f_kind, x_a.f_limit, x_a.f_buf ++ [x_b], x_a.f_from, x_a.f_took, x_a.f_bad, x_a.f_whole, x_a.f_got⟩ : accum_Accum)))) else ((zdX (((x_a.f_buf ++ [x_b]).length : Int)) 2).bind fun i20 =>
  (lSub (x_a.f_buf ++ [x_b]) x_a.f_from i20).bind fun l21 =>
  (zbZ (⟨x_a.f_kind, x_a.f_limit, x_a.f_buf ++ [x_b], x_a.f_from, x_a.f_took, x_a.f_bad, x_a.f_whole, x_a.f_got⟩ : accum_Accum) l21).bind fun r24 =>
  some (r24.1, r24.2.1, r24.2.2)))) else none)

def za7 (rec2 : Int → Int → (List UInt8) → Int → Bool → Int → Bool → Int → Str → Str → Int → Str → Int → (List api_Field) → Int → Option (Int × Bool × Int × accum_Accum)) (i27 : Int) (r34 : Bool × Int × accum_Accum) (t42 : Bool) : Option (Int × Bool × Int × accum_Accum) :=
  if t42 then ((zaO i27 1).bind fun i45 =>
  some ((i45, r34.1, r34.2.1, (⟨r34.2.2.f_kind, r34.2.2.f_limit, [], r34.2.2.f_from, r34.2.2.f_took, r34.2.1, r34.1, r34.2.2.f_got⟩ : accum_Accum)))) else ((zaO i27 1).bind fun i48 =>
  rec2 r34.2.2.f_kind r34.2.2.f_limit r34.2.2.f_buf r34.2.2.f_from r34.2.2.f_took r34.2.1 r34.1 r34.2.2.f_got.Kind r34.2.2.f_got.Method r34.2.2.f_got.Target r34.2.2.f_got.Code r34.2.2.f_got.Reason r34.2.2.f_got.Minor r34.2.2.f_got.Fields i48)

def zbS (x_a1 : Str) (i49 : Int) (i50 : Int) (l53 : List UInt8) (i54 : Int) (t55 : Bool) (i56 : Int) (t57 : Bool) (i58 : Int) (s59 : Str) (s60 : Str) (i61 : Int) (s62 : Str) (i63 : Int) (l66 : List api_Field) : Option (Int × Bool × Int × accum_Accum) :=
  some (((x_a1.length : Int), false, 0, (⟨i49, i50, l53, i54, t55, i56, t57, (⟨i58, s59, s60, i61, s62, i63, l66⟩ : api_Head)⟩ : accum_Accum)))

def zC (x_a1 : Str) : Nat → Int → Int → (List UInt8) → Int → Bool → Int → Bool → Int → Str → Str → Int → Str → Int → (List api_Field) → Int → Option (Int × Bool × Int × accum_Accum)
  | 0, _, _, _, _, _, _, _, _, _, _, _, _, _, _, _ => none
  | n + 1, i9, i10, l13, i14, t15, i16, t17, i18, s19, s20, i21, s22, i23, l26, i27 =>
  if (decide (i27 < (x_a1.length : Int))) then ((sAt x_a1 i27).bind fun b33 =>
  (zbp ((⟨i9, i10, l13, i14, true, i16, t17, (⟨i18, s19, s20, i21, s22, i23, l26⟩ : api_Head)⟩ : accum_Accum)) b33).bind fun r34 =>
  if r34.1 then (za7 (zC x_a1 n) i27 r34 true) else (za7 (zC x_a1 n) i27 r34 (!(r34.2.1 == 0)))) else (zbS x_a1 i9 i10 l13 i14 t15 i16 t17 i18 s19 s20 i21 s22 i23 l26)

def za8 (x_a0 : accum_Accum) (x_a1 : Str) (t4 : Bool) : Option (Int × Bool × Int × accum_Accum) :=
  if t4 then (some (0, false, 8, x_a0)) else (zC x_a1 fuel x_a0.f_kind x_a0.f_limit x_a0.f_buf x_a0.f_from x_a0.f_took x_a0.f_bad x_a0.f_whole x_a0.f_got.Kind x_a0.f_got.Method x_a0.f_got.Target x_a0.f_got.Code x_a0.f_got.Reason x_a0.f_got.Minor x_a0.f_got.Fields 0)

def zy (x_a0 : accum_Accum) (x_a1 : Str) : Option (Int × Bool × Int × accum_Accum) :=
  if (!(x_a0.f_bad == 0)) then (za8 x_a0 x_a1 true) else (za8 x_a0 x_a1 x_a0.f_whole)

def zN (x_a : accum_Accum) : Option (api_Head × Bool) :=
  if (!x_a.f_whole) then (some (((⟨0, [], [], 0, [], 0, []⟩ : api_Head), false))) else (if zb2 0 x_a.f_got.Fields.length 32 then (some (x_a.f_got, true)) else none)

def zdn : Option Bool :=
  some false

def zei (i10 : Int) : Option Bool :=
  if (!(i10 == 0)) then (zdn) else (zdn)

def zam (t64 : Bool) : Option Bool :=
  some t64

def zdo (i15 : Int) (i16 : Int) (l19 : List UInt8) (i20 : Int) (t21 : Bool) (i22 : Int) (t23 : Bool) (i24 : Int) (s25 : Str) (s26 : Str) (i27 : Int) (s28 : Str) (i29 : Int) (l32 : List api_Field) (t34 : Bool) : Option Bool :=
  if t34 then (some false) else ((zy ((⟨i15, i16, l19, i20, t21, i22, t23, (⟨i24, s25, s26, i27, s28, i29, l32⟩ : api_Head)⟩ : accum_Accum)) [71, 69, 84, 32, 47, 32, 72, 84, 84, 80, 47, 49, 46, 48, 13]).bind fun r38 =>
  (zy r38.2.2.2 [10, 13, 10, 120]).bind fun r45 =>
  (zN r45.2.2.2).bind fun r52 =>
  if (r38.1 == 15) then (if (!r38.2.1) then (if (r38.2.2.1 == 0) then (if (r45.1 == 3) then (if r45.2.1 then (if (r45.2.2.1 == 0) then (if r52.2 then (zam (r52.1.Target == [47])) else (zam false)) else (zam false)) else (zam false)) else (zam false)) else (zam false)) else (zam false)) else (zam false))

def zej (i14 : Int) (i15 : Int) (i16 : Int) (l19 : List UInt8) (i20 : Int) (t21 : Bool) (i22 : Int) (t23 : Bool) (i24 : Int) (s25 : Str) (s26 : Str) (i27 : Int) (s28 : Str) (i29 : Int) (l32 : List api_Field) : Option Bool :=
  if (!(i14 == 0)) then (zdo i15 i16 l19 i20 t21 i22 t23 i24 s25 s26 i27 s28 i29 l32 true) else (zdo i15 i16 l19 i20 t21 i22 t23 i24 s25 s26 i27 s28 i29 l32 false)

def zeB : Option Bool :=
  (zc3 1 99).bind fun r2 =>
  zjN r2.1 (zei r2.2) (fun x4 => zej r2.2 x4.f_kind x4.f_limit x4.f_buf x4.f_from x4.f_took x4.f_bad x4.f_whole x4.f_got.Kind x4.f_got.Method x4.f_got.Target x4.f_got.Code x4.f_got.Reason x4.f_got.Minor x4.f_got.Fields)

def zb5 (rec1 : Str → (List Str) → Int → Option (List Str)) (x_by : List UInt8) (s4 : Str) (l7 : List Str) (i8 : Int) (t10 : Bool) : Option (List Str) :=
  if t10 then ((lAt x_by i8).bind fun x13 =>
  (sTo s4 (min (((x13 % 17).toNat : Int)) (s4.length : Int))).bind fun s17 =>
  if zb2 l7.length 1 16 then ((zd7 s4 (min (((x13 % 17).toNat : Int)) (s4.length : Int))).bind fun s23 =>
  (zaO i8 1).bind fun i25 =>
  rec1 s23 (l7 ++ ([s17] : List Str)) i25) else none) else (if zb2 l7.length 1 16 then (some (l7 ++ ([s4] : List Str))) else none)

def zaQ (x_by : List UInt8) : Nat → Str → (List Str) → Int → Option (List Str)
  | 0, _, _, _ => none
  | n + 1, s4, l7, i8 =>
  if (decide (i8 < (x_by.length : Int))) then (zb5 (zaQ x_by n) x_by s4 l7 i8 (decide (i8 < 60))) else (zb5 (zaQ x_by n) x_by s4 l7 i8 false)

def zc8 (x_s : Str) (x_by : List UInt8) : Option (List Str) :=
  zaQ x_by fuel x_s [] 0

def zaR (t9 : Bool) : Option Bool :=
  some t9

def zfa (x_a : api_Head) (x_b : api_Head) : Option Bool :=
  if (x_a.Kind == x_b.Kind) then (if (x_a.Method == x_b.Method) then (if (x_a.Target == x_b.Target) then (if (x_a.Minor == x_b.Minor) then (if (x_a.Code == x_b.Code) then (zaR (x_a.Reason == x_b.Reason)) else (zaR false)) else (zaR false)) else (zaR false)) else (zaR false)) else (zaR false)

def zbo (x_a : List api_Field) (x_b : List api_Field) : Nat → Int → Option Bool
  | 0, _ => none
  | n + 1, i7 =>
  if (decide (i7 < (x_a.length : Int))) then ((lAt x_a i7).bind fun x11 =>
  (lAt x_b i7).bind fun x14 =>
  if (!(x11 == x14)) then (some false) else ((zaO i7 1).bind fun i21 =>
  (zbo x_a x_b n) i21)) else (some true)

def zek (x_a : List api_Field) (x_b : List api_Field) : Option Bool :=
  if (!((x_a.length : Int) == (x_b.length : Int))) then (some false) else (zbo x_a x_b fuel 0)

def zcO (t7 : Bool) : Option Bool :=
  some t7

def za2 (x_a : api_Head) (x_b : api_Head) : Option Bool :=
  (zfa x_a x_b).bind fun r4 =>
  if r4 then ((zek x_a.Fields x_b.Fields).bind fun r6 =>
  zcO r6) else (zcO false)

def zaB (x_a1 : Str) : Option (Int × Bool × Int) :=
  some (0, false, 5)

def zaC : Option (api_Head × Bool) :=
  some (((⟨0, [], [], 0, [], 0, []⟩ : api_Head), false))

def zby (t89 : Bool) : Option Bool :=
  some t89

def zR (x_a0 : Int) (s7 : Str) (r32 : Int × Bool × Int) (r59 : api_Head × Bool) (t76 : Bool) : Option Bool :=
  if t76 then (some false) else ((sTo s7 r32.1).bind fun s80 =>
  (zb4 x_a0 s80 2000).bind fun r81 =>
  if (!r32.2.1) then (zby true) else (if (r81.2 == 0) then ((za2 r81.1 r59.1).bind fun r88 =>
  zby r88) else (zby false)))

def zbz (rec4 : Int → Bool → Int → Int → Option Bool) (x_a0 : Int) (s7 : Str) (r32 : Int × Bool × Int) (r35 : List Str) (i40 : Int) (t41 : Bool) (i42 : Int) (i43 : Int) (t46 : Bool) : Option Bool :=
  if t46 then ((lAt r35 i43).bind fun x50 =>
  (zaB x50).bind fun r53 =>
  (zaO i40 r53.1).bind fun i55 =>
  (zaO i43 1).bind fun i57 =>
  rec4 i55 r53.2.1 r53.2.2 i57) else ((zaC).bind fun r59 =>
  (zaC).bind fun r64 =>
  if (!(r32.1 == i40)) then (zR x_a0 s7 r32 r59 true) else (if (!(r32.2.1 == t41)) then (zR x_a0 s7 r32 r59 true) else (if (!(r32.2.2 == i42)) then (zR x_a0 s7 r32 r59 true) else (if (!(r59.2 == r64.2)) then (zR x_a0 s7 r32 r59 true) else ((za2 r59.1 r64.1).bind fun r73 =>
  if (!r73) then (zR x_a0 s7 r32 r59 true) else (if r32.2.1 then (zR x_a0 s7 r32 r59 (!(r32.2.2 == 0))) else (zR x_a0 s7 r32 r59 false)))))))

def zad (x_a0 : Int) (s7 : Str) (r32 : Int × Bool × Int) (r35 : List Str) : Nat → Int → Bool → Int → Int → Option Bool
  | 0, _, _, _, _ => none
  | n + 1, i40, t41, i42, i43 =>
  if (decide (i43 < (r35.length : Int))) then (if (!t41) then (zbz (zad x_a0 s7 r32 r35 n) x_a0 s7 r32 r35 i40 t41 i42 i43 (i42 == 0)) else (zbz (zad x_a0 s7 r32 r35 n) x_a0 s7 r32 r35 i40 t41 i42 i43 false)) else (zbz (zad x_a0 s7 r32 r35 n) x_a0 s7 r32 r35 i40 t41 i42 i43 false)

def zb6 (x_a0 : Int) (x_a2 : List UInt8) (s7 : Str) (i17 : Int) (i26 : Int) (t28 : Bool) : Option Bool :=
  if t28 then (some (i17 == i26)) else ((zaB s7).bind fun r32 =>
  (zc8 s7 x_a2).bind fun r35 =>
  zad x_a0 s7 r32 r35 fuel 0 false 0 0)

def zcY (x_a0 : Int) (x_a2 : List UInt8) (s7 : Str) (i17 : Int) (i26 : Int) : Option Bool :=
  if (!(i17 == 0)) then (zb6 x_a0 x_a2 s7 i17 i26 true) else (zb6 x_a0 x_a2 s7 i17 i26 (!(i26 == 0)))

def za9 (t215 : Bool) : Option Bool :=
  some t215

def zL (x_a0 : Int) (s7 : Str) (r115 : Int × Bool × Int) (r185 : api_Head × Bool) (t202 : Bool) : Option Bool :=
  if t202 then (some false) else ((sTo s7 r115.1).bind fun s206 =>
  (zb4 x_a0 s206 2000).bind fun r207 =>
  if (!r115.2.1) then (za9 true) else (if (r207.2 == 0) then ((za2 r207.1 r185.1).bind fun r214 =>
  za9 r214) else (za9 false)))

def zcD (x_a0 : Int) (s7 : Str) (r115 : Int × Bool × Int) (i164 : Int) (t165 : Bool) (i166 : Int) (i167 : Int) (i168 : Int) (l171 : List UInt8) (i172 : Int) (t173 : Bool) (i174 : Int) (t175 : Bool) (i176 : Int) (s177 : Str) (s178 : Str) (i179 : Int) (s180 : Str) (i181 : Int) (l184 : List api_Field) : Option Bool :=
  (zaC).bind fun r185 =>
  (zN ((⟨i167, i168, l171, i172, t173, i174, t175, (⟨i176, s177, s178, i179, s180, i181, l184⟩ : api_Head)⟩ : accum_Accum))).bind fun r190 =>
  if (!(r115.1 == i164)) then (zL x_a0 s7 r115 r185 true) else (if (!(r115.2.1 == t165)) then (zL x_a0 s7 r115 r185 true) else (if (!(r115.2.2 == i166)) then (zL x_a0 s7 r115 r185 true) else (if (!(r185.2 == r190.2)) then (zL x_a0 s7 r115 r185 true) else ((za2 r185.1 r190.1).bind fun r199 =>
  if (!r199) then (zL x_a0 s7 r115 r185 true) else (if r115.2.1 then (zL x_a0 s7 r115 r185 (!(r115.2.2 == 0))) else (zL x_a0 s7 r115 r185 false))))))

def zba (rec10 : Int → Int → (List UInt8) → Int → Bool → Int → Bool → Int → Str → Str → Int → Str → Int → (List api_Field) → Int → Bool → Int → Int → Option Bool) (x_a0 : Int) (s7 : Str) (r115 : Int × Bool × Int) (r118 : List Str) (i123 : Int) (i124 : Int) (l127 : List UInt8) (i128 : Int) (t129 : Bool) (i130 : Int) (t131 : Bool) (i132 : Int) (s133 : Str) (s134 : Str) (i135 : Int) (s136 : Str) (i137 : Int) (l140 : List api_Field) (i141 : Int) (t142 : Bool) (i143 : Int) (i144 : Int) (t147 : Bool) : Option Bool :=
  if t147 then ((lAt r118 i144).bind fun x151 =>
  (zy ((⟨i123, i124, l127, i128, t129, i130, t131, (⟨i132, s133, s134, i135, s136, i137, l140⟩ : api_Head)⟩ : accum_Accum)) x151).bind fun r154 =>
  (zaO i141 r154.1).bind fun i161 =>
  (zaO i144 1).bind fun i163 =>
  rec10 r154.2.2.2.f_kind r154.2.2.2.f_limit r154.2.2.2.f_buf r154.2.2.2.f_from r154.2.2.2.f_took r154.2.2.2.f_bad r154.2.2.2.f_whole r154.2.2.2.f_got.Kind r154.2.2.2.f_got.Method r154.2.2.2.f_got.Target r154.2.2.2.f_got.Code r154.2.2.2.f_got.Reason r154.2.2.2.f_got.Minor r154.2.2.2.f_got.Fields i161 r154.2.1 r154.2.2.1 i163) else (zcD x_a0 s7 r115 i141 t142 i143 i123 i124 l127 i128 t129 i130 t131 i132 s133 s134 i135 s136 i137 l140)

def zZ (x_a0 : Int) (s7 : Str) (r115 : Int × Bool × Int) (r118 : List Str) : Nat → Int → Int → (List UInt8) → Int → Bool → Int → Bool → Int → Str → Str → Int → Str → Int → (List api_Field) → Int → Bool → Int → Int → Option Bool
  | 0, _, _, _, _, _, _, _, _, _, _, _, _, _, _, _, _, _, _ => none
  | n + 1, i123, i124, l127, i128, t129, i130, t131, i132, s133, s134, i135, s136, i137, l140, i141, t142, i143, i144 =>
  if (decide (i144 < (r118.length : Int))) then (if (!t142) then (zba (zZ x_a0 s7 r115 r118 n) x_a0 s7 r115 r118 i123 i124 l127 i128 t129 i130 t131 i132 s133 s134 i135 s136 i137 l140 i141 t142 i143 i144 (i143 == 0)) else (zba (zZ x_a0 s7 r115 r118 n) x_a0 s7 r115 r118 i123 i124 l127 i128 t129 i130 t131 i132 s133 s134 i135 s136 i137 l140 i141 t142 i143 i144 false)) else (zba (zZ x_a0 s7 r115 r118 n) x_a0 s7 r115 r118 i123 i124 l127 i128 t129 i130 t131 i132 s133 s134 i135 s136 i137 l140 i141 t142 i143 i144 false)

def zb7 (x_a0 : Int) (x_a2 : List UInt8) (s7 : Str) (i17 : Int) (i91 : Int) (i92 : Int) (i93 : Int) (l96 : List UInt8) (i97 : Int) (t98 : Bool) (i99 : Int) (t100 : Bool) (i101 : Int) (s102 : Str) (s103 : Str) (i104 : Int) (s105 : Str) (i106 : Int) (l109 : List api_Field) (t111 : Bool) : Option Bool :=
  if t111 then (some (i17 == i91)) else ((zaB s7).bind fun r115 =>
  (zc8 s7 x_a2).bind fun r118 =>
  zZ x_a0 s7 r115 r118 fuel i92 i93 l96 i97 t98 i99 t100 i101 s102 s103 i104 s105 i106 l109 0 false 0 0)

def zcZ (x_a0 : Int) (x_a2 : List UInt8) (s7 : Str) (i17 : Int) (i91 : Int) (i92 : Int) (i93 : Int) (l96 : List UInt8) (i97 : Int) (t98 : Bool) (i99 : Int) (t100 : Bool) (i101 : Int) (s102 : Str) (s103 : Str) (i104 : Int) (s105 : Str) (i106 : Int) (l109 : List api_Field) : Option Bool :=
  if (!(i17 == 0)) then (zb7 x_a0 x_a2 s7 i17 i91 i92 i93 l96 i97 t98 i99 t100 i101 s102 s103 i104 s105 i106 l109 true) else (zb7 x_a0 x_a2 s7 i17 i91 i92 i93 l96 i97 t98 i99 t100 i101 s102 s103 i104 s105 i106 l109 (!(i91 == 0)))

def zbA (x_a0 : Int) (x_a2 : List UInt8) (s7 : Str) (i17 : Int) : Option Bool :=
  (zc3 x_a0 2000).bind fun r18 =>
  zjN r18.1 (zcY x_a0 x_a2 s7 i17 r18.2) (fun x20 => zcZ x_a0 x_a2 s7 i17 r18.2 x20.f_kind x20.f_limit x20.f_buf x20.f_from x20.f_took x20.f_bad x20.f_whole x20.f_got.Kind x20.f_got.Method x20.f_got.Target x20.f_got.Code x20.f_got.Reason x20.f_got.Minor x20.f_got.Fields)

def zbb (t312 : Bool) : Option Bool :=
  some t312

def zM (x_a0 : Int) (s7 : Str) (r250 : Int × Bool × Int × accum_Accum) (r282 : api_Head × Bool) (t299 : Bool) : Option Bool :=
  if t299 then (some false) else ((sTo s7 r250.1).bind fun s303 =>
  (zb4 x_a0 s303 2000).bind fun r304 =>
  if (!r250.2.1) then (zbb true) else (if (r304.2 == 0) then ((za2 r304.1 r282.1).bind fun r311 =>
  zbb r311) else (zbb false)))

def zbc (rec18 : Int → Bool → Int → Int → Option Bool) (x_a0 : Int) (s7 : Str) (r250 : Int × Bool × Int × accum_Accum) (r258 : List Str) (i263 : Int) (t264 : Bool) (i265 : Int) (i266 : Int) (t269 : Bool) : Option Bool :=
  if t269 then ((lAt r258 i266).bind fun x273 =>
  (zaB x273).bind fun r276 =>
  (zaO i263 r276.1).bind fun i278 =>
  (zaO i266 1).bind fun i280 =>
  rec18 i278 r276.2.1 r276.2.2 i280) else ((zN r250.2.2.2).bind fun r282 =>
  (zaC).bind fun r287 =>
  if (!(r250.1 == i263)) then (zM x_a0 s7 r250 r282 true) else (if (!(r250.2.1 == t264)) then (zM x_a0 s7 r250 r282 true) else (if (!(r250.2.2.1 == i265)) then (zM x_a0 s7 r250 r282 true) else (if (!(r282.2 == r287.2)) then (zM x_a0 s7 r250 r282 true) else ((za2 r282.1 r287.1).bind fun r296 =>
  if (!r296) then (zM x_a0 s7 r250 r282 true) else (if r250.2.1 then (zM x_a0 s7 r250 r282 (!(r250.2.2.1 == 0))) else (zM x_a0 s7 r250 r282 false)))))))

def z6 (x_a0 : Int) (s7 : Str) (r250 : Int × Bool × Int × accum_Accum) (r258 : List Str) : Nat → Int → Bool → Int → Int → Option Bool
  | 0, _, _, _, _ => none
  | n + 1, i263, t264, i265, i266 =>
  if (decide (i266 < (r258.length : Int))) then (if (!t264) then (zbc (z6 x_a0 s7 r250 r258 n) x_a0 s7 r250 r258 i263 t264 i265 i266 (i265 == 0)) else (zbc (z6 x_a0 s7 r250 r258 n) x_a0 s7 r250 r258 i263 t264 i265 i266 false)) else (zbc (z6 x_a0 s7 r250 r258 n) x_a0 s7 r250 r258 i263 t264 i265 i266 false)

def zbT (x_a0 : Int) (x_a2 : List UInt8) (s7 : Str) (i217 : Int) (i218 : Int) (i219 : Int) (l222 : List UInt8) (i223 : Int) (t224 : Bool) (i225 : Int) (t226 : Bool) (i227 : Int) (s228 : Str) (s229 : Str) (i230 : Int) (s231 : Str) (i232 : Int) (l235 : List api_Field) (i244 : Int) (t246 : Bool) : Option Bool :=
  if t246 then (some (i217 == i244)) else ((zy ((⟨i218, i219, l222, i223, t224, i225, t226, (⟨i227, s228, s229, i230, s231, i232, l235⟩ : api_Head)⟩ : accum_Accum)) s7).bind fun r250 =>
  (zc8 s7 x_a2).bind fun r258 =>
  z6 x_a0 s7 r250 r258 fuel 0 false 0 0)

def zcE (x_a0 : Int) (x_a2 : List UInt8) (s7 : Str) (i217 : Int) (i218 : Int) (i219 : Int) (l222 : List UInt8) (i223 : Int) (t224 : Bool) (i225 : Int) (t226 : Bool) (i227 : Int) (s228 : Str) (s229 : Str) (i230 : Int) (s231 : Str) (i232 : Int) (l235 : List api_Field) (i244 : Int) : Option Bool :=
  if (!(i217 == 0)) then (zbT x_a0 x_a2 s7 i217 i218 i219 l222 i223 t224 i225 t226 i227 s228 s229 i230 s231 i232 l235 i244 true) else (zbT x_a0 x_a2 s7 i217 i218 i219 l222 i223 t224 i225 t226 i227 s228 s229 i230 s231 i232 l235 i244 (!(i244 == 0)))

def zaD (t443 : Bool) : Option Bool :=
  some t443

def zD (x_a0 : Int) (s7 : Str) (r338 : Int × Bool × Int × accum_Accum) (r413 : api_Head × Bool) (t430 : Bool) : Option Bool :=
  if t430 then (some false) else ((sTo s7 r338.1).bind fun s434 =>
  (zb4 x_a0 s434 2000).bind fun r435 =>
  if (!r338.2.1) then (zaD true) else (if (r435.2 == 0) then ((za2 r435.1 r413.1).bind fun r442 =>
  zaD r442) else (zaD false)))

def zbd (x_a0 : Int) (s7 : Str) (r338 : Int × Bool × Int × accum_Accum) (i392 : Int) (t393 : Bool) (i394 : Int) (i395 : Int) (i396 : Int) (l399 : List UInt8) (i400 : Int) (t401 : Bool) (i402 : Int) (t403 : Bool) (i404 : Int) (s405 : Str) (s406 : Str) (i407 : Int) (s408 : Str) (i409 : Int) (l412 : List api_Field) : Option Bool :=
  (zN r338.2.2.2).bind fun r413 =>
  (zN ((⟨i395, i396, l399, i400, t401, i402, t403, (⟨i404, s405, s406, i407, s408, i409, l412⟩ : api_Head)⟩ : accum_Accum))).bind fun r418 =>
  if (!(r338.1 == i392)) then (zD x_a0 s7 r338 r413 true) else (if (!(r338.2.1 == t393)) then (zD x_a0 s7 r338 r413 true) else (if (!(r338.2.2.1 == i394)) then (zD x_a0 s7 r338 r413 true) else (if (!(r413.2 == r418.2)) then (zD x_a0 s7 r338 r413 true) else ((za2 r413.1 r418.1).bind fun r427 =>
  if (!r427) then (zD x_a0 s7 r338 r413 true) else (if r338.2.1 then (zD x_a0 s7 r338 r413 (!(r338.2.2.1 == 0))) else (zD x_a0 s7 r338 r413 false))))))

def z7 (rec24 : Int → Int → (List UInt8) → Int → Bool → Int → Bool → Int → Str → Str → Int → Str → Int → (List api_Field) → Int → Bool → Int → Int → Option Bool) (x_a0 : Int) (s7 : Str) (r338 : Int × Bool × Int × accum_Accum) (r346 : List Str) (i351 : Int) (i352 : Int) (l355 : List UInt8) (i356 : Int) (t357 : Bool) (i358 : Int) (t359 : Bool) (i360 : Int) (s361 : Str) (s362 : Str) (i363 : Int) (s364 : Str) (i365 : Int) (l368 : List api_Field) (i369 : Int) (t370 : Bool) (i371 : Int) (i372 : Int) (t375 : Bool) : Option Bool :=
  if t375 then ((lAt r346 i372).bind fun x379 =>
  (zy ((⟨i351, i352, l355, i356, t357, i358, t359, (⟨i360, s361, s362, i363, s364, i365, l368⟩ : api_Head)⟩ : accum_Accum)) x379).bind fun r382 =>
  (zaO i369 r382.1).bind fun i389 =>
  (zaO i372 1).bind fun i391 =>
  rec24 r382.2.2.2.f_kind r382.2.2.2.f_limit r382.2.2.2.f_buf r382.2.2.2.f_from r382.2.2.2.f_took r382.2.2.2.f_bad r382.2.2.2.f_whole r382.2.2.2.f_got.Kind r382.2.2.2.f_got.Method r382.2.2.2.f_got.Target r382.2.2.2.f_got.Code r382.2.2.2.f_got.Reason r382.2.2.2.f_got.Minor r382.2.2.2.f_got.Fields i389 r382.2.1 r382.2.2.1 i391) else (zbd x_a0 s7 r338 i369 t370 i371 i351 i352 l355 i356 t357 i358 t359 i360 s361 s362 i363 s364 i365 l368)

def zr (x_a0 : Int) (s7 : Str) (r338 : Int × Bool × Int × accum_Accum) (r346 : List Str) : Nat → Int → Int → (List UInt8) → Int → Bool → Int → Bool → Int → Str → Str → Int → Str → Int → (List api_Field) → Int → Bool → Int → Int → Option Bool
  | 0, _, _, _, _, _, _, _, _, _, _, _, _, _, _, _, _, _, _ => none
  | n + 1, i351, i352, l355, i356, t357, i358, t359, i360, s361, s362, i363, s364, i365, l368, i369, t370, i371, i372 =>
  if (decide (i372 < (r346.length : Int))) then (if (!t370) then (z7 (zr x_a0 s7 r338 r346 n) x_a0 s7 r338 r346 i351 i352 l355 i356 t357 i358 t359 i360 s361 s362 i363 s364 i365 l368 i369 t370 i371 i372 (i371 == 0)) else (z7 (zr x_a0 s7 r338 r346 n) x_a0 s7 r338 r346 i351 i352 l355 i356 t357 i358 t359 i360 s361 s362 i363 s364 i365 l368 i369 t370 i371 i372 false)) else (z7 (zr x_a0 s7 r338 r346 n) x_a0 s7 r338 r346 i351 i352 l355 i356 t357 i358 t359 i360 s361 s362 i363 s364 i365 l368 i369 t370 i371 i372 false)

def zbe (x_a0 : Int) (x_a2 : List UInt8) (s7 : Str) (i217 : Int) (i218 : Int) (i219 : Int) (l222 : List UInt8) (i223 : Int) (t224 : Bool) (i225 : Int) (t226 : Bool) (i227 : Int) (s228 : Str) (s229 : Str) (i230 : Int) (s231 : Str) (i232 : Int) (l235 : List api_Field) (i314 : Int) (i315 : Int) (i316 : Int) (l319 : List UInt8) (i320 : Int) (t321 : Bool) (i322 : Int) (t323 : Bool) (i324 : Int) (s325 : Str) (s326 : Str) (i327 : Int) (s328 : Str) (i329 : Int) (l332 : List api_Field) (t334 : Bool) : Option Bool :=
  if t334 then (some (i217 == i314)) else ((zy ((⟨i218, i219, l222, i223, t224, i225, t226, (⟨i227, s228, s229, i230, s231, i232, l235⟩ : api_Head)⟩ : accum_Accum)) s7).bind fun r338 =>
  (zc8 s7 x_a2).bind fun r346 =>
  zr x_a0 s7 r338 r346 fuel i315 i316 l319 i320 t321 i322 t323 i324 s325 s326 i327 s328 i329 l332 0 false 0 0)

def zbf (x_a0 : Int) (x_a2 : List UInt8) (s7 : Str) (i217 : Int) (i218 : Int) (i219 : Int) (l222 : List UInt8) (i223 : Int) (t224 : Bool) (i225 : Int) (t226 : Bool) (i227 : Int) (s228 : Str) (s229 : Str) (i230 : Int) (s231 : Str) (i232 : Int) (l235 : List api_Field) (i314 : Int) (i315 : Int) (i316 : Int) (l319 : List UInt8) (i320 : Int) (t321 : Bool) (i322 : Int) (t323 : Bool) (i324 : Int) (s325 : Str) (s326 : Str) (i327 : Int) (s328 : Str) (i329 : Int) (l332 : List api_Field) : Option Bool :=
  if (!(i217 == 0)) then (zbe x_a0 x_a2 s7 i217 i218 i219 l222 i223 t224 i225 t226 i227 s228 s229 i230 s231 i232 l235 i314 i315 i316 l319 i320 t321 i322 t323 i324 s325 s326 i327 s328 i329 l332 true) else (zbe x_a0 x_a2 s7 i217 i218 i219 l222 i223 t224 i225 t226 i227 s228 s229 i230 s231 i232 l235 i314 i315 i316 l319 i320 t321 i322 t323 i324 s325 s326 i327 s328 i329 l332 (!(i314 == 0)))

def zbg (x_a0 : Int) (x_a2 : List UInt8) (s7 : Str) (i217 : Int) (i218 : Int) (i219 : Int) (l222 : List UInt8) (i223 : Int) (t224 : Bool) (i225 : Int) (t226 : Bool) (i227 : Int) (s228 : Str) (s229 : Str) (i230 : Int) (s231 : Str) (i232 : Int) (l235 : List api_Field) : Option Bool :=
  (zc3 x_a0 2000).bind fun r236 =>
  zjN r236.1 (zcE x_a0 x_a2 s7 i217 i218 i219 l222 i223 t224 i225 t226 i227 s228 s229 i230 s231 i232 l235 r236.2) (fun x238 => zbf x_a0 x_a2 s7 i217 i218 i219 l222 i223 t224 i225 t226 i227 s228 s229 i230 s231 i232 l235 r236.2 x238.f_kind x238.f_limit x238.f_buf x238.f_from x238.f_took x238.f_bad x238.f_whole x238.f_got.Kind x238.f_got.Method x238.f_got.Target x238.f_got.Code x238.f_got.Reason x238.f_got.Minor x238.f_got.Fields)

def zcU (x_a0 : Int) (x_a1 : Str) (x_a2 : List UInt8) : Option Bool :=
  (zeB).bind fun r2 =>
  if (!r2) then (some false) else ((sTo x_a1 (min (x_a1.length : Int) 3000)).bind fun s7 =>
  (zc3 x_a0 2000).bind fun r9 =>
  zjN r9.1 (zbA x_a0 x_a2 s7 r9.2) (fun x11 => zbg x_a0 x_a2 s7 r9.2 x11.f_kind x11.f_limit x11.f_buf x11.f_from x11.f_took x11.f_bad x11.f_whole x11.f_got.Kind x11.f_got.Method x11.f_got.Target x11.f_got.Code x11.f_got.Reason x11.f_got.Minor x11.f_got.Fields))

end Go.Dm
end
section
namespace Go.Dm
theorem zhQ (b : Bool) (v : Int) (k : Nat) (h : -1 ≤ v) : (if b = true then (k : Int) else if v = -1 then -1 else v + ((k + 1 : Nat) : Int)) =
    if (if b = true then 0 else if (v == -1) = true then -1 else v + 1) = -1 then -1 else (if b = true then 0 else if (v == -1) = true then -1 else v + 1) + (k : Int) := by
  cases b with
  | true => simp
  | false =>
    by_cases hm : v = -1
    · subst hm; simp
    · have h2 : ¬ (v + 1 = -1) := by omega
      have h3 : (v == -1) = false := beq_eq_false_iff_ne.2 hm
      rw [h3]
      simp only [Bool.false_eq_true, if_false, if_neg hm, if_neg h2]
      omega
theorem zhm : ∀ (l : Str) (c : UInt8) (k : Nat), zdZ l c k = if Go.Lib.indexByte l c = -1 then -1 else Go.Lib.indexByte l c + k
  | [], _, _ => rfl
  | x :: l, c, k => by
    rw [zdZ, Go.Lib.indexByte, zhm l c (k + 1)]
    exact zhQ _ _ k (Go.Lib.indexByte_ge l c)
theorem zmq (x y : UInt8) : (x == y) = (y == x) := by
  by_cases h : x = y
  · subst h; rfl
  · rw [beq_eq_false_iff_ne.2 h, beq_eq_false_iff_ne.2 (Ne.symm h)]
theorem zhR : ∀ (s t : Str), zgp s t = t.isPrefixOf s
  | s, [] => by cases s <;> rfl
  | [], y :: t => rfl
  | x :: s, y :: t => by
    rw [zgp, List.isPrefixOf, zhR s t, zmq x y]
theorem zhS : ∀ (l t : Str) (k : Nat), zec l t k = if Go.Lib.index l t = -1 then -1 else Go.Lib.index l t + k
  | [], t, k => by
    rw [zec, Go.Lib.index]
    cases t <;> simp [zgp]
  | x :: l, t, k => by
    rw [zec, Go.Lib.index, zhR]
    simp only [zhS l t (k + 1)]
    exact zhQ _ _ k (Go.Lib.index_ge l t)
theorem zhT : ∀ (l cs : Str) (k : Nat), zfJ l cs k = if Go.Lib.indexAny l cs = -1 then -1 else Go.Lib.indexAny l cs + k
  | [], _, _ => rfl
  | x :: l, cs, k => by
    rw [zfJ, Go.Lib.indexAny, zhT l cs (k + 1)]
    exact zhQ _ _ k (Go.Lib.indexAny_ge cs l)
theorem zj9 (l : Str) (c : UInt8) : zdZ l c 0 = Go.Lib.indexByte l c := by
  rw [zhm]; have := Go.Lib.indexByte_ge l c; split <;> omega
theorem zhU (l t : Str) : zec l t 0 = Go.Lib.index l t := by
  rw [zhS]; have := Go.Lib.index_ge l t; split <;> omega
theorem zkN (l cs : Str) : zfJ l cs 0 = Go.Lib.indexAny l cs := by
  rw [zhT]; have := Go.Lib.indexAny_ge cs l; split <;> omega
end Go.Dm
end
section
namespace Go.Dm
@[simp] theorem zeG (l : Str) (i : Nat) : sAt l (i : Int) = l[i]? := by simp [sAt]
@[simp] theorem zmH (l : Str) : sAt l 0 = l[0]? := by simp [sAt]
@[simp] theorem sAt_one (l : Str) : sAt l 1 = l[1]? := by simp [sAt]
@[simp] theorem sAt_two (l : Str) : sAt l 2 = l[2]? := by simp [sAt]
@[simp] theorem zdH {α : Type} (l : List α) (i : Nat) : lAt l (i : Int) = l[i]? := by simp [lAt]
@[simp] theorem zmI {α : Type} (l : List α) : lAt l 0 = l[0]? := by simp [lAt]
theorem zcV {m n : Int} (h1 : -9223372036854775808 ≤ m + n) (h2 : m + n ≤ 9223372036854775807) : zaO m n = some (m + n) := by simp [zaO, inI, h1, h2]
theorem zd2 {m n : Int} (h1 : -9223372036854775808 ≤ m - n) (h2 : m - n ≤ 9223372036854775807) : zdX m n = some (m - n) := by simp [zdX, inI, h1, h2]
theorem znR {m n : Int} (h1 : -9223372036854775808 ≤ m * n) (h2 : m * n ≤ 9223372036854775807) : zkP m n = some (m * n) := by simp [zkP, inI, h1, h2]
theorem zax {i : Nat} (h : i < 4611686018427387904) : zaO (i : Int) 1 = some ((i + 1 : Nat) : Int) := by
  rw [zcV (by omega) (by omega)]; simp
theorem zmJ {i k : Nat} (h : i + k < 4611686018427387904) : zaO (i : Int) (k : Int) = some ((i + k : Nat) : Int) := by
  rw [zcV (by omega) (by omega)]; simp
theorem zfd {l : Str} {h : Nat} (hh : h ≤ l.length) : sTo l (h : Int) = some (l.take h) := by simp [sTo, hh]
theorem zc9 {l : Str} {i : Nat} (hh : i ≤ l.length) : zd7 l (i : Int) = some (l.drop i) := by simp [zd7, hh]
theorem zem {l : Str} {i h : Nat} (h1 : i ≤ h) (h2 : h ≤ l.length) : zf1 l (i : Int) (h : Int) = some ((l.take h).drop i) := by simp [zf1, h1, h2]
theorem znS {l m : Str} (h : l.length + m.length ≤ 9223372036854775807) : sCat l m = some (l ++ m) := by simp [sCat, h]
theorem zlp {n : Nat} (h : n < 1000000000000000000) : n < fuel := h

theorem zjn {α β : Type} (l : List α) (L : Nat → Int → Option β) (F : α → Option β → Option β) (E : Option β)
    (hE : ∀ n, L (n + 1) (l.length : Int) = E) (hL : ∀ n (i : Nat) x, i < l.length → l[i]? = some x → L (n + 1) (i : Int) = F x (L n ((i + 1 : Nat) : Int))) :
    ∀ (n i : Nat), i ≤ l.length → l.length - i < n → L n (i : Int) = (l.drop i).foldr F E
  | 0, _, _, h => by omega
  | n + 1, i, hi, h => by
    by_cases hlt : i < l.length
    · rw [hL n i _ hlt (List.getElem?_eq_getElem hlt), zjn l L F E hE hL n (i + 1) (by omega) (by omega), List.drop_eq_getElem_cons hlt]
      rfl
    · have : i = l.length := by omega
      subst this
      rw [hE, List.drop_length]
      rfl
theorem zio {α β : Type} (l : List α) (L : Nat → Int → Option β) (F : α → Option β → Option β) (E : Option β) (hl : l.length < 1000000000000000000)
    (hE : ∀ n, L (n + 1) (l.length : Int) = E) (hL : ∀ n (i : Nat) x, i < l.length → l[i]? = some x → L (n + 1) (i : Int) = F x (L n ((i + 1 : Nat) : Int))) : L fuel 0 = l.foldr F E := by
  have := zjn l L F E hE hL fuel 0 (Nat.zero_le _) (zlp (by omega))
  simpa using this
theorem zfe {n m b : Nat} (h : (n + m) * b ≤ 140737488355328) (h2 : n + m ≤ 140737488355328) : zb2 n m b = true := by
  simp only [zb2, Bool.and_eq_true, decide_eq_true_eq]; exact ⟨by omega, h⟩

theorem zbq (p : UInt8 → Bool) (h : (List.range 256).all (fun n => p (UInt8.ofNat n)) = true) (b : UInt8) : p b = true := by
  have := List.all_eq_true.1 h b.toNat (by simpa using b.toNat_lt)
  simpa using this
theorem zlT {α : Type} (p : α → Bool) (l : List α) : l.foldr (fun x r => if p x = true then r else some false) (some true) = some (l.all p) := by
  induction l with
  | nil => rfl
  | cons x l ih => simp only [List.foldr_cons, ih, List.all_cons]; cases p x <;> simp
theorem znT (s : Str) (k : Nat) : sTo s (min (s.length : Int) (k : Int)) = some (s.take k) := by
  have e : min (s.length : Int) (k : Int) = ((min s.length k : Nat) : Int) := by omega
  rw [e, zfd (Nat.min_le_left _ _)]
  congr 1
  rcases Nat.le_total s.length k with h | h
  · rw [Nat.min_eq_left h, List.take_length, List.take_of_length_le h]
  · rw [Nat.min_eq_right h]
end Go.Dm
end
section
namespace Go.Dm
def zbl (b : UInt8) : Bool := decide (48 ≤ b) && decide (b ≤ 57)
def zfL (b : UInt8) : UInt8 := if 65 ≤ b ∧ b ≤ 90 then b + 32 else b
def zmG (b : UInt8) : Bool := decide (97 ≤ zfL b) && decide (zfL b ≤ 122)
def zfc (b : UInt8) : Bool := zbl b || decide (97 ≤ zfL b) && decide (zfL b ≤ 102)
def zgq (b : UInt8) : Bool := zmG b || zbl b || ([45, 46, 95, 126] : Str).contains b
def zkY (b : UInt8) : Bool := ([33, 36, 38, 39, 40, 41, 42, 43, 44, 59, 61] : Str).contains b
def zjl (b : UInt8) : Bool := zgq b || zkY b || b == 58 || b == 64

theorem zkZ (l : Str) (c : UInt8) (k : Nat) : decide (0 ≤ zdZ l c k) = l.contains c := by
  induction l generalizing k with
  | nil => simp [zdZ]
  | cons x l ih =>
    simp only [zdZ, List.contains_cons]
    by_cases h : x = c
    · simp [h]
    · have h' : (c == x) = false := by simp; exact fun e => h e.symm
      simp [h, h', ih]
theorem zil (b : UInt8) : zaj b = some (zfL b) :=
  of_decide_eq_true (zbq (fun b => decide (zaj b = some (zfL b))) (by decide +kernel) b)
theorem zdB (b : UInt8) : zI b = some (zbl b) :=
  of_decide_eq_true (zbq (fun b => decide (zI b = some (zbl b))) (by decide +kernel) b)
theorem zel (b : UInt8) : zbm b = some (zfc b) :=
  of_decide_eq_true (zbq (fun b => decide (zbm b = some (zfc b))) (by decide +kernel) b)
theorem zhw (b : UInt8) : zdk b = some (zjl b) :=
  of_decide_eq_true (zbq (fun b => decide (zdk b = some (zjl b))) (by decide +kernel) b)
theorem zci {p : UInt8 → Bool} {f : UInt8 → Option Bool} (hf : ∀ b, f b = some (p b)) (s : Str) (hs : s.length < 1000000000) : zcf f [s] = some (s.all p) := by
  unfold zcf
  have h2 : ∀ (rec1 : Int → Option Bool) (i : Int), zbj rec1 f i s fuel 0 = s.foldr (fun x r => if p x = true then r else some false) ((zaO i 1).bind rec1) := by
    intro rec1 i
    refine zio s (zbj rec1 f i s) _ _ (by omega) ?_ ?_
    · intro n; rw [zbj]; simp only [Int.lt_irrefl, decide_false, Bool.false_eq_true, if_false]
    · intro n k x hk hx
      rw [zbj]
      simp only [Int.ofNat_lt, hk, decide_true, if_true, zeG, hx, Option.bind_some, hf, zax (show k < 4611686018427387904 by omega)]
      cases p x <;> rfl
  rw [zio [s] (zbk f [s]) (fun x r => x.foldr (fun x r => if p x = true then r else some false) r) (some true) (by simp)]
  · simp only [List.foldr_cons, List.foldr_nil]
    exact zlT p s
  · intro n; rw [zbk]; simp only [Int.lt_irrefl, decide_false, Bool.false_eq_true, if_false]
  · intro n i x hi hx
    have hi0 : i = 0 := by simp at hi; exact hi
    subst hi0
    simp at hx; subst hx
    rw [zbk]
    simp [h2, zcV]
def zbh (b : UInt8) : Bool := zmG b || zbl b || ([33, 35, 36, 37, 38, 39, 42, 43, 45, 46, 94, 95, 96, 124, 126] : Str).contains b
def zk0 (b : UInt8) : Bool := decide (32 ≤ b) && !(b == 127) || b == 9
theorem zg8 (b : UInt8) : zce b = some (zbh b) :=
  of_decide_eq_true (zbq (fun b => decide (zce b = some (zbh b))) (by decide +kernel) b)
theorem zeX (b : UInt8) : zbn b = some (zk0 b) :=
  of_decide_eq_true (zbq (fun b => decide (zbn b = some (zk0 b))) (by decide +kernel) b)
theorem zfw (b : UInt8) : zaL b = some (zgq b) :=
  of_decide_eq_true (zbq (fun b => decide (zaL b = some (zgq b))) (by decide +kernel) b)
theorem zim (b : UInt8) : zc4 b = some (zkY b) :=
  of_decide_eq_true (zbq (fun b => decide (zc4 b = some (zkY b))) (by decide +kernel) b)
def zjm (s : Str) : Bool := s.all zbh && !(s == [])
end Go.Dm
end
section
namespace Go.Dm
def zeu (b : Nat) (l : List Nat) : Nat := l.foldl (fun n d => n * b + d) 0
theorem zl3 (b : Nat) (l : List Nat) : ∀ n, l.foldl (fun n d => n * b + d) n = n * b ^ l.length + zeu b l := by
  unfold zeu
  induction l with
  | nil => intro n; simp
  | cons x l ih =>
    intro n
    rw [List.foldl_cons, ih, List.foldl_cons, ih (0 * b + x), List.length_cons, Nat.pow_succ, Nat.add_mul, Nat.zero_mul, Nat.zero_add, Nat.mul_assoc, Nat.mul_comm b, Nat.add_assoc]
theorem zl4 (b x : Nat) (l : List Nat) : zeu b (l ++ [x]) = zeu b l * b + x := by
  unfold zeu; rw [List.foldl_append]; rfl
def zgg (b : Nat) : Nat → Nat → List Nat
  | 0, n => [n % b]
  | k + 1, n => if n < b then [n] else zgg b k (n / b) ++ [n % b]
def zk8 (b n : Nat) : List Nat := zgg b 70 n
theorem ziB {b n k : Nat} (hb : 2 ≤ b) (h : n < 2 ^ (k + 1)) : n / b < 2 ^ k := by
  rw [Nat.div_lt_iff_lt_mul (by omega)]
  calc n < 2 ^ (k + 1) := h
    _ = 2 ^ k * 2 := Nat.pow_succ ..
    _ ≤ 2 ^ k * b := Nat.mul_le_mul_left _ hb
theorem zgu {b : Nat} (hb : 2 ≤ b) : ∀ (k m n : Nat), k ≤ m → n < 2 ^ (k + 1) → zgg b m n = zgg b k n
  | 0, 0, n, _, _ => rfl
  | 0, m + 1, n, _, h => by
    have hn : n < b := by have : n < 2 := by simpa using h
                          omega
    show zgg b (m + 1) n = [n % b]
    rw [zgg, if_pos hn, Nat.mod_eq_of_lt hn]
  | k + 1, 0, n, h, _ => by omega
  | k + 1, m + 1, n, hm, h => by
    rw [zgg, zgg]
    split
    · rfl
    · rw [zgu hb k m (n / b) (by omega) (ziB hb h)]
theorem zl5 {b n : Nat} (hb : 2 ≤ b) (hn : b ≤ n) (h : n < 2 ^ 64) : zk8 b n = zk8 b (n / b) ++ [n % b] := by
  have h1 := zgu hb 64 70 n (by decide) (Nat.lt_of_lt_of_le h (Nat.pow_le_pow_right (by decide) (by decide)))
  have h2 := zgu hb 63 70 (n / b) (by decide) (ziB hb (Nat.lt_of_lt_of_le h (Nat.pow_le_pow_right (by decide) (by decide))))
  unfold zk8
  rw [h1, h2, zgg, if_neg (by omega)]
theorem zk9 {b n : Nat} (hn : n < b) : zk8 b n = [n] := by unfold zk8; rw [zgg, if_pos hn]
theorem zm9 {b : Nat} (hb : 2 ≤ b) {P : Nat → Prop} (h0 : ∀ n, n < b → P n) (h1 : ∀ n, b ≤ n → n < 2 ^ 64 → P (n / b) → P n) : ∀ n, n < 2 ^ 64 → P n := by
  intro n
  induction n using Nat.strongRecOn with
  | _ n ih =>
    intro hn
    by_cases h : n < b
    · exact h0 n h
    · have : n / b < n := Nat.div_lt_self (by omega) (by omega)
      exact h1 n (by omega) hn (ih _ this (by omega))
def dch (d : Nat) : UInt8 := if d < 10 then UInt8.ofNat (48 + d) else UInt8.ofNat (87 + d)
def zx (l : List Nat) : Str := l.map dch
def wor (c : UInt8) : Nat := if zbl c then (c - 48).toNat else (zfL c - 97).toNat + 10
def zky (b : Nat) (c : UInt8) : Bool := if b = 10 then zbl c else zfc c
theorem zhe (b : UInt8) : zcJ b = some (wor b : Int) :=
  of_decide_eq_true (zbq (fun b => decide (zcJ b = some (wor b : Int))) (by decide +kernel) b)
theorem zna (c : UInt8) : (zbl c = true → wor c < 10) ∧ (zfc c = true → wor c < 16) :=
  of_decide_eq_true (zbq (fun c => decide ((zbl c = true → wor c < 10) ∧ (zfc c = true → wor c < 16))) (by decide +kernel) c)
def ziC (b : Nat) : Prop := b = 10 ∨ b = 16
theorem ziC.two {b : Nat} (h : ziC b) : 2 ≤ b ∧ b ≤ 16 := by rcases h with rfl | rfl <;> omega
theorem znb {b : Nat} (hb : ziC b) {c : UInt8} (h : zky b c = true) : wor c < b := by
  rcases hb with rfl | rfl
  · exact (zna c).1 h
  · exact (zna c).2 h
def znc (b : Nat) (n : Int) : Str := if n < 0 then [] else zx (zk8 b n.toNat)
theorem dec_eq : ∀ n, n < 2 ^ 64 → Go.Lib.decDigits n = zx (zk8 10 n) :=
  zm9 (b := 10) (by decide) (fun n h => by rw [Go.Lib.decDigits, dif_pos h, zk9 h]; simp [zx, dch, h]) fun n h hn ih => by
    rw [Go.Lib.decDigits, dif_neg (by omega), ih, zl5 (by decide) h hn]
    have : n % 10 < 10 := Nat.mod_lt _ (by decide)
    simp [zx, dch, this]
theorem zhz (n : Int) (hn : inI n = true) : zdj n = some (znc 10 n) := by
  obtain ⟨h1, h2⟩ := zfV.1 hn
  unfold zdj zd0 znc
  by_cases h : n < 0
  · simp [h]
  · obtain ⟨k, rfl⟩ : ∃ k : Nat, n = k := ⟨n.toNat, by omega⟩
    have hk : ¬ ((k : Int) < 0) := by omega
    simp [hk, zcl, hn, Go.Lib.itoa, dec_eq k (by omega)]
def vals (s : Str) : List Nat := s.map wor
def zdQ (b : Nat) (s : Str) (most : Int) : Int × Int :=
  if (s == [] || !s.all (zky b)) = true then (0, 2) else if most < (zeu b (vals s) : Int) then (0, 7) else (((zeu b (vals s) : Nat) : Int), 0)
theorem zl6 {b : Nat} (hb : 1 ≤ b) (l m : List Nat) : zeu b l ≤ zeu b (l ++ m) := by
  unfold zeu
  rw [List.foldl_append]
  generalize l.foldl (fun n d => n * b + d) 0 = n
  rw [zl3]
  have : 1 ≤ b ^ m.length := Nat.one_le_pow _ _ hb
  have := Nat.le_mul_of_pos_right n this
  omega
theorem zla {b : Nat} (hb : ziC b) (s : Str) (most : Int) (hs : s.length < 1000000000) (hd : s.all (zky b) = true) (hm : most < 4611686018427387904) (hm0 : -4611686018427387904 < most) (hne : s ≠ []) :
    zae s (b : Int) most fuel 0 0 = some (if most < (zeu b (vals s) : Int) then (0, 7) else (((zeu b (vals s) : Nat) : Int), 0)) := by
  obtain ⟨h2, h16⟩ := hb.two
  have key : ∀ (n i v : Nat), i ≤ s.length → s.length - i < n → v = zeu b (vals (s.take i)) → (i = 0 ∨ (v : Int) ≤ most) → (i < s.length ∨ (v : Int) ≤ most) →
      zae s (b : Int) most n (v : Int) (i : Int) = some (if most < (zeu b (vals s) : Int) then (0, 7) else (((zeu b (vals s) : Nat) : Int), 0)) := by
    intro n
    induction n with
    | zero => intro i v _ h; omega
    | succ n ih =>
      intro i v hi h hv h0 h1
      rw [zae]
      by_cases hlt : i < s.length
      · have hx : s[i]? = some s[i] := List.getElem?_eq_getElem hlt
        have hw : wor s[i] < b := znb hb (List.all_eq_true.1 hd _ (List.getElem_mem hlt))
        have htk : vals (s.take (i + 1)) = vals (s.take i) ++ [wor s[i]] := by
          unfold vals
          rw [List.take_succ_eq_append_getElem hlt, List.map_append]; rfl
        have hv' : zeu b (vals (s.take (i + 1))) = v * b + wor s[i] := by rw [htk, zl4, ← hv]
        have hle : zeu b (vals (s.take (i + 1))) ≤ zeu b (vals s) := by
          have := zl6 (b := b) (by omega) (vals (s.take (i + 1))) (vals (s.drop (i + 1)))
          unfold vals at this ⊢
          rwa [← List.map_append, List.take_append_drop] at this
        simp only [Int.ofNat_lt, hlt, decide_true, if_true, zeG, hx, Option.bind_some, zhe]
        by_cases hov : most < (wor s[i] : Int)
        · have : most < (zeu b (vals s) : Int) := by
            have := Nat.zero_le (v * b); omega
          simp [hov, zbF, this]
        · have hsub : zdX most (wor s[i] : Int) = some (most - (wor s[i] : Int)) := zd2 (by omega) (by omega)
          have hdv : iDiv (most - (wor s[i] : Int)) (b : Int) = some ((most - (wor s[i] : Int)) / (b : Int)) := by
            unfold iDiv
            have h5 : 0 ≤ (most - (wor s[i] : Int)) / (b : Int) := Int.ediv_nonneg (by omega) (by omega)
            have h6 : (most - (wor s[i] : Int)) / (b : Int) ≤ most - (wor s[i] : Int) := Int.ediv_le_self _ (by omega)
            rw [if_pos ⟨by omega, by omega, by rw [zfV]; omega⟩]
          have hiff : (most - (wor s[i] : Int)) / (b : Int) < (v : Int) ↔ most < ((v * b + wor s[i] : Nat) : Int) := by
            rw [Int.ediv_lt_iff_lt_mul (by omega)]
            push_cast
            omega
          simp only [hov, decide_false, Bool.false_eq_true, if_false, hsub, hdv, Option.bind_some, zbF]
          by_cases hov2 : (most - (wor s[i] : Int)) / (b : Int) < (v : Int)
          · have h7 : most < (zeu b (vals s) : Int) := by have := hiff.1 hov2; omega
            simp [hov2, h7]
          · have h7 : ((v * b + wor s[i] : Nat) : Int) ≤ most := by have := (not_congr hiff).1 hov2; omega
            have hmul : zkP (v : Int) (b : Int) = some ((v * b : Nat) : Int) := by
              rw [znR (by rw [← Int.natCast_mul]; omega) (by rw [← Int.natCast_mul]; omega), Int.natCast_mul]
            have hadd : zaO ((v * b : Nat) : Int) (wor s[i] : Int) = some ((v * b + wor s[i] : Nat) : Int) := by
              rw [zcV (by omega) (by omega)]; simp
            simp only [hov2, decide_false, Bool.false_eq_true, if_false, hmul, hadd, Option.bind_some, zax (show i < 4611686018427387904 by omega)]
            exact ih (i + 1) (v * b + wor s[i]) (by omega) (by omega) hv'.symm (.inr h7) (.inr h7)
      · have : i = s.length := by omega
        subst this
        rw [List.take_length] at hv
        have h8 : ¬ most < (zeu b (vals s) : Int) := by rw [← hv]; rcases h1 with h1 | h1 <;> omega
        simp [h8, hv]
  have := key fuel 0 0 (Nat.zero_le _) (by unfold fuel; omega) (by simp [vals, zeu]) (.inl rfl) (.inl (by cases s with | nil => exact absurd rfl hne | cons _ _ => simp))
  simpa using this
theorem zhA {b : Nat} (hb : ziC b) (s : Str) (most : Int) (hs : s.length < 1000000000) (hm : most < 4611686018427387904) (hm0 : -4611686018427387904 < most) {f : UInt8 → Option Bool} (hf : ∀ c, f c = some (zky b c)) :
    zdi s (b : Int) most f = some (zdQ b s most) := by
  unfold zdi zdQ
  rcases zfq (s == []) with h | h
  · rw [h]; simp [zbG]
  · rw [h]
    rw [zci hf s hs]
    simp only [Bool.false_eq_true, if_false, Option.bind_some, zbG, Bool.false_or]
    rcases zfq (s.all (zky b)) with h2 | h2
    · rw [h2]
      simp only [Bool.not_true, Bool.false_eq_true, if_false]
      exact zla hb s most hs h2 hm hm0 (by simpa using h)
    · rw [h2]; simp
theorem zc1 (s : Str) (most : Int) (hs : s.length < 1000000000) (hm : most < 4611686018427387904) (hm0 : -4611686018427387904 < most) : zaY s most = some (zdQ 10 s most) := by
  unfold zaY
  have := zhA (.inl rfl) s most hs hm hm0 (f := zI) zdB
  rw [show ((10 : Nat) : Int) = 10 from rfl] at this
  rw [this]; rfl
end Go.Dm
end
section
namespace Go.Dm
def low (s : Str) : Str := s.map zfL
theorem zdF (s : Str) (hs : s.length < 1000000000) : zcX s = some (low s) := by
  unfold zcX
  rw [if_pos (by omega)]
  unfold low
  clear hs
  induction s with
  | nil => rfl
  | cons x s ih => simp [List.mapM_cons, zil, ih]
theorem ziZ (a b : Str) (ha : a.length < 1000000000) (hb : b.length < 1000000000) : zef a b = some (low a == low b) := by
  unfold zef
  rw [zdF a ha, zdF b hb]; rfl
end Go.Dm
end
section
namespace Go.Dm
def upto (cs s : Str) : Str := s.takeWhile (fun c => !cs.contains c)
def za4 (cs s : Str) : Str := s.dropWhile (fun c => !cs.contains c)
theorem zcw (cs s : Str) : upto cs s ++ za4 cs s = s := List.takeWhile_append_dropWhile
theorem zjC (cs s : Str) : (upto cs s).length ≤ s.length := by
  have := congrArg List.length (zcw cs s); simp at this; omega
theorem zi6 (cs s : Str) : s.take (upto cs s).length = upto cs s := by
  have h := zcw cs s
  conv => lhs; arg 2; rw [← h]
  exact List.take_left
theorem zi7 (cs s : Str) : s.drop (upto cs s).length = za4 cs s := by
  have h := zcw cs s
  conv => lhs; arg 2; rw [← h]
  exact List.drop_left
theorem zjD (cs s : Str) : za4 cs s = [] ↔ (upto cs s).length = s.length := by
  have h := congrArg List.length (zcw cs s)
  simp only [List.length_append] at h
  rw [← List.length_eq_zero_iff]; omega
theorem zlD {cs s : Str} {c : UInt8} {r : Str} (h : za4 cs s = c :: r) : cs.contains c = true := by
  have := List.head?_dropWhile_not (fun c => !cs.contains c) s
  unfold za4 at h
  rw [h] at this
  simpa using this
theorem zfB {cs s : Str} {x : UInt8} (h : cs.contains x = true) : upto cs (x :: s) = [] := by
  unfold upto; rw [List.takeWhile_cons_of_neg (by rw [h]; simp)]
theorem zex {cs s : Str} {x : UInt8} (h : cs.contains x = true) : za4 cs (x :: s) = x :: s := by
  unfold za4; rw [List.dropWhile_cons_of_neg (by rw [h]; simp)]
theorem zfC {cs s : Str} {x : UInt8} (h : cs.contains x = false) : upto cs (x :: s) = x :: upto cs s := by
  unfold upto; rw [List.takeWhile_cons_of_pos (by rw [h]; rfl)]
theorem zey {cs s : Str} {x : UInt8} (h : cs.contains x = false) : za4 cs (x :: s) = za4 cs s := by
  unfold za4; rw [List.dropWhile_cons_of_pos (by rw [h]; rfl)]

theorem zi8 (cs : Str) : ∀ (s : Str) (k : Nat), zfJ s cs k = if za4 cs s = [] then -1 else ((k + (upto cs s).length : Nat) : Int)
  | [], k => by simp [zfJ, za4]
  | x :: s, k => by
    simp only [zfJ]
    by_cases h : cs.contains x = true
    · rw [if_pos h, zfB h, zex h]; simp
    · have h' : cs.contains x = false := by simpa using h
      rw [if_neg h, zi8 cs s (k + 1)]
      rw [zey h', zfC h', List.length_cons]
      split
      · rfl
      · congr 1; omega
theorem zjE (s p : Str) (hs : s.length < 1000000000) : stringslite_HasPrefix s p = some (p.isPrefixOf s) := by
  unfold stringslite_HasPrefix
  by_cases h : p.length ≤ s.length
  · have h' : (p.length : Int) ≤ (s.length : Int) := by omega
    simp only [h', decide_true, if_true, zfd h, Option.bind_some, zU]
    congr 1
    rw [Bool.eq_iff_iff, beq_iff_eq, List.isPrefixOf_iff_prefix, List.prefix_iff_eq_take]
    exact eq_comm
  · have h' : ¬ (p.length : Int) ≤ (s.length : Int) := by omega
    simp only [h', decide_false, Bool.false_eq_true, if_false, zU]
    congr 1
    rw [eq_comm, Bool.eq_false_iff]
    intro hp
    rw [List.isPrefixOf_iff_prefix] at hp
    exact h hp.length_le
theorem zcm (s p : Str) (hs : s.length < 1000000000) : strings_HasPrefix s p = some (p.isPrefixOf s) := by
  unfold strings_HasPrefix
  rw [zjE s p hs]; rfl
theorem zdT (s cs : Str) (hs : s.length < 1000000000) (hc : cs.length < 1000000000) (ha : cs.all (fun c => c.toNat < 128) = true) :
    strings_IndexAny s cs = some (if za4 cs s = [] then -1 else ((upto cs s).length : Int)) := by
  unfold strings_IndexAny
  rw [if_pos ⟨by omega, by omega, ha⟩, zi8, Nat.zero_add]
theorem zj7 (cs s : Str) : za4 cs s = [] ↔ s.any cs.contains = false := by
  induction s with
  | nil => simp [za4]
  | cons x s ih =>
    rcases zfq (cs.contains x) with h | h
    · rw [zex h, List.any_cons, h]; simp
    · rw [zey h, ih, List.any_cons, h, Bool.false_or]
theorem zdd (s cs : Str) (hs : s.length < 1000000000) (hc : cs.length < 1000000000) (ha : cs.all (fun c => c.toNat < 128) = true) : strings_ContainsAny s cs = some (s.any cs.contains) := by
  unfold strings_ContainsAny
  rw [zdT s cs hs hc ha, Option.bind_some]
  rcases zfq (s.any cs.contains) with h | h
  · have e : ¬ za4 cs s = [] := fun e => by rw [(zj7 cs s).1 e] at h; cases h
    rw [if_neg e, h]; simp
  · rw [if_pos ((zj7 cs s).2 h), h]; rfl

end Go.Dm
end
section
namespace Go.Dm
def scn (s : Str) (k : Nat) : scan_Scanner := ⟨s, (k : Int)⟩
theorem zeJ (s : Str) : zed s = some (scn s 0) := rfl
theorem zk7 (s : Str) (k : Nat) : zcT (scn s k) = some (k : Int) := rfl
theorem zgQ {s : Str} {k : Nat} (h : k ≤ s.length) : zz (scn s k) = some (s.drop k) := by
  unfold zz scn
  rw [zc9 h]; rfl
theorem zfQ {s : Str} {k : Nat} (h : k ≤ s.length) : zar (scn s k) = some (s.drop k == []) := by
  unfold zar
  rw [zgQ h]; rfl
theorem zeN {s : Str} {k : Nat} (h : k ≤ s.length) (hd : s.drop k = []) : zG (scn s k) = some (0, false) := by
  unfold zG
  rw [zfQ h, hd]; rfl
theorem zer {s : Str} {k : Nat} {x : UInt8} {r : Str} (h : k ≤ s.length) (hd : s.drop k = x :: r) : zG (scn s k) = some (x, true) := by
  unfold zG
  rw [zfQ h, hd]
  have hx : s[k]? = some x := by
    have := congrArg (·[0]?) hd
    simpa using this
  simp [scn, hx]
theorem zi3 {s : Str} {k : Nat} (b : UInt8) (h : k ≤ s.length) (hd : s.drop k = []) : zq (scn s k) b = some (false, scn s k) := by
  unfold zq
  rw [zeN h hd]; rfl
theorem ziA {s : Str} {k : Nat} {x : UInt8} {r : Str} (b : UInt8) (h : k ≤ s.length) (hs : s.length < 1000000000) (hd : s.drop k = x :: r) : zq (scn s k) b = some (x == b, if x == b then scn s (k + 1) else scn s k) := by
  unfold zq
  rw [zer h hd]
  simp only [Option.bind_some, Bool.not_true, Bool.false_eq_true, if_false, zaT]
  rcases zfq (x == b) with hb | hb
  · rw [hb]; simp [scn, zax (show k < 4611686018427387904 by omega)]
  · rw [hb]; simp
theorem zgR {s : Str} {k : Nat} {x : UInt8} {r : Str} (hd : s.drop k = x :: r) : k < s.length ∧ s.drop (k + 1) = r := by
  have hl : k < s.length := by
    rcases Nat.lt_or_ge k s.length with h | h
    · exact h
    · rw [List.drop_eq_nil_of_le h] at hd; cases hd
  refine ⟨hl, ?_⟩
  rw [List.drop_eq_getElem_cons hl] at hd
  exact (List.cons.inj hd).2
theorem zi4 {f : UInt8 → Option Bool} {p : UInt8 → Bool} (hf : ∀ b, f b = some (p b)) {s : Str} {k : Nat} (hs : s.length < 1000000000) (hk : k ≤ s.length) :
    zP (scn s k) f = some ((s.drop k).takeWhile p, scn s (k + ((s.drop k).takeWhile p).length)) := by
  unfold zP
  rw [zk7, Option.bind_some]
  show zw f k fuel s k = _
  have key : ∀ (n i : Nat), k ≤ i → i ≤ s.length → s.length - i < n → zw f k n s i = some ((s.take (i + ((s.drop i).takeWhile p).length)).drop k, scn s (i + ((s.drop i).takeWhile p).length)) := by
    intro n
    induction n with
    | zero => intro i _ _ h; omega
    | succ n ih =>
      intro i hki hi h
      rw [zw]
      have e : (⟨s, (i : Int)⟩ : scan_Scanner) = scn s i := rfl
      rw [e]
      cases hd : s.drop i with
      | nil =>
        rw [zeN hi hd]
        simp [zal, zaH, zem hki hi, scn]
      | cons x r =>
        obtain ⟨hlt, hr⟩ := zgR hd
        rw [zer hi hd]
        simp only [Option.bind_some, Bool.not_true, Bool.false_eq_true, if_false, hf, zal, zax (show i < 4611686018427387904 by omega), ih (i + 1) (by omega) (by omega) (by omega), hr, List.takeWhile_cons]
        rcases zfq (p x) with hp | hp
        · rw [hp]; simp [Nat.add_assoc, Nat.add_comm 1]
        · rw [hp]; simp [zaH, zem hki hi, scn]
  rw [key fuel k (Nat.le_refl _) hk (by unfold fuel; omega)]
  congr 2
  rw [List.drop_take, Nat.add_sub_cancel_left]
  have := List.takeWhile_prefix (l := s.drop k) p
  exact (List.prefix_iff_eq_take.1 this).symm
theorem zfj (p : UInt8 → Bool) (s : Str) : (s.takeWhile p).length ≤ s.length := (List.takeWhile_prefix p).length_le
theorem zl2 (p : UInt8 → Bool) (s : Str) (k : Nat) (hk : k ≤ s.length) : s.drop (k + ((s.drop k).takeWhile p).length) = (s.drop k).dropWhile p ∧ k + ((s.drop k).takeWhile p).length ≤ s.length := by
  refine ⟨?_, ?_⟩
  · rw [← List.drop_drop]
    generalize s.drop k = t
    have h := List.takeWhile_append_dropWhile (p := p) (l := t)
    conv => lhs; arg 2; rw [← h]
    exact List.drop_left
  · have := zfj p (s.drop k)
    rw [List.length_drop] at this; omega
end Go.Dm
end
section
namespace Go.Dm
structure At (s : Str) (k : Nat) (r : Str) : Prop where
  le : k ≤ s.length
  drop : s.drop k = r
theorem At.zero (s : Str) : At s 0 s := ⟨Nat.zero_le _, rfl⟩
theorem At.len {s : Str} {k : Nat} {r : Str} (h : At s k r) : k + r.length = s.length := by
  have := congrArg List.length h.drop
  rw [List.length_drop] at this
  have := h.le
  omega
theorem At.le_len {s : Str} {k : Nat} {r : Str} (h : At s k r) : r.length ≤ s.length := by have := h.len; omega
theorem At.next {s : Str} {k : Nat} {r : Str} (h : At s k r) (n : Nat) (hn : n ≤ r.length) : At s (k + n) (r.drop n) :=
  ⟨by have := h.len; omega, by rw [← List.drop_drop, h.drop]⟩
def peekR : Str → UInt8 × Bool
  | [] => (0, false)
  | x :: _ => (x, true)
def zdx (b : UInt8) (r : Str) : Bool := r.head? == some b
def zaS (b : UInt8) (r : Str) : Str := if zdx b r then r.drop 1 else r
theorem ze8 (b x : UInt8) (r : Str) : zdx b (x :: r) = (x == b) := Option.some_beq_some ..
theorem zid (b : UInt8) (r : Str) : zaS b (b :: r) = r := by unfold zaS; rw [ze8, beq_self_eq_true, if_pos rfl]; rfl
theorem zie {b : UInt8} {r : Str} (h : zdx b r = true) : r = b :: zaS b r := by
  cases r with
  | nil => cases h
  | cons x r =>
    rw [ze8] at h
    have : x = b := by simpa using h
    subst this
    rw [zid]
section
variable {s r : Str} {k : Nat}
theorem zmB (h : At s k r) : zar (scn s k) = some (r == []) := by rw [zfQ h.le, h.drop]
theorem zhF (h : At s k r) : zz (scn s k) = some r := by rw [zgQ h.le, h.drop]
theorem znI (h : At s k r) : zG (scn s k) = some (peekR r) := by
  cases r with
  | nil => exact zeN h.le h.drop
  | cons x r => exact zer h.le h.drop
theorem ze9 (hs : s.length < 1000000000) (b : UInt8) (h : At s k r) : ∃ k', At s k' (zaS b r) ∧ zq (scn s k) b = some (zdx b r, scn s k') := by
  cases r with
  | nil => exact ⟨k, h, zi3 b h.le h.drop⟩
  | cons x r =>
    rw [ziA b h.le hs h.drop, ze8]
    unfold zaS
    rw [ze8]
    cases x == b with
    | true => exact ⟨k + 1, h.next 1 (by simp), rfl⟩
    | false => exact ⟨k, h, rfl⟩
theorem zfF {f : UInt8 → Option Bool} {p : UInt8 → Bool} (hf : ∀ b, f b = some (p b)) (hs : s.length < 1000000000) (h : At s k r) : ∃ k', At s k' (r.dropWhile p) ∧ zP (scn s k) f = some (r.takeWhile p, scn s k') := by
  have e := zi4 hf hs h.le
  rw [h.drop] at e
  have hd := zl2 p s k h.le
  rw [h.drop] at hd
  exact ⟨_, ⟨hd.2, hd.1⟩, e⟩
theorem zkn (hs : s.length < 1000000000) (h : At s k r) : ∃ k', At s k' (r.dropWhile zbh) ∧ zaJ (scn s k) = some (r.takeWhile zbh, !(r.takeWhile zbh == []), scn s k') := by
  obtain ⟨k', h1, h2⟩ := zfF zg8 hs h
  refine ⟨k', h1, ?_⟩
  unfold zaJ
  rw [h2]; rfl
theorem znJ (hs : s.length < 1000000000) (t : Str) (ht : t.length < 1000000000) (h : At s k r) : ∃ k', At s k' (if t.isPrefixOf r then r.drop t.length else r) ∧ zaV (scn s k) t = some (t.isPrefixOf r, scn s k') := by
  unfold zaV
  have := h.le_len
  rw [zhF h, Option.bind_some, zcm r t (by omega), Option.bind_some]
  cases hp : t.isPrefixOf r with
  | false => exact ⟨k, h, rfl⟩
  | true =>
    have hl := (List.isPrefixOf_iff_prefix.1 hp).length_le
    have hk := h.len
    rw [if_pos rfl]
    show ∃ k', At s k' (r.drop t.length) ∧ ((zaO (k : Int) (t.length : Int)).bind fun i9 => some (true, (⟨s, i9⟩ : scan_Scanner))) = _
    rw [zcV (by omega) (by omega), Option.bind_some]
    exact ⟨k + t.length, h.next _ hl, by unfold scn; simp⟩
end
end Go.Dm
end
section
namespace Go.Dm
theorem ze4 (c : UInt8) (s : Str) : zp c s ≠ [] := by
  cases s with
  | nil => simp [zp]
  | cons x s =>
    unfold zp
    split
    · simp
    · split <;> simp
theorem zf6 {b c : UInt8} {l : Str} (h : b ≠ c) : Go.Lib.index (b :: l) [c] = if Go.Lib.index l [c] = -1 then -1 else Go.Lib.index l [c] + 1 := by
  have hp : ([c] : List UInt8).isPrefixOf (b :: l) = false := by simp [List.isPrefixOf, Ne.symm h]
  rw [Go.Lib.index, hp]; simp
theorem zf7 (c : UInt8) (l : Str) : Go.Lib.index (c :: l) [c] = 0 := by
  rw [Go.Lib.index]; simp [List.isPrefixOf]
theorem zgk (c : UInt8) : ∀ (s : Str) (k : Nat), Go.Lib.count s [c] = k → Go.Lib.splitK [c] 0 k s = zp c s
  | [], k, h => by
    rw [Go.Lib.count_one] at h
    simp at h; subst h; rfl
  | b :: l, k, h => by
    by_cases hb : b = c
    · subst hb
      rw [Go.Lib.count_cons_eq] at h
      obtain ⟨m, rfl⟩ : ∃ m, k = m + 1 := ⟨k - 1, by omega⟩
      have ih := zgk b l m (by omega)
      unfold Go.Lib.splitK
      rw [zf7]
      simp [zp, ih]
    · rw [Go.Lib.count_cons_ne b c l hb] at h
      have ih := zgk c l k h
      unfold zp
      rw [if_neg hb, ← ih]
      cases k with
      | zero => simp [Go.Lib.splitK]
      | succ k =>
        unfold Go.Lib.splitK
        rw [zf6 hb]
        have hge := Go.Lib.index_ge l [c]
        by_cases hm : Go.Lib.index l [c] = -1
        · rw [Go.Lib.count_miss hm] at h; omega
        · obtain ⟨j, hj⟩ : ∃ j : Nat, Go.Lib.index l [c] = j := ⟨(Go.Lib.index l [c]).toNat, by omega⟩
          have e1 : ¬ ((j : Int) + 1 = -1) := by omega
          have e2 : ¬ ((j : Int) = -1) := by omega
          have e3 : ((j : Int) + 1).toNat = j + 1 := by omega
          rw [hj]
          simp [e1, e2, e3, Nat.add_right_comm j 1 1]
theorem zg0 (s : Str) (c : UInt8) (hs : s.length < 1000000000) : strings_Split s [c] = some (zp c s) := by
  unfold strings_Split
  rw [if_pos ⟨by omega, by simp⟩]
  rw [zgk c s _ rfl]
def zdz (p : Str) : List Str → List Str
  | [] => [p]
  | h :: t => (p ++ h) :: t
theorem zdV (c x : UInt8) (s : Str) : zp c (x :: s) = if x = c then [] :: zp c s else zdz [x] (zp c s) := by
  rw [zp]
  split
  · rfl
  · cases h : zp c s <;> rfl
theorem zkJ (l : List Str) (h : l ≠ []) : zdz [] l = l := by
  cases l with
  | nil => exact absurd rfl h
  | cons a t => rfl
theorem ziQ (p q : Str) (l : List Str) (h : l ≠ []) : zdz p (zdz q l) = zdz (p ++ q) l := by
  cases l with
  | nil => exact absurd rfl h
  | cons a t => simp [zdz]
theorem zfz (c : UInt8) : ∀ (a s : Str), c ∉ a → zp c (a ++ s) = zdz a (zp c s)
  | [], s, _ => (zkJ _ (ze4 c s)).symm
  | x :: a, s, h => by
    have hx : ¬ x = c := fun e => h (by simp [e])
    rw [List.cons_append, zdV, if_neg hx, zfz c a s (fun e => h (List.mem_cons_of_mem _ e)), ziQ _ _ _ (ze4 c s)]
    rfl
theorem zjv {c : UInt8} {a : Str} (h : c ∉ a) : zp c a = [a] := by
  have := zfz c a [] h
  simpa [zp, zdz] using this
theorem zkK {c : UInt8} {a : Str} (s : Str) (h : c ∉ a) : zp c (a ++ c :: s) = a :: zp c s := by
  rw [zfz c a _ h, zdV, if_pos rfl]
  simp [zdz]
theorem zdI {c : UInt8} : ∀ {s p : Str}, p ∈ zp c s → c ∉ p ∧ p.length ≤ s.length ∧ ∀ x ∈ p, x ∈ s
  | [], p, h => by
    simp [zp] at h; subst h; simp
  | x :: s, p, h => by
    rw [zdV] at h
    split at h
    · rcases List.mem_cons.1 h with rfl | h
      · simp
      · obtain ⟨h1, h2, h3⟩ := zdI h
        exact ⟨h1, by simp; omega, fun y hy => List.mem_cons_of_mem _ (h3 y hy)⟩
    · rename_i hx
      cases hl : zp c s with
      | nil => exact absurd hl (ze4 c s)
      | cons a t =>
        rw [hl] at h
        rcases List.mem_cons.1 h with rfl | h
        · obtain ⟨h1, h2, h3⟩ := zdI (c := c) (s := s) (p := a) (by rw [hl]; simp)
          refine ⟨?_, by simp; omega, ?_⟩
          · simp only [List.singleton_append, List.mem_cons, not_or]; exact ⟨fun e => hx e.symm, h1⟩
          · intro y hy
            simp only [List.singleton_append, List.mem_cons] at hy ⊢
            rcases hy with hy | hy
            · exact .inl hy
            · exact .inr (h3 y hy)
        · obtain ⟨h1, h2, h3⟩ := zdI (c := c) (s := s) (p := p) (by rw [hl]; exact List.mem_cons_of_mem _ h)
          exact ⟨h1, by simp; omega, fun y hy => List.mem_cons_of_mem _ (h3 y hy)⟩
theorem zev (c : UInt8) : ∀ s : Str, (zp c s).length ≤ s.length + 1
  | [] => by simp [zp]
  | x :: s => by
    have ih := zev c s
    rw [zdV]
    split
    · simp; omega
    · cases hl : zp c s with
      | nil => exact absurd hl (ze4 c s)
      | cons a t => rw [hl] at ih; simp [zdz] at ih ⊢; omega
end Go.Dm
end
section
namespace Go.Dm
def zfW (s : Str) (most : Int) : Bool := (zdQ 10 s most).2 == 0 && znc 10 (zdQ 10 s most).1 == s
theorem zmF {b : Nat} {s : Str} {most : Int} (h : (zdQ b s most).2 = 0) (hm : most < 4611686018427387904) : 0 ≤ (zdQ b s most).1 ∧ (zdQ b s most).1 ≤ most ∧ inI (zdQ b s most).1 = true := by
  unfold zdQ at *
  split at h
  · cases h
  · rename_i h1
    rw [if_neg h1]
    split at h
    · cases h
    · rename_i h2
      rw [if_neg h2]
      refine ⟨by simp only; omega, by simp only; omega, by rw [zfV]; simp only; omega⟩
theorem zeC (s : Str) (most : Int) (hs : s.length < 1000000000) (hm : most < 4611686018427387904) (hm0 : -4611686018427387904 < most) : zbt s most = some (zfW s most) := by
  unfold zbt zfW
  rw [zc1 s most hs hm hm0, Option.bind_some]
  by_cases h : (zdQ 10 s most).2 = 0
  · have hi := (zmF h hm).2.2
    simp [h, zhz _ hi, zaW]
  · simp [h, zaW]
def zfb (s : Str) : Bool := (zp 46 s).all (fun x => zfW x 255) && decide (((zp 46 s).length : Int) = 4)
theorem zjk {α β : Type} {f : α → Option β} {g : α → β} : ∀ {l : List α}, (∀ x ∈ l, f x = some (g x)) → l.mapM f = some (l.map g)
  | [], _ => rfl
  | x :: l, h => by
    rw [List.mapM_cons, h x (List.mem_cons_self ..), zjk fun y hy => h y (List.mem_cons_of_mem _ hy)]; rfl
theorem zeW (s : Str) (hs : s.length < 1000000000) : zcg s = some (zfb s) := by
  unfold zcg zfb
  rw [if_pos hs, zjk (g := fun x => zfW x 255) fun x hx => zeC x 255 (by have := (zdI hx).2.1; omega) (by decide) (by decide)]
  simp only [Option.bind_some, List.length_map, List.all_map]
  rfl
def zfK : Str → Bool
  | [] => true
  | c :: s => if c == 37 then (match s with
    | a :: b :: r => zfc a && zfc b && zfK r
    | _ => false) else (zgq c || zkY c) && zfK s
theorem zlQ (s : Str) : zfK (37 :: s) = (match s with | a :: b :: r => zfc a && zfc b && zfK r | _ => false) := by
  rw [zfK.eq_def]
  match s with
  | [] => rfl
  | [_] => rfl
  | _ :: _ :: _ => rfl
theorem zlR (c : UInt8) (s : Str) (h : (c == 37) = false) : zfK (c :: s) = ((zgq c || zkY c) && zfK s) := by
  rw [zfK.eq_def]; simp only [h, Bool.false_eq_true, if_false]
def zg6 (s : Str) : Bool := !(s == []) && zfK s
theorem zg7 (s : Str) (hs : s.length < 1000000000) : zcK s = some (zg6 s) := by
  unfold zcK zg6
  rcases zfq (s == []) with h0 | h0
  · rw [h0]; simp
  rw [h0]
  simp only [Bool.false_eq_true, if_false, Bool.not_false, Bool.true_and]
  have key : ∀ (n : Nat) (s : Str), s.length < n → s.length < 1000000000 → zV n s = some (zfK s) := by
    intro n
    induction n with
    | zero => intro s h; omega
    | succ n ih =>
      intro s h hs
      rw [zV]
      cases s with
      | nil => simp [zfK]
      | cons c s =>
        have h1 : ((c :: s == ([] : Str))) = false := rfl
        have e1 : zd7 (c :: s) 1 = some s := by
          have := zc9 (l := c :: s) (i := 1) (by simp)
          simpa using this
        simp only [List.length_cons] at h hs
        simp only [h1, Bool.not_false, if_true, zcA, zmH, List.getElem?_cons_zero, Option.bind_some, zfw, zim, zbW, e1, ih s (by omega) (by omega), Bool.false_eq_true, if_false]
        rcases zfq (c == 37) with hc | hc
        · have : c = 37 := by simpa using hc
          subst this
          have hu : zgq 37 = false := by decide
          have hb : zkY 37 = false := by decide
          rw [zlQ]
          match s, h, hs with
          | [], _, _ => simp [hu, hb, zK]
          | [a], _, _ => simp [hu, hb, zK]
          | a :: b :: r, h, hs =>
            have h2 : (3 : Int) ≤ ((37 :: a :: b :: r : Str).length : Int) := by simp only [List.length_cons]; omega
            have e3 : zd7 (37 :: a :: b :: r) 3 = some r := by
              have := zc9 (l := 37 :: a :: b :: r) (i := 3) (by simp)
              simpa using this
            have e2 : zf1 (37 :: a :: b :: r) 1 3 = some [a, b] := by
              have := zem (l := 37 :: a :: b :: r) (i := 1) (h := 3) (by decide) (by simp)
              simpa using this
            simp only [List.length_cons] at h hs
            simp only [h2, decide_true, if_true, beq_self_eq_true, e2, Option.bind_some, zci zel [a, b] (by simp), zK, e3, ih r (by omega) (by omega), hu, hb, Bool.false_eq_true, if_false]
            cases ha : zfc a <;> cases hb : zfc b <;> simp [ha, hb]
        · rw [zlR c s hc, hc]
          simp only [Bool.false_eq_true, if_false, zK]
          have : (if (decide ((3 : Int) ≤ ((c :: s).length : Int))) = true then some false else some false) = some false := by split <;> rfl
          rw [this]
          simp only [Option.bind_some, Bool.false_eq_true, if_false]
          cases hp : zgq c <;> cases hq : zkY c <;> simp
  exact key fuel s (zlp (by omega)) hs
def under (a b : Str) : Bool := zg6 a && zg6 b && !zfb a && !zfb b && (low a == low b || ((46 :: low b) : Str).isSuffixOf (low a))
end Go.Dm
end
section
namespace Go.Dm
def zb0 (t : Str) : Str → Option (Str × Str)
  | [] => none
  | x :: s => if t.isPrefixOf (x :: s) then some ([], (x :: s).drop t.length) else (zb0 t s).map fun p => (x :: p.1, p.2)
theorem zct {t : Str} : ∀ {s a b : Str}, zb0 t s = some (a, b) → s = a ++ t ++ b
  | [], _, _, h => by cases h
  | x :: s, a, b, h => by
    rw [zb0] at h
    split at h
    · rename_i hp
      obtain ⟨r, hr⟩ := List.isPrefixOf_iff_prefix.1 hp
      simp only [Option.some.injEq, Prod.mk.injEq] at h
      obtain ⟨rfl, rfl⟩ := h
      rw [← hr]; simp
    · cases hc : zb0 t s with
      | none => rw [hc] at h; cases h
      | some p =>
        rw [hc] at h
        simp only [Option.map_some, Option.some.injEq, Prod.mk.injEq] at h
        obtain ⟨rfl, rfl⟩ := h
        have := zct (a := p.1) (b := p.2) hc
        rw [List.cons_append, List.cons_append, ← this]
theorem zfX {t : Str} (ht : t ≠ []) : ∀ s : Str, Go.Lib.index s t = match zb0 t s with | none => -1 | some p => (p.1.length : Int)
  | [] => by
    cases t with
    | nil => exact absurd rfl ht
    | cons y t => rfl
  | x :: s => by
    rw [Go.Lib.index, zb0, zfX ht s]
    cases t.isPrefixOf (x :: s) with
    | true => rfl
    | false =>
      cases zb0 t s with
      | none => rfl
      | some p =>
        simp only [Bool.false_eq_true, if_false, Option.map_some, List.length_cons]
        have : ((p.1.length : Int) == -1) = false := beq_eq_false_iff_ne.2 (by omega)
        rw [this]
        simp
theorem zfP (s t : Str) (hs : s.length < 1000000000) (ht : t ≠ []) : strings_Cut s t = some (match zb0 t s with | none => (s, [], false) | some p => (p.1, p.2, true)) := by
  unfold strings_Cut Go.Lib.cut
  rw [if_pos (by omega), zfX ht]
  congr 1
  cases hc : zb0 t s with
  | none => rfl
  | some p =>
    have e := zct (a := p.1) (b := p.2) hc
    have h0 : (0 : Int) ≤ (p.1.length : Int) := by omega
    simp only [h0, if_true, Int.toNat_natCast]
    have e1 : s.take p.1.length = p.1 := by rw [e, List.append_assoc, List.take_left']; rfl
    have e2 : s.drop (p.1.length + t.length) = p.2 := by rw [e, List.drop_left']; simp
    rw [e1, e2]
def grp (x : Str) : Bool := decide (1 ≤ x.length) && decide (x.length ≤ 4) && x.all zfc
def zcu (last : Bool) : List Str → Option Nat
  | [] => some 0
  | [x] => if last && zfb x then some 2 else if grp x then some 1 else none
  | x :: y :: l => if grp x then (zcu last (y :: l)).map (· + 1) else none
def ziv (a : Nat) : Option Nat → Int
  | none => -1
  | some k => ((a + k : Nat) : Int)
theorem zgN (rec1 : Int → Int → Option Int) (a i : Nat) (hi : i < 4000000000) : zaK rec1 (i : Int) (a : Int) = rec1 (a : Int) ((i + 1 : Nat) : Int) := by
  unfold zaK; rw [zax (by omega), Option.bind_some]
theorem zgO (rec1 : Int → Int → Option Int) (a i : Nat) (t : Bool) (hi : i < 4000000000) (ha : a < 4000000000) : zap rec1 (a : Int) (i : Int) t = if t = true then rec1 ((a + 1 : Nat) : Int) ((i + 1 : Nat) : Int) else some (-1) := by
  unfold zap
  rw [zax (by omega), Option.bind_some, zgN rec1 (a + 1) i hi]
theorem zjX (rec1 : Int → Int → Option Int) (a i : Nat) (x : Str) (t : Bool) (hi : i < 4000000000) (ha : a < 4000000000) (hx : x.length < 1000000000) :
    zaq rec1 (a : Int) (i : Int) x t = if t = true then rec1 ((a + 2 : Nat) : Int) ((i + 1 : Nat) : Int) else if grp x = true then rec1 ((a + 1 : Nat) : Int) ((i + 1 : Nat) : Int) else some (-1) := by
  unfold zaq grp
  have i2 : zaO (a : Int) 2 = some ((a + 2 : Nat) : Int) := by rw [zcV (by omega) (by omega)]; simp
  have e1 : decide ((1 : Int) ≤ (x.length : Int)) = decide (1 ≤ x.length) := decide_eq_decide.2 (by omega)
  have e2 : decide ((x.length : Int) ≤ 4) = decide (x.length ≤ 4) := decide_eq_decide.2 (by omega)
  rw [i2, Option.bind_some, zgN rec1 (a + 2) i hi, zci zel x hx, Option.bind_some, zgO rec1 a i _ hi ha, zgO rec1 a i _ hi ha, e1, e2]
  generalize rec1 _ _ = r1
  generalize rec1 _ _ = r2
  generalize decide (1 ≤ x.length) = d1
  generalize decide (x.length ≤ 4) = d2
  generalize x.all zfc = d3
  cases t <;> cases d1 <;> cases d2 <;> cases d3 <;> rfl
theorem ziw (last : Bool) (x : Str) : zcu last [x] = if last && zfb x then some 2 else if grp x then some 1 else none := rfl
theorem zhr (last : Bool) (x y : Str) (l : List Str) : zcu last (x :: y :: l) = if grp x then (zcu last (y :: l)).map (· + 1) else none := rfl
theorem zl0 (a : Nat) (o : Option Nat) : ziv a (o.map (· + 1)) = ziv (a + 1) o := by
  cases o with
  | none => rfl
  | some k => simp only [Option.map_some, ziv]; congr 1; omega
theorem zfg (last : Bool) (l : List Str) (hl : l.length < 1000000000) (hx : ∀ x ∈ l, x.length < 1000000000) : ∀ (n i a : Nat), i ≤ l.length → l.length - i < n → a ≤ 2 * i → zu last l n (a : Int) (i : Int) = some (ziv a (zcu last (l.drop i)))
  | 0, _, _, _, h, _ => by omega
  | n + 1, i, a, hi, h, ha => by
    rw [zu]
    cases hd : l.drop i with
    | nil =>
      have : i = l.length := by have := congrArg List.length hd; simp at this; omega
      subst this
      simp [zcu, ziv]
    | cons x t =>
      have hlt : i < l.length := by have := congrArg List.length hd; simp at this; omega
      have hxx : l[i]? = some x := by have := congrArg (·[0]?) hd; simpa using this
      have ht : l.drop (i + 1) = t := by rw [← List.drop_drop, hd]; rfl
      have htl : t.length = l.length - (i + 1) := by rw [← ht]; simp
      have hxl := hx x (List.mem_of_getElem? hxx)
      have hsub : zdX (l.length : Int) 1 = some ((l.length - 1 : Nat) : Int) := by rw [zd2 (by omega) (by omega)]; congr 1; omega
      have ih1 := zfg last l hl hx n (i + 1) (a + 1) (by omega) (by omega) (by omega)
      have ih2 := zfg last l hl hx n (i + 1) (a + 2) (by omega) (by omega) (by omega)
      rw [ht] at ih1 ih2
      have j2 := fun t => zjX (zu last l n) a i x t (by omega) (by omega) hxl
      simp only [Int.ofNat_lt, hlt, decide_true, if_true, zdH, hxx, Option.bind_some, hsub, zeW x hxl, j2, ih1, ih2]
      cases t with
      | nil =>
        have hei : ((i : Int) == ((l.length - 1 : Nat) : Int)) = true := by simp at htl; simp; omega
        rw [hei, ziw]
        have en : ∀ b, zcu b [] = some 0 := fun _ => rfl
        rw [en]
        cases last <;> cases zfb x <;> cases grp x <;> rfl
      | cons y t =>
        have hei : ((i : Int) == ((l.length - 1 : Nat) : Int)) = false := by simp at htl; simp; omega
        rw [hei, zhr]
        have := zl0 a (zcu last (y :: t))
        have hn : ziv a none = -1 := rfl
        cases last <;> cases grp x <;> simp only [if_true, Bool.false_eq_true, if_false, this, hn]
def zfh (s : Str) : List Str := if s = [] then [] else zp 58 s
theorem zhd (s : Str) (last : Bool) (hs : s.length < 900000000) : zaZ s last = some (ziv 0 (zcu last (zfh s))) := by
  unfold zaZ zfh
  by_cases h0 : s = []
  · subst h0; rfl
  · have h1 : (s == []) = false := beq_eq_false_iff_ne.2 h0
    rw [h1, if_neg h0]
    have hl := zev 58 s
    simp only [Bool.false_eq_true, if_false, zg0 s 58 (by omega), Option.bind_some]
    have := zfg last (zp 58 s) (by omega) (fun x hx => by have := (zdI hx).2.1; omega) fuel 0 0 (by omega) (by unfold fuel; omega) (by omega)
    simpa using this
theorem zjq (last : Bool) : ∀ (l : List Str) (k : Nat), zcu last l = some k → k ≤ l.length + 1
  | [], k, h => by cases h; omega
  | [x], k, h => by
    rw [ziw] at h
    split at h
    · cases h; simp
    · split at h
      · cases h; simp
      · cases h
  | x :: y :: l, k, h => by
    rw [zhr] at h
    split at h
    · obtain ⟨j, hj, rfl⟩ := Option.map_eq_some_iff.1 h
      have := zjq last (y :: l) j hj
      simp only [List.length_cons] at this ⊢
      omega
    · cases h
theorem zgP (s : Str) (last : Bool) (hs : s.length < 900000000) (k : Nat) (h : zcu last (zfh s) = some k) : k < 1000000000 := by
  have h1 := zjq last _ k h
  have h2 := zev 58 s
  unfold zfh at h1
  split at h1
  · simp at h1; omega
  · omega
def zlw (s : Str) : Bool := zcu true (zp 58 s) == some 8
def zlx (s : Str) : Bool := match zb0 [58, 58] s with
  | none => zlw s
  | some p => match zcu false (zfh p.1), zcu true (zfh p.2) with
    | some a, some b => decide (a + b ≤ 7)
    | _, _ => false
theorem Six_eq (s : Str) (hs : s.length < 900000000) : zcz s = some (zlx s) := by
  unfold zcz zlx
  rw [zfP s [58, 58] (by omega) (by simp), Option.bind_some]
  cases hc : zb0 [58, 58] s with
  | none =>
    simp only [Bool.not_false, if_true, zhd s true hs, Option.bind_some, zlw]
    unfold zfh
    split
    · rename_i h; subst h; rfl
    · cases zcu true (zp 58 s) with
      | none => rfl
      | some k =>
        simp only [ziv, Nat.zero_add, Option.some.injEq]
        by_cases h : k = 8
        · subst h; rfl
        · have h1 : ((k : Int) == 8) = false := beq_eq_false_iff_ne.2 (by omega)
          rw [h1]; simp [h]
  | some p =>
    have e := congrArg List.length (zct (a := p.1) (b := p.2) hc)
    simp only [List.length_append] at e
    simp only [Bool.not_true, Bool.false_eq_true, if_false, zhd p.1 false (by omega), zhd p.2 true (by omega), Option.bind_some]
    cases ha : zcu false (zfh p.1) with
    | none => simp [ziv, zaG]
    | some a =>
      cases hb : zcu true (zfh p.2) with
      | none => simp [ziv, zaG]
      | some b =>
        have hb' := (zgP p.1 false (by omega) a ha)
        have hb2 := (zgP p.2 true (by omega) b hb)
        simp only [ziv, Nat.zero_add]
        have e0 : decide ((0 : Int) ≤ (a : Int)) = true := by simp
        have e1 : decide ((0 : Int) ≤ (b : Int)) = true := by simp
        rw [e0, e1, if_pos rfl, if_pos rfl, zmJ (by omega), Option.bind_some]
        unfold zaG
        congr 1
        exact decide_eq_decide.2 (by omega)
end Go.Dm
end
section
namespace Go.Dm
def zjj (s : Str) : Str := (s.take (s.length - 1)).drop 1
def zgF (s : Str) : Bool := decide (2 < s.length) && s[0]? == some 91 && s[s.length - 1]? == some 93 && zlx (zjj s)
def zfs (s : Str) : Int × Str := if zgF s then (3, zjj s) else if zfb s then (2, s) else if zg6 s then (1, s) else (0, s)
theorem zij (x y : UInt8) : ((some x : Option UInt8) == some y) = (x == y) := Option.some_beq_some ..
theorem zlP (s : Str) : (zjj s).length ≤ s.length := by unfold zjj; simp; omega
theorem zi1 {β : Type} (s : Str) (hs : s.length < 400000000) (f : Str → Option Bool) (hf : ∀ t, t.length < 400000000 → f t = some (zlx t)) (J : Bool → Option β) :
    (if (decide (2 < (s.length : Int))) then ((sAt s 0).bind fun b6 => if (b6 == 91) then ((zdX (s.length : Int) 1).bind fun i8 => (sAt s i8).bind fun b9 => if (b9 == 93) then ((zdX (s.length : Int) 1).bind fun i11 => (zf1 s 1 i11).bind fun s12 => (f s12).bind fun r13 => J r13) else J false) else J false) else J false) = J (zgF s) := by
  unfold zgF
  by_cases h : 2 < s.length
  · have e : decide (2 < (s.length : Int)) = true := decide_eq_true (by omega)
    have e' : decide (2 < s.length) = true := decide_eq_true h
    have g0 : s[0]? = some s[0] := List.getElem?_eq_getElem (by omega)
    have g1 : s[s.length - 1]? = some s[s.length - 1] := List.getElem?_eq_getElem (by omega)
    have i1 : zdX (s.length : Int) 1 = some ((s.length - 1 : Nat) : Int) := by rw [zd2 (by omega) (by omega)]; congr 1; omega
    have s1 : zf1 s 1 ((s.length - 1 : Nat) : Int) = some (zjj s) := zem (i := 1) (by omega) (by omega)
    have := zlP s
    rw [e, e', if_pos rfl, show (0 : Int) = ((0 : Nat) : Int) from rfl, zeG, g0, Option.bind_some, i1, Option.bind_some, zeG, g1, Option.bind_some, Option.bind_some, s1, Option.bind_some, hf _ (by omega), Option.bind_some, zij, zij]
    cases s[0] == 91 <;> cases s[s.length - 1] == 93 <;> rfl
  · rw [decide_eq_false (show ¬ (2 < (s.length : Int)) by omega), decide_eq_false h]; rfl
theorem zfI (s : Str) (hs : s.length < 400000000) : zc5 s = some (⟨(zfs s).1, (zfs s).2, -1⟩, !((zfs s).1 == 0)) := by
  unfold zc5
  rw [zi1 s hs zcz (fun t ht => Six_eq t (by omega)) (zaU s)]
  unfold zaU zbu zfs
  cases hb : zgF s with
  | true =>
    have h : 2 < s.length := by unfold zgF at hb; simp at hb; exact hb.1.1.1
    have i1 : zdX (s.length : Int) 1 = some ((s.length - 1 : Nat) : Int) := by rw [zd2 (by omega) (by omega)]; congr 1; omega
    have s1 : zf1 s 1 ((s.length - 1 : Nat) : Int) = some (zjj s) := zem (i := 1) (by omega) (by omega)
    rw [if_pos rfl, i1, Option.bind_some, s1, Option.bind_some, if_pos rfl]
  | false =>
    rw [if_neg (by decide), zeW s (by omega), Option.bind_some, zg7 s (by omega), Option.bind_some]
    cases zfb s <;> cases zg6 s <;> rfl
def zgd (s : Str) (c : UInt8) : Nat → Option Nat
  | 0 => none
  | k + 1 => if s[k]? = some c then some k else zgd s c k
theorem zik {s : Str} {c : UInt8} : ∀ {k i : Nat}, zgd s c k = some i → i < k ∧ s[i]? = some c
  | 0, _, h => by cases h
  | k + 1, i, h => by
    rw [zgd] at h
    split at h
    · rename_i h2; cases h; exact ⟨by omega, h2⟩
    · have := zik h; exact ⟨by omega, this.2⟩
theorem zeS (s : Str) (c : UInt8) (hs : s.length < 1000000000) : z8 s c = some (match zgd s c s.length with | none => -1 | some k => (k : Int)) := by
  unfold z8 zay
  have key : ∀ (n k : Nat), k ≤ s.length → k < n → zt s c n ((k : Int) - 1) = some (match zgd s c k with | none => -1 | some j => (j : Int)) := by
    intro n
    induction n with
    | zero => intro k _ h; omega
    | succ n ih =>
      intro k hk h
      rw [zt]
      cases k with
      | zero => rw [decide_eq_false (by omega)]; rfl
      | succ k =>
        have e1 : ((k + 1 : Nat) : Int) - 1 = (k : Int) := by omega
        have g : s[k]? = some s[k] := List.getElem?_eq_getElem (by omega)
        rw [e1, decide_eq_true (show (0 : Int) ≤ (k : Int) by omega), if_pos rfl, zeG, g, Option.bind_some, zd2 (by omega) (by omega), Option.bind_some, ih k (by omega) (by omega), zgd, g]
        by_cases hc : s[k] = c
        · have : (s[k] == c) = true := by simp [hc]
          rw [this, if_pos rfl, if_pos (by rw [hc])]
        · have : (s[k] == c) = false := beq_eq_false_iff_ne.2 hc
          rw [this, if_neg (by decide), if_neg (by simpa using hc)]
  rw [zd2 (by omega) (by omega), Option.bind_some, key fuel s.length (Nat.le_refl _) (by unfold fuel; omega), Option.bind_some]
def zdL (s : Str) : api_Host × Int :=
  if !((zfs s).1 == 0) then (⟨(zfs s).1, (zfs s).2, -1⟩, 0) else match zgd s 58 s.length with
  | none => (⟨0, [], 0⟩, 27)
  | some k => if !((zfs (s.take k)).1 == 0) && zfW (s.drop (k + 1)) 65535 then (⟨(zfs (s.take k)).1, (zfs (s.take k)).2, (zdQ 10 (s.drop (k + 1)) 65535).1⟩, 0) else (⟨0, [], 0⟩, 27)
theorem zdf (s : Str) (hs : s.length < 400000000) : zbv s = some (zdL s) := by
  unfold zbv zdL
  rw [zfI s hs, Option.bind_some]
  cases !((zfs s).1 == 0) with
  | true => rfl
  | false =>
    show (if false = true then _ else _) = some (if false = true then _ else _)
    rw [if_neg (by decide), if_neg (by decide), zeS s 58 (by omega), Option.bind_some]
    cases hl : zgd s 58 s.length with
    | none => rfl
    | some k =>
      have hk := (zik hl).1
      show (if decide ((k : Int) < 0) = true then _ else _) = _
      rw [decide_eq_false (show ¬ ((k : Int) < 0) by omega), if_neg (by decide), zfd (by omega), Option.bind_some, zfI _ (by simp; omega), Option.bind_some]
      unfold zbJ
      rw [zax (by omega), Option.bind_some, zc9 (by omega), Option.bind_some, Option.bind_some, zc9 (by omega), Option.bind_some, zeC _ _ (by simp; omega) (by decide) (by decide), Option.bind_some, zc1 _ _ (by simp; omega) (by decide) (by decide), Option.bind_some]
      dsimp only
      cases (zfs (s.take k)).1 == 0 <;> cases zfW (s.drop (k + 1)) 65535 <;> rfl
end Go.Dm
end
section
namespace Go.Dm
def pqL (more : Str) : Str → Bool
  | [] => true
  | c :: s => if c == 37 then (match s with
    | a :: b :: r => zfc a && zfc b && pqL more r
    | _ => false) else (zjl c || more.contains c) && pqL more s
theorem znO (more s : Str) : pqL more (37 :: s) = (match s with | a :: b :: r => zfc a && zfc b && pqL more r | _ => false) := by
  rw [pqL.eq_def]
  match s with
  | [] => rfl
  | [_] => rfl
  | _ :: _ :: _ => rfl
theorem znP (more : Str) (c : UInt8) (s : Str) (h : (c == 37) = false) : pqL more (c :: s) = ((zjl c || more.contains c) && pqL more s) := by
  rw [pqL.eq_def]; simp only [h, Bool.false_eq_true, if_false]
theorem znQ (l : Str) (c : UInt8) : decide (0 ≤ zdZ l c 0) = l.contains c := zkZ l c 0
theorem zho (rec1 : Int → Option Bool) (i : Nat) (hi : i < 4000000000) : zc6 rec1 (i : Int) = rec1 ((i + 1 : Nat) : Int) := by
  unfold zc6; rw [zax (by omega), Option.bind_some]
theorem zks (rec1 : Int → Option Bool) (i : Nat) (t : Bool) (hi : i < 3000000000) : zb1 rec1 (i : Int) t = if t = true then rec1 ((i + 3 : Nat) : Int) else some false := by
  unfold zb1
  have i2 : zaO (i : Int) 2 = some ((i + 2 : Nat) : Int) := by rw [zcV (by omega) (by omega)]; simp
  rw [i2, Option.bind_some, zho rec1 (i + 2) (by omega)]
theorem zhp (s more : Str) (hs : s.length < 1000000000) (hm : more.contains 37 = false) : zeT s more = some (pqL more s) := by
  unfold zeT
  have key : ∀ (n i : Nat), i ≤ s.length → s.length - i < n → zaw s more n (i : Int) = some (pqL more (s.drop i)) := by
    intro n
    induction n with
    | zero => intro i _ h; omega
    | succ n ih =>
      intro i hi h
      rw [zaw]
      cases hd : s.drop i with
      | nil =>
        have : i = s.length := by have := congrArg List.length hd; simp at this; omega
        subst this
        simp only [Int.lt_irrefl, decide_false, Bool.false_eq_true, if_false, pqL]
      | cons c t =>
        have hlt : i < s.length := by have := congrArg List.length hd; simp at this; omega
        have hx : s[i]? = some c := by have := congrArg (·[0]?) hd; simpa using this
        have ht : s.drop (i + 1) = t := by rw [← List.drop_drop, hd]; rfl
        have htl : t.length = s.length - (i + 1) := by rw [← ht]; simp
        have i2 : zaO (i : Int) 2 = some ((i + 2 : Nat) : Int) := by rw [zcV (by omega) (by omega)]; simp
        have i3 : zaO (i : Int) 3 = some ((i + 3 : Nat) : Int) := by rw [zcV (by omega) (by omega)]; simp
        have hih := ih (i + 1) (by omega) (by omega)
        rw [ht] at hih
        have j4 := zho (zaw s more n) i (by omega)
        have j3 := zks (zaw s more n) i
        simp only [Int.ofNat_lt, hlt, decide_true, if_true, zeG, hx, Option.bind_some, zhw, strings_IndexByte, znQ, zdM, j4, hih]
        rcases zfq (c == 37) with hc | hc
        · have : c = 37 := by simpa using hc
          subst this
          have hp : zjl 37 = false := by decide
          rw [znO, hp, hm]
          simp only [Bool.false_eq_true, if_false, beq_self_eq_true, if_true, i2, Option.bind_some, zax (show i < 4611686018427387904 by omega), i3]
          match t, ht, htl with
          | [], ht, htl =>
            have : ¬ ((i + 2 : Nat) : Int) < (s.length : Int) := by simp at htl; omega
            simp only [this, decide_false, Bool.false_eq_true, if_false, j3 false (by omega)]
          | [a], ht, htl =>
            have : ¬ ((i + 2 : Nat) : Int) < (s.length : Int) := by simp at htl; omega
            simp only [this, decide_false, Bool.false_eq_true, if_false, j3 false (by omega)]
          | a :: b :: r, ht, htl =>
            have hlt2 : ((i + 2 : Nat) : Int) < (s.length : Int) := by simp at htl; omega
            have hr : s.drop (i + 3) = r := by
              have : (s.drop (i + 1)).drop 2 = r := by rw [ht]; rfl
              rwa [List.drop_drop] at this
            have hi3 : i + 3 ≤ s.length := by simp at htl; omega
            have hih := ih (i + 3) hi3 (by omega)
            rw [hr] at hih
            have hsub : zf1 s ((i + 1 : Nat) : Int) ((i + 3 : Nat) : Int) = some [a, b] := by
              rw [zem (by omega) hi3, List.drop_take, ht]
              have : i + 3 - (i + 1) = 2 := by omega
              rw [this]; rfl
            simp only [hlt2, decide_true, if_true, hsub, Option.bind_some, zci zel [a, b] (by simp), j3 _ (show i < 3000000000 by omega), hih]
            cases ha : zfc a <;> cases hb : zfc b <;> simp [ha, hb]
        · rw [znP more c t hc, hc]
          cases zjl c <;> cases hq : more.contains c <;> simp [zb1]
  have := key fuel 0 (Nat.zero_le _) (by unfold fuel; omega)
  simpa using this
def zjM (s : Str) : Bool := (([47] : Str).isPrefixOf s) && pqL [47] s
def zhG (s : Str) : Bool := pqL [47, 63] s
theorem zi0 (s : Str) (hs : s.length < 1000000000) : zee s = some (zjM s) := by
  unfold zee zjM
  rw [zcm s [47] hs, Option.bind_some, zhp s [47] hs (by decide), Option.bind_some]
  cases ([47] : Str).isPrefixOf s <;> simp [zcL]
theorem zii (s : Str) (hs : s.length < 1000000000) : zdN s = some (zhG s) := by
  unfold zdN zhG
  rw [zhp s [47, 63] hs (by decide), Option.bind_some]
theorem zlN (c : UInt8) : ∀ s : Str, Go.Lib.index s [c] = if za4 [c] s = [] then -1 else ((upto [c] s).length : Int) := by
  intro s
  induction s with
  | nil => rfl
  | cons x s ih =>
    by_cases h : x = c
    · subst h
      rw [zf7, zex (by simp), zfB (by simp)]; simp
    · rw [zf6 h, ih]
      have hx : ([c] : Str).contains x = false := by simp [h]
      rw [zey hx, zfC hx]
      split
      · rfl
      · rename_i h2
        rw [if_neg (by omega)]
        simp
def zeA (c : UInt8) (s : Str) : Str × Str × Bool := (upto [c] s, (za4 [c] s).drop 1, !(za4 [c] s == []))
theorem zfr (s : Str) (c : UInt8) (hs : s.length < 1000000000) : strings_Cut s [c] = some (zeA c s) := by
  unfold strings_Cut Go.Lib.cut zeA
  rw [if_pos (by omega), zlN]
  congr 1
  by_cases h2 : za4 [c] s = []
  · rw [if_pos h2, if_neg (by omega)]
    have e := zcw [c] s
    rw [h2, List.append_nil] at e
    rw [h2, e]; rfl
  · have h3 : (za4 [c] s == []) = false := beq_eq_false_iff_ne.2 h2
    rw [h3, if_neg h2, if_pos (by omega)]
    have e : s.drop ((upto [c] s).length + 1) = (za4 [c] s).drop 1 := by rw [← List.drop_drop, zi7]
    simp only [Int.toNat_natCast, zi6, List.length_singleton, e, Bool.not_false]
theorem zji (c : UInt8) (s : Str) : (zeA c s).1.length ≤ s.length ∧ (zeA c s).2.1.length ≤ s.length := by
  have e := congrArg List.length (zcw [c] s)
  rw [List.length_append] at e
  unfold zeA
  simp only [List.length_drop]
  omega
def cutQ (s : Str) : Str × Str × Bool × Int :=
  if zjM (zeA 63 s).1 && zhG (zeA 63 s).2.1 then ((zeA 63 s).1, (zeA 63 s).2.1, (zeA 63 s).2.2, 0) else ([], [], false, 2)
theorem zgE (s : Str) (hs : s.length < 1000000000) : zeU s = some (cutQ s) := by
  unfold zeU cutQ
  have := zji 63 s
  rw [zfr s 63 hs, Option.bind_some, zi0 _ (by omega), Option.bind_some, zii _ (by omega), Option.bind_some]
  cases zjM (zeA 63 s).1 <;> cases zhG (zeA 63 s).2.1 <;> simp [zdl]
end Go.Dm
end
section
namespace Go.Dm
def zeroT : api_Target := ⟨0, [], ⟨0, [], 0⟩, [], [], false⟩
def zjh (t : api_Target) (s : Str) : api_Target × Bool :=
  if s = [] then (t, true) else
    (⟨t.Kind, t.Scheme, t.Host, if s.head? == some 63 then [] else (cutQ s).1, (cutQ (if s.head? == some 63 then 47 :: s else s)).2.1, (cutQ (if s.head? == some 63 then 47 :: s else s)).2.2.1⟩, (cutQ (if s.head? == some 63 then 47 :: s else s)).2.2.2 == 0)
theorem zfH (t : api_Target) (s : Str) (hs : s.length < 900000000) : zc7 t s = some (zjh t s) := by
  unfold zc7 zjh
  cases s with
  | nil => rfl
  | cons c r =>
    have h1 : ((c :: r == ([] : Str))) = false := rfl
    rw [h1, if_neg (by decide), if_neg (by simp), show (0 : Int) = ((0 : Nat) : Int) from rfl, zeG, List.getElem?_cons_zero, Option.bind_some, List.head?_cons, Option.some_beq_some]
    unfold zcq zcp
    simp only [List.length_cons] at hs
    cases hc : c == 63 with
    | true =>
      rw [if_pos rfl, if_pos rfl, znS (by simp only [List.length_cons, List.length_nil]; omega), Option.bind_some, show ([47] : Str) ++ c :: r = 47 :: c :: r from rfl, zgE _ (by simp only [List.length_cons]; omega), Option.bind_some]
      rfl
    | false =>
      rw [if_neg (by decide), if_neg (by decide), zgE _ (by simp only [List.length_cons]; omega), Option.bind_some, if_neg (by decide)]
      rfl
def zmD : Str := [104, 116, 116, 112]
def zkX : Str := [104, 116, 116, 112, 115]
def absT (s : Str) : api_Target × Bool := match zb0 [58, 47, 47] s with
  | none => (⟨2, low s, ⟨0, [], 0⟩, [], [], false⟩, false)
  | some p => if low p.1 == zmD || low p.1 == zkX then
      (if (zdL (upto [47, 63] p.2)).2 == 0 then zjh ⟨2, low p.1, (zdL (upto [47, 63] p.2)).1, [], [], false⟩ (za4 [47, 63] p.2) else (⟨2, low p.1, ⟨0, [], 0⟩, [], [], false⟩, false))
    else (⟨2, low p.1, ⟨0, [], 0⟩, [], [], false⟩, false)
theorem zig (a b c : Str) (q : Bool) (hb : b.length < 300000000) : zaM (a, b, q) c ((upto [47, 63] b).length : Int) = some (if (zdL (upto [47, 63] b)).2 == 0 then zjh ⟨2, c, (zdL (upto [47, 63] b)).1, [], [], false⟩ (za4 [47, 63] b) else (⟨2, c, ⟨0, [], 0⟩, [], [], false⟩, false)) := by
  unfold zaM
  have hu := zjC [47, 63] b
  have hf : (za4 [47, 63] b).length ≤ b.length := by
    have := congrArg List.length (zcw [47, 63] b); rw [List.length_append] at this; omega
  dsimp only
  rw [zfd hu, Option.bind_some, zi6, zdf _ (by omega), Option.bind_some, zc9 hu, Option.bind_some, zi7, zfH _ _ (by omega), Option.bind_some]
  cases (zdL (upto [47, 63] b)).2 == 0 <;> rfl
theorem zgo (s : Str) (hs : s.length < 300000000) : zcb s = some (absT s) := by
  unfold zcb absT
  rw [zfP s _ (by omega) (by simp), Option.bind_some]
  cases hc : zb0 [58, 47, 47] s with
  | none =>
    dsimp only
    rw [zdF s (by omega), Option.bind_some]
    rfl
  | some p =>
    have e := congrArg List.length (zct (a := p.1) (b := p.2) hc)
    simp only [List.length_append, List.length_cons, List.length_nil] at e
    have hu := zjC [47, 63] p.2
    dsimp only
    rw [zdF p.1 (by omega), Option.bind_some]
    have hj : zQ (p.1, p.2, true) (low p.1) false = some (if (zdL (upto [47, 63] p.2)).2 == 0 then zjh ⟨2, low p.1, (zdL (upto [47, 63] p.2)).1, [], [], false⟩ (za4 [47, 63] p.2) else (⟨2, low p.1, ⟨0, [], 0⟩, [], [], false⟩, false)) := by
      unfold zQ
      rw [if_neg (by decide)]
      dsimp only
      rw [zdT p.2 [47, 63] (by omega) (by decide) (by decide), Option.bind_some]
      have hj2 := zig p.1 p.2 (low p.1) true (by omega)
      by_cases h0 : za4 [47, 63] p.2 = []
      · rw [if_pos h0, decide_eq_true (by omega), if_pos rfl]
        rw [(zjD _ _).1 h0] at hj2
        exact hj2
      · rw [if_neg h0, decide_eq_false (by omega), if_neg (by decide)]
        exact hj2
    have hj0 : zQ (p.1, p.2, true) (low p.1) true = some (⟨2, low p.1, ⟨0, [], 0⟩, [], [], false⟩, false) := rfl
    rw [hj, hj0, if_neg (by decide)]
    show (if (!(low p.1 == zmD)) = true then zQ (p.1, p.2, true) (low p.1) (!(low p.1 == zkX)) else _) = _
    cases low p.1 == zmD with
    | true => rfl
    | false =>
      cases low p.1 == zkX with
      | true => rw [Bool.not_false, if_pos rfl, Bool.not_true, hj]; rfl
      | false => rw [Bool.not_false, if_pos rfl, hj0]; rfl
def zmE : Str := [79, 80, 84, 73, 79, 78, 83]
def zih : Str := [67, 79, 78, 78, 69, 67, 84]
def ofT (m s : Str) : api_Target × Bool := if s == [42] then (⟨4, [], ⟨0, [], 0⟩, [], [], false⟩, m == zmE) else if ([47] : Str).isPrefixOf s then zjh ⟨1, [], ⟨0, [], 0⟩, [], [], false⟩ s else absT s
theorem zjK (m s : Str) (hs : s.length < 300000000) : zeV m s = some (ofT m s) := by
  unfold zeV ofT
  rw [zcm s [47] (by omega), Option.bind_some, zgo s hs, Option.bind_some, zfH _ s (by omega), Option.bind_some]
  cases s == [42] <;> cases ([47] : Str).isPrefixOf s <;> rfl
def zjL (m s : Str) : api_Target × Int :=
  if m == zih then (if (zdL s).2 == 0 && !decide ((zdL s).1.Port < 0) then (⟨3, [], (zdL s).1, [], [], false⟩, 0) else (zeroT, 20))
  else if (ofT m s).2 then ((ofT m s).1, 0) else (zeroT, 20)
theorem zhv (m s : Str) (hs : s.length < 300000000) : zdm m s = some (zjL m s) := by
  unfold zdm zjL zcc
  rw [zdf s (by omega), Option.bind_some, zjK m s hs, Option.bind_some]
  show (if (m == zih) = true then _ else _) = _
  cases m == zih <;> cases (zdL s).2 == 0 <;> cases decide ((zdL s).1.Port < 0) <;> cases (ofT m s).2 <;> rfl
end Go.Dm
end
section
namespace Go.Dm
def zfv (r : Str) : Int × Bool × Str := match r with
  | [] => (0, false, [])
  | c :: t => if zbl c then (((c - 48).toNat : Int), true, t) else (0, false, c :: t)
section
variable {s r : Str} {k : Nat}
theorem zko (hs : s.length < 1000000000) (h : At s k r) : ∃ k', At s k' (zfv r).2.2 ∧ zat ⟨scn s k⟩ = some ((zfv r).1, (zfv r).2.1, scn s k') := by
  unfold zat
  show ∃ k', _ ∧ (zG (scn s k)).bind _ = _
  rw [znI h, Option.bind_some]
  cases r with
  | nil => exact ⟨k, h, rfl⟩
  | cons c t =>
    have e : zfv (c :: t) = if zbl c then (((c - 48).toNat : Int), true, t) else (0, false, c :: t) := rfl
    rw [e]
    show ∃ k', _ ∧ (zI c).bind (fun r6 => zas ⟨scn s k⟩ (c, true) (!r6)) = _
    rw [zdB, Option.bind_some]
    obtain ⟨k', h1, h2⟩ := ze9 hs c h
    rw [zid] at h1
    cases zbl c with
    | false => exact ⟨k, h, rfl⟩
    | true =>
      refine ⟨k', h1, ?_⟩
      show (zq (scn s k) c).bind (fun r11 => some (((c - 48).toNat : Int), true, r11.2)) = _
      rw [h2]; rfl
def zjg : Str := [72, 84, 84, 80, 47]
def zdY (r : Str) : Int × Int × Bool × Str :=
  if zjg.isPrefixOf r then
    ((zfv (r.drop 5)).1, (zfv (zaS 46 (zfv (r.drop 5)).2.2)).1, (zfv (r.drop 5)).2.1 && zdx 46 (zfv (r.drop 5)).2.2 && (zfv (zaS 46 (zfv (r.drop 5)).2.2)).2.1, (zfv (zaS 46 (zfv (r.drop 5)).2.2)).2.2)
  else (0, 0, false, r)
theorem zif (hs : s.length < 1000000000) (h : At s k r) : ∃ k', At s k' (zdY r).2.2.2 ∧ zaf ⟨scn s k⟩ = some ((zdY r).1, (zdY r).2.1, (zdY r).2.2.1, scn s k') := by
  unfold zaf
  obtain ⟨k1, h1, e1⟩ := znJ hs zjg (by decide) h
  show ∃ k', _ ∧ (zaV (scn s k) zjg).bind _ = _
  rw [e1, Option.bind_some]
  unfold zdY
  cases hp : zjg.isPrefixOf r with
  | false =>
    rw [hp, if_neg (by decide)] at h1
    exact ⟨k1, h1, rfl⟩
  | true =>
    rw [hp, if_pos rfl] at h1
    have h1 : At s k1 (r.drop 5) := h1
    obtain ⟨k2, h2, e2⟩ := zko hs h1
    obtain ⟨k3, h3, e3⟩ := ze9 hs 46 h2
    obtain ⟨k4, h4, e4⟩ := zko hs h3
    refine ⟨k4, h4, ?_⟩
    dsimp only
    rw [Bool.not_true, if_neg (by decide), e2, Option.bind_some]
    dsimp only
    rw [e3, Option.bind_some]
    dsimp only
    rw [e4, Option.bind_some, if_pos rfl]
    dsimp only
    cases (zfv (r.drop 5)).2.1 <;> cases zdx 46 (zfv (r.drop 5)).2.2 <;> rfl
def verK (u : Str) : Int := if (zdY u).2.2.1 && (zdY u).2.2.2 == [] then (if (zdY u).1 == 1 && decide ((zdY u).2.1 ≤ 1) then (zdY u).2.1 else 2) else -1
theorem zlm {r : Str} (h : (zfv r).2.1 = true) : ∃ c t, r = c :: t ∧ zbl c = true ∧ zfv r = (((c - 48).toNat : Int), true, t) := by
  cases r with
  | nil => cases h
  | cons c t =>
    unfold zfv at h ⊢
    dsimp only at h ⊢
    cases hc : zbl c with
    | false => rw [hc] at h; cases h
    | true => exact ⟨c, t, rfl, hc, by simp⟩
theorem znK {r : Str} (h : (zdY r).2.2.1 = true) : ∃ a b t, r = zjg ++ a :: 46 :: b :: t ∧ zbl a = true ∧ zbl b = true ∧ zdY r = (((a - 48).toNat : Int), ((b - 48).toNat : Int), true, t) := by
  unfold zdY at h ⊢
  cases hp : zjg.isPrefixOf r with
  | false => rw [hp] at h; cases h
  | true =>
    rw [hp, if_pos rfl] at h
    rw [if_pos rfl]
    simp only [Bool.and_eq_true] at h
    obtain ⟨⟨h1, h2⟩, h3⟩ := h
    obtain ⟨t0, ht0⟩ := List.isPrefixOf_iff_prefix.1 hp
    have hd : r.drop 5 = t0 := by rw [← ht0]; rfl
    rw [hd] at h1 h2 h3 ⊢
    obtain ⟨a, t1, rfl, ha, ea⟩ := zlm h1
    rw [ea] at h2 h3 ⊢
    have hb := zie h2
    dsimp only at h2 h3 hb ⊢
    obtain ⟨b, t, e, hbd, eb⟩ := zlm h3
    rw [e] at hb
    rw [eb]
    refine ⟨a, b, t, by rw [← ht0, hb], ha, hbd, ?_⟩
    simp [h2]
theorem zea (u : Str) (hu : u.length < 1000000000) : zbE u = some (verK u == 2) := by
  unfold zbE
  rw [zeJ, Option.bind_some]
  obtain ⟨k', h, e⟩ := zif hu (At.zero u)
  rw [e, Option.bind_some]
  dsimp only
  rw [zmB h]
  unfold verK zao
  have h1 : decide ((zdY u).2.1 ≤ 1) = !decide (1 < (zdY u).2.1) := by
    rw [Bool.eq_iff_iff]; simp
  rw [h1]
  cases hv : (zdY u).2.2.1 with
  | false => rfl
  | true =>
    rw [if_pos rfl, Option.bind_some, Bool.true_and]
    cases (zdY u).2.2.2 == [] with
    | false => rfl
    | true =>
      rw [if_pos rfl, if_pos rfl]
      obtain ⟨a, b, t, _, ha, hb, ev⟩ := znK hv
      rw [ev]
      dsimp only
      cases ((a - 48).toNat : Int) == 1 with
      | false => rfl
      | true =>
        rw [Bool.not_true, if_neg (by decide), Bool.true_and]
        by_cases h2 : (1 : Int) < ((b - 48).toNat : Int)
        · rw [decide_eq_true h2]; rfl
        · rw [decide_eq_false h2, Bool.not_false, if_pos rfl]
          have : (((b - 48).toNat : Int) == 2) = false := beq_eq_false_iff_ne.2 (by omega)
          rw [this]
def zet (r : Str) : Int × Bool × Str := ((zdY r).2.1, (zdY r).2.2.1 && (zdY r).1 == 1 && decide ((zdY r).2.1 ≤ 1), (zdY r).2.2.2)
theorem zkp (hs : s.length < 1000000000) (h : At s k r) : ∃ k', At s k' (zet r).2.2 ∧ zav ⟨scn s k⟩ = some ((zet r).1, (zet r).2.1, scn s k') := by
  unfold zav zet
  obtain ⟨k', h1, e⟩ := zif hs h
  refine ⟨k', h1, ?_⟩
  rw [e, Option.bind_some]
  dsimp only
  cases (zdY r).2.2.1 <;> cases (zdY r).1 == 1 <;> rfl
end
def zE : api_Head := ⟨0, [], [], 0, [], 0, []⟩
def zkq (s : Str) : Nat := match zgd s 32 s.length with
  | none => 0
  | some k => k + 1
theorem zkW (s : Str) (hs : s.length < 300000000) : ∃ r, z8 s 32 = some r ∧ zaO r 1 = some (zkq s : Int) ∧ zkq s ≤ s.length := by
  rw [zeS s 32 (by omega)]
  unfold zkq
  cases hl : zgd s 32 s.length with
  | none => exact ⟨-1, rfl, by decide, Nat.zero_le _⟩
  | some k =>
    have := (zik hl).1
    exact ⟨k, rfl, zax (by omega), by show k + 1 ≤ s.length; omega⟩
def lastW (s : Str) : Str := s.drop (zkq s)
def reqM (s : Str) : Str := s.takeWhile zbh
def zln (s : Str) : Str := s.dropWhile zbh
def reqT (s : Str) : Str := (zaS 32 (zln s)).takeWhile (fun b => !(b == 32))
def zkr (s : Str) : Str := (zaS 32 (zln s)).dropWhile (fun b => !(b == 32))
def reqF (s : Str) : Bool := !(reqM s == []) && zdx 32 (zln s) && zdx 32 (zkr s) && ((zet (zaS 32 (zkr s))).2.1 && (zet (zaS 32 (zkr s))).2.2 == []) && (zjL (reqM s) (reqT s)).2 == 0
def reqP (s : Str) : api_Head × Int := if verK (lastW s) == 2 then (zE, 26) else if reqF s then (⟨1, reqM s, reqT s, 0, [], (zet (zaS 32 (zkr s))).1, []⟩, 0) else (zE, 20)
theorem zfG (s : Str) (hs : s.length < 300000000) : zbK s = some (reqP s) := by
  unfold zbK reqP lastW
  obtain ⟨r, e0, hi⟩ := zkW s hs
  rw [e0, Option.bind_some]
  generalize zkq s = n at hi
  rw [hi.1, Option.bind_some, zc9 hi.2, Option.bind_some, zea _ (by simp; omega), Option.bind_some]
  cases verK (s.drop n) == 2 with
  | true => rfl
  | false =>
    rw [if_neg (by decide), if_neg (by decide), zeJ, Option.bind_some]
    have hs' : s.length < 1000000000 := by omega
    obtain ⟨k1, h1, e1⟩ := zkn hs' (At.zero s)
    obtain ⟨k2, h2, e2⟩ := ze9 hs' 32 h1
    obtain ⟨k3, h3, e3⟩ := zfF (f := za5) (p := fun b => !(b == 32)) (fun b => rfl) hs' h2
    obtain ⟨k4, h4, e4⟩ := ze9 hs' 32 h3
    obtain ⟨k5, h5, e5⟩ := zkp hs' h4
    rw [e1, Option.bind_some]
    dsimp only
    rw [e2, Option.bind_some]
    dsimp only
    rw [e3, Option.bind_some]
    dsimp only
    rw [e4, Option.bind_some]
    dsimp only
    have hl := h2.le_len
    have hl2 := zfj (fun b => !(b == 32)) (zaS 32 (s.dropWhile zbh))
    rw [e5, Option.bind_some, zhv _ _ (by omega), Option.bind_some]
    dsimp only
    rw [zmB h5, Option.bind_some]
    unfold zH reqF reqT reqM zkr zln
    cases s.takeWhile zbh == [] <;> cases zdx 32 (s.dropWhile zbh) <;> cases zdx 32 ((zaS 32 (s.dropWhile zbh)).dropWhile (fun b => !(b == 32))) <;> cases (zet (zaS 32 ((zaS 32 (s.dropWhile zbh)).dropWhile (fun b => !(b == 32))))).2.1 <;> cases (zet (zaS 32 ((zaS 32 (s.dropWhile zbh)).dropWhile (fun b => !(b == 32))))).2.2 == [] <;> cases (zjL (s.takeWhile zbh) ((zaS 32 (s.dropWhile zbh)).takeWhile (fun b => !(b == 32)))).2 == 0 <;> rfl
theorem ziY {p : UInt8 → Bool} {s : Str} {x : UInt8} (h : x ∈ s.takeWhile p) : p x = true := by
  induction s with
  | nil => cases h
  | cons c s ih =>
    rw [List.takeWhile_cons] at h
    split at h
    · rename_i hc
      rcases List.mem_cons.1 h with rfl | h
      · exact hc
      · exact ih h
    · cases h
def staC (s : Str) : Str := (zaS 32 (zet s).2.2).takeWhile zbl
def zlo (s : Str) : Str := (zaS 32 (zet s).2.2).dropWhile zbl
def staF (s : Str) : Bool := (zet s).2.1 && zdx 32 (zet s).2.2 && zdx 32 (zlo s) && ((staC s).length : Int) == 3 && (zdQ 10 (staC s) 599).2 == 0 && !decide ((zdQ 10 (staC s) 599).1 < 100) && (zaS 32 (zlo s)).all zk0
def staP (s : Str) : api_Head × Int := if verK (zeA 32 s).1 == 2 then (zE, 26) else if staF s then (⟨2, [], [], (zdQ 10 (staC s) 599).1, zaS 32 (zlo s), (zet s).1, []⟩, 0) else (zE, 20)
theorem zf3 (s : Str) (hs : s.length < 300000000) : zbY s = some (staP s) := by
  unfold zbY staP
  have hcl := zji 32 s
  rw [zfr s 32 (by omega), Option.bind_some, zea _ (by omega), Option.bind_some]
  cases verK (zeA 32 s).1 == 2 with
  | true => rfl
  | false =>
    rw [if_neg (by decide), if_neg (by decide), zeJ, Option.bind_some]
    have hs' : s.length < 1000000000 := by omega
    obtain ⟨k1, h1, e1⟩ := zkp hs' (At.zero s)
    obtain ⟨k2, h2, e2⟩ := ze9 hs' 32 h1
    obtain ⟨k3, h3, e3⟩ := zfF zdB hs' h2
    obtain ⟨k4, h4, e4⟩ := ze9 hs' 32 h3
    rw [e1, Option.bind_some]
    dsimp only
    rw [e2, Option.bind_some]
    dsimp only
    rw [e3, Option.bind_some]
    dsimp only
    have hl := h2.le_len
    have hl2 := zfj zbl (zaS 32 (zet s).2.2)
    have hl4 := h4.le_len
    rw [e4, Option.bind_some, zc1 _ _ (by omega) (by decide) (by decide), Option.bind_some]
    dsimp only
    rw [zhF h4, Option.bind_some, zci zeX _ (by omega), Option.bind_some]
    unfold zB staF zlo staC
    dsimp only
    rw [zhF h4, Option.bind_some]
    cases (zet s).2.1 <;> cases zdx 32 (zet s).2.2 <;> cases zdx 32 ((zaS 32 (zet s).2.2).dropWhile zbl) <;> cases (((zaS 32 (zet s).2.2).takeWhile zbl).length : Int) == 3 <;> cases (zdQ 10 ((zaS 32 (zet s).2.2).takeWhile zbl) 599).2 == 0 <;> cases decide ((zdQ 10 ((zaS 32 (zet s).2.2).takeWhile zbl) 599).1 < 100) <;> cases (zaS 32 ((zaS 32 (zet s).2.2).dropWhile zbl)).all zk0 <;> rfl
def zeb (kind : Int) (s : Str) : api_Head × Int := if !(kind == 1) && !(kind == 2) then (zE, 1) else if s.any ([13, 10] : Str).contains then (zE, 24) else if kind == 1 then reqP s else staP s
theorem zcW (kind : Int) (s : Str) (hs : s.length < 300000000) : za0 kind s = some (zeb kind s) := by
  unfold za0 zbw zeb
  rw [zdd s [13, 10] (by omega) (by decide) (by decide), Option.bind_some, zfG s hs, Option.bind_some, zf3 s hs, Option.bind_some]
  cases kind == 1 <;> cases kind == 2 <;> cases s.any ([13, 10] : Str).contains <;> rfl

end Go.Dm
end
section
namespace Go.Dm
theorem zg3 {p : UInt8 → Bool} {c : UInt8} (hc : p c = false) : ∀ {m : Str} (r : Str), m.all p = true → (m ++ c :: r).takeWhile p = m ∧ (m ++ c :: r).dropWhile p = c :: r
  | [], r, _ => by simp [hc]
  | x :: m, r, h => by
    simp only [List.all_cons, Bool.and_eq_true] at h
    have ih := zg3 hc r h.2
    constructor
    · rw [List.cons_append, List.takeWhile_cons, if_pos h.1, ih.1]
    · rw [List.cons_append, List.dropWhile_cons, if_pos h.1, ih.2]
end Go.Dm
end
section
namespace Go.Dm
theorem zgH (k : Int) (s : Str) : (zeb k s).1.Fields = [] := by
  unfold zeb reqP staP
  split
  · rfl
  · split
    · rfl
    · split
      · split
        · rfl
        · split <;> rfl
      · split
        · rfl
        · split <;> rfl
end Go.Dm
end
section
namespace Go.Dm
def zaF (b : UInt8) : Bool := b == 32 || b == 9
def zkB (s : Str) : Str := s.dropWhile zaF
def ze2 (s : Str) : Str := (s.reverse.dropWhile zaF).reverse
def zd4 (s : Str) : Str := zkB (ze2 s)
theorem zkC (b : UInt8) : ([32, 9] : Str).contains b = zaF b := by
  simp only [zaF, List.contains_cons, List.contains_nil, Bool.or_false]
theorem ziF (s : Str) (c : UInt8) : ze2 (s ++ [c]) = if zaF c then ze2 s else s ++ [c] := by
  unfold ze2
  rw [List.reverse_append]
  simp only [List.reverse_cons, List.reverse_nil, List.nil_append, List.singleton_append, List.dropWhile_cons]
  split <;> simp
theorem zni (s : Str) : (ze2 s).length ≤ s.length := by
  unfold ze2
  rw [List.length_reverse]
  have := (List.dropWhile_suffix (l := s.reverse) zaF).length_le
  simpa using this
theorem znj (s : Str) : (zkB s).length ≤ s.length := (List.dropWhile_suffix zaF).length_le
theorem zly (s : Str) : (zd4 s).length ≤ s.length := Nat.le_trans (znj _) (zni _)
theorem zkD (s : Str) : (s.all zaF = true ∧ ze2 s = []) ∨ ∃ a c b, s = a ++ c :: b ∧ zaF c = false ∧ b.all zaF = true ∧ ze2 s = a ++ [c] := by
  rw [← List.reverse_reverse s]
  generalize s.reverse = r
  induction r with
  | nil => left; exact ⟨rfl, rfl⟩
  | cons x r ih =>
    rw [List.reverse_cons, ziF]
    rcases zfq (zaF x) with h | h
    · rw [h]
      rcases ih with ⟨h1, h2⟩ | ⟨a, c, b, h1, h2, h3, h4⟩
      · left; refine ⟨?_, by simpa using h2⟩
        rw [List.all_append, h1]; simp [h]
      · right; refine ⟨a, c, b ++ [x], by rw [h1]; simp, h2, by rw [List.all_append, h3]; simp [h], by simpa using h4⟩
    · right; exact ⟨r.reverse, x, [], rfl, h, rfl, by simp [h]⟩
theorem znk (s : Str) : Go.Lib.trimS s [32, 9] = zd4 s := by
  unfold Go.Lib.trimS Go.Lib.trimLeftS Go.Lib.trimRightS zd4 zkB ze2
  have : (fun x => ([32, 9] : List UInt8).contains x) = zaF := by funext b; exact zkC b
  rw [this]
theorem zhB (s : Str) (hs : s.length < 1000000000) : zdg s [32, 9] = some (zd4 s) := by
  unfold zdg
  rw [if_pos ⟨by omega, by simp, by decide⟩, znk]
end Go.Dm
end
section
namespace Go.Dm
theorem zjY {a b : Str} (hb : b.all zaF = true) : zd4 (a ++ b) = zd4 a := by
  have : ze2 (a ++ b) = ze2 a := by
    rw [← List.reverse_reverse b] at *
    generalize b.reverse = r at *
    induction r with
    | nil => simp
    | cons x r ih =>
      rw [List.reverse_cons, List.all_append] at hb
      simp only [Bool.and_eq_true, List.all_cons, List.all_nil, Bool.and_true] at hb
      rw [List.reverse_cons, ← List.append_assoc, ziF, hb.2, if_pos rfl]
      exact ih hb.1
  unfold zd4; rw [this]
def elems (l : List Str) : List Str := (l.map zd4).filter (fun x => !(x == []))
end Go.Dm
end
section
namespace Go.Dm
def isN (nm : Str) (f : api_Field) : Bool := low f.Name == low nm
def ze7 (m : Nat) (l : List api_Field) : Prop := ∀ f ∈ l, f.Name.length < m ∧ f.Value.length < m
theorem zke (l : List api_Field) (h : l.length < 1000000000) : zv l = some l := by
  unfold zv
  rw [if_pos (zfe (by omega) (by omega))]
theorem zlF {α : Type} [BEq α] [LawfulBEq α] (a b : List α) (L : Nat → Int → Option Bool) (hl : a.length = b.length) (ha : a.length < 1000000000)
    (hE : ∀ n, L (n + 1) (a.length : Int) = some true) (hL : ∀ n (i : Nat) x y, i < a.length → a[i]? = some x → b[i]? = some y → L (n + 1) (i : Int) = if (x == y) = true then L n ((i + 1 : Nat) : Int) else some false) : L fuel 0 = some (a == b) := by
  have key : ∀ (n i : Nat), i ≤ a.length → a.length - i < n → L n (i : Int) = some (a.drop i == b.drop i) := by
    intro n
    induction n with
    | zero => intro i _ h; omega
    | succ n ih =>
      intro i hi h
      by_cases hlt : i < a.length
      · have g1 : a[i]? = some a[i] := List.getElem?_eq_getElem hlt
        have g2 : b[i]? = some (b[i]'(by omega)) := List.getElem?_eq_getElem (by omega)
        rw [hL n i _ _ hlt g1 g2, ih (i + 1) (by omega) (by omega), List.drop_eq_getElem_cons hlt, List.drop_eq_getElem_cons (show i < b.length by omega), List.cons_beq_cons]
        cases a[i] == b[i]'(by omega) <;> rfl
      · have : i = a.length := by omega
        subst this
        rw [hE, List.drop_length, List.drop_of_length_le (by omega)]
        rfl
  have := key fuel 0 (Nat.zero_le _) (by unfold fuel; omega)
  rw [List.drop_zero, List.drop_zero] at this
  exact this
theorem ziU (a b : List api_Field) (ha : a.length < 1000000000) : zek a b = some (a == b) := by
  unfold zek
  by_cases hl : a.length = b.length
  · rw [hl, beq_self_eq_true, Bool.not_true, if_neg (by decide)]
    refine zlF a b (zbo a b) hl ha (fun n => ?_) (fun n i x y hi hx hy => ?_)
    · rw [zbo, decide_eq_false (by omega), if_neg (by decide)]
    · rw [zbo, decide_eq_true (by omega), if_pos rfl, zdH, hx, Option.bind_some, zdH, hy, Option.bind_some, zax (by omega), Option.bind_some]
      cases x == y <;> rfl
  · have : (((a.length : Int) == (b.length : Int))) = false := beq_eq_false_iff_ne.2 (by omega)
    have h2 : (a == b) = false := beq_eq_false_iff_ne.2 (fun e => hl (by rw [e]))
    rw [this, h2]; rfl
theorem zkf {m n : Nat} (h : m ≤ n) {l : List api_Field} (hs : ze7 m l) : ze7 n l := fun f hf => by have := hs f hf; omega
end Go.Dm
end
section
namespace Go.Dm
def zlA (a b : api_Head) : Bool := a.Kind == b.Kind && a.Method == b.Method && a.Target == b.Target && a.Minor == b.Minor && a.Code == b.Code && a.Reason == b.Reason && a.Fields == b.Fields
theorem ziM (a : api_Head) : zlA a a = true := by unfold zlA; simp
theorem zgj (a b : api_Head) (ha : a.Fields.length < 1000000000) : za2 a b = some (zlA a b) := by
  unfold za2 zcO zfa zaR zlA
  rw [ziU _ _ ha, Option.bind_some]
  cases a.Kind == b.Kind <;> cases a.Method == b.Method <;> cases a.Target == b.Target <;> cases a.Minor == b.Minor <;> cases a.Code == b.Code <;> cases a.Reason == b.Reason <;> rfl
end Go.Dm
end
section
namespace Go.Dm
theorem zeQ (b : UInt8) : zbN b = some (zaF b) :=
  of_decide_eq_true (zbq (fun b => decide (zbN b = some (zaF b))) (by decide +kernel) b)
def zd8 : api_Field := ⟨[], []⟩
def zjJ (s : Str) : api_Field × Int :=
  if s.any ([13, 10] : Str).contains then (zd8, 24) else if !(s.takeWhile zaF == []) then (zd8, 23)
  else if s.takeWhile zbh == [] || !zdx 58 ((s.dropWhile zbh).dropWhile zaF) then (zd8, 21)
  else if !((s.dropWhile zbh).takeWhile zaF == []) then (zd8, 22)
  else if !((zaS 58 ((s.dropWhile zbh).dropWhile zaF)).all zk0) then (zd8, 25)
  else (⟨s.takeWhile zbh, zd4 (zaS 58 ((s.dropWhile zbh).dropWhile zaF))⟩, 0)
theorem zf2 (s : Str) (hs : s.length < 1000000000) : za1 s = some (zjJ s) := by
  unfold za1 zjJ
  rw [zdd s _ hs (by decide) (by decide), Option.bind_some]
  cases s.any ([13, 10] : Str).contains with
  | true => rfl
  | false =>
    obtain ⟨k1, a1, e1⟩ := zfF zeQ hs (At.zero s)
    have b1 : zY (scn s 0) = some (s.takeWhile zaF, scn s k1) := by unfold zY; rw [e1]; rfl
    rw [if_neg Bool.false_ne_true, if_neg Bool.false_ne_true, zeJ, Option.bind_some, b1, Option.bind_some]
    dsimp only
    cases hb : s.takeWhile zaF == [] with
    | false => rfl
    | true =>
      have hd : s.dropWhile zaF = s := by
        have := List.takeWhile_append_dropWhile (p := zaF) (l := s)
        have h0 : s.takeWhile zaF = [] := by simpa using hb
        rwa [h0, List.nil_append] at this
      rw [hd] at a1
      obtain ⟨k2, a2, e2⟩ := zkn hs a1
      obtain ⟨k3, a3, e3⟩ := zfF zeQ hs a2
      have b3 : zY (scn s k2) = some ((s.dropWhile zbh).takeWhile zaF, scn s k3) := by unfold zY; rw [e3]; rfl
      rw [Bool.not_true, if_neg Bool.false_ne_true, if_neg Bool.false_ne_true, e2, Option.bind_some, b3, Option.bind_some]
      dsimp only
      cases hn : s.takeWhile zbh == [] with
      | true => rfl
      | false =>
        obtain ⟨k4, a4, e4⟩ := ze9 hs 58 a3
        rw [Bool.not_false, Bool.not_true, if_neg Bool.false_ne_true, e4, Option.bind_some, Bool.false_or]
        have hl := a4.le_len
        generalize zaS 58 ((s.dropWhile zbh).dropWhile zaF) = v at a4 hl
        unfold zbx
        show (if (!zdx 58 ((s.dropWhile zbh).dropWhile zaF)) = true then _ else if (!((s.dropWhile zbh).takeWhile zaF == [])) = true then _ else (zz (scn s k4)).bind _) = _
        rw [zhF a4, Option.bind_some, zci zeX v (by omega), Option.bind_some]
        cases zdx 58 ((s.dropWhile zbh).dropWhile zaF) with
        | false => rfl
        | true =>
          rw [Bool.not_true, if_neg Bool.false_ne_true, if_neg Bool.false_ne_true]
          cases (s.dropWhile zbh).takeWhile zaF == [] with
          | false => rfl
          | true =>
            rw [Bool.not_true, if_neg Bool.false_ne_true, if_neg Bool.false_ne_true]
            cases v.all zk0 with
            | false => rfl
            | true =>
              rw [Bool.not_true, if_neg Bool.false_ne_true, if_neg Bool.false_ne_true]
              rw [Option.bind_some, zhB v (by omega), Option.bind_some]
def zh9 : Str → Bool
  | [] => false
  | c :: _ => zaF c
def zcn (s : Str) : api_Field × Int :=
  if s.any ([13, 10] : Str).contains then (zd8, 24) else if zh9 s then (zd8, 23)
  else if za4 [58] s == [] || !zjm (zd4 (upto [58] s)) then (zd8, 21)
  else if decide ((zd4 (upto [58] s)).length < (upto [58] s).length) then (zd8, 22)
  else if !(((za4 [58] s).drop 1).all zk0) then (zd8, 25)
  else (⟨zd4 (upto [58] s), zd4 ((za4 [58] s).drop 1)⟩, 0)
theorem zkQ (s : Str) : (!(s.takeWhile zaF == [])) = zh9 s := by
  cases s with
  | nil => rfl
  | cons c s =>
    rw [List.takeWhile_cons]
    show _ = zaF c
    cases zaF c <;> rfl
theorem znG (c : UInt8) : (!zbh c || (!zaF c && !(c == 58))) = true := zbq (fun c => !zbh c || (!zaF c && !(c == 58))) (by decide +kernel) c
theorem zmu (c : UInt8) : (!zaF c || (!zbh c && !(c == 58))) = true := zbq (fun c => !zaF c || (!zbh c && !(c == 58))) (by decide +kernel) c
theorem zjb {n : Str} (h : n.all zbh = true) : (∀ x ∈ n, zaF x = false) ∧ (58 : UInt8) ∉ n := by
  have key : ∀ x ∈ n, zaF x = false ∧ (x == 58) = false := fun x hx => by
    have h1 := List.all_eq_true.1 h x hx
    have h2 := znG x
    rw [h1] at h2
    simpa using h2
  exact ⟨fun x hx => (key x hx).1, fun hx => by have := (key _ hx).2; cases this⟩
theorem zmv {b : Str} (h : b.all zaF = true) : (58 : UInt8) ∉ b := fun hx => by
  have := List.all_eq_true.1 h _ hx
  cases this
theorem znH (u v : Str) (h : (58 : UInt8) ∉ u) : upto [58] (u ++ 58 :: v) = u ∧ za4 [58] (u ++ 58 :: v) = 58 :: v := by
  induction u with
  | nil => exact ⟨zfB (by decide), zex (by decide)⟩
  | cons c u ih =>
    have hc : ([58] : Str).contains c = false := by
      have : c ≠ 58 := fun e => h (by rw [e]; exact List.mem_cons_self ..)
      simpa using this
    have ih := ih (fun hx => h (List.mem_cons_of_mem _ hx))
    rw [List.cons_append, zfC hc, zey hc, ih.1, ih.2]
    exact ⟨rfl, rfl⟩
theorem zgb (p : UInt8 → Bool) (s : Str) : (s.takeWhile p).all p = true := List.all_eq_true.2 fun _ hx => ziY hx
theorem zlI {n b v : Str} (hn : n.all zbh = true) (hb : b.all zaF = true) :
    (n ++ (b ++ 58 :: v)).takeWhile zbh = n ∧ (n ++ (b ++ 58 :: v)).dropWhile zbh = b ++ 58 :: v ∧ (b ++ 58 :: v).takeWhile zaF = b ∧ (b ++ 58 :: v).dropWhile zaF = 58 :: v := by
  have h1 := zg3 (p := zaF) (c := 58) (by decide) v hb
  refine ⟨?_, ?_, h1.1, h1.2⟩
  · cases b with
    | nil => exact (zg3 (p := zbh) (c := 58) (by decide) v hn).1
    | cons c b =>
      have hc : zbh c = false := by
        rw [List.all_cons, Bool.and_eq_true] at hb
        have := zmu c
        rw [hb.1] at this
        simp only [Bool.not_true, Bool.false_or, Bool.and_eq_true, Bool.not_eq_true'] at this
        exact this.1
      exact (zg3 hc _ hn).1
  · cases b with
    | nil => exact (zg3 (p := zbh) (c := 58) (by decide) v hn).2
    | cons c b =>
      have hc : zbh c = false := by
        rw [List.all_cons, Bool.and_eq_true] at hb
        have := zmu c
        rw [hb.1] at this
        simp only [Bool.not_true, Bool.false_or, Bool.and_eq_true, Bool.not_eq_true'] at this
        exact this.1
      exact (zg3 hc _ hn).2
theorem zmw {s : Str} (h : ∀ x ∈ s, zaF x = false) : zd4 s = s := by
  have hl : ∀ t : Str, (∀ x ∈ t, zaF x = false) → t.dropWhile zaF = t := by
    intro t ht
    cases t with
    | nil => rfl
    | cons y t => rw [List.dropWhile_cons, ht y (List.mem_cons_self ..)]; rfl
  have hr : ze2 s = s := by unfold ze2; rw [hl _ (fun x hx => h x (List.mem_reverse.1 hx)), List.reverse_reverse]
  unfold zd4 zkB
  rw [hr, hl s h]
theorem zlJ {n b : Str} (hn : n.all zbh = true) (hb : b.all zaF = true) : zd4 (n ++ b) = n := by
  rw [zjY hb]
  exact zmw (zjb hn).1
theorem zlK {u : Str} (h : zh9 u = false) (ht : zjm (zd4 u) = true) : ∃ b, u = zd4 u ++ b ∧ b.all zaF = true := by
  rcases zkD u with ⟨h1, h2⟩ | ⟨a, c, b, h1, h2, h3, h4⟩
  · have : zd4 u = [] := by unfold zd4; rw [h2]; rfl
    rw [this] at ht; cases ht
  · refine ⟨b, ?_, h3⟩
    have e : zd4 u = a ++ [c] := by
      unfold zd4
      rw [h4]
      unfold zkB
      cases a with
      | nil => show [c].dropWhile zaF = _; rw [List.dropWhile_cons, h2, if_neg Bool.false_ne_true]; rfl
      | cons x a =>
        rw [h1] at h
        have hx : zaF x = false := h
        rw [List.cons_append, List.dropWhile_cons, hx, if_neg Bool.false_ne_true]
    rw [e, h1]; simp
theorem zmx (s : Str) : zjJ s = zcn s := by
  unfold zjJ zcn
  rw [zkQ]
  cases s.any ([13, 10] : Str).contains with
  | true => rfl
  | false =>
    cases hb : zh9 s with
    | true => rfl
    | false =>
      rw [if_neg Bool.false_ne_true, if_neg Bool.false_ne_true, if_neg Bool.false_ne_true, if_neg Bool.false_ne_true]
      have e1 := List.takeWhile_append_dropWhile (p := zbh) (l := s)
      have e2 := List.takeWhile_append_dropWhile (p := zaF) (l := s.dropWhile zbh)
      have hn := zgb zbh s
      have hbb := zgb zaF (s.dropWhile zbh)
      cases hc : zdx 58 ((s.dropWhile zbh).dropWhile zaF) with
      | true =>
        have e3 := zie hc
        generalize zaS 58 ((s.dropWhile zbh).dropWhile zaF) = v at e3
        generalize s.takeWhile zbh = n at e1 hn
        generalize (s.dropWhile zbh).takeWhile zaF = b at e2 hbb
        have es : s = (n ++ b) ++ 58 :: v := by rw [← e1, ← e2, e3, List.append_assoc]
        have hno : (58 : UInt8) ∉ n ++ b := fun hx => by
          rcases List.mem_append.1 hx with h | h
          · exact (zjb hn).2 h
          · exact zmv hbb h
        obtain ⟨u1, u2⟩ := znH (n ++ b) v hno
        rw [es, u1, u2, zlJ hn hbb]
        have ht : zjm n = !(n == []) := by unfold zjm; rw [hn, Bool.true_and]
        rw [ht]
        have hlt : decide (n.length < (n ++ b).length) = !(b == []) := by
          cases b with
          | nil => simp
          | cons x b => simp
        rw [hlt]
        show (if (n == [] || false) = true then _ else _) = if (false || !(!(n == []))) = true then _ else _
        rw [Bool.or_false, Bool.false_or, Bool.not_not]
        rfl
      | false =>
        rw [Bool.not_false, Bool.or_true, if_pos rfl]
        cases hf : za4 [58] s with
        | nil => rfl
        | cons c v =>
          have hc58 : c = 58 := by simpa using zlD hf
          subst hc58
          cases ht : zjm (zd4 (upto [58] s)) with
          | false => rfl
          | true =>
            exfalso
            have es := zcw [58] s
            rw [hf] at es
            have hub : zh9 (upto [58] s) = false := by
              cases hu : upto [58] s with
              | nil => rfl
              | cons x u => rw [hu] at es; rw [← es] at hb; exact hb
            obtain ⟨b, eb, hbl⟩ := zlK hub ht
            unfold zjm at ht
            rw [Bool.and_eq_true] at ht
            have es2 : s = zd4 (upto [58] s) ++ (b ++ 58 :: v) := by
              rw [← List.append_assoc, ← eb]; exact es.symm
            obtain ⟨_, q2, _, q4⟩ := zlI (v := v) ht.1 hbl
            rw [es2, q2, q4] at hc
            cases hc
theorem zd9 (s : Str) (hs : s.length < 1000000000) : za1 s = some (zcn s) := by rw [zf2 s hs, zmx]
end Go.Dm
end
section
namespace Go.Dm
def lines : Str → List Str
  | [] => [[]]
  | [c] => [[c]]
  | c :: d :: r => if c == 13 && d == 10 then [] :: lines r else zdz [c] (lines (d :: r))
theorem zjc (c d : UInt8) (r : Str) : lines (c :: d :: r) = if c == 13 && d == 10 then [] :: lines r else zdz [c] (lines (d :: r)) := by rw [lines]
theorem zmy (c d : UInt8) (r : Str) : ([13, 10] : Str).isPrefixOf (c :: d :: r) = (c == 13 && d == 10) := by
  show ((13 : UInt8) == c && ((10 : UInt8) == d && ([] : Str).isPrefixOf r)) = _
  have : ([] : Str).isPrefixOf r = true := by simp
  rw [this, Bool.and_true, show ((13 : UInt8) == c) = (c == 13) from by rw [Bool.eq_iff_iff, beq_iff_eq, beq_iff_eq]; exact eq_comm, show ((10 : UInt8) == d) = (d == 10) from by rw [Bool.eq_iff_iff, beq_iff_eq, beq_iff_eq]; exact eq_comm]
theorem zkk : ∀ (n : Nat) (s : Str), s.length < n → lines s ≠ []
  | 0, _, h => by omega
  | n + 1, [], _ => by simp [lines]
  | n + 1, [c], _ => by simp [lines]
  | n + 1, c :: d :: r, h => by
    rw [zjc]
    split
    · simp
    · simp only [List.length_cons] at h
      cases hl : lines (d :: r) with
      | nil => exact absurd hl (zkk n _ (by simp only [List.length_cons]; omega))
      | cons a t => simp [zdz]
theorem zmz (s : Str) : lines s ≠ [] := zkk _ s (Nat.lt_succ_self _)
theorem zjd : ∀ (n : Nat) (s : Str), s.length < n → lines s = match zb0 [13, 10] s with | none => [s] | some p => p.1 :: lines p.2
  | 0, _, h => by omega
  | n + 1, [], _ => by simp [lines, zb0]
  | n + 1, [c], _ => by
    have : ([13, 10] : Str).isPrefixOf [c] = false := by
      show ((13 : UInt8) == c && false) = false
      rw [Bool.and_false]
    rw [zb0, this, if_neg Bool.false_ne_true]
    simp [lines, zb0]
  | n + 1, c :: d :: r, h => by
    simp only [List.length_cons] at h
    have ih := zjd n (d :: r) (by simp only [List.length_cons]; omega)
    rw [zjc, zb0, zmy]
    cases hc : (c == 13 && d == 10) with
    | true => rfl
    | false =>
      rw [if_neg Bool.false_ne_true, if_neg Bool.false_ne_true, ih]
      cases zb0 [13, 10] (d :: r) with
      | none => rfl
      | some p => rfl
theorem zkl (s : Str) : lines s = match zb0 [13, 10] s with | none => [s] | some p => p.1 :: lines p.2 := zjd _ s (Nat.lt_succ_self _)
theorem zhn : ∀ (k : Nat) (s : Str), Go.Lib.count s [13, 10] = k → Go.Lib.splitK [13, 10] 0 k s = lines s
  | k, s, h => by
    have hi := zfX (t := [13, 10]) (by decide) s
    rw [zkl]
    cases hc : zb0 [13, 10] s with
    | none =>
      rw [hc] at hi
      have h0 := Go.Lib.count_miss hi
      have : k = 0 := by omega
      subst this
      rfl
    | some p =>
      rw [hc] at hi
      have e := zct (a := p.1) (b := p.2) hc
      have e1 : s.take p.1.length = p.1 := by rw [e, List.append_assoc, List.take_left']; rfl
      have e2 : s.drop (p.1.length + 2) = p.2 := by rw [e, List.drop_left']; simp
      have hh := Go.Lib.count_hit (i := p.1.length) (by decide) hi
      rw [show ([13, 10] : Str).length = 2 from rfl, e2] at hh
      obtain ⟨m, rfl⟩ : ∃ m, k = m + 1 := ⟨k - 1, by omega⟩
      have ih := zhn m p.2 (by omega)
      unfold Go.Lib.splitK
      have hn : (((p.1.length : Int)) == -1) = false := beq_eq_false_iff_ne.2 (by omega)
      rw [hi]
      dsimp only
      rw [hn, if_neg Bool.false_ne_true, Int.toNat_natCast, Nat.add_zero, e1, show ([13, 10] : Str).length = 2 from rfl, e2, ih]
theorem zgn (s : Str) (hs : s.length < 1000000000) : strings_Split s [13, 10] = some (lines s) := by
  unfold strings_Split
  rw [if_pos ⟨by omega, by decide⟩]
  exact congrArg some (zhn _ s rfl)
theorem zg5 : ∀ (n : Nat) (s : Str), s.length < n → (lines s).length ≤ s.length + 1 ∧ ∀ l ∈ lines s, l.length ≤ s.length
  | 0, _, h => by omega
  | n + 1, s, h => by
    rw [zkl]
    cases hc : zb0 [13, 10] s with
    | none => simp
    | some p =>
      have e := congrArg List.length (zct (a := p.1) (b := p.2) hc)
      simp only [List.length_append, List.length_cons, List.length_nil] at e
      obtain ⟨h1, h2⟩ := zg5 n p.2 (by omega)
      dsimp only
      refine ⟨by simp only [List.length_cons]; omega, fun l hl => ?_⟩
      rcases List.mem_cons.1 hl with h | h
      · rw [h]; omega
      · have := h2 l h; omega
theorem zgD (s t : Str) (hs : s.length < 1000000000) (ht : t ≠ []) : strings_Index s t = some (match zb0 t s with | none => -1 | some p => (p.1.length : Int)) := by
  unfold strings_Index
  rw [if_pos (by omega), zhU, zfX ht]
  first | done | (cases zb0 t s <;> rfl)
def zfE (h : api_Head) : List Str := (h.Fields.filter (isN [104, 111, 115, 116])).map (·.Value)
def zhE (h : api_Head) : Bool := if h.Kind == 1 then (if decide (1 < (zfE h).length) || decide (((zfE h).length : Int) < h.Minor) then false else (zfE h).all (fun x => x == [] || (zdL x).2 == 0)) else true
def zia (h : api_Head) : Int := if decide (100 < h.Fields.length) then 3 else if zhE h then 0 else 27
theorem zmA : isN ([72, 111, 115, 116] : Str) = isN [104, 111, 115, 116] := by
  funext f
  unfold isN
  have : low ([72, 111, 115, 116] : Str) = low ([104, 111, 115, 116] : Str) := by decide
  rw [this]
theorem ziV (l : List api_Field) (nm : Str) (hn : nm.length < 1000000000) (hl : l.length < 1000000000) (hs : ze7 1000000000 l) : zcr ⟨l⟩ nm = some ((l.filter (isN nm)).map (·.Value)) := by
  unfold zcr zd1
  rw [zke l hl, Option.bind_some, Option.bind_some]
  have key : ∀ (n i : Nat) (out : List Str), i ≤ l.length → l.length - i < n → out.length ≤ i → zab nm l n out (i : Int) = some (out ++ ((l.drop i).filter (isN nm)).map (·.Value)) := by
    intro n
    induction n with
    | zero => intro i _ _ h; omega
    | succ n ih =>
      intro i out hi h ho
      rw [zab]
      by_cases hlt : i < l.length
      · have g : l[i]? = some l[i] := List.getElem?_eq_getElem hlt
        have hsm := hs l[i] (List.getElem_mem _)
        rw [decide_eq_true (show (i : Int) < (l.length : Int) by omega), if_pos rfl, zdH, g, Option.bind_some, ziZ _ _ hsm.1 hn, Option.bind_some, if_pos (zfe (by omega) (by omega))]
        unfold zbL
        rw [zax (by omega), Option.bind_some, Option.bind_some, ih (i + 1) _ (by omega) (by omega) (by simp; omega), ih (i + 1) _ (by omega) (by omega) (by omega), List.drop_eq_getElem_cons hlt, List.filter_cons]
        show (if (isN nm l[i]) = true then _ else _) = _
        cases isN nm l[i] with
        | true => simp
        | false => rfl
      · have : i = l.length := by omega
        subst this
        rw [decide_eq_false (by omega), if_neg Bool.false_ne_true, List.drop_length]
        simp
  have := key fuel 0 [] (Nat.zero_le _) (by unfold fuel; omega) (by simp)
  rw [List.drop_zero, List.nil_append] at this
  exact this
theorem ziW (h : api_Head) (hl : h.Fields.length < 1000000000) (hs : ze7 400000000 h.Fields) : zeg h = some (zhE h) := by
  unfold zeg zhE
  cases h.Kind == 1 with
  | false => rfl
  | true =>
    have hvl : (zfE h).length ≤ h.Fields.length := by unfold zfE; rw [List.length_map]; exact List.length_filter_le _ _
    have hvm : ∀ v ∈ zfE h, v.length < 400000000 := fun v hv => by
      obtain ⟨f, hf, rfl⟩ := List.mem_map.1 hv
      exact (hs f (List.mem_filter.1 hf).1).2
    rw [Bool.not_true, if_neg Bool.false_ne_true, if_pos rfl]
    unfold zhJ
    rw [zke _ hl, Option.bind_some, Option.bind_some, ziV _ _ (by decide) hl (zkf (by decide) hs), Option.bind_some, zmA]
    show (if decide (1 < ((zfE h).length : Int)) = true then zbO (zfE h) true else zbO (zfE h) (decide (((zfE h).length : Int) < h.Minor))) = _
    generalize zfE h = vs at hvl hvm
    have key : ∀ (n i : Nat), i ≤ vs.length → vs.length - i < n → zaP vs n (i : Int) = some ((vs.drop i).all (fun x => x == [] || (zdL x).2 == 0)) := by
      intro n
      induction n with
      | zero => intro i _ h; omega
      | succ n ih =>
        intro i hi h
        rw [zaP]
        by_cases hlt : i < vs.length
        · have g : vs[i]? = some vs[i] := List.getElem?_eq_getElem hlt
          have hsm := hvm vs[i] (List.getElem_mem _)
          unfold zcM
          rw [decide_eq_true (show (i : Int) < (vs.length : Int) by omega), if_pos rfl, zdH, g, Option.bind_some, zdf _ hsm, Option.bind_some, zax (by omega), Option.bind_some, ih (i + 1) (by omega) (by omega), List.drop_eq_getElem_cons hlt, List.all_cons]
          cases (zdL vs[i]).2 == 0 <;> cases vs[i] == [] <;> rfl
        · have : i = vs.length := by omega
          subst this
          rw [decide_eq_false (by omega), if_neg Bool.false_ne_true, List.drop_length]
          rfl
    have hk := key fuel 0 (Nat.zero_le _) (by unfold fuel; omega)
    rw [List.drop_zero] at hk
    unfold zbO
    by_cases h1 : 1 < vs.length
    · rw [decide_eq_true (show 1 < (vs.length : Int) by omega), decide_eq_true h1]; rfl
    · rw [decide_eq_false (show ¬ 1 < (vs.length : Int) by omega), decide_eq_false h1, if_neg Bool.false_ne_true, Bool.false_or]
      cases decide ((vs.length : Int) < h.Minor) with
      | true => rfl
      | false => exact hk
theorem ziX (h : api_Head) (hl : h.Fields.length < 1000000000) (hs : ze7 400000000 h.Fields) : zeh h = some (zia h) := by
  unfold zeh zia
  rw [ziW h hl hs, Option.bind_some]
  by_cases h1 : 100 < h.Fields.length
  · rw [decide_eq_true (show 100 < (h.Fields.length : Int) by omega), decide_eq_true h1]; rfl
  · rw [decide_eq_false (show ¬ 100 < (h.Fields.length : Int) by omega), decide_eq_false h1]
    cases zhE h <;> rfl
def zib (h : api_Head) (f : api_Field) : api_Head := ⟨h.Kind, h.Method, h.Target, h.Code, h.Reason, h.Minor, h.Fields ++ [f]⟩
def zeR : api_Head → List Str → api_Head × Int
  | h, [] => if zia h == 0 then (h, 0) else (zE, zia h)
  | h, l :: ls => if (zcn l).2 == 0 then zeR (zib h (zcn l).1) ls else (zE, (zcn l).2)
def zkm (k : Int) : List Str → api_Head × Int
  | [] => (zE, 6)
  | l :: ls => if (zeb k l).2 == 0 then zeR (zeb k l).1 ls else (zE, (zeb k l).2)
def zdw (k : Int) (s : Str) (lim : Int) : api_Head × Int :=
  if !(k == 1) && !(k == 2) then (zE, 1) else if decide (lim < (s.length : Int)) then (zE, 3) else match zb0 [13, 10, 13, 10] s with
  | none => (zE, 6)
  | some p => if p.2 == [] then zkm k (lines p.1) else (zE, 6)
theorem zkR (l : Str) : (zcn l).1.Name.length ≤ l.length ∧ (zcn l).1.Value.length ≤ l.length := by
  unfold zcn
  have h1 := zly (upto [58] l)
  have h2 := zjC [58] l
  have h3 := zly ((za4 [58] l).drop 1)
  have h4 := congrArg List.length (zcw [58] l)
  simp only [List.length_append] at h4
  simp only [List.length_drop] at h3
  split
  · simp [zd8]
  · split
    · simp [zd8]
    · split
      · simp [zd8]
      · split
        · simp [zd8]
        · split
          · simp [zd8]
          · dsimp only; omega
theorem zkS {h : api_Head} {l : Str} (hs : ze7 400000000 h.Fields) (hl : l.length < 400000000) : ze7 400000000 (zib h (zcn l).1).Fields := by
  intro f hf
  rcases List.mem_append.1 hf with h1 | h1
  · exact hs f h1
  · have := zkR l
    have e : f = (zcn l).1 := by simpa using h1
    rw [e]; omega
theorem zkT (h : api_Head) (hl : h.Fields.length < 1000000000) (hs : ze7 400000000 h.Fields) : zcN h.Kind h.Method h.Target h.Code h.Reason h.Minor h.Fields = some (zeR h []) := by
  unfold zcN
  rw [ziX _ hl hs, Option.bind_some, zeR]
  cases zia h == 0 <;> rfl
theorem zic (ls : List Str) (hln : ls.length < 100000000) (hls : ∀ l ∈ ls, l.length < 400000000) : ∀ (n i : Nat) (h : api_Head), i ≤ ls.length → ls.length - i < n → ze7 400000000 h.Fields → h.Fields.length ≤ i →
    zbP ls n h.Kind h.Method h.Target h.Code h.Reason h.Minor h.Fields (i : Int) = some (zeR h (ls.drop i))
  | 0, _, _, _, h, _, _ => by omega
  | n + 1, i, h, hi, hn, hs, hfl => by
    rw [zbP]
    by_cases hlt : i < ls.length
    · have g : ls[i]? = some ls[i] := List.getElem?_eq_getElem hlt
      have hsm := hls ls[i] (List.getElem_mem _)
      have ih := zic ls hln hls n (i + 1) (zib h (zcn ls[i]).1) (by omega) (by omega) (zkS hs hsm) (by unfold zib; simp; omega)
      rw [decide_eq_true (show (i : Int) < (ls.length : Int) by omega), if_pos rfl, zdH, g, Option.bind_some, zd9 _ (by omega), Option.bind_some, if_pos (zfe (by omega) (by omega)), zax (by omega), Option.bind_some, List.drop_eq_getElem_cons hlt, zeR]
      cases (zcn ls[i]).2 == 0 with
      | false => rfl
      | true => exact ih
    · have : i = ls.length := by omega
      subst this
      rw [decide_eq_false (by omega), if_neg Bool.false_ne_true, List.drop_length]
      exact zkT h (by omega) hs
theorem zje (k : Int) : ((zeb k []).2 == 1) = (!(k == 1) && !(k == 2)) := by
  unfold zeb
  cases h1 : k == 1 with
  | true => rfl
  | false =>
    cases h2 : k == 2 with
    | true => rfl
    | false => rfl
theorem zkU (k : Int) (h : (!(k == 1) && !(k == 2)) = true) : (zeb k []).2 = 1 := by
  have := zje k
  rw [h] at this
  simpa using this
theorem zgc (k : Int) (s : Str) (lim : Int) (hs : s.length < 90000000) : zb4 k s lim = some (zdw k s lim) := by
  unfold zb4 zdw
  rw [zcW k [] (by decide), Option.bind_some, zje]
  cases hk : (!(k == 1) && !(k == 2)) with
  | true => rw [if_pos rfl, if_pos rfl, zkU k hk]; rfl
  | false =>
    rw [if_neg Bool.false_ne_true, if_neg Bool.false_ne_true, zgD s _ (by omega) (by decide), Option.bind_some]
    cases decide (lim < (s.length : Int)) with
    | true => rfl
    | false =>
      rw [if_neg Bool.false_ne_true, if_neg Bool.false_ne_true]
      have j1t : ∀ r, zch k s r true = some (zE, 6) := fun r => rfl
      cases hc : zb0 [13, 10, 13, 10] s with
      | none => exact j1t (-1)
      | some p =>
        have e := zct (a := p.1) (b := p.2) hc
        have el := congrArg List.length e
        simp only [List.length_append, List.length_cons, List.length_nil] at el
        have a4 : zaO (p.1.length : Int) 4 = some ((p.1.length + 4 : Nat) : Int) := by rw [zcV (by omega) (by omega)]; exact congrArg some (by omega)
        dsimp only
        rw [decide_eq_false (show ¬ (p.1.length : Int) < 0 by omega), if_neg Bool.false_ne_true, a4, Option.bind_some]
        cases hp : p.2 == [] with
        | false =>
          have hne : p.2 ≠ [] := by simpa using hp
          have hpl : 0 < p.2.length := List.length_pos_iff.2 hne
          have : (((p.1.length + 4 : Nat) : Int) == (s.length : Int)) = false := beq_eq_false_iff_ne.2 (by omega)
          rw [this]
          exact j1t _
        | true =>
          have hp0 : p.2 = [] := by simpa using hp
          rw [hp0] at el
          simp only [List.length_nil] at el
          have : (((p.1.length + 4 : Nat) : Int) == (s.length : Int)) = true := by rw [beq_iff_eq]; omega
          rw [this, Bool.not_true, if_pos rfl]
          unfold zch
          have st : s.take p.1.length = p.1 := by rw [e, List.append_assoc, List.take_left']; rfl
          rw [if_neg Bool.false_ne_true, zfd (by omega), Option.bind_some, st, zgn _ (by omega), Option.bind_some]
          obtain ⟨m1, m2⟩ := zg5 _ p.1 (Nat.lt_succ_self _)
          cases hl : lines p.1 with
          | nil => exact absurd hl (zmz _)
          | cons l ls =>
            rw [hl] at m1 m2
            have hll := m2 l (List.mem_cons_self ..)
            rw [zmI, List.getElem?_cons_zero, Option.bind_some, zcW k l (by omega), Option.bind_some, zkm]
            cases h0 : (zeb k l).2 == 0 with
            | false => rfl
            | true =>
              have hf : zkg (l :: ls) 1 = some ls := by
                unfold zkg
                rw [if_pos ⟨by decide, by simp only [List.length_cons]; omega⟩]
                rfl
              rw [Bool.not_true, if_neg Bool.false_ne_true, hf, Option.bind_some, if_pos rfl]
              have hfs := zgH k l
              have := zic ls (by simp only [List.length_cons] at m1; omega) (fun x hx => by have := m2 x (List.mem_cons_of_mem _ hx); omega) fuel 0 (zeb k l).1 (Nat.zero_le _) (by simp only [List.length_cons] at m1; unfold fuel; omega) (by rw [hfs]; intro f hf; cases hf) (by rw [hfs]; simp)
              rw [List.drop_zero] at this
              exact this
theorem zjf : ∀ (ls : List Str) (h : api_Head), (zeR h ls).1.Fields.length ≤ h.Fields.length + ls.length
  | [], h => by
    rw [zeR]
    split
    · simp
    · simp [zE]
  | l :: ls, h => by
    rw [zeR]
    split
    · have := zjf ls (zib h (zcn l).1)
      have e : (zib h (zcn l).1).Fields.length = h.Fields.length + 1 := by unfold zib; simp
      simp only [List.length_cons]
      omega
    · simp [zE]
theorem zlL (k : Int) (s : Str) (lim : Int) : (zdw k s lim).1.Fields.length ≤ s.length + 1 := by
  unfold zdw
  split
  · simp [zE]
  · split
    · simp [zE]
    · cases hc : zb0 [13, 10, 13, 10] s with
      | none => simp [zE]
      | some p =>
        have el := congrArg List.length (zct (a := p.1) (b := p.2) hc)
        simp only [List.length_append, List.length_cons, List.length_nil] at el
        dsimp only
        split
        · have hm := (zg5 _ p.1 (Nat.lt_succ_self _)).1
          cases hl : lines p.1 with
          | nil => simp [zkm, zE]
          | cons l ls =>
            rw [hl] at hm
            simp only [List.length_cons] at hm
            rw [zkm]
            split
            · have := zjf ls (zeb k l).1
              rw [zgH] at this
              simp only [List.length_nil] at this
              omega
            · simp [zE]
        · simp [zE]
theorem zkV {k : Int} {s : Str} {lim : Int} (h : ((zdw k s lim).2 == 0) = false) : (zdw k s lim).1 = zE := by
  have pF : ∀ (ls : List Str) (h : api_Head), ((zeR h ls).2 == 0) = false → (zeR h ls).1 = zE := by
    intro ls
    induction ls with
    | nil =>
      intro h hh
      rw [zeR] at hh ⊢
      split
      · rename_i h1; rw [if_pos h1] at hh; cases hh
      · rfl
    | cons l ls ih =>
      intro h hh
      rw [zeR] at hh ⊢
      split
      · rename_i h1; rw [if_pos h1] at hh; exact ih _ hh
      · rfl
  unfold zdw at h ⊢
  split
  · rfl
  · rename_i h1
    rw [if_neg h1] at h
    split
    · rfl
    · rename_i h2
      rw [if_neg h2] at h
      split
      · rfl
      · rename_i p hp
        rw [hp] at h
        dsimp only at h
        split
        · rename_i h3
          rw [if_pos h3] at h
          cases hl : lines p.1 with
          | nil => rfl
          | cons l ls =>
            rw [hl] at h
            rw [zkm] at h ⊢
            split
            · rename_i h4; rw [if_pos h4] at h; exact pF _ _ h
            · rfl
        · rfl
end Go.Dm
end
section
namespace Go.Dm
theorem zhV : zeB = some true := by decide +kernel
structure StepR where
  w : Bool
  e : Int
  v : Str
  f : Nat
  g : api_Head
def zgz (u : Str) (frm : Nat) : Str := (u.take (u.length - 1)).drop frm
def ziS (u : Str) : Bool := u[u.length - 1]? == some 13
def zbs (k L : Int) (u : Str) (frm : Nat) (g : api_Head) (c : UInt8) : StepR :=
  if decide (L ≤ (u.length : Int)) then ⟨false, 3, u, frm, g⟩
  else if !((c == 10) == ziS u) then ⟨false, 24, u ++ [c], frm, g⟩
  else if !(c == 10) then ⟨false, 0, u ++ [c], frm, g⟩
  else if frm == 0 then ⟨false, (zeb k (zgz u frm)).2, u ++ [c], u.length + 1, g⟩
  else if !(zgz u frm == []) then ⟨false, (zcn (zgz u frm)).2, u ++ [c], u.length + 1, g⟩
  else ⟨(zdw k (u ++ [c]) L).2 == 0, (zdw k (u ++ [c]) L).2, u ++ [c], frm, (zdw k (u ++ [c]) L).1⟩
def zg1 (u : Str) (frm : Nat) : Prop := frm ≤ u.length ∧ (0 < u.length → frm = u.length → u[u.length - 1]? = some 10)
theorem zka {u : Str} (h : ziS u = true) : 0 < u.length ∧ u[u.length - 1]? = some 13 := by
  unfold ziS at h
  have : u[u.length - 1]? = some 13 := by simpa using h
  refine ⟨?_, this⟩
  cases u with
  | nil => cases this
  | cons c u => simp
theorem inv_lt {u : Str} {frm : Nat} (hi : zg1 u frm) (h : ziS u = true) : frm ≤ u.length - 1 := by
  obtain ⟨h1, h2⟩ := zka h
  by_cases he : frm = u.length
  · have := hi.2 h1 he
    rw [h2] at this; cases this
  · have := hi.1; omega
theorem znA (k L : Int) (u : Str) (c : UInt8) (f : Int) (t : Bool) (b : Int) (w : Bool) (g : api_Head) (hu : u.length < 80000000) : zbU ⟨k, L, u ++ [c], f, t, b, w, g⟩ = some (!((c == 10) == ziS u)) := by
  have hl : ((u ++ [c]).length : Int) = (u.length : Int) + 1 := by simp
  have j1 : ∀ q, zaA ⟨k, L, u ++ [c], f, t, b, w, g⟩ q = some (!((c == 10) == q)) := by
    intro q
    unfold zaA
    dsimp only
    have e1 : zdX ((u ++ [c]).length : Int) 1 = some (u.length : Int) := by rw [hl, zd2 (by omega) (by omega)]; exact congrArg some (by omega)
    rw [e1, Option.bind_some, zdH, show (u ++ [c])[u.length]? = some c by simp, Option.bind_some]
  unfold zbU
  dsimp only
  by_cases h : 0 < u.length
  · have e2 : zdX ((u ++ [c]).length : Int) 2 = some ((u.length - 1 : Nat) : Int) := by rw [hl, zd2 (by omega) (by omega)]; exact congrArg some (by omega)
    have g2 : u[u.length - 1]? = some (u[u.length - 1]'(by omega)) := List.getElem?_eq_getElem (by omega)
    have g1 : (u ++ [c])[u.length - 1]? = some (u[u.length - 1]'(by omega)) := by rw [List.getElem?_append_left (by omega), g2]
    rw [decide_eq_true (show 1 < ((u ++ [c]).length : Int) by omega), if_pos rfl, e2, Option.bind_some, zdH, g1, Option.bind_some, j1]
    unfold ziS
    rw [g2, zij]
  · have hu0 : u = [] := List.length_eq_zero_iff.1 (by omega)
    subst hu0
    rw [decide_eq_false (by simp), if_neg Bool.false_ne_true, j1]
    rfl
theorem znB (k L : Int) (v : Str) (f : Nat) (t : Bool) (b : Int) (w : Bool) (g : api_Head) (s : Str) (hv : v.length < 80000000) (hs : s.length < 80000000) :
    zbZ ⟨k, L, v, (f : Int), t, b, w, g⟩ s = some (if f == 0 then (false, (zeb k s).2, ⟨k, L, v, (v.length : Int), t, b, w, g⟩) else if !(s == []) then (false, (zcn s).2, ⟨k, L, v, (v.length : Int), t, b, w, g⟩) else ((zdw k v L).2 == 0, (zdw k v L).2, (⟨k, L, v, (f : Int), t, b, w, (zdw k v L).1⟩ : accum_Accum))) := by
  unfold zbZ za6
  dsimp only
  have hf : ((f : Int) == 0) = (f == 0) := by rw [Bool.eq_iff_iff]; simp
  rw [hf, zcW k s (by omega), Option.bind_some, zd9 s (by omega), Option.bind_some, zgc k v L (by omega), Option.bind_some]
  cases f == 0 <;> cases s == [] <;> rfl
theorem znC (k L : Int) (u : Str) (f : Nat) (t : Bool) (b : Int) (w : Bool) (g : api_Head) (c : UInt8) (hu : u.length < 70000000) (hi : zg1 u f) :
    zbp ⟨k, L, u, (f : Int), t, b, w, g⟩ c = some ((zbs k L u f g c).w, (zbs k L u f g c).e, ⟨k, L, (zbs k L u f g c).v, ((zbs k L u f g c).f : Int), t, b, w, (zbs k L u f g c).g⟩) := by
  unfold zbp zbs
  dsimp only
  cases decide (L ≤ (u.length : Int)) with
  | true => rfl
  | false =>
    rw [if_neg Bool.false_ne_true, if_neg Bool.false_ne_true, if_pos (zfe (by omega) (by omega)), znA k L u c _ _ _ _ _ (by omega), Option.bind_some]
    cases hb : !((c == 10) == ziS u) with
    | true => rfl
    | false =>
      rw [if_neg Bool.false_ne_true, if_neg Bool.false_ne_true]
      cases hc : c == 10 with
      | false => rfl
      | true =>
        rw [hc] at hb
        have h13 : ziS u = true := by cases h : ziS u with
          | true => rfl
          | false => rw [h] at hb; cases hb
        obtain ⟨hp, _⟩ := zka h13
        have hf := inv_lt hi h13
        have hl : ((u ++ [c]).length : Int) = (u.length : Int) + 1 := by simp
        have e2 : zdX ((u ++ [c]).length : Int) 2 = some ((u.length - 1 : Nat) : Int) := by rw [hl, zd2 (by omega) (by omega)]; exact congrArg some (by omega)
        have e3 : lSub (u ++ [c]) (f : Int) ((u.length - 1 : Nat) : Int) = some (zgz u f) := by
          have := zem (l := u ++ [c]) (i := f) (h := u.length - 1) hf (by simp; omega)
          have hta : (u ++ [c]).take (u.length - 1) = u.take (u.length - 1) := List.take_append_of_le_length (by omega)
          unfold zf1 at this
          unfold lSub zgz
          rw [← hta]
          exact this
        have hll : (zgz u f).length ≤ u.length := by unfold zgz; simp; omega
        rw [Bool.not_true, if_neg Bool.false_ne_true, if_neg Bool.false_ne_true, e2, Option.bind_some, e3, Option.bind_some, znB k L _ f t b w g _ (by simp; omega) (by omega), Option.bind_some]
        have hn : (u ++ [c]).length = u.length + 1 := by simp
        rw [hn]
        cases f == 0 <;> cases zgz u f == [] <;> rfl
theorem zjF {k L : Int} {u : Str} {f : Nat} {g : api_Head} {c : UInt8} (hi : zg1 u f) (hw : ((zbs k L u f g c).w || !((zbs k L u f g c).e == 0)) = false) :
    (zbs k L u f g c).v = u ++ [c] ∧ (zbs k L u f g c).g = g ∧ zg1 (u ++ [c]) (zbs k L u f g c).f ∧ (u.length : Int) < L := by
  have key : ∀ f', f' ≤ u.length → zg1 (u ++ [c]) f' := fun f' h => ⟨by simp; omega, fun _ h2 => by simp at h2; omega⟩
  have key2 : c = 10 → zg1 (u ++ [c]) (u.length + 1) := fun h => ⟨by simp, fun _ _ => by rw [h]; simp⟩
  unfold zbs at hw ⊢
  cases hL : decide (L ≤ (u.length : Int)) with
  | true => rw [hL, if_pos rfl] at hw; cases hw
  | false =>
    have hL' : (u.length : Int) < L := by have := of_decide_eq_false hL; omega
    rw [hL, if_neg Bool.false_ne_true] at hw
    rw [if_neg Bool.false_ne_true]
    cases hb : !((c == 10) == ziS u) with
    | true => rw [hb, if_pos rfl] at hw; cases hw
    | false =>
      rw [hb, if_neg Bool.false_ne_true] at hw
      rw [if_neg Bool.false_ne_true]
      cases hc : c == 10 with
      | false => exact ⟨rfl, rfl, key f hi.1, hL'⟩
      | true =>
        have hc' : c = 10 := by simpa using hc
        rw [hc, Bool.not_true, if_neg Bool.false_ne_true] at hw
        rw [Bool.not_true, if_neg Bool.false_ne_true]
        cases h0 : f == 0 with
        | true => exact ⟨rfl, rfl, key2 hc', hL'⟩
        | false =>
          rw [h0, if_neg Bool.false_ne_true] at hw
          rw [if_neg Bool.false_ne_true]
          cases hl : !(zgz u f == []) with
          | true => exact ⟨rfl, rfl, key2 hc', hL'⟩
          | false =>
            rw [hl, if_neg Bool.false_ne_true] at hw
            exfalso
            dsimp only at hw
            cases hh : (zdw k (u ++ [c]) L).2 == 0 with
            | true => rw [hh] at hw; cases hw
            | false => rw [hh] at hw; cases hw
theorem zmr {k L : Int} {u : Str} {f : Nat} {g : api_Head} {c : UInt8} (hw : ((zbs k L u f g c).w || !((zbs k L u f g c).e == 0)) = true) :
    (zbs k L u f g c).w = ((zbs k L u f g c).e == 0) ∧ ((zbs k L u f g c).w = true → zdw k (u ++ [c]) L = ((zbs k L u f g c).g, 0)) ∧ ((zbs k L u f g c).w = false → g = zE → (zbs k L u f g c).g = zE) ∧ (zbs k L u f g c).g.Fields.length ≤ g.Fields.length + u.length + 2 := by
  have nz : ∀ {e : Int}, ((false : Bool) || !(e == 0)) = true → (false : Bool) = (e == 0) := fun {e} h => by
    cases he : e == 0 with
    | true => rw [he] at h; cases h
    | false => rfl
  unfold zbs at hw ⊢
  split
  · exact ⟨rfl, (fun h => by cases h), (fun _ h => h), by dsimp only; omega⟩
  · rename_i h1
    rw [if_neg h1] at hw
    split
    · exact ⟨rfl, (fun h => by cases h), (fun _ h => h), by dsimp only; omega⟩
    · rename_i h2
      rw [if_neg h2] at hw
      split
      · rename_i h3; rw [if_pos h3] at hw; cases hw
      · rename_i h3
        rw [if_neg h3] at hw
        split
        · rename_i h4; rw [if_pos h4] at hw; exact ⟨nz hw, (fun h => by cases h), (fun _ h => h), by dsimp only; omega⟩
        · rename_i h4
          rw [if_neg h4] at hw
          split
          · rename_i h5; rw [if_pos h5] at hw; exact ⟨nz hw, (fun h => by cases h), (fun _ h => h), by dsimp only; omega⟩
          · have hl := zlL k (u ++ [c]) L
            refine ⟨rfl, fun h => ?_, fun h _ => zkV h, ?_⟩
            · have : (zdw k (u ++ [c]) L).2 = 0 := by simpa using h
              exact Prod.ext rfl this
            · dsimp only; simp only [List.length_append, List.length_cons, List.length_nil] at hl; omega
def zdW (k L : Int) (g : api_Head) : Str → Str → Nat → Nat → Option (Nat × StepR) × Nat
  | [], _, f, _ => (none, f)
  | c :: r, u, f, i => if (zbs k L u f g c).w || !((zbs k L u f g c).e == 0) then (some (i + 1, zbs k L u f g c), f) else zdW k L g r (u ++ [c]) (zbs k L u f g c).f (i + 1)
def zez (k L : Int) (g : api_Head) (u : Str) (f : Nat) (t : Bool) (s : Str) : Int × Bool × Int × accum_Accum := match zdW k L g s u f 0 with
  | (some z, _) => ((z.1 : Int), z.2.w, z.2.e, ⟨k, L, [], (z.2.f : Int), true, z.2.e, z.2.w, z.2.g⟩)
  | (none, f') => ((s.length : Int), false, 0, ⟨k, L, u ++ s, (f' : Int), t || !(s == []), 0, false, g⟩)
theorem zhW (k L : Int) (g : api_Head) (s : Str) (hs : s.length < 30000000) : ∀ (r : Str) (n i : Nat) (u : Str) (f : Nat) (t : Bool), s.drop i = r → i ≤ s.length → r.length < n → u.length + r.length < 60000000 → zg1 u f →
    zC s n k L u (f : Int) t 0 false g.Kind g.Method g.Target g.Code g.Reason g.Minor g.Fields (i : Int) = some (match zdW k L g r u f i with
      | (some z, _) => ((z.1 : Int), z.2.w, z.2.e, ⟨k, L, [], (z.2.f : Int), true, z.2.e, z.2.w, z.2.g⟩)
      | (none, f') => ((s.length : Int), false, 0, ⟨k, L, u ++ r, (f' : Int), t || !(r == []), 0, false, g⟩))
  | [], n, i, u, f, t, hd, hi, hn, hu, hv => by
    obtain ⟨n, rfl⟩ : ∃ m, n = m + 1 := ⟨n - 1, by simp at hn; omega⟩
    have : i = s.length := by have := congrArg List.length hd; simp at this; omega
    subst this
    rw [zC, decide_eq_false (by omega), if_neg Bool.false_ne_true]
    unfold zbS zdW
    dsimp only
    rw [List.append_nil, show (([] : Str) == []) = true from rfl, Bool.not_true, Bool.or_false]
  | c :: r, n, i, u, f, t, hd, hi, hn, hu, hv => by
    simp only [List.length_cons] at hn hu
    obtain ⟨n, rfl⟩ : ∃ m, n = m + 1 := ⟨n - 1, by omega⟩
    obtain ⟨hlt, hdr⟩ := zgR hd
    have hg : s[i]? = some c := by have := congrArg (·[0]?) hd; simpa using this
    have ht := znC k L u f true 0 false g c (by omega) hv
    rw [zC, decide_eq_true (by omega), if_pos rfl, zeG, hg, Option.bind_some]
    show ((zbp ⟨k, L, u, (f : Int), true, 0, false, g⟩ c).bind _) = _
    rw [ht, Option.bind_some, zdW]
    have hon := fun h => zjF (k := k) (L := L) (g := g) (c := c) hv h
    generalize zbs k L u f g c = q at hon
    obtain ⟨qw, qe, qv, qf, qg⟩ := q
    dsimp only at hon ⊢
    unfold za7
    dsimp only
    cases qw with
    | true =>
      rw [Bool.true_or, if_pos rfl, if_pos rfl, if_pos rfl, zax (by omega), Option.bind_some]
    | false =>
      cases h0 : qe == 0 with
      | false =>
        rw [Bool.false_or, Bool.not_false, if_pos rfl, if_neg Bool.false_ne_true, if_pos rfl, zax (by omega), Option.bind_some]
      | true =>
        have he : qe = 0 := by simpa using h0
        subst he
        obtain ⟨h1, h2, h3, _⟩ := hon (by rfl)
        subst h1
        subst h2
        rw [Bool.false_or, Bool.not_true, if_neg Bool.false_ne_true, if_neg Bool.false_ne_true, if_neg Bool.false_ne_true, zax (by omega), Option.bind_some]
        have ih := zhW k L qg s hs r n (i + 1) (u ++ [c]) qf true hdr (by omega) (by omega) (by simp; omega) h3
        rw [ih]
        have e1 : u ++ [c] ++ r = u ++ c :: r := by simp
        have e2 : ((true : Bool) || !(r == [])) = (t || !((c :: r : Str) == [])) := by
          have : ((c :: r : Str) == []) = false := rfl
          rw [this]; cases t <;> rfl
        rw [e1, e2]
theorem zlk (k L : Int) (g : api_Head) (u : Str) (f : Nat) (t : Bool) (s : Str) (hs : s.length < 30000000) (hu : u.length < 30000000) (hi : zg1 u f) : zy ⟨k, L, u, (f : Int), t, 0, false, g⟩ s = some (zez k L g u f t s) := by
  unfold zy za8
  exact zhW k L g s hs s fuel 0 u f t rfl (Nat.zero_le _) (by unfold fuel; omega) (by omega) hi
theorem zhX (k L : Int) (g : api_Head) (y : Str) : ∀ (x u : Str) (f i : Nat), zdW k L g (x ++ y) u f i = match zdW k L g x u f i with
    | (some z, f') => (some z, f')
    | (none, f') => zdW k L g y (u ++ x) f' (i + x.length)
  | [], u, f, i => by rw [List.nil_append, zdW]; simp
  | c :: x, u, f, i => by
    rw [List.cons_append, zdW, zdW]
    split
    · rfl
    · rw [zhX k L g y x, List.append_assoc, List.singleton_append, List.length_cons, show i + 1 + x.length = i + (x.length + 1) by omega]
theorem zhY (k L : Int) (g : api_Head) (j : Nat) : ∀ (x u : Str) (f i : Nat), zdW k L g x u f (i + j) = ((zdW k L g x u f i).1.map fun z => (z.1 + j, z.2), (zdW k L g x u f i).2)
  | [], u, f, i => rfl
  | c :: x, u, f, i => by
    rw [zdW, zdW]
    split
    · show (some (i + j + 1, _), _) = (some (i + 1 + j, _), _)
      rw [show i + j + 1 = i + 1 + j by omega]
    · rw [show i + j + 1 = i + 1 + j by omega, zhY k L g j x]
theorem zg2 {k L : Int} {g : api_Head} : ∀ {s u : Str} {f i : Nat} {z : Nat × StepR} {f' : Nat}, zg1 u f → zdW k L g s u f i = (some z, f') →
    i < z.1 ∧ z.1 ≤ i + s.length ∧ z.2.w = (z.2.e == 0) ∧ (z.2.w = true → zdw k ((u ++ s).take (u.length + (z.1 - i))) L = (z.2.g, 0)) ∧ (z.2.w = false → g = zE → z.2.g = zE) ∧ z.2.g.Fields.length ≤ g.Fields.length + u.length + s.length + 2
  | [], u, f, i, z, f', _, h => by cases h
  | c :: s, u, f, i, z, f', hi, h => by
    rw [zdW] at h
    cases hw : (zbs k L u f g c).w || !((zbs k L u f g c).e == 0) with
    | true =>
      rw [hw, if_pos rfl] at h
      have hz := congrArg Prod.fst h
      dsimp only at hz
      obtain rfl := Option.some.inj hz
      obtain ⟨a, b, c', d⟩ := zmr hw
      refine ⟨by dsimp only; omega, by dsimp only [List.length_cons]; omega, a, fun h => ?_, c', by simp only [List.length_cons]; omega⟩
      have e : (u ++ c :: s).take (u.length + (i + 1 - i)) = u ++ [c] := by
        rw [show u.length + (i + 1 - i) = (u ++ [c]).length by simp, show u ++ c :: s = (u ++ [c]) ++ s by simp, List.take_left']; rfl
      dsimp only
      rw [e]
      exact b h
    | false =>
      rw [hw, if_neg Bool.false_ne_true] at h
      obtain ⟨_, _, h3, _⟩ := zjF hi hw
      obtain ⟨a, b, c', d, e', l'⟩ := zg2 h3 h
      refine ⟨by omega, by simp only [List.length_cons]; omega, c', fun hh => ?_, e', by simp only [List.length_append, List.length_cons, List.length_nil] at l' ⊢; omega⟩
      have := d hh
      rw [show u ++ [c] ++ s = u ++ c :: s by simp, show (u ++ [c]).length + (z.1 - (i + 1)) = u.length + (z.1 - i) by simp; omega] at this
      exact this
theorem zi9 {k L : Int} {g : api_Head} : ∀ {s u : Str} {f i f' : Nat}, zg1 u f → zdW k L g s u f i = (none, f') → zg1 (u ++ s) f' ∧ (s ≠ [] → ((u ++ s).length : Int) ≤ L)
  | [], u, f, i, f', hi, h => by
    have := congrArg Prod.snd h
    rw [zdW] at this
    dsimp only at this
    rw [List.append_nil, ← this]
    exact ⟨hi, fun h => absurd rfl h⟩
  | c :: s, u, f, i, f', hi, h => by
    rw [zdW] at h
    cases hw : (zbs k L u f g c).w || !((zbs k L u f g c).e == 0) with
    | true =>
      rw [hw, if_pos rfl] at h
      cases congrArg Prod.fst h
    | false =>
      rw [hw, if_neg Bool.false_ne_true] at h
      obtain ⟨_, _, h3, h4⟩ := zjF hi hw
      have := zi9 h3 h
      rw [List.append_assoc, List.singleton_append] at this
      refine ⟨this.1, fun _ => ?_⟩
      cases s with
      | nil => simp only [List.length_append, List.length_cons, List.length_nil]; omega
      | cons d s => exact this.2 (by simp)
theorem zhZ : zg1 [] 0 := ⟨Nat.le_refl _, fun h => absurd h (by decide)⟩
theorem zms (s : Str) (by_ : List UInt8) (hs : s.length < 100000) (hb : by_.length < 1000000000) : ∃ l, zc8 s by_ = some l ∧ l.flatten = s ∧ l.length ≤ 61 := by
  unfold zc8
  have key : ∀ (n i : Nat) (r : Str) (out : List Str), i ≤ by_.length → i ≤ 60 → 60 - i < n → out.length = i → r.length < 100000 → ∃ l, zaQ by_ n r out (i : Int) = some l ∧ l.flatten = out.flatten ++ r ∧ l.length ≤ 61 := by
    intro n
    induction n with
    | zero => intro i r out _ _ h; omega
    | succ n ih =>
      intro i r out hi h60 hn ho hr
      rw [zaQ]
      have fin : zb5 (zaQ by_ n) by_ r out (i : Int) false = some (out ++ [r]) := by
        unfold zb5
        rw [if_neg Bool.false_ne_true, if_pos (zfe (by omega) (by omega))]
      by_cases hlt : i < by_.length
      · rw [decide_eq_true (show (i : Int) < (by_.length : Int) by omega), if_pos rfl]
        by_cases h6 : i < 60
        · have g : by_[i]? = some by_[i] := List.getElem?_eq_getElem hlt
          have hmin : ∃ m : Nat, min (((by_[i] % 17).toNat : Int)) (r.length : Int) = (m : Int) ∧ m ≤ r.length := ⟨min (by_[i] % 17).toNat r.length, by omega, by omega⟩
          obtain ⟨m, hm, hml⟩ := hmin
          unfold zb5
          rw [decide_eq_true (show (i : Int) < 60 by omega), if_pos rfl, zdH, g, Option.bind_some, hm, zfd hml, Option.bind_some, if_pos (zfe (by omega) (by omega)), zc9 hml, Option.bind_some, zax (by omega), Option.bind_some]
          obtain ⟨l, e1, e2, e3⟩ := ih (i + 1) (r.drop m) (out ++ [r.take m]) (by omega) (by omega) (by omega) (by simp; omega) (by simp; omega)
          exact ⟨l, e1, by rw [e2]; simp, e3⟩
        · rw [decide_eq_false (show ¬ (i : Int) < 60 by omega), fin]
          exact ⟨_, rfl, by simp, by simp; omega⟩
      · rw [decide_eq_false (show ¬ (i : Int) < (by_.length : Int) by omega), if_neg Bool.false_ne_true, fin]
        exact ⟨_, rfl, by simp, by simp; omega⟩
  have := key fuel 0 s [] (Nat.zero_le _) (by omega) (by unfold fuel; omega) rfl hs
  simpa using this
theorem zkO (k L : Int) : zc3 k L = some (if !((k == 1) || (k == 2)) || decide (L < 0) || decide (65536 < L) then (none, 1) else (some ⟨k, L, [], 0, false, 0, false, zE⟩, 0)) := by
  unfold zc3 zbI
  cases k == 1 <;> cases k == 2 <;> cases decide (L < 0) <;> cases decide (65536 < L) <;> rfl
def zja (a : accum_Accum) : api_Head × Bool := if a.f_whole then (a.f_got, true) else (zE, false)
theorem znD (a : accum_Accum) (h : a.f_got.Fields.length < 1000000) : zN a = some (zja a) := by
  unfold zN zja
  cases a.f_whole with
  | false => rfl
  | true => rw [Bool.not_true, if_neg Bool.false_ne_true, if_pos rfl, if_pos (zfe (by omega) (by omega))]
theorem zh0 (kind : Int) (s : Str) (by_ : List UInt8) (_ : inI kind = true) (hb : by_.length < 1000000000) : zcU kind s by_ = some true := by
  unfold zcU
  have c1 := znT s 3000
  rw [show ((3000 : Nat) : Int) = 3000 from rfl] at c1
  rw [zhV, Option.bind_some, Bool.not_true, if_neg Bool.false_ne_true, c1, Option.bind_some, zkO, Option.bind_some]
  have h1 : (s.take 3000).length ≤ 3000 := by simp; omega
  generalize s.take 3000 = s at h1
  cases hk : !((kind == 1) || (kind == 2)) with
  | true =>
    show zbA kind by_ s 1 = some true
    unfold zbA
    rw [zkO, hk, Option.bind_some]
    rfl
  | false =>
    show zbg kind by_ s 0 kind 2000 [] 0 false 0 false 0 [] [] 0 [] 0 [] = some true
    unfold zbg
    rw [zkO, hk, Option.bind_some]
    show zbf kind by_ s 0 kind 2000 [] 0 false 0 false 0 [] [] 0 [] 0 [] 0 kind 2000 [] 0 false 0 false 0 [] [] 0 [] 0 [] = some true
    unfold zbf zbe
    rw [if_neg (by decide), show (!((0 : Int) == 0)) = false from rfl, if_neg Bool.false_ne_true]
    have hF : zy ⟨kind, 2000, [], 0, false, 0, false, zE⟩ s = some (zez kind 2000 zE [] 0 false s) := zlk kind 2000 zE [] 0 false s (by omega) (by decide) zhZ
    obtain ⟨l, hl1, hl2, hl3⟩ := zms s by_ (by omega) hb
    show ((zy ⟨kind, 2000, [], 0, false, 0, false, zE⟩ s).bind _) = _
    rw [hF, Option.bind_some, hl1, Option.bind_some]
    -- the end: two that came to the same
    have fin : ∀ (n : Int) (w : Bool) (e : Int) (a : accum_Accum), zez kind 2000 zE [] 0 false s = (n, w, e, a) → zbd kind s (n, w, e, a) n w e a.f_kind a.f_limit a.f_buf a.f_from a.f_took a.f_bad a.f_whole a.f_got.Kind a.f_got.Method a.f_got.Target a.f_got.Code a.f_got.Reason a.f_got.Minor a.f_got.Fields = some true := by
      intro n w e a hR
      have facts : a.f_got.Fields.length < 100000 ∧ (w = true → e = 0 ∧ a.f_whole = true ∧ ∃ m : Nat, n = (m : Int) ∧ m ≤ s.length ∧ zdw kind (s.take m) 2000 = (a.f_got, 0)) ∧ ∃ m : Nat, n = (m : Int) ∧ m ≤ s.length := by
        unfold zez at hR
        cases hr : zdW kind 2000 zE s [] 0 0 with
        | mk o f' =>
          cases o with
          | none =>
            rw [hr] at hR
            dsimp only at hR
            cases hR
            exact ⟨(by decide : (0 : Nat) < 100000), (fun h => by cases h), s.length, rfl, Nat.le_refl _⟩
          | some z =>
            rw [hr] at hR
            dsimp only at hR
            obtain ⟨p1, p2, p3, p4, p5, p6⟩ := zg2 zhZ hr
            cases hR
            simp only [List.length_nil, Nat.zero_add, List.nil_append, Nat.sub_zero, Nat.add_zero] at p2 p4 p6
            refine ⟨by dsimp only; have : zE.Fields.length = 0 := rfl; omega, fun h => ⟨?_, h, z.1, rfl, p2, p4 h⟩, z.1, rfl, p2⟩
            rw [p3] at h; simpa using h
      obtain ⟨f1, f2, m, f3, f4⟩ := facts
      unfold zbd zD zaD
      show ((zN a).bind fun r413 => (zN a).bind _) = _
      have hgl : (zja a).1.Fields.length < 1000000000 := by
        unfold zja
        split
        · dsimp only; omega
        · decide
      rw [znD a (by omega), Option.bind_some, Option.bind_some, beq_self_eq_true, Bool.not_true, if_neg Bool.false_ne_true, beq_self_eq_true, Bool.not_true, if_neg Bool.false_ne_true, beq_self_eq_true, if_neg (by decide), beq_self_eq_true, if_neg (by decide), zgj _ _ hgl, Option.bind_some, ziM, Bool.not_true, if_neg Bool.false_ne_true]
      dsimp only
      subst f3
      rw [zfd f4, Option.bind_some, zgc kind (s.take m) 2000 (by simp; omega), Option.bind_some, if_neg Bool.false_ne_true]
      cases w with
      | false => rfl
      | true =>
        obtain ⟨e0, w0, m', q1, q2, q3⟩ := f2 rfl
        have : m' = m := by omega
        subst this
        subst e0
        rw [q3]
        have hh : (zja a).1 = a.f_got := by unfold zja; rw [w0]; rfl
        rw [hh]
        rw [hh] at hgl
        dsimp only
        rw [zgj _ _ hgl, Option.bind_some, ziM]
        rfl
    -- the pieces
    have ended : ∀ (n i : Nat) (m : Int) (w : Bool) (e : Int) (a : accum_Accum), zez kind 2000 zE [] 0 false s = (m, w, e, a) → (w || !(e == 0)) = true → zr kind s (m, w, e, a) l (n + 1) a.f_kind a.f_limit a.f_buf a.f_from a.f_took a.f_bad a.f_whole a.f_got.Kind a.f_got.Method a.f_got.Target a.f_got.Code a.f_got.Reason a.f_got.Minor a.f_got.Fields m w e (i : Int) = some true := by
      intro n i m w e a hR hw
      have hf := fin m w e a hR
      rw [zr]
      unfold z7
      cases decide ((i : Int) < (l.length : Int)) with
      | false => rw [if_neg Bool.false_ne_true, if_neg Bool.false_ne_true]; exact hf
      | true =>
        cases w with
        | true => rw [if_pos rfl, Bool.not_true, if_neg Bool.false_ne_true, if_neg Bool.false_ne_true]; exact hf
        | false =>
          cases h0 : e == 0 with
          | true => rw [h0] at hw; cases hw
          | false => rw [if_pos rfl, Bool.not_false, if_pos rfl, if_neg Bool.false_ne_true]; exact hf
    have key : ∀ (n i : Nat) (u : Str) (f : Nat) (t : Bool), i ≤ l.length → l.length - i + 1 < n → (l.take i).flatten = u → zg1 u f → zdW kind 2000 zE u [] 0 0 = (none, f) → t = !(u == []) →
        zr kind s (zez kind 2000 zE [] 0 false s) l n kind 2000 u (f : Int) t 0 false zE.Kind zE.Method zE.Target zE.Code zE.Reason zE.Minor zE.Fields (u.length : Int) false 0 (i : Int) = some true := by
      intro n
      induction n with
      | zero => intro i u f t _ h; omega
      | succ n ih =>
        intro i u f t hi hn hu hv hr ht
        have hus : u ++ (l.drop i).flatten = s := by rw [← hu, ← List.flatten_append, List.take_append_drop, hl2]
        have hul := congrArg List.length hus
        simp only [List.length_append] at hul
        by_cases hlt : i < l.length
        · have g : l[i]? = some l[i] := List.getElem?_eq_getElem hlt
          have hdl : (l.drop i).flatten = l[i] ++ (l.drop (i + 1)).flatten := by rw [List.drop_eq_getElem_cons hlt, List.flatten_cons]
          have hxl : l[i].length ≤ s.length := by have := congrArg List.length hdl; simp only [List.length_append] at this; omega
          have hu' : (l.take (i + 1)).flatten = u ++ l[i] := by rw [List.take_succ_eq_append_getElem hlt, List.flatten_append, hu]; simp
          rw [hdl] at hus
          rw [zr]
          unfold z7
          rw [decide_eq_true (show (i : Int) < (l.length : Int) by omega), if_pos rfl, Bool.not_false, if_pos rfl, show ((0 : Int) == 0) = true from rfl, if_pos rfl, zdH, g, Option.bind_some]
          show ((zy ⟨kind, 2000, u, (f : Int), t, 0, false, zE⟩ l[i]).bind _) = _
          rw [zlk kind 2000 zE u f t l[i] (by omega) (by omega) hv, Option.bind_some]
          have happ := zhX kind 2000 zE l[i] u [] 0 0
          rw [hr] at happ
          dsimp only at happ
          rw [List.nil_append, Nat.zero_add] at happ
          have hsh := zhY kind 2000 zE u.length l[i] u f 0
          rw [Nat.zero_add] at hsh
          rw [hsh] at happ
          have hfull := zhX kind 2000 zE (l.drop (i + 1)).flatten (u ++ l[i]) [] 0 0
          rw [List.append_assoc, hus, happ] at hfull
          cases hx : zdW kind 2000 zE l[i] u f 0 with
          | mk o f' =>
            rw [hx] at hfull happ
            cases o with
            | some z =>
              dsimp only [Option.map_some] at hfull
              obtain ⟨p1, p2, p3, p4, p5, p6⟩ := zg2 hv hx
              have hR : zez kind 2000 zE [] 0 false s = (((z.1 + u.length : Nat) : Int), z.2.w, z.2.e, ⟨kind, 2000, [], (z.2.f : Int), true, z.2.e, z.2.w, z.2.g⟩) := by
                unfold zez
                rw [hfull]
              have hS : zez kind 2000 zE u f t l[i] = ((z.1 : Int), z.2.w, z.2.e, ⟨kind, 2000, [], (z.2.f : Int), true, z.2.e, z.2.w, z.2.g⟩) := by
                unfold zez
                rw [hx]
              rw [hS]
              dsimp only
              have ha : zaO (u.length : Int) (z.1 : Int) = some ((z.1 + u.length : Nat) : Int) := by rw [zcV (by omega) (by omega)]; exact congrArg some (by omega)
              rw [ha, Option.bind_some, zax (by omega), Option.bind_some, hR]
              obtain ⟨n, rfl⟩ : ∃ m, n = m + 1 := ⟨n - 1, by omega⟩
              refine ended n (i + 1) _ _ _ ⟨kind, 2000, [], (z.2.f : Int), true, z.2.e, z.2.w, z.2.g⟩ hR ?_
              rw [p3]; cases z.2.e == 0 <;> rfl
            | none =>
              have hS : zez kind 2000 zE u f t l[i] = ((l[i].length : Int), false, 0, ⟨kind, 2000, u ++ l[i], (f' : Int), t || !(l[i] == []), 0, false, zE⟩) := by
                unfold zez
                rw [hx]
              rw [hS]
              dsimp only
              have ha : zaO (u.length : Int) (l[i].length : Int) = some ((u ++ l[i]).length : Int) := by rw [zcV (by omega) (by omega)]; exact congrArg some (by simp)
              rw [ha, Option.bind_some, zax (by omega), Option.bind_some]
              have hb2 := (zi9 hv hx).1
              refine ih (i + 1) (u ++ l[i]) f' (t || !(l[i] == [])) (by omega) (by omega) hu' hb2 happ ?_
              rw [ht]
              cases u with
              | nil => rfl
              | cons c u => rfl
        · have hie : i = l.length := by omega
          have hsu : u = s := by rw [← hu, hie, List.take_length, hl2]
          have hR : zez kind 2000 zE [] 0 false s = ((s.length : Int), false, 0, ⟨kind, 2000, s, (f : Int), !(s == []), 0, false, zE⟩) := by
            unfold zez
            rw [← hsu, hr]
            rfl
          have hf := fin _ _ _ _ hR
          rw [zr]
          unfold z7
          rw [decide_eq_false (show ¬ (i : Int) < (l.length : Int) by omega), if_neg Bool.false_ne_true, if_neg Bool.false_ne_true, hR, ht, hsu]
          exact hf
    exact key fuel 0 [] 0 false (Nat.zero_le _) (by unfold fuel; omega) rfl zhZ rfl rfl
end Go.Dm
end
