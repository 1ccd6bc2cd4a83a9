/-
  The models' words: partial operations as functions into Option. No program in sight.
  The models of the functions: written by a program (wip/gen) off the translation. No program in sight.
  The library's functions as the models say them, and as the library's contracts say them. No program in sight.
  Plain tools for the laws: the partial operations at natural numbers, loops over lists. No program in sight.
  Layer 1 (bytes): what the program's and the reference's models come to.
  Layer 3 (numbers): reading and writing: the program's and the document's come to the same. No program in sight.
-/
import Derived.Lib.ItoaNum
import Derived.Lib.SplitLaws
import Derived.Lib.SlTrimSet
import Derived.Lib.Join
import Derived.Lib.IndexMore
import Derived.Lib.Bytealg
import Derived.Lib.Index
import Derived.Lib.IndexAny
section
namespace Go.Dm
abbrev Str := List UInt8

def inI (n : Int) : Bool := decide (-9223372036854775808 ≤ n) && decide (n ≤ 9223372036854775807)
theorem zhG {n : Int} : inI n = true ↔ -9223372036854775808 ≤ n ∧ n ≤ 9223372036854775807 := by simp [inI]

def zE (m n : Int) : Option Int := if inI (m + n) then some (m + n) else none
def zdb (m n : Int) : Option Int := if inI (m - n) then some (m - n) else none
def zlp (m n : Int) : Option Int := if inI (m * n) then some (m * n) else none
def zo9 (m n : Int) : Option Int := if 0 ≤ m ∧ 1 ≤ n ∧ inI (m / n) = true then some (m / n) else none
def zqT (m n : Int) : Option Int := if 0 ≤ m ∧ 1 ≤ n ∧ inI (m % n) = true then some (m % n) else none
def sAt (l : Str) (i : Int) : Option UInt8 := if 0 ≤ i then l[i.toNat]? else none
def sTo (l : Str) (h : Int) : Option Str := if 0 ≤ h ∧ h ≤ l.length then some (l.take h.toNat) else none
def zbD (l : Str) (i : Int) : Option Str := if 0 ≤ i ∧ i ≤ l.length then some (l.drop i.toNat) else none
def zeC (l : Str) (i h : Int) : Option Str := if 0 ≤ i ∧ i ≤ h ∧ h ≤ l.length then some ((l.take h.toNat).drop i.toNat) else none
def zjb (l m : Str) : Option Str := if l.length + m.length ≤ 9223372036854775807 then some (l ++ m) else none
def lAt {α : Type} (l : List α) (i : Int) : Option α := if 0 ≤ i then l[i.toNat]? else none
def zp3 {α : Type} (l : List α) (i : Int) : Option (List α) := if 0 ≤ i ∧ i ≤ l.length then some (l.drop i.toNat) else none
def lSub {α : Type} (l : List α) (i h : Int) : Option (List α) := if 0 ≤ i ∧ i ≤ h ∧ h ≤ l.length then some ((l.take h.toNat).drop i.toNat) else none
def zci (n m bytes : Nat) : Bool := decide (n + m ≤ 9223372036854775807) && decide ((n + m) * bytes ≤ 140737488355328)
theorem og {α : Type} {b : Bool} {x : Option α} {r : α} (h : (if b = true then x else none) = some r) : b = true ∧ x = some r := by
  cases b with
  | false => cases h
  | true => exact ⟨rfl, h⟩
theorem zbN (b : Bool) : b = true ∨ b = false := by cases b <;> simp
theorem ob {α β : Type} {m : Option α} {f : α → Option β} {r : β} (h : m.bind f = some r) : ∃ x, m = some x ∧ f x = some r := by
  cases m with
  | none => cases h
  | some x => exact ⟨x, rfl, h⟩
theorem it {α : Type} {b : Bool} {x y : Option α} {r : α} (hb : b = true) (h : (if b = true then x else y) = some r) : x = some r := by rwa [if_pos hb] at h
theorem ie {α : Type} {b : Bool} {x y : Option α} {r : α} (hb : b = false) (h : (if b = true then x else y) = some r) : y = some r := by rwa [if_neg (by simp [hb])] at h

def zlY : Str → Str → Bool
  | _, [] => false
  | [], _ :: _ => true
  | a :: x, b :: y => a < b || (a == b && zlY x y)
def fuel : Nat := 1000000000000000000
end Go.Dm
end
section
set_option linter.unusedVariables false
set_option maxRecDepth 10000
namespace Go.Dm
structure api_Field where
  Name : Str
  Value : Str
deriving DecidableEq
structure api_Head where
  Kind : Int
  Method : Str
  Target : Str
  Code : Int
  Reason : Str
  Minor : Int
  Fields : List api_Field
deriving DecidableEq
structure accum_Accum where
  f_kind : Int
  f_limit : Int
  f_buf : List UInt8
  f_from : Int
  f_took : Bool
  f_bad : Int
  f_whole : Bool
  f_got : api_Head
deriving DecidableEq
structure scan_Scanner where
  f_s : Str
  f_at : Int
deriving DecidableEq
structure startline_line where
  Scanner : scan_Scanner
deriving DecidableEq
structure api_Host where
  Kind : Int
  Name : Str
  Port : Int
deriving DecidableEq
structure api_Target where
  Kind : Int
  Scheme : Str
  Host : api_Host
  Path : Str
  Query : Str
  HasQuery : Bool
deriving DecidableEq
structure bag_Bag where
  f_l : List api_Field
deriving DecidableEq
structure ref16_Fate where
  At : Int
  Err : Int
  Head : api_Head
deriving DecidableEq
abbrev zq2 {α : Type} {β : Sort _} (o : Option α) (k0 : β) (k1 : α → β) : β := match o with | none => k0 | some x => k1 x
theorem zta {α β : Type} {o : Option α} {k0 R : β} {k1 : α → β} (h : o = none) (hm : zq2 o k0 k1 = R) : k0 = R := by subst h; exact hm
theorem ztb {α β : Type} {o : Option α} {x : α} {k0 R : β} {k1 : α → β} (h : o = some x) (hm : zq2 o k0 k1 = R) : k1 x = R := by subst h; exact hm
theorem zrE {α : Type} {o : Option α} {k0 : Prop} {k1 : α → Prop} (h : o = none) (hm : zq2 o k0 k1) : k0 := by subst h; exact hm
theorem zrF {α : Type} {o : Option α} {x : α} {k0 : Prop} {k1 : α → Prop} (h : o = some x) (hm : zq2 o k0 k1) : k1 x := by subst h; exact hm

def zgS : Str → UInt8 → Nat → Int
  | [], _, _ => -1
  | x :: l, c, k => if x == c then (k : Int) else zgS l c (k + 1)
def strings_IndexByte (s : Str) (c : UInt8) : Option Int := some (zgS s c 0)
def zkx : Str → Str → Bool
  | _, [] => true
  | [], _ :: _ => false
  | x :: s, y :: t => x == y && zkx s t
def zhg : Str → Str → Nat → Int
  | s, t, k => if zkx s t then (k : Int) else match s with
    | [] => -1
    | _ :: s => zhg s t (k + 1)
def strings_Index (s t : Str) : Option Int := if s.length < 4294967281 then some (zhg s t 0) else none
def strings_Cut (s t : Str) : Option (Str × Str × Bool) := if s.length < 4294967281 then some (Go.Lib.cut s t) else none
def zjq : Str → Str → Nat → Int
  | [], _, _ => -1
  | x :: l, cs, k => if cs.contains x then (k : Int) else zjq l cs (k + 1)
def strings_IndexAny (s cs : Str) : Option Int := if s.length < 4294967281 ∧ cs.length < 4294967281 ∧ cs.all (fun c => c.toNat < 128) then some (zjq s cs 0) else none
def strings_Split (s sep : Str) : Option (List Str) := if s.length < 4294967281 ∧ 1 ≤ sep.length then some (Go.Lib.splitK sep 0 (Go.Lib.countB ⟨s.toArray⟩ ⟨sep.toArray⟩) s) else none
def zi (c : UInt8) : Str → List Str
  | [] => [[]]
  | x :: s => if x = c then [] :: zi c s else match zi c s with
    | [] => [[x]]
    | h :: t => (x :: h) :: t
def zd4 (n b : Int) : Option Str := if inI n = true ∧ b = 10 then some (Go.Lib.itoa n) else none
def zfE (s cs : Str) : Option Str := if s.length < 4294967281 ∧ cs.length < 4294967281 ∧ cs.all (fun c => c.toNat < 128) then some (Go.Lib.trimS s cs) else none
def zcS (x_kind : Int) (x_limit : Int) (t6 : Bool) : Option (Option accum_Accum × Int) :=
  if t6 then (some (none, 1)) else (some ((some ((⟨x_kind, x_limit, [], 0, false, 0, false, (⟨0, [], [], 0, [], 0, []⟩ : api_Head)⟩ : accum_Accum)), 0)))

def zgY (x_kind : Int) (x_limit : Int) : Option (Option accum_Accum × Int) :=
  if (!(x_kind == 1)) then (if (!(x_kind == 2)) then (zcS x_kind x_limit true) else (if (decide (x_limit < 0)) then (zcS x_kind x_limit true) else (zcS x_kind x_limit (decide (65536 < x_limit))))) else (if (decide (x_limit < 0)) then (zcS x_kind x_limit true) else (zcS x_kind x_limit (decide (65536 < x_limit))))

def zbv (x_a : accum_Accum) (t8 : Bool) : Option Bool :=
  (zdb (x_a.f_buf.length : Int) 1).bind fun i9 =>
  (lAt x_a.f_buf i9).bind fun x10 =>
  some (!((x10 == 10) == t8))

def zdc (x_a : accum_Accum) : Option Bool :=
  if (decide (1 < (x_a.f_buf.length : Int))) then ((zdb (x_a.f_buf.length : Int) 2).bind fun i4 =>
  (lAt x_a.f_buf i4).bind fun x5 =>
  zbv x_a (x5 == 13)) else (zbv x_a false)

def strings_ContainsAny (x_s : Str) (x_chars : Str) : Option Bool :=
  (strings_IndexAny x_s x_chars).bind fun r2 =>
  some (decide (0 ≤ r2))

def zK (x_s : Str) (x_c : UInt8) : Nat → Int → Option Int
  | 0, _ => none
  | n + 1, i4 =>
  if (decide (0 ≤ i4)) then ((sAt x_s i4).bind fun b8 =>
  if (b8 == x_c) then (some i4) else ((zdb i4 1).bind fun i13 =>
  (zK x_s x_c n) i13)) else (some (-1))

def zbi (x_s : Str) (x_c : UInt8) : Option Int :=
  (zdb (x_s.length : Int) 1).bind fun i2 =>
  zK x_s x_c fuel i2

def zaC (x_s : Str) (x_c : UInt8) : Option Int :=
  (zbi x_s x_c).bind fun r2 =>
  some r2

def zhh (x_s : Str) : Option scan_Scanner :=
  some (⟨x_s, 0⟩ : scan_Scanner)

def zX (x_c : scan_Scanner) : Option Str :=
  (zbD x_c.f_s x_c.f_at).bind fun s4 =>
  some s4

def zax (t4 : Bool) : Option Bool :=
  some t4

def stringslite_HasPrefix (x_s : Str) (x_prefix : Str) : Option Bool :=
  if (decide ((x_prefix.length : Int) ≤ (x_s.length : Int))) then ((sTo x_s (x_prefix.length : Int)).bind fun s3 =>
  zax (s3 == x_prefix)) else (zax false)

def strings_HasPrefix (x_s : Str) (x_prefix : Str) : Option Bool :=
  (stringslite_HasPrefix x_s x_prefix).bind fun r2 =>
  some r2

def zb3 (x_c : scan_Scanner) (x_t : Str) : Option (Bool × scan_Scanner) :=
  (zX x_c).bind fun r2 =>
  (strings_HasPrefix r2 x_t).bind fun r3 =>
  if (!r3) then (some (false, x_c)) else ((zE x_c.f_at (x_t.length : Int)).bind fun i9 =>
  some ((true, (⟨x_c.f_s, i9⟩ : scan_Scanner))))

def za7 (x_c : scan_Scanner) : Option Bool :=
  (zX x_c).bind fun r2 =>
  some (r2 == [])

def z8 (x_c : scan_Scanner) : Option (UInt8 × Bool) :=
  (za7 x_c).bind fun r2 =>
  if r2 then (some (0, false)) else ((sAt x_c.f_s x_c.f_at).bind fun b7 =>
  some (b7, true))

def zeD (t3 : Bool) : Option Bool :=
  some t3

def zab (x_b : UInt8) : Option Bool :=
  if (decide (48 ≤ x_b)) then (zeD (decide (x_b ≤ 57))) else (zeD false)

def zbT (x_c : scan_Scanner) (t5 : Bool) : Option (Bool × scan_Scanner) :=
  if t5 then (some (false, x_c)) else ((zE x_c.f_at 1).bind fun i9 =>
  some ((true, (⟨x_c.f_s, i9⟩ : scan_Scanner))))

def zH (x_c : scan_Scanner) (x_b : UInt8) : Option (Bool × scan_Scanner) :=
  (z8 x_c).bind fun r2 =>
  if (!r2.2) then (zbT x_c true) else (zbT x_c (!(r2.1 == x_b)))

def za8 (x_p : startline_line) (r3 : UInt8 × Bool) (t7 : Bool) : Option (Int × Bool × scan_Scanner) :=
  if t7 then (some (0, false, x_p.Scanner)) else ((zH x_p.Scanner r3.1).bind fun r11 =>
  some ((((r3.1 - 48).toNat : Int), true, r11.2)))

def za9 (x_p : startline_line) : Option (Int × Bool × scan_Scanner) :=
  (z8 x_p.Scanner).bind fun r3 =>
  if (!r3.2) then (za8 x_p r3 true) else ((zab r3.1).bind fun r6 =>
  za8 x_p r3 (!r6))

def zaQ (r9 : Int × Bool × scan_Scanner) (r15 : Int × Bool × scan_Scanner) (t20 : Bool) : Option (Int × Int × Bool × scan_Scanner) :=
  some (r9.1, r15.1, t20, r15.2.2)

def zaO (x_p : startline_line) : Option (Int × Int × Bool × scan_Scanner) :=
  (zb3 x_p.Scanner [72, 84, 84, 80, 47]).bind fun r3 =>
  if (!r3.1) then (some (0, 0, false, r3.2)) else ((za9 (⟨r3.2⟩ : startline_line)).bind fun r9 =>
  (zH r9.2.2 46).bind fun r12 =>
  (za9 (⟨r12.2⟩ : startline_line)).bind fun r15 =>
  if r9.2.1 then (if r12.1 then (zaQ r9 r15 r15.2.1) else (zaQ r9 r15 false)) else (zaQ r9 r15 false))

def za3 (t13 : Bool) : Option Bool :=
  some t13

def zcM (x_s : Str) : Option Bool :=
  (zhh x_s).bind fun r2 =>
  (zaO (⟨r2⟩ : startline_line)).bind fun r6 =>
  if r6.2.2.1 then ((za7 r6.2.2.2).bind fun r10 =>
  if r10 then (if (!(r6.1 == 1)) then (za3 true) else (za3 (decide (1 < r6.2.1)))) else (za3 false)) else (za3 false)

def ze9 (x_c : scan_Scanner) : Option Int :=
  some x_c.f_at

def zbF (r2 : Int) (s14 : Str) (i15 : Int) : Option (Str × scan_Scanner) :=
  (zeC s14 r2 i15).bind fun s18 =>
  some ((s18, (⟨s14, i15⟩ : scan_Scanner)))

def zaU (rec1 : Str → Int → Option (Str × scan_Scanner)) (r2 : Int) (s4 : Str) (i5 : Int) (t10 : Bool) : Option (Str × scan_Scanner) :=
  if t10 then (zbF r2 s4 i5) else ((zE i5 1).bind fun i13 =>
  rec1 s4 i13)

def zR (x_is : UInt8 → Option Bool) (r2 : Int) : Nat → Str → Int → Option (Str × scan_Scanner)
  | 0, _, _ => none
  | n + 1, s4, i5 =>
  (z8 (⟨s4, i5⟩ : scan_Scanner)).bind fun r6 =>
  if (!r6.2) then (zaU (zR x_is r2 n) r2 s4 i5 true) else ((x_is r6.1).bind fun r9 =>
  zaU (zR x_is r2 n) r2 s4 i5 (!r9))

def zar (x_c : scan_Scanner) (x_is : UInt8 → Option Bool) : Option (Str × scan_Scanner) :=
  (ze9 x_c).bind fun r2 =>
  zR x_is r2 fuel x_c.f_s x_c.f_at

def zfF (x_b : UInt8) (t3 : Bool) : Option UInt8 :=
  if t3 then (some (x_b + 32)) else (some x_b)

def zaT (x_b : UInt8) : Option UInt8 :=
  if (decide (65 ≤ x_b)) then (zfF x_b (decide (x_b ≤ 90))) else (zfF x_b false)

def zeE (t5 : Bool) : Option Bool :=
  some t5

def zgm (x_b : UInt8) : Option Bool :=
  (zaT x_b).bind fun r2 =>
  if (decide (97 ≤ r2)) then ((zaT x_b).bind fun r4 =>
  zeE (decide (r4 ≤ 122))) else (zeE false)

def zgZ (x_b : UInt8) (x_l : Str) : Option Bool :=
  (strings_IndexByte x_l x_b).bind fun r2 =>
  some (decide (0 ≤ r2))

def zdd (t7 : Bool) : Option Bool :=
  some t7

def zdO (x_b : UInt8) : Option Bool :=
  (zgm x_b).bind fun r2 =>
  if r2 then (zdd true) else ((zab x_b).bind fun r4 =>
  if r4 then (zdd true) else ((zgZ x_b [33, 35, 36, 37, 38, 39, 42, 43, 45, 46, 94, 95, 96, 124, 126]).bind fun r6 =>
  zdd r6))

def zbI (x_c : scan_Scanner) : Option (Str × Bool × scan_Scanner) :=
  (zar x_c zdO).bind fun r2 =>
  some ((r2.1, !(r2.1 == []), r2.2))

def zcc (x_b : UInt8) : Option Bool :=
  some (!(x_b == 32))

def zba (r3 : Int × Int × Bool × scan_Scanner) (t8 : Bool) : Option (Int × Bool × scan_Scanner) :=
  some (r3.2.1, t8, r3.2.2.2)

def zbb (x_p : startline_line) : Option (Int × Bool × scan_Scanner) :=
  (zaO x_p).bind fun r3 =>
  if r3.2.2.1 then (if (r3.1 == 1) then (zba r3 (decide (r3.2.1 ≤ 1))) else (zba r3 false)) else (zba r3 false)

def zcj (rec1 : Int → Option Bool) (x_is : UInt8 → Option Bool) (i3 : Int) (x7 : Str) : Nat → Int → Option Bool
  | 0, _ => none
  | n + 1, i12 =>
  if (decide (i12 < (x7.length : Int))) then ((sAt x7 i12).bind fun b17 =>
  (x_is b17).bind fun r18 =>
  if (!r18) then (some false) else ((zE i12 1).bind fun i23 =>
  (zcj rec1 x_is i3 x7 n) i23)) else ((zE i3 1).bind fun i25 =>
  rec1 i25)

def zck (x_is : UInt8 → Option Bool) (x_l : List Str) : Nat → Int → Option Bool
  | 0, _ => none
  | n + 1, i3 =>
  if (decide (i3 < (x_l.length : Int))) then ((lAt x_l i3).bind fun x7 =>
  zcj (zck x_is x_l n) x_is i3 x7 fuel 0) else (some true)

def zdP (x_is : UInt8 → Option Bool) (x_l : List Str) : Option Bool :=
  zck x_is x_l fuel 0

def zeW (x_b : UInt8) : Option Int :=
  (zab x_b).bind fun r2 =>
  if r2 then (some (((x_b - 48).toNat : Int))) else ((zaT x_b).bind fun r7 =>
  (zE (((r7 - 97).toNat : Int)) 10).bind fun i8 =>
  some i8)

def zcN (rec2 : Int → Int → Option (Int × Int)) (x_base : Int) (i11 : Int) (i12 : Int) (r18 : Int) (t23 : Bool) : Option (Int × Int) :=
  if t23 then (some (0, 7)) else ((zlp i11 x_base).bind fun i27 =>
  (zE i27 r18).bind fun i28 =>
  (zE i12 1).bind fun i30 =>
  rec2 i28 i30)

def zaM (x_s : Str) (x_base : Int) (x_most : Int) : Nat → Int → Int → Option (Int × Int)
  | 0, _, _ => none
  | n + 1, i11, i12 =>
  if (decide (i12 < (x_s.length : Int))) then ((sAt x_s i12).bind fun b17 =>
  (zeW b17).bind fun r18 =>
  if (decide (x_most < r18)) then (zcN (zaM x_s x_base x_most n) x_base i11 i12 r18 true) else ((zdb x_most r18).bind fun i21 =>
  (zo9 i21 x_base).bind fun i22 =>
  zcN (zaM x_s x_base x_most n) x_base i11 i12 r18 (decide (i22 < i11)))) else (some (i11, 0))

def zcO (x_s : Str) (x_base : Int) (x_most : Int) (t5 : Bool) : Option (Int × Int) :=
  if t5 then (some (0, 2)) else (zaM x_s x_base x_most fuel 0 0)

def zfG (x_s : Str) (x_base : Int) (x_most : Int) (x_is : UInt8 → Option Bool) : Option (Int × Int) :=
  if (x_s == []) then (zcO x_s x_base x_most true) else ((zdP x_is ([x_s] : List Str)).bind fun r4 =>
  zcO x_s x_base x_most (!r4))

def zb6 (x_s : Str) (x_most : Int) : Option (Int × Int) :=
  (zfG x_s 10 x_most zab).bind fun r2 =>
  some (r2.1, r2.2)

def zgT (x_n : Int) (x_base : Int) : Option Str :=
  if (decide (x_n < 0)) then (some []) else ((zd4 x_n x_base).bind fun r6 =>
  some r6)

def zfH (x_n : Int) : Option Str :=
  (zgT x_n 10).bind fun r2 =>
  some r2

def zb4 (t6 : Bool) : Option Bool :=
  some t6

def zcz (x_s : Str) (x_most : Int) : Option Bool :=
  (zb6 x_s x_most).bind fun r2 =>
  if (r2.2 == 0) then ((zfH r2.1).bind fun r5 =>
  zb4 (r5 == x_s)) else (zb4 false)

def zdQ (s : Str) : Option Bool := if s.length < 1000000000 then ((zi 46 s).mapM (fun x => zcz x 255)).bind fun bs => some (bs.all id && decide ((bs.length : Int) = 4)) else none

def zea (t7 : Bool) : Option Bool :=
  some t7

def zco (x_b : UInt8) : Option Bool :=
  (zab x_b).bind fun r2 =>
  if r2 then (zea true) else ((zaT x_b).bind fun r4 =>
  if (decide (97 ≤ r4)) then ((zaT x_b).bind fun r6 =>
  zea (decide (r6 ≤ 102))) else (zea false))

def zbJ (rec1 : Int → Int → Option Int) (i13 : Int) (i36 : Int) : Option Int :=
  (zE i13 1).bind fun i37 =>
  rec1 i36 i37

def za4 (rec1 : Int → Int → Option Int) (i12 : Int) (i13 : Int) (t32 : Bool) : Option Int :=
  if t32 then ((zE i12 1).bind fun i34 =>
  zbJ rec1 i13 i34) else (some (-1))

def za5 (rec1 : Int → Int → Option Int) (i12 : Int) (i13 : Int) (x17 : Str) (t25 : Bool) : Option Int :=
  if t25 then ((zE i12 2).bind fun i27 =>
  zbJ rec1 i13 i27) else (if (decide (1 ≤ (x17.length : Int))) then (if (decide ((x17.length : Int) ≤ 4)) then ((zdP zco ([x17] : List Str)).bind fun r31 =>
  za4 rec1 i12 i13 r31) else (za4 rec1 i12 i13 false)) else (za4 rec1 i12 i13 false))

def zL (x_last : Bool) (r6 : List Str) : Nat → Int → Int → Option Int
  | 0, _, _ => none
  | n + 1, i12, i13 =>
  if (decide (i13 < (r6.length : Int))) then ((lAt r6 i13).bind fun x17 =>
  if x_last then ((zdb (r6.length : Int) 1).bind fun i22 =>
  if (i13 == i22) then ((zdQ x17).bind fun r24 =>
  za5 (zL x_last r6 n) i12 i13 x17 r24) else (za5 (zL x_last r6 n) i12 i13 x17 false)) else (za5 (zL x_last r6 n) i12 i13 x17 false)) else (some i12)

def zb7 (x_s : Str) (x_last : Bool) : Option Int :=
  if (x_s == []) then (some 0) else ((strings_Split x_s [58]).bind fun r6 =>
  zL x_last r6 fuel 0 0)

def zbA (t15 : Bool) : Option Bool :=
  some t15

def zeF (x_s : Str) : Option Bool :=
  (strings_Cut x_s [58, 58]).bind fun r2 =>
  if (!r2.2.2) then ((zb7 x_s true).bind fun r6 =>
  some (r6 == 8)) else ((zb7 r2.1 false).bind fun r9 =>
  (zb7 r2.2.1 true).bind fun r10 =>
  if (decide (0 ≤ r9)) then (if (decide (0 ≤ r10)) then ((zE r9 r10).bind fun i14 =>
  zbA (decide (i14 ≤ 7))) else (zbA false)) else (zbA false))

def zah (t8 : Bool) : Option Bool :=
  some t8

def zeG (x_s : Str) : Option Bool :=
  if (decide (3 ≤ (x_s.length : Int))) then ((sAt x_s 0).bind fun b3 =>
  if (b3 == 37) then ((zeC x_s 1 3).bind fun s5 =>
  (zdP zco ([s5] : List Str)).bind fun r7 =>
  zah r7) else (zah false)) else (zah false)

def zbG (t7 : Bool) : Option Bool :=
  some t7

def zbK (x_b : UInt8) : Option Bool :=
  (zgm x_b).bind fun r2 =>
  if r2 then (zbG true) else ((zab x_b).bind fun r4 =>
  if r4 then (zbG true) else ((zgZ x_b [45, 46, 95, 126]).bind fun r6 =>
  zbG r6))

def zfj (x_b : UInt8) : Option Bool :=
  (zgZ x_b [33, 36, 38, 39, 40, 41, 42, 43, 44, 59, 61]).bind fun r2 =>
  some r2

def zde (rec1 : Str → Option Bool) (s6 : Str) (t19 : Bool) : Option Bool :=
  if t19 then ((zbD s6 1).bind fun s21 =>
  rec1 s21) else (some false)

def zay : Nat → Str → Option Bool
  | 0, _ => none
  | n + 1, s6 =>
  if (!(s6 == [])) then ((zeG s6).bind fun r10 =>
  if r10 then ((zbD s6 3).bind fun s13 =>
  (zay n) s13) else ((sAt s6 0).bind fun b14 =>
  (zbK b14).bind fun r15 =>
  if r15 then (zde (zay n) s6 true) else ((sAt s6 0).bind fun b17 =>
  (zfj b17).bind fun r18 =>
  zde (zay n) s6 r18))) else (some true)

def zeX (x_s : Str) : Option Bool :=
  if (x_s == []) then (some false) else (zay fuel x_s)

def zcA (i24 : Int) (s25 : Str) : Option (api_Host × Bool) :=
  some (((⟨i24, s25, (-1)⟩ : api_Host), !(i24 == 0)))

def zbU (x_s : Str) (t14 : Bool) : Option (api_Host × Bool) :=
  if t14 then ((zdb (x_s.length : Int) 1).bind fun i16 =>
  (zeC x_s 1 i16).bind fun s17 =>
  zcA 3 s17) else ((zdQ x_s).bind fun r18 =>
  if r18 then (zcA 2 x_s) else ((zeX x_s).bind fun r21 =>
  if r21 then (zcA 1 x_s) else (zcA 0 x_s)))

def zfk (x_s : Str) : Option (api_Host × Bool) :=
  if (decide (2 < (x_s.length : Int))) then ((sAt x_s 0).bind fun b6 =>
  if (b6 == 91) then ((zdb (x_s.length : Int) 1).bind fun i8 =>
  (sAt x_s i8).bind fun b9 =>
  if (b9 == 93) then ((zdb (x_s.length : Int) 1).bind fun i11 =>
  (zeC x_s 1 i11).bind fun s12 =>
  (zeF s12).bind fun r13 =>
  zbU x_s r13) else (zbU x_s false)) else (zbU x_s false)) else (zbU x_s false)

def zcT (x_s : Str) (r10 : Int) (r17 : api_Host × Bool) (t24 : Bool) : Option (api_Host × Int) :=
  if t24 then (some (((⟨0, [], 0⟩ : api_Host), 27))) else ((zE r10 1).bind fun i28 =>
  (zbD x_s i28).bind fun s29 =>
  (zb6 s29 65535).bind fun r30 =>
  some (((⟨r17.1.Kind, r17.1.Name, r30.1⟩ : api_Host), 0)))

def zcB (x_s : Str) : Option (api_Host × Int) :=
  (zfk x_s).bind fun r3 =>
  if r3.2 then (some (r3.1, 0)) else ((zaC x_s 58).bind fun r10 =>
  if (decide (r10 < 0)) then (some (((⟨0, [], 0⟩ : api_Host), 27))) else ((sTo x_s r10).bind fun s16 =>
  (zfk s16).bind fun r17 =>
  if (!r17.2) then (zcT x_s r10 r17 true) else ((zE r10 1).bind fun i21 =>
  (zbD x_s i21).bind fun s22 =>
  (zcz s22 65535).bind fun r23 =>
  zcT x_s r10 r17 (!r23))))

def zfd (s : Str) : Option Str := if s.length < 4294967281 then s.mapM zaT else none

def zdH (t7 : Bool) : Option Bool :=
  some t7

def zfI (x_b : UInt8) : Option Bool :=
  (zbK x_b).bind fun r2 =>
  if r2 then (zdH true) else ((zfj x_b).bind fun r4 =>
  if r4 then (zdH true) else ((zgZ x_b [58, 64]).bind fun r6 =>
  zdH r6))

def zfl (rec1 : Int → Option Bool) (i27 : Int) : Option Bool :=
  (zE i27 1).bind fun i28 =>
  rec1 i28

def zdr (rec1 : Int → Option Bool) (i3 : Int) (t23 : Bool) : Option Bool :=
  if t23 then ((zE i3 2).bind fun i25 =>
  zfl rec1 i25) else (some false)

def zgz (rec1 : Int → Option Bool) (x_s : Str) (i3 : Int) (t12 : Bool) : Option Bool :=
  if t12 then (zfl rec1 i3) else ((sAt x_s i3).bind fun b14 =>
  if (b14 == 37) then ((zE i3 2).bind fun i16 =>
  if (decide (i16 < (x_s.length : Int))) then ((zE i3 1).bind fun i18 =>
  (zE i3 3).bind fun i19 =>
  (zeC x_s i18 i19).bind fun s20 =>
  (zdP zco ([s20] : List Str)).bind fun r22 =>
  zdr rec1 i3 r22) else (zdr rec1 i3 false)) else (zdr rec1 i3 false))

def zbc (x_s : Str) (x_more : Str) : Nat → Int → Option Bool
  | 0, _ => none
  | n + 1, i3 =>
  if (decide (i3 < (x_s.length : Int))) then ((sAt x_s i3).bind fun b7 =>
  (zfI b7).bind fun r8 =>
  if r8 then (zgz (zbc x_s x_more n) x_s i3 true) else ((sAt x_s i3).bind fun b10 =>
  (strings_IndexByte x_more b10).bind fun r11 =>
  zgz (zbc x_s x_more n) x_s i3 (decide (0 ≤ r11)))) else (some true)

def zia (x_s : Str) (x_more : Str) : Option Bool :=
  zbc x_s x_more fuel 0

def zeY (t5 : Bool) : Option Bool :=
  some t5

def zhi (x_s : Str) : Option Bool :=
  (strings_HasPrefix x_s [47]).bind fun r2 =>
  if r2 then ((zia x_s [47]).bind fun r4 =>
  zeY r4) else (zeY false)

def zgA (x_s : Str) : Option Bool :=
  (zia x_s [47, 63]).bind fun r2 =>
  some r2

def zfJ (r2 : Str × Str × Bool) (t7 : Bool) : Option (Str × Str × Bool × Int) :=
  if t7 then (some ([], [], false, 2)) else (some (r2.1, r2.2.1, r2.2.2, 0))

def zib (x_s : Str) : Option (Str × Str × Bool × Int) :=
  (strings_Cut x_s [63]).bind fun r2 =>
  (zhi r2.1).bind fun r4 =>
  if (!r4) then (zfJ r2 true) else ((zgA r2.2.1).bind fun r6 =>
  zfJ r2 (!r6))

def zeb (x_t : api_Target) (r15 : Str × Str × Bool × Int) (s19 : Str) : Option (api_Target × Bool) :=
  some (((⟨x_t.Kind, x_t.Scheme, x_t.Host, s19, r15.2.1, r15.2.2.1⟩ : api_Target), r15.2.2.2 == 0))

def zec (x_t : api_Target) (b9 : UInt8) (s14 : Str) : Option (api_Target × Bool) :=
  (zib s14).bind fun r15 =>
  if (b9 == 63) then (zeb x_t r15 []) else (zeb x_t r15 r15.1)

def zfm (x_t : api_Target) (x_s : Str) : Option (api_Target × Bool) :=
  if (x_s == []) then (some (x_t, true)) else ((sAt x_s 0).bind fun b9 =>
  if (b9 == 63) then ((zjb [47] x_s).bind fun s13 =>
  zec x_t b9 s13) else (zec x_t b9 x_s))

def zbL (r3 : Str × Str × Bool) (r5 : Str) (i18 : Int) : Option (api_Target × Bool) :=
  (sTo r3.2.1 i18).bind fun s19 =>
  (zcB s19).bind fun r20 =>
  if (!(r20.2 == 0)) then (some (((⟨2, r5, (⟨0, [], 0⟩ : api_Host), [], [], false⟩ : api_Target), false))) else ((zbD r3.2.1 i18).bind fun s28 =>
  (zfm (⟨2, r5, r20.1, [], [], false⟩ : api_Target) s28).bind fun r29 =>
  some (r29.1, r29.2))

def zas (r3 : Str × Str × Bool) (r5 : Str) (t10 : Bool) : Option (api_Target × Bool) :=
  if t10 then (some (((⟨2, r5, (⟨0, [], 0⟩ : api_Host), [], [], false⟩ : api_Target), false))) else ((strings_IndexAny r3.2.1 [47, 63]).bind fun r14 =>
  if (decide (r14 < 0)) then (zbL r3 r5 (r3.2.1.length : Int)) else (zbL r3 r5 r14))

def zdI (x_s : Str) : Option (api_Target × Bool) :=
  (strings_Cut x_s [58, 47, 47]).bind fun r3 =>
  (zfd r3.1).bind fun r5 =>
  if (!r3.2.2) then (zas r3 r5 true) else (if (!(r5 == [104, 116, 116, 112])) then (zas r3 r5 (!(r5 == [104, 116, 116, 112, 115]))) else (zas r3 r5 false))

def zic (x_method : Str) (x_s : Str) : Option (api_Target × Bool) :=
  if (x_s == [42]) then (some (((⟨4, [], (⟨0, [], 0⟩ : api_Host), [], [], false⟩ : api_Target), x_method == [79, 80, 84, 73, 79, 78, 83]))) else ((strings_HasPrefix x_s [47]).bind fun r7 =>
  if (!r7) then ((zdI x_s).bind fun r10 =>
  some (r10.1, r10.2)) else ((zfm ((⟨1, [], (⟨0, [], 0⟩ : api_Host), [], [], false⟩ : api_Target)) x_s).bind fun r13 =>
  some (r13.1, r13.2)))

def zdJ (r5 : api_Host × Int) (t9 : Bool) : Option (api_Target × Int) :=
  if t9 then (some (((⟨0, [], (⟨0, [], 0⟩ : api_Host), [], [], false⟩ : api_Target), 20))) else (some (((⟨3, [], r5.1, [], [], false⟩ : api_Target), 0)))

def zfK (x_method : Str) (x_s : Str) : Option (api_Target × Int) :=
  if (x_method == [67, 79, 78, 78, 69, 67, 84]) then ((zcB x_s).bind fun r5 =>
  if (!(r5.2 == 0)) then (zdJ r5 true) else (zdJ r5 (decide (r5.1.Port < 0)))) else ((zic x_method x_s).bind fun r15 =>
  if (!r15.2) then (some (((⟨0, [], (⟨0, [], 0⟩ : api_Host), [], [], false⟩ : api_Target), 20))) else (some (r15.1, 0)))

def zaa (r17 : Str × Bool × scan_Scanner) (r23 : Str × scan_Scanner) (r29 : Int × Bool × scan_Scanner) (t41 : Bool) : Option (api_Head × Int) :=
  if t41 then (some (((⟨0, [], [], 0, [], 0, []⟩ : api_Head), 20))) else (some (((⟨1, r17.1, r23.1, 0, [], r29.1, []⟩ : api_Head), 0)))

def zcU (x_a0 : Str) : Option (api_Head × Int) :=
  (zaC x_a0 32).bind fun r5 =>
  (zE r5 1).bind fun i6 =>
  (zbD x_a0 i6).bind fun s7 =>
  (zcM s7).bind fun r8 =>
  if r8 then (some (((⟨0, [], [], 0, [], 0, []⟩ : api_Head), 26))) else ((zhh x_a0).bind fun r13 =>
  (zbI r13).bind fun r17 =>
  (zH r17.2.2 32).bind fun r20 =>
  (zar r20.2 zcc).bind fun r23 =>
  (zH r23.2 32).bind fun r26 =>
  (zbb (⟨r26.2⟩ : startline_line)).bind fun r29 =>
  (zfK r17.1 r23.1).bind fun r32 =>
  if (!r17.2.1) then (zaa r17 r23 r29 true) else (if (!r20.1) then (zaa r17 r23 r29 true) else (if (!r26.1) then (zaa r17 r23 r29 true) else (if (!r29.2.1) then (zaa r17 r23 r29 true) else ((za7 r29.2.2).bind fun r39 =>
  if (!r39) then (zaa r17 r23 r29 true) else (zaa r17 r23 r29 (!(r32.2 == 0))))))))

def zdw (t3 : Bool) : Option Bool :=
  some t3

def zgN (x_b : UInt8) : Option Bool :=
  if (decide (32 < x_b)) then (zdw (decide (x_b < 127))) else (zdw false)

def zeH (t3 : Bool) : Option Bool :=
  some t3

def zc6 (x_b : UInt8) : Option Bool :=
  if (x_b == 32) then (zeH true) else (zeH (x_b == 9))

def zdf (t6 : Bool) : Option Bool :=
  some t6

def zcp (x_b : UInt8) : Option Bool :=
  (zgN x_b).bind fun r2 =>
  if r2 then (zdf true) else ((zc6 x_b).bind fun r4 =>
  if r4 then (zdf true) else (zdf (decide (127 < x_b))))

def z6 (r14 : Int × Bool × scan_Scanner) (r23 : Bool × scan_Scanner) (r26 : Int × Int) (t37 : Bool) : Option (api_Head × Int) :=
  if t37 then (some (((⟨0, [], [], 0, [], 0, []⟩ : api_Head), 20))) else ((zX r23.2).bind fun r41 =>
  some (((⟨2, [], [], r26.1, r41, r14.1, []⟩ : api_Head), 0)))

def zdg (x_a0 : Str) : Option (api_Head × Int) :=
  (strings_Cut x_a0 [32]).bind fun r3 =>
  (zcM r3.1).bind fun r5 =>
  if r5 then (some (((⟨0, [], [], 0, [], 0, []⟩ : api_Head), 26))) else ((zhh x_a0).bind fun r10 =>
  (zbb (⟨r10⟩ : startline_line)).bind fun r14 =>
  (zH r14.2.2 32).bind fun r17 =>
  (zar r17.2 zab).bind fun r20 =>
  (zH r20.2 32).bind fun r23 =>
  (zb6 r20.1 599).bind fun r26 =>
  if (!r14.2.1) then (z6 r14 r23 r26 true) else (if (!r17.1) then (z6 r14 r23 r26 true) else (if (!r23.1) then (z6 r14 r23 r26 true) else (if (!((r20.1.length : Int) == 3)) then (z6 r14 r23 r26 true) else (if (!(r26.2 == 0)) then (z6 r14 r23 r26 true) else (if (decide (r26.1 < 100)) then (z6 r14 r23 r26 true) else ((zX r23.2).bind fun r34 =>
  (zdP zcp ([r34] : List Str)).bind fun r36 =>
  z6 r14 r23 r26 (!r36))))))))

def zcC (x_kind : Int) (x_s : Str) (t4 : Bool) : Option (api_Head × Int) :=
  if t4 then (some (((⟨0, [], [], 0, [], 0, []⟩ : api_Head), 1))) else ((strings_ContainsAny x_s [13, 10]).bind fun r7 =>
  if r7 then (some (((⟨0, [], [], 0, [], 0, []⟩ : api_Head), 24))) else (if (x_kind == 1) then ((zcU x_s).bind fun r13 =>
  some (r13.1, r13.2)) else ((zdg x_s).bind fun r18 =>
  some (r18.1, r18.2))))

def zb8 (x_kind : Int) (x_s : Str) : Option (api_Head × Int) :=
  if (!(x_kind == 1)) then (zcC x_kind x_s (!(x_kind == 2))) else (zcC x_kind x_s false)

def zaz (x_c : scan_Scanner) : Option (Str × scan_Scanner) :=
  (zar x_c zc6).bind fun r2 =>
  some (r2.1, r2.2)

def zcD (r17 : Str × Bool × scan_Scanner) (r20 : Str × scan_Scanner) (t26 : Bool) (s27 : Str) (i28 : Int) : Option (api_Field × Int) :=
  if t26 then (some (((⟨[], []⟩ : api_Field), 21))) else (if (!(r20.1 == [])) then (some (((⟨[], []⟩ : api_Field), 22))) else ((zX (⟨s27, i28⟩ : scan_Scanner)).bind fun r34 =>
  (zdP zcp ([r34] : List Str)).bind fun r36 =>
  if (!r36) then (some (((⟨[], []⟩ : api_Field), 25))) else ((zX (⟨s27, i28⟩ : scan_Scanner)).bind fun r41 =>
  (zfE r41 [32, 9]).bind fun r42 =>
  some (((⟨r17.1, r42⟩ : api_Field), 0)))))

def zb9 (x_s : Str) : Option (api_Field × Int) :=
  (strings_ContainsAny x_s [13, 10]).bind fun r3 =>
  if r3 then (some (((⟨[], []⟩ : api_Field), 24))) else ((zhh x_s).bind fun r8 =>
  (zaz r8).bind fun r11 =>
  if (!(r11.1 == [])) then (some (((⟨[], []⟩ : api_Field), 23))) else ((zbI r11.2).bind fun r17 =>
  (zaz r17.2.2).bind fun r20 =>
  if (!r17.2.1) then (zcD r17 r20 true r20.2.f_s r20.2.f_at) else ((zH r20.2 58).bind fun r24 =>
  zcD r17 r20 (!r24.1) r24.2.f_s r24.2.f_at)))

def zM (x_s : List api_Field) : Option (List api_Field) :=
  if zci 0 x_s.length 32 then (some x_s) else none

def zmx (x_l : List api_Field) : Option bag_Bag :=
  (zM x_l).bind fun r2 =>
  some (⟨r2⟩ : bag_Bag)

def zgU (x_b : bag_Bag) : Option (List api_Field) :=
  (zM x_b.f_l).bind fun r4 =>
  some r4

def zhj (x_a : Str) (x_b : Str) : Option Bool :=
  (zfd x_a).bind fun r2 =>
  (zfd x_b).bind fun r3 =>
  some (r2 == r3)

def zcV (rec1 : (List Str) → Int → Option (List Str)) (i10 : Int) (l28 : List Str) : Option (List Str) :=
  (zE i10 1).bind fun i29 =>
  rec1 l28 i29

def zaD (x_name : Str) (r3 : List api_Field) : Nat → (List Str) → Int → Option (List Str)
  | 0, _, _ => none
  | n + 1, l9, i10 =>
  if (decide (i10 < (r3.length : Int))) then ((lAt r3 i10).bind fun x14 =>
  (zhj x14.Name x_name).bind fun r19 =>
  if r19 then (if zci l9.length 1 16 then (zcV (zaD x_name r3 n) i10 (l9 ++ ([x14.Value] : List Str))) else none) else (zcV (zaD x_name r3 n) i10 l9)) else (some l9)

def zed (x_b : bag_Bag) (x_name : Str) : Option (List Str) :=
  (zgU x_b).bind fun r3 =>
  zaD x_name r3 fuel [] 0

def zeZ (rec2 : Int → Option Bool) (i21 : Int) (t33 : Bool) : Option Bool :=
  if t33 then (some false) else ((zE i21 1).bind fun i37 =>
  rec2 i37)

def zbO (r11 : List Str) : Nat → Int → Option Bool
  | 0, _ => none
  | n + 1, i21 =>
  if (decide (i21 < (r11.length : Int))) then ((lAt r11 i21).bind fun x25 =>
  (zcB x25).bind fun r29 =>
  if (!(r29.2 == 0)) then (zeZ (zbO r11 n) i21 (!(x25 == []))) else (zeZ (zbO r11 n) i21 false)) else (some true)

def zc7 (r11 : List Str) (t16 : Bool) : Option Bool :=
  if t16 then (some false) else (zbO r11 fuel 0)

def zhk (x_h : api_Head) : Option Bool :=
  if (!(x_h.Kind == 1)) then (some true) else ((zmx x_h.Fields).bind fun r7 =>
  (zed r7 [72, 111, 115, 116]).bind fun r11 =>
  if (decide (1 < (r11.length : Int))) then (zc7 r11 true) else (zc7 r11 (decide ((r11.length : Int) < x_h.Minor))))

def zhl (x_h : api_Head) : Option Int :=
  if (decide (100 < (x_h.Fields.length : Int))) then (some 3) else ((zhk x_h).bind fun r6 =>
  if (!r6) then (some 27) else (some 0))

def ze0 (i75 : Int) (s76 : Str) (s77 : Str) (i78 : Int) (s79 : Str) (i80 : Int) (l83 : List api_Field) : Option (api_Head × Int) :=
  (zhl (⟨i75, s76, s77, i78, s79, i80, l83⟩ : api_Head)).bind fun r84 =>
  if (!(r84 == 0)) then (some (((⟨0, [], [], 0, [], 0, []⟩ : api_Head), r84))) else (some (((⟨i75, s76, s77, i78, s79, i80, l83⟩ : api_Head), 0)))

def zc8 (l41 : List Str) : Nat → Int → Str → Str → Int → Str → Int → (List api_Field) → Int → Option (api_Head × Int)
  | 0, _, _, _, _, _, _, _, _ => none
  | n + 1, i45, s46, s47, i48, s49, i50, l53, i54 =>
  if (decide (i54 < (l41.length : Int))) then ((lAt l41 i54).bind fun x58 =>
  (zb9 x58).bind fun r62 =>
  if (!(r62.2 == 0)) then (some (((⟨0, [], [], 0, [], 0, []⟩ : api_Head), r62.2))) else (if zci l53.length 1 32 then ((zE i54 1).bind fun i74 =>
  (zc8 l41 n) i45 s46 s47 i48 s49 i50 (l53 ++ [r62.1]) i74) else none)) else (ze0 i45 s46 s47 i48 s49 i50 l53)

def zdR (x_a0 : Int) (x_a1 : Str) (r12 : Int) (t19 : Bool) : Option (api_Head × Int) :=
  if t19 then (some (((⟨0, [], [], 0, [], 0, []⟩ : api_Head), 6))) else ((sTo x_a1 r12).bind fun s23 =>
  (strings_Split s23 [13, 10]).bind fun r24 =>
  (lAt r24 0).bind fun x28 =>
  (zb8 x_a0 x28).bind fun r31 =>
  if (!(r31.2 == 0)) then (some (((⟨0, [], [], 0, [], 0, []⟩ : api_Head), r31.2))) else ((zp3 r24 1).bind fun l41 =>
  zc8 l41 fuel r31.1.Kind r31.1.Method r31.1.Target r31.1.Code r31.1.Reason r31.1.Minor r31.1.Fields 0))

def zhm (x_a0 : Int) (x_a1 : Str) (x_a2 : Int) : Option (api_Head × Int) :=
  (zb8 x_a0 []).bind fun r3 =>
  if (r3.2 == 1) then (some (((⟨0, [], [], 0, [], 0, []⟩ : api_Head), r3.2))) else ((strings_Index x_a1 [13, 10, 13, 10]).bind fun r12 =>
  if (decide (x_a2 < (x_a1.length : Int))) then (some (((⟨0, [], [], 0, [], 0, []⟩ : api_Head), 3))) else (if (decide (r12 < 0)) then (zdR x_a0 x_a1 r12 true) else ((zE r12 4).bind fun i18 =>
  zdR x_a0 x_a1 r12 (!(i18 == (x_a1.length : Int))))))

def zcd (x_a : accum_Accum) (i16 : Int) : Option (Bool × Int × accum_Accum) :=
  some ((false, i16, (⟨x_a.f_kind, x_a.f_limit, x_a.f_buf, (x_a.f_buf.length : Int), x_a.f_took, x_a.f_bad, x_a.f_whole, x_a.f_got⟩ : accum_Accum)))

def zdh (x_a : accum_Accum) (x_s : Str) : Option (Bool × Int × accum_Accum) :=
  if (x_a.f_from == 0) then ((zb8 x_a.f_kind x_s).bind fun r5 =>
  zcd x_a r5.2) else (if (!(x_s == [])) then ((zb9 x_s).bind fun r10 =>
  zcd x_a r10.2) else ((zhm x_a.f_kind x_a.f_buf x_a.f_limit).bind fun r11 =>
  some ((r11.2 == 0, r11.2, (⟨x_a.f_kind, x_a.f_limit, x_a.f_buf, x_a.f_from, x_a.f_took, x_a.f_bad, x_a.f_whole, r11.1⟩ : accum_Accum)))))

def zcv (x_a : accum_Accum) (x_b : UInt8) : Option (Bool × Int × accum_Accum) :=
  if (decide (x_a.f_limit ≤ (x_a.f_buf.length : Int))) then (some (false, 3, x_a)) else (if zci x_a.f_buf.length 1 1 then ((zdc (⟨x_a.f_kind, x_a.f_limit, x_a.f_buf ++ [x_b], x_a.f_from, x_a.f_took, x_a.f_bad, x_a.f_whole, x_a.f_got⟩ : accum_Accum)).bind fun r11 =>
  if r11 then (some ((false, 24, (⟨x_a.f_kind, x_a.f_limit, x_a.f_buf ++ [x_b], x_a.f_from, x_a.f_took, x_a.f_bad, x_a.f_whole, x_a.f_got⟩ : accum_Accum)))) else (if (!(x_b == 10)) then (some ((false, 0, (⟨x_a.f_kind, x_a.f_limit, x_a.f_buf ++ [x_b], x_a.f_from, x_a.f_took, x_a.f_bad, x_a.f_whole, x_a.f_got⟩ : accum_Accum)))) else ((zdb (((x_a.f_buf ++ [x_b]).length : Int)) 2).bind fun i20 =>
  (lSub (x_a.f_buf ++ [x_b]) x_a.f_from i20).bind fun l21 =>
  (zdh (⟨x_a.f_kind, x_a.f_limit, x_a.f_buf ++ [x_b], x_a.f_from, x_a.f_took, x_a.f_bad, x_a.f_whole, x_a.f_got⟩ : accum_Accum) l21).bind fun r24 =>
  some (r24.1, r24.2.1, r24.2.2)))) else none)

def zce (rec2 : Int → Int → (List UInt8) → Int → Bool → Int → Bool → Int → Str → Str → Int → Str → Int → (List api_Field) → Int → Option (Int × Bool × Int × accum_Accum)) (i27 : Int) (r34 : Bool × Int × accum_Accum) (t42 : Bool) : Option (Int × Bool × Int × accum_Accum) :=
  if t42 then ((zE i27 1).bind fun i45 =>
  some ((i45, r34.1, r34.2.1, (⟨r34.2.2.f_kind, r34.2.2.f_limit, [], r34.2.2.f_from, r34.2.2.f_took, r34.2.1, r34.1, r34.2.2.f_got⟩ : accum_Accum)))) else ((zE i27 1).bind fun i48 =>
  rec2 r34.2.2.f_kind r34.2.2.f_limit r34.2.2.f_buf r34.2.2.f_from r34.2.2.f_took r34.2.1 r34.1 r34.2.2.f_got.Kind r34.2.2.f_got.Method r34.2.2.f_got.Target r34.2.2.f_got.Code r34.2.2.f_got.Reason r34.2.2.f_got.Minor r34.2.2.f_got.Fields i48)

def zc9 (x_a1 : Str) (i49 : Int) (i50 : Int) (l53 : List UInt8) (i54 : Int) (t55 : Bool) (i56 : Int) (t57 : Bool) (i58 : Int) (s59 : Str) (s60 : Str) (i61 : Int) (s62 : Str) (i63 : Int) (l66 : List api_Field) : Option (Int × Bool × Int × accum_Accum) :=
  some (((x_a1.length : Int), false, 0, (⟨i49, i50, l53, i54, t55, i56, t57, (⟨i58, s59, s60, i61, s62, i63, l66⟩ : api_Head)⟩ : accum_Accum)))

def z7 (x_a1 : Str) : Nat → Int → Int → (List UInt8) → Int → Bool → Int → Bool → Int → Str → Str → Int → Str → Int → (List api_Field) → Int → Option (Int × Bool × Int × accum_Accum)
  | 0, _, _, _, _, _, _, _, _, _, _, _, _, _, _, _ => none
  | n + 1, i9, i10, l13, i14, t15, i16, t17, i18, s19, s20, i21, s22, i23, l26, i27 =>
  if (decide (i27 < (x_a1.length : Int))) then ((sAt x_a1 i27).bind fun b33 =>
  (zcv ((⟨i9, i10, l13, i14, true, i16, t17, (⟨i18, s19, s20, i21, s22, i23, l26⟩ : api_Head)⟩ : accum_Accum)) b33).bind fun r34 =>
  if r34.1 then (zce (z7 x_a1 n) i27 r34 true) else (zce (z7 x_a1 n) i27 r34 (!(r34.2.1 == 0)))) else (zc9 x_a1 i9 i10 l13 i14 t15 i16 t17 i18 s19 s20 i21 s22 i23 l26)

def zbw (x_a0 : accum_Accum) (x_a1 : Str) (t4 : Bool) : Option (Int × Bool × Int × accum_Accum) :=
  if t4 then (some (0, false, 8, x_a0)) else (z7 x_a1 fuel x_a0.f_kind x_a0.f_limit x_a0.f_buf x_a0.f_from x_a0.f_took x_a0.f_bad x_a0.f_whole x_a0.f_got.Kind x_a0.f_got.Method x_a0.f_got.Target x_a0.f_got.Code x_a0.f_got.Reason x_a0.f_got.Minor x_a0.f_got.Fields 0)

def zak (x_a0 : accum_Accum) (x_a1 : Str) : Option (Int × Bool × Int × accum_Accum) :=
  if (!(x_a0.f_bad == 0)) then (zbw x_a0 x_a1 true) else (zbw x_a0 x_a1 x_a0.f_whole)

def zbM (x_a : accum_Accum) : Option (api_Head × Bool) :=
  if (!x_a.f_whole) then (some (((⟨0, [], [], 0, [], 0, []⟩ : api_Head), false))) else (if zci 0 x_a.f_got.Fields.length 32 then (some (x_a.f_got, true)) else none)

def zfL : Option Bool :=
  some false

def zhn (i10 : Int) : Option Bool :=
  if (!(i10 == 0)) then (zfL) else (zfL)

def zaV (t64 : Bool) : Option Bool :=
  some t64

def zfM (i15 : Int) (i16 : Int) (l19 : List UInt8) (i20 : Int) (t21 : Bool) (i22 : Int) (t23 : Bool) (i24 : Int) (s25 : Str) (s26 : Str) (i27 : Int) (s28 : Str) (i29 : Int) (l32 : List api_Field) (t34 : Bool) : Option Bool :=
  if t34 then (some false) else ((zak ((⟨i15, i16, l19, i20, t21, i22, t23, (⟨i24, s25, s26, i27, s28, i29, l32⟩ : api_Head)⟩ : accum_Accum)) [71, 69, 84, 32, 47, 32, 72, 84, 84, 80, 47, 49, 46, 48, 13]).bind fun r38 =>
  (zak r38.2.2.2 [10, 13, 10, 120]).bind fun r45 =>
  (zbM r45.2.2.2).bind fun r52 =>
  if (r38.1 == 15) then (if (!r38.2.1) then (if (r38.2.2.1 == 0) then (if (r45.1 == 3) then (if r45.2.1 then (if (r45.2.2.1 == 0) then (if r52.2 then (zaV (r52.1.Target == [47])) else (zaV false)) else (zaV false)) else (zaV false)) else (zaV false)) else (zaV false)) else (zaV false)) else (zaV false))

def zho (i14 : Int) (i15 : Int) (i16 : Int) (l19 : List UInt8) (i20 : Int) (t21 : Bool) (i22 : Int) (t23 : Bool) (i24 : Int) (s25 : Str) (s26 : Str) (i27 : Int) (s28 : Str) (i29 : Int) (l32 : List api_Field) : Option Bool :=
  if (!(i14 == 0)) then (zfM i15 i16 l19 i20 t21 i22 t23 i24 s25 s26 i27 s28 i29 l32 true) else (zfM i15 i16 l19 i20 t21 i22 t23 i24 s25 s26 i27 s28 i29 l32 false)

def zhJ : Option Bool :=
  (zgY 1 99).bind fun r2 =>
  zq2 r2.1 (zhn r2.2) (fun x4 => zho r2.2 x4.f_kind x4.f_limit x4.f_buf x4.f_from x4.f_took x4.f_bad x4.f_whole x4.f_got.Kind x4.f_got.Method x4.f_got.Target x4.f_got.Code x4.f_got.Reason x4.f_got.Minor x4.f_got.Fields)

def zdx (rec1 : Str → (List Str) → Int → Option (List Str)) (x_by : List UInt8) (s4 : Str) (l7 : List Str) (i8 : Int) (t10 : Bool) : Option (List Str) :=
  if t10 then ((lAt x_by i8).bind fun x13 =>
  (sTo s4 (min (((x13 % 17).toNat : Int)) (s4.length : Int))).bind fun s17 =>
  if zci l7.length 1 16 then ((zbD s4 (min (((x13 % 17).toNat : Int)) (s4.length : Int))).bind fun s23 =>
  (zE i8 1).bind fun i25 =>
  rec1 s23 (l7 ++ ([s17] : List Str)) i25) else none) else (if zci l7.length 1 16 then (some (l7 ++ ([s4] : List Str))) else none)

def zbP (x_by : List UInt8) : Nat → Str → (List Str) → Int → Option (List Str)
  | 0, _, _, _ => none
  | n + 1, s4, l7, i8 =>
  if (decide (i8 < (x_by.length : Int))) then (zdx (zbP x_by n) x_by s4 l7 i8 (decide (i8 < 60))) else (zdx (zbP x_by n) x_by s4 l7 i8 false)

def zid (x_s : Str) (x_by : List UInt8) : Option (List Str) :=
  zbP x_by fuel x_s [] 0

def zbQ (t9 : Bool) : Option Bool :=
  some t9

def ziF (x_a : api_Head) (x_b : api_Head) : Option Bool :=
  if (x_a.Kind == x_b.Kind) then (if (x_a.Method == x_b.Method) then (if (x_a.Target == x_b.Target) then (if (x_a.Minor == x_b.Minor) then (if (x_a.Code == x_b.Code) then (zbQ (x_a.Reason == x_b.Reason)) else (zbQ false)) else (zbQ false)) else (zbQ false)) else (zbQ false)) else (zbQ false)

def zcq (x_a : List api_Field) (x_b : List api_Field) : Nat → Int → Option Bool
  | 0, _ => none
  | n + 1, i7 =>
  if (decide (i7 < (x_a.length : Int))) then ((lAt x_a i7).bind fun x11 =>
  (lAt x_b i7).bind fun x14 =>
  if (!(x11 == x14)) then (some false) else ((zE i7 1).bind fun i21 =>
  (zcq x_a x_b n) i21)) else (some true)

def zhp (x_a : List api_Field) (x_b : List api_Field) : Option Bool :=
  if (!((x_a.length : Int) == (x_b.length : Int))) then (some false) else (zcq x_a x_b fuel 0)

def ze1 (t7 : Bool) : Option Bool :=
  some t7

def zhq (x_a : api_Head) (x_b : api_Head) : Option Bool :=
  (ziF x_a x_b).bind fun r4 =>
  if r4 then ((zhp x_a.Fields x_b.Fields).bind fun r6 =>
  ze1 r6) else (ze1 false)

def zbp (x_a : accum_Accum) : Option Bool :=
  some (!x_a.f_took)

def zee (rec1 : (List Str) → Int → Int → Option (List Str)) (i9 : Int) (l25 : List Str) (i26 : Int) : Option (List Str) :=
  (zE i9 1).bind fun i27 =>
  rec1 l25 i26 i27

def zbq (x_s : Str) (x_c : UInt8) : Nat → (List Str) → Int → Int → Option (List Str)
  | 0, _, _, _ => none
  | n + 1, l7, i8, i9 =>
  if (decide (i9 < (x_s.length : Int))) then ((sAt x_s i9).bind fun b13 =>
  if (b13 == x_c) then ((zeC x_s i8 i9).bind fun s16 =>
  if zci l7.length 1 16 then ((zE i9 1).bind fun i22 =>
  zee (zbq x_s x_c n) i9 (l7 ++ ([s16] : List Str)) i22) else none) else (zee (zbq x_s x_c n) i9 l7 i8)) else ((zbD x_s i8).bind fun s29 =>
  if zci l7.length 1 16 then (some (l7 ++ ([s29] : List Str))) else none)

def zef (x_s : Str) (x_c : UInt8) : Option (List Str) :=
  zbq x_s x_c fuel [] 0 0

def zds (x_b : UInt8) (x_l : Str) : Nat → Int → Option Bool
  | 0, _ => none
  | n + 1, i3 =>
  if (decide (i3 < (x_l.length : Int))) then ((sAt x_l i3).bind fun b7 =>
  if (b7 == x_b) then (some true) else ((zE i3 1).bind fun i12 =>
  (zds x_b x_l n) i12)) else (some false)

def ze2 (x_b : UInt8) (x_l : Str) : Option Bool :=
  zds x_b x_l fuel 0

def zdt (x_b : UInt8) : Option Bool :=
  (ze2 x_b [48, 49, 50, 51, 52, 53, 54, 55, 56, 57]).bind fun r2 =>
  some r2

def zbd (x_s : Str) (t12 : Bool) : Option Int :=
  if t12 then (some (-1)) else ((zbD x_s 5).bind fun s16 =>
  if (s16 == [49, 46, 48]) then (some 0) else ((zbD x_s 5).bind fun s21 =>
  if (s21 == [49, 46, 49]) then (some 1) else (some 2)))

def zcr (x_s : Str) : Option Int :=
  if (!((x_s.length : Int) == 8)) then (zbd x_s true) else ((sTo x_s 5).bind fun s3 =>
  if (!(s3 == [72, 84, 84, 80, 47])) then (zbd x_s true) else ((sAt x_s 5).bind fun b5 =>
  (zdt b5).bind fun r6 =>
  if (!r6) then (zbd x_s true) else ((sAt x_s 6).bind fun b8 =>
  if (!(b8 == 46)) then (zbd x_s true) else ((sAt x_s 7).bind fun b10 =>
  (zdt b10).bind fun r11 =>
  zbd x_s (!r11)))))

def zie (x_b : UInt8) : Option Bool :=
  (ze2 x_b [97, 98, 99, 100, 101, 102, 103, 104, 105, 106, 107, 108, 109, 110, 111, 112, 113, 114, 115, 116, 117, 118, 119, 120, 121, 122, 65, 66, 67, 68, 69, 70, 71, 72, 73, 74, 75, 76, 77, 78, 79, 80, 81, 82, 83, 84, 85, 86, 87, 88, 89, 90, 48, 49, 50, 51, 52, 53, 54, 55, 56, 57, 33, 35, 36, 37, 38, 39, 42, 43, 45, 46, 94, 95, 96, 124, 126]).bind fun r2 =>
  some r2

def zbV (x_s : Str) : Nat → Int → Option Bool
  | 0, _ => none
  | n + 1, i3 =>
  if (decide (i3 < (x_s.length : Int))) then ((sAt x_s i3).bind fun b7 =>
  (zie b7).bind fun r8 =>
  if (!r8) then (some false) else ((zE i3 1).bind fun i13 =>
  (zbV x_s n) i13)) else (some (decide (0 < (x_s.length : Int))))

def zeg (x_s : Str) : Option Bool :=
  zbV x_s fuel 0

def zeh (rec1 : Int → Option Int) (i5 : Int) (t12 : Bool) : Option Int :=
  if t12 then (some i5) else ((zE i5 1).bind fun i16 =>
  rec1 i16)

def zJ (x_b : UInt8) (x_base : Int) : Nat → Int → Option Int
  | 0, _ => none
  | n + 1, i5 =>
  if (decide (i5 < x_base)) then ((sAt [48, 49, 50, 51, 52, 53, 54, 55, 56, 57, 97, 98, 99, 100, 101, 102] i5).bind fun b9 =>
  if (b9 == x_b) then (zeh (zJ x_b x_base n) i5 true) else ((sAt [48, 49, 50, 51, 52, 53, 54, 55, 56, 57, 65, 66, 67, 68, 69, 70] i5).bind fun b11 =>
  zeh (zJ x_b x_base n) i5 (b11 == x_b))) else (some (-1))

def zcW (x_b : UInt8) (x_base : Int) : Option Int :=
  zJ x_b x_base fuel 0

def zbW : Nat → Int → Int → Option Str
  | 0, _, _ => none
  | n + 1, x_n, x_base =>
  if (decide (x_n < x_base)) then ((zE x_n 1).bind fun i5 =>
  (zeC [48, 49, 50, 51, 52, 53, 54, 55, 56, 57, 97, 98, 99, 100, 101, 102] x_n i5).bind fun s6 =>
  some s6) else ((zo9 x_n x_base).bind fun i9 =>
  ((zbW n) i9 x_base).bind fun r10 =>
  (zqT x_n x_base).bind fun i11 =>
  (zqT x_n x_base).bind fun i12 =>
  (zE i12 1).bind fun i13 =>
  (zeC [48, 49, 50, 51, 52, 53, 54, 55, 56, 57, 97, 98, 99, 100, 101, 102] i11 i13).bind fun s14 =>
  (zjb r10 s14).bind fun s15 =>
  some s15)

def zdy (x_n : Int) (x_base : Int) : Option Str := zbW fuel x_n x_base

def zei (rec1 : Str → Int → Option (Str × Bool)) (i5 : Int) (s21 : Str) : Option (Str × Bool) :=
  (zE i5 1).bind fun i22 =>
  rec1 s21 i22

def zej (rec1 : Str → Int → Option (Str × Bool)) (x_base : Int) (s4 : Str) (i5 : Int) (r10 : Int) (t17 : Bool) : Option (Str × Bool) :=
  if t17 then ((zdy r10 x_base).bind fun r19 =>
  (zjb s4 r19).bind fun s20 =>
  zei rec1 i5 s20) else (zei rec1 i5 s4)

def zek (x_s : Str) (s26 : Str) : Option (Str × Bool) :=
  some ((s26, !(x_s == [])))

def zaW (x_s : Str) (x_base : Int) : Nat → Str → Int → Option (Str × Bool)
  | 0, _, _ => none
  | n + 1, s4, i5 =>
  if (decide (i5 < (x_s.length : Int))) then ((sAt x_s i5).bind fun b9 =>
  (zcW b9 x_base).bind fun r10 =>
  if (decide (r10 < 0)) then (some ([], false)) else (if (!(s4 == [])) then (zej (zaW x_s x_base n) x_base s4 i5 r10 true) else (zej (zaW x_s x_base n) x_base s4 i5 r10 (decide (0 < r10))))) else (if (s4 == []) then (zek x_s [48]) else (zek x_s s4))

def zgB (x_s : Str) (x_base : Int) : Option (Str × Bool) :=
  zaW x_s x_base fuel [] 0

def zcs (t4 : Bool) : Option Bool :=
  some t4

def zhr (x_a : Str) (x_b : Str) : Option Bool :=
  if (decide ((x_a.length : Int) < (x_b.length : Int))) then (zcs true) else (if ((x_a.length : Int) == (x_b.length : Int)) then (zcs (zlY x_a x_b)) else (zcs false))

def zct (x_base : Int) (r2 : Str × Bool) : Nat → Int → Int → Option (Int × Int)
  | 0, _, _ => none
  | n + 1, i17, i18 =>
  if (decide (i18 < (r2.1.length : Int))) then ((zlp i17 x_base).bind fun i22 =>
  (sAt r2.1 i18).bind fun b23 =>
  (zcW b23 x_base).bind fun r24 =>
  (zE i22 r24).bind fun i25 =>
  (zE i18 1).bind fun i27 =>
  (zct x_base r2 n) i25 i27) else (some (i17, 0))

def zdS (x_base : Int) (r2 : Str × Bool) (t11 : Bool) : Option (Int × Int) :=
  if t11 then (some (0, 7)) else (zct x_base r2 fuel 0 0)

def zgb (x_s : Str) (x_base : Int) (x_most : Int) : Option (Int × Int) :=
  (zgB x_s x_base).bind fun r2 =>
  if (!r2.2) then (some (0, 2)) else (if (decide (x_most < 0)) then (zdS x_base r2 true) else ((zdy x_most x_base).bind fun r9 =>
  (zhr r9 r2.1).bind fun r10 =>
  zdS x_base r2 r10))

def zhs (x_n : Int) (x_base : Int) : Option Str :=
  if (decide (x_n < 0)) then (some []) else ((zdy x_n x_base).bind fun r6 =>
  some r6)

def zdi (r6 : Int × Int) (t10 : Bool) : Option Int :=
  if t10 then (some (-1)) else (some r6.1)

def zfn (x_s : Str) (x_most : Int) : Option Int :=
  if (decide (5 < (x_s.length : Int))) then (some (-1)) else ((zgb x_s 10 x_most).bind fun r6 =>
  if (!(r6.2 == 0)) then (zdi r6 true) else ((zhs r6.1 10).bind fun r9 =>
  zdi r6 (!(r9 == x_s))))

def zcu (r2 : List Str) : Nat → Int → Option Bool
  | 0, _ => none
  | n + 1, i7 =>
  if (decide (i7 < (r2.length : Int))) then ((lAt r2 i7).bind fun x11 =>
  (zfn x11 255).bind fun r14 =>
  if (decide (r14 < 0)) then (some false) else ((zE i7 1).bind fun i19 =>
  (zcu r2 n) i19)) else (some ((r2.length : Int) == 4))

def zgc (x_s : Str) : Option Bool :=
  (zef x_s 46).bind fun r2 =>
  zcu r2 fuel 0

def zeI (x_b : UInt8) : Option Bool :=
  (ze2 x_b [48, 49, 50, 51, 52, 53, 54, 55, 56, 57, 97, 98, 99, 100, 101, 102, 65, 66, 67, 68, 69, 70]).bind fun r2 =>
  some r2

def zdj (rec1 : Int → Int → Option Bool) (i9 : Int) (i55 : Int) : Option Bool :=
  (zE i9 1).bind fun i56 =>
  rec1 i55 i56

def zel (rec1 : Int → Int → Option Bool) (i8 : Int) (i9 : Int) (t50 : Bool) : Option Bool :=
  if t50 then (some false) else ((zE i8 1).bind fun i54 =>
  zdj rec1 i9 i54)

def zbX (rec1 : Int → Int → Option Bool) (r2 : List Str) (i8 : Int) (i9 : Int) : Nat → Int → Option Bool
  | 0, _ => none
  | n + 1, i25 =>
  (lAt r2 i9).bind fun x26 =>
  if (decide (i25 < (x26.length : Int))) then ((lAt r2 i9).bind fun x32 =>
  (sAt x32 i25).bind fun b35 =>
  (zeI b35).bind fun r36 =>
  if (!r36) then (some false) else ((zE i25 1).bind fun i41 =>
  (zbX rec1 r2 i8 i9 n) i41)) else ((lAt r2 i9).bind fun x43 =>
  if (decide ((x43.length : Int) < 1)) then (zel rec1 i8 i9 true) else ((lAt r2 i9).bind fun x47 =>
  zel rec1 i8 i9 (decide (4 < (x47.length : Int)))))

def zdk (rec1 : Int → Int → Option Bool) (r2 : List Str) (i8 : Int) (i9 : Int) (t19 : Bool) : Option Bool :=
  if t19 then ((zE i8 2).bind fun i21 =>
  zdj rec1 i9 i21) else (zbX rec1 r2 i8 i9 fuel 0)

def zal (r2 : List Str) : Nat → Int → Int → Option Bool
  | 0, _, _ => none
  | n + 1, i8, i9 =>
  if (decide (i9 < (r2.length : Int))) then ((zdb (r2.length : Int) 1).bind fun i13 =>
  if (i9 == i13) then ((lAt r2 i9).bind fun x15 =>
  (zgc x15).bind fun r18 =>
  zdk (zal r2 n) r2 i8 i9 r18) else (zdk (zal r2 n) r2 i8 i9 false)) else (some (i8 == 8))

def zfo (x_s : Str) : Option Bool :=
  (zef x_s 58).bind fun r2 =>
  zal r2 fuel 0 0

def zfN (rec4 : Str → Int → Option Bool) (i24 : Int) (s31 : Str) : Option Bool :=
  (zjb s31 [48]).bind fun s32 =>
  (zE i24 1).bind fun i34 =>
  rec4 s32 i34

def zeJ (rec3 : Int → Option Bool) (i16 : Int) (s44 : Str) : Option Bool :=
  (zfo s44).bind fun r45 =>
  if r45 then (some true) else ((zE i16 1).bind fun i50 =>
  rec3 i50)

def zcl (rec3 : Int → Option Bool) (x_s : Str) (i3 : Int) (i16 : Int) : Nat → Str → Int → Option Bool
  | 0, _, _ => none
  | n + 1, s23, i24 =>
  if (decide (i24 < i16)) then (if (!(s23 == [])) then ((zjb s23 [58]).bind fun s30 =>
  zfN (zcl rec3 x_s i3 i16 n) i24 s30) else (zfN (zcl rec3 x_s i3 i16 n) i24 s23)) else ((zE i3 2).bind fun i36 =>
  (zbD x_s i36).bind fun s37 =>
  if (!(s37 == [])) then ((zjb s23 [58]).bind fun s40 =>
  (zE i3 2).bind fun i41 =>
  (zbD x_s i41).bind fun s42 =>
  (zjb s40 s42).bind fun s43 =>
  zeJ rec3 i16 s43) else (zeJ rec3 i16 s23))

def zaZ (x_s : Str) (i3 : Int) : Nat → Int → Option Bool
  | 0, _ => none
  | n + 1, i16 =>
  if (decide (i16 ≤ 8)) then ((sTo x_s i3).bind fun s20 =>
  zcl (zaZ x_s i3 n) x_s i3 i16 fuel s20 0) else (some false)

def zfO (rec1 : Int → Option Bool) (x_s : Str) (i3 : Int) (t12 : Bool) : Option Bool :=
  if t12 then ((zE i3 1).bind fun i54 =>
  rec1 i54) else (zaZ x_s i3 fuel 1)

def zcm (x_s : Str) : Nat → Int → Option Bool
  | 0, _ => none
  | n + 1, i3 =>
  (zE i3 1).bind fun i4 =>
  if (decide (i4 < (x_s.length : Int))) then ((sAt x_s i3).bind fun b8 =>
  if (!(b8 == 58)) then (zfO (zcm x_s n) x_s i3 true) else ((zE i3 1).bind fun i10 =>
  (sAt x_s i10).bind fun b11 =>
  zfO (zcm x_s n) x_s i3 (!(b11 == 58)))) else ((zfo x_s).bind fun r56 =>
  some r56)

def zg0 (x_s : Str) : Option Bool :=
  zcm x_s fuel 0

def zcw (x_b : UInt8) : Option Bool :=
  (ze2 x_b [97, 98, 99, 100, 101, 102, 103, 104, 105, 106, 107, 108, 109, 110, 111, 112, 113, 114, 115, 116, 117, 118, 119, 120, 121, 122, 65, 66, 67, 68, 69, 70, 71, 72, 73, 74, 75, 76, 77, 78, 79, 80, 81, 82, 83, 84, 85, 86, 87, 88, 89, 90, 48, 49, 50, 51, 52, 53, 54, 55, 56, 57, 45, 46, 95, 126]).bind fun r2 =>
  some r2

def zg1 (x_b : UInt8) : Option Bool :=
  (ze2 x_b [33, 36, 38, 39, 40, 41, 42, 43, 44, 59, 61]).bind fun r2 =>
  some r2

def zdT (rec1 : Int → Option Bool) (i34 : Int) : Option Bool :=
  (zE i34 1).bind fun i35 =>
  rec1 i35

def zbR (rec1 : Int → Option Bool) (i3 : Int) (t19 : Bool) : Option Bool :=
  if t19 then (some false) else ((zE i3 2).bind fun i23 =>
  zdT rec1 i23)

def ze3 (rec1 : Int → Option Bool) (i3 : Int) (t31 : Bool) : Option Bool :=
  if t31 then (some false) else (zdT rec1 i3)

def zac (x_s : Str) : Nat → Int → Option Bool
  | 0, _ => none
  | n + 1, i3 =>
  if (decide (i3 < (x_s.length : Int))) then ((sAt x_s i3).bind fun b7 =>
  if (b7 == 37) then ((zE i3 2).bind fun i10 =>
  if (decide ((x_s.length : Int) ≤ i10)) then (zbR (zac x_s n) i3 true) else ((zE i3 1).bind fun i12 =>
  (sAt x_s i12).bind fun b13 =>
  (zeI b13).bind fun r14 =>
  if (!r14) then (zbR (zac x_s n) i3 true) else ((zE i3 2).bind fun i16 =>
  (sAt x_s i16).bind fun b17 =>
  (zeI b17).bind fun r18 =>
  zbR (zac x_s n) i3 (!r18)))) else ((sAt x_s i3).bind fun b26 =>
  (zcw b26).bind fun r27 =>
  if (!r27) then ((sAt x_s i3).bind fun b29 =>
  (zg1 b29).bind fun r30 =>
  ze3 (zac x_s n) i3 (!r30)) else (ze3 (zac x_s n) i3 false))) else (some (decide (0 < (x_s.length : Int))))

def zht (x_s : Str) : Option Bool :=
  zac x_s fuel 0

def zdu (x_s : Str) (t12 : Bool) : Option api_Host :=
  if t12 then ((zdb (x_s.length : Int) 1).bind fun i14 =>
  (zeC x_s 1 i14).bind fun s15 =>
  some ((⟨3, s15, (-1)⟩ : api_Host))) else ((zgc x_s).bind fun r18 =>
  if r18 then (some ((⟨2, x_s, (-1)⟩ : api_Host))) else ((zht x_s).bind fun r23 =>
  if r23 then (some ((⟨1, x_s, (-1)⟩ : api_Host))) else (some (⟨0, [], 0⟩ : api_Host))))

def zif (x_s : Str) : Option api_Host :=
  if (decide (2 < (x_s.length : Int))) then ((sAt x_s 0).bind fun b4 =>
  if (b4 == 91) then ((zdb (x_s.length : Int) 1).bind fun i6 =>
  (sAt x_s i6).bind fun b7 =>
  if (b7 == 93) then ((zdb (x_s.length : Int) 1).bind fun i9 =>
  (zeC x_s 1 i9).bind fun s10 =>
  (zg0 s10).bind fun r11 =>
  zdu x_s r11) else (zdu x_s false)) else (zdu x_s false)) else (zdu x_s false)

def zem (r21 : api_Host) (r25 : Int) (t28 : Bool) : Option (api_Host × Int) :=
  if t28 then (some (((⟨0, [], 0⟩ : api_Host), 27))) else (some (((⟨r21.Kind, r21.Name, r25⟩ : api_Host), 0)))

def zcE (x_s : Str) : Nat → Int → Option (api_Host × Int)
  | 0, _ => none
  | n + 1, i12 =>
  if (decide (0 ≤ i12)) then ((sAt x_s i12).bind fun b16 =>
  if (!(b16 == 58)) then ((zdb i12 1).bind fun i35 =>
  (zcE x_s n) i35) else ((sTo x_s i12).bind fun s20 =>
  (zif s20).bind fun r21 =>
  (zE i12 1).bind fun i23 =>
  (zbD x_s i23).bind fun s24 =>
  (zfn s24 65535).bind fun r25 =>
  if (r21.Kind == 0) then (zem r21 r25 true) else (zem r21 r25 (decide (r25 < 0))))) else (some (((⟨0, [], 0⟩ : api_Host), 27)))

def zdv (x_s : Str) : Option (api_Host × Int) :=
  (zif x_s).bind fun r3 =>
  if (!(r3.Kind == 0)) then (some (r3, 0)) else ((zdb (x_s.length : Int) 1).bind fun i10 =>
  zcE x_s fuel i10)

def ze4 (rec1 : Int → Option Int) (i3 : Int) (t6 : Bool) : Option Int :=
  if t6 then ((zE i3 1).bind fun i9 =>
  rec1 i9) else (some i3)

def zbS (x_s : Str) : Nat → Int → Option Int
  | 0, _ => none
  | n + 1, i3 =>
  if (decide (i3 < (x_s.length : Int))) then ((sAt x_s i3).bind fun b5 =>
  ze4 (zbS x_s n) i3 (!(b5 == 63))) else (ze4 (zbS x_s n) i3 false)

def zhu (x_s : Str) : Option Int :=
  zbS x_s fuel 0

def zdU (t7 : Bool) : Option Bool :=
  some t7

def zhv (x_b : UInt8) : Option Bool :=
  (zcw x_b).bind fun r2 =>
  if r2 then (zdU true) else ((zg1 x_b).bind fun r4 =>
  if r4 then (zdU true) else (if (x_b == 58) then (zdU true) else (zdU (x_b == 64))))

def zcX (t18 : Bool) : Option Bool :=
  some t18

def zfp (t30 : Bool) : Option Bool :=
  some t30

def zdz : Nat → Str → Str → Option Bool
  | 0, _, _ => none
  | n + 1, x_s, x_more =>
  if (x_s == []) then (some true) else ((sAt x_s 0).bind fun b6 =>
  if (b6 == 37) then (if (decide (2 < (x_s.length : Int))) then ((sAt x_s 1).bind fun b10 =>
  (zeI b10).bind fun r11 =>
  if r11 then ((sAt x_s 2).bind fun b13 =>
  (zeI b13).bind fun r14 =>
  if r14 then ((zbD x_s 3).bind fun s16 =>
  ((zdz n) s16 x_more).bind fun r17 =>
  zcX r17) else (zcX false)) else (zcX false)) else (zcX false)) else ((sAt x_s 0).bind fun b20 =>
  (zhv b20).bind fun r21 =>
  if r21 then ((zbD x_s 1).bind fun s23 =>
  ((zdz n) s23 x_more).bind fun r24 =>
  zfp r24) else ((sAt x_s 0).bind fun b25 =>
  (ze2 b25 x_more).bind fun r26 =>
  if r26 then ((zbD x_s 1).bind fun s28 =>
  ((zdz n) s28 x_more).bind fun r29 =>
  zfp r29) else (zfp false))))

def zjr (x_s : Str) (x_more : Str) : Option Bool := zdz fuel x_s x_more

def zdV (t6 : Bool) : Option Bool :=
  some t6

def zhw (x_s : Str) : Option Bool :=
  if (decide (0 < (x_s.length : Int))) then ((sAt x_s 0).bind fun b3 =>
  if (b3 == 47) then ((zjr x_s [47]).bind fun r5 =>
  zdV r5) else (zdV false)) else (zdV false)

def zfq (x_s : Str) : Option Bool :=
  (zjr x_s [47, 63]).bind fun r2 =>
  some r2

def zdK (x_t : api_Target) (x_s : Str) (r4 : Int) (s6 : Str) (s13 : Str) (t17 : Bool) : Option (api_Target × Bool) :=
  some (((⟨x_t.Kind, x_t.Scheme, x_t.Host, s6, s13, decide (r4 < (x_s.length : Int))⟩ : api_Target), t17))

def zcP (x_t : api_Target) (x_s : Str) (r4 : Int) (s6 : Str) (s13 : Str) : Option (api_Target × Bool) :=
  (zhw s6).bind fun r14 =>
  if r14 then ((zfq s13).bind fun r16 =>
  zdK x_t x_s r4 s6 s13 r16) else (zdK x_t x_s r4 s6 s13 false)

def zeK (x_t : api_Target) (x_s : Str) : Option (api_Target × Bool) :=
  (zhu x_s).bind fun r4 =>
  (sTo x_s r4).bind fun s6 =>
  if (decide (r4 < (x_s.length : Int))) then ((zE r4 1).bind fun i11 =>
  (zbD x_s i11).bind fun s12 =>
  zcP x_t x_s r4 s6 s12) else (zcP x_t x_s r4 s6 x_t.Query)

def ze5 (rec2 : Str → Int → Option Str) (i14 : Int) (s24 : Str) : Option Str :=
  (zE i14 1).bind fun i25 =>
  rec2 s24 i25

def zbj (rec1 : Str → Int → Option Str) (x_s : Str) (s4 : Str) (i5 : Int) : Nat → Str → Int → Option Str
  | 0, _, _ => none
  | n + 1, s13, i14 =>
  if (decide (i14 < 26)) then ((sAt [65, 66, 67, 68, 69, 70, 71, 72, 73, 74, 75, 76, 77, 78, 79, 80, 81, 82, 83, 84, 85, 86, 87, 88, 89, 90] i14).bind fun b18 =>
  (sAt x_s i5).bind fun b19 =>
  if (b18 == b19) then ((zE i14 1).bind fun i22 =>
  (zeC [97, 98, 99, 100, 101, 102, 103, 104, 105, 106, 107, 108, 109, 110, 111, 112, 113, 114, 115, 116, 117, 118, 119, 120, 121, 122] i14 i22).bind fun s23 =>
  ze5 (zbj rec1 x_s s4 i5 n) i14 s23) else (ze5 (zbj rec1 x_s s4 i5 n) i14 s13)) else ((zjb s4 s13).bind fun s27 =>
  (zE i5 1).bind fun i29 =>
  rec1 s27 i29)

def zbk (x_s : Str) : Nat → Str → Int → Option Str
  | 0, _, _ => none
  | n + 1, s4, i5 =>
  if (decide (i5 < (x_s.length : Int))) then ((zE i5 1).bind fun i9 =>
  (zeC x_s i5 i9).bind fun s10 =>
  zbj (zbk x_s n) x_s s4 i5 fuel s10 0) else (some s4)

def zfe (x_s : Str) : Option Str :=
  zbk x_s fuel [] 0

def zen (r5 : api_Host × Int) (t9 : Bool) : Option (api_Target × Int) :=
  if t9 then (some (((⟨0, [], (⟨0, [], 0⟩ : api_Host), [], [], false⟩ : api_Target), 20))) else (some (((⟨3, [], r5.1, [], [], false⟩ : api_Target), 0)))

def zeo (t84 : Bool) (i85 : Int) (s86 : Str) (i87 : Int) (s88 : Str) (i89 : Int) (s90 : Str) (s91 : Str) (t92 : Bool) : Option (api_Target × Int) :=
  if (!t84) then (some (((⟨0, [], (⟨0, [], 0⟩ : api_Host), [], [], false⟩ : api_Target), 20))) else (some (((⟨i85, s86, (⟨i87, s88, i89⟩ : api_Host), s90, s91, t92⟩ : api_Target), 0)))

def zbY (rec5 : Int → Option (api_Target × Int)) (x34 : Str) (s47 : Str) (i50 : Int) (t55 : Bool) : Option (api_Target × Int) :=
  if t55 then ((zE i50 1).bind fun i58 =>
  rec5 i58) else ((sTo s47 i50).bind fun s60 =>
  (zdv s60).bind fun r61 =>
  if (!(r61.2 == 0)) then (some (((⟨0, [], (⟨0, [], 0⟩ : api_Host), [], [], false⟩ : api_Target), 20))) else (if (i50 == (s47.length : Int)) then (some (((⟨2, x34, r61.1, [], [], false⟩ : api_Target), 0))) else ((sAt s47 i50).bind fun b74 =>
  if (b74 == 63) then ((zE i50 1).bind fun i78 =>
  (zbD s47 i78).bind fun s79 =>
  (zfq s79).bind fun r81 =>
  zeo r81 2 x34 r61.1.Kind r61.1.Name r61.1.Port [] s79 true) else ((zbD s47 i50).bind fun s82 =>
  (zeK (⟨2, x34, r61.1, [], [], false⟩ : api_Target) s82).bind fun r83 =>
  zeo r83.2 r83.1.Kind r83.1.Scheme r83.1.Host.Kind r83.1.Host.Name r83.1.Host.Port r83.1.Path r83.1.Query r83.1.HasQuery))))

def zaG (x34 : Str) (s47 : Str) : Nat → Int → Option (api_Target × Int)
  | 0, _ => none
  | n + 1, i50 =>
  if (decide (i50 < (s47.length : Int))) then ((sAt s47 i50).bind fun b52 =>
  if (!(b52 == 47)) then ((sAt s47 i50).bind fun b54 =>
  zbY (zaG x34 s47 n) x34 s47 i50 (!(b54 == 63))) else (zbY (zaG x34 s47 n) x34 s47 i50 false)) else (zbY (zaG x34 s47 n) x34 s47 i50 false)

def zep (rec3 : Str → Int → Option (api_Target × Int)) (s29 : Str) (i30 : Int) (x34 : Str) (i38 : Int) (t44 : Bool) : Option (api_Target × Int) :=
  if t44 then ((zE i30 1).bind fun i99 =>
  rec3 s29 i99) else ((zbD s29 i38).bind fun s47 =>
  zaG x34 s47 fuel 0)

def zam : Nat → Str → Int → Option (api_Target × Int)
  | 0, _, _ => none
  | n + 1, s29, i30 =>
  if (decide (i30 < ((([[104, 116, 116, 112], [104, 116, 116, 112, 115]] : List Str).length : Int)))) then ((lAt ([[104, 116, 116, 112], [104, 116, 116, 112, 115]] : List Str) i30).bind fun x34 =>
  (zE (x34.length : Int) 3).bind fun i38 =>
  if (decide ((s29.length : Int) < i38)) then (zep (zam n) s29 i30 x34 i38 true) else ((sTo s29 i38).bind fun s41 =>
  (zfe s41).bind fun r42 =>
  (zjb x34 [58, 47, 47]).bind fun s43 =>
  zep (zam n) s29 i30 x34 i38 (!(r42 == s43)))) else (some (((⟨0, [], (⟨0, [], 0⟩ : api_Host), [], [], false⟩ : api_Target), 20)))

def zbZ (x_a1 : Str) (t16 : Bool) : Option (api_Target × Int) :=
  if t16 then (some (((⟨4, [], (⟨0, [], 0⟩ : api_Host), [], [], false⟩ : api_Target), 0))) else ((zeK ((⟨1, [], (⟨0, [], 0⟩ : api_Host), [], [], false⟩ : api_Target)) x_a1).bind fun r20 =>
  if r20.2 then (some (r20.1, 0)) else (zam fuel x_a1 0))

def zgC (x_a0 : Str) (x_a1 : Str) : Option (api_Target × Int) :=
  if (x_a0 == [67, 79, 78, 78, 69, 67, 84]) then ((zdv x_a1).bind fun r5 =>
  if (!(r5.2 == 0)) then (zen r5 true) else (zen r5 (decide (r5.1.Port < 0)))) else (if (x_a1 == [42]) then (zbZ x_a1 (x_a0 == [79, 80, 84, 73, 79, 78, 83])) else (zbZ x_a1 false))

def zeq (t4 : Bool) : Option Bool :=
  some t4

def zfr (x_b : UInt8) : Option Bool :=
  if (decide (32 ≤ x_b)) then (if (!(x_b == 127)) then (zeq true) else (zeq (x_b == 9))) else (zeq (x_b == 9))

def zer (rec2 : Int → Option (api_Head × Int)) (i9 : Int) (t16 : Bool) : Option (api_Head × Int) :=
  if t16 then (some (((⟨0, [], [], 0, [], 0, []⟩ : api_Head), 24))) else ((zE i9 1).bind fun i20 =>
  rec2 i20)

def zaH (r22 : List Str) (r32 : Int) (t44 : Bool) : Option (api_Head × Int) :=
  if t44 then (some (((⟨0, [], [], 0, [], 0, []⟩ : api_Head), 20))) else ((lAt r22 0).bind fun x48 =>
  (lAt r22 1).bind fun x51 =>
  (zgC x48 x51).bind fun r54 =>
  if (!(r54.2 == 0)) then (some (((⟨0, [], [], 0, [], 0, []⟩ : api_Head), 20))) else ((lAt r22 0).bind fun x61 =>
  (lAt r22 1).bind fun x64 =>
  some (((⟨1, x61, x64, 0, [], r32, []⟩ : api_Head), 0))))

def zes (r72 : Int) (r90 : Int × Int) (s92 : Str) (t108 : Bool) : Option (api_Head × Int) :=
  if t108 then (some (((⟨0, [], [], 0, [], 0, []⟩ : api_Head), 20))) else (some (((⟨2, [], [], r90.1, s92, r72, []⟩ : api_Head), 0)))

def zb0 (r72 : Int) (r90 : Int × Int) (s92 : Str) : Nat → Int → Option (api_Head × Int)
  | 0, _ => none
  | n + 1, i95 =>
  if (decide (i95 < (s92.length : Int))) then ((sAt s92 i95).bind fun b99 =>
  (zfr b99).bind fun r100 =>
  if (!r100) then (some (((⟨0, [], [], 0, [], 0, []⟩ : api_Head), 20))) else ((zE i95 1).bind fun i105 =>
  (zb0 r72 r90 s92 n) i105)) else (if (!(r90.2 == 0)) then (zes r72 r90 s92 true) else (zes r72 r90 s92 (decide (r90.1 < 100))))

def zaI (x_a1 : Str) (r22 : List Str) (r72 : Int) (t83 : Bool) : Option (api_Head × Int) :=
  if t83 then (some (((⟨0, [], [], 0, [], 0, []⟩ : api_Head), 20))) else ((lAt r22 1).bind fun x87 =>
  (zgb x87 10 599).bind fun r90 =>
  (zbD x_a1 13).bind fun s92 =>
  zb0 r72 r90 s92 fuel 0)

def zaX (x_a0 : Int) (x_a1 : Str) : Nat → Int → Option (api_Head × Int)
  | 0, _ => none
  | n + 1, i9 =>
  if (decide (i9 < (x_a1.length : Int))) then ((sAt x_a1 i9).bind fun b13 =>
  if (b13 == 13) then (zer (zaX x_a0 x_a1 n) i9 true) else ((sAt x_a1 i9).bind fun b15 =>
  zer (zaX x_a0 x_a1 n) i9 (b15 == 10))) else ((zef x_a1 32).bind fun r22 =>
  if (x_a0 == 1) then ((zdb (r22.length : Int) 1).bind fun i28 =>
  (lAt r22 i28).bind fun x29 =>
  (zcr x29).bind fun r32 =>
  if (r32 == 2) then (some (((⟨0, [], [], 0, [], 0, []⟩ : api_Head), 26))) else (if (!((r22.length : Int) == 3)) then (zaH r22 r32 true) else (if (decide (r32 < 0)) then (zaH r22 r32 true) else ((lAt r22 0).bind fun x40 =>
  (zeg x40).bind fun r43 =>
  zaH r22 r32 (!r43))))) else ((lAt r22 0).bind fun x69 =>
  (zcr x69).bind fun r72 =>
  if (r72 == 2) then (some (((⟨0, [], [], 0, [], 0, []⟩ : api_Head), 26))) else (if (decide ((r22.length : Int) < 3)) then (zaI x_a1 r22 r72 true) else (if (decide (r72 < 0)) then (zaI x_a1 r22 r72 true) else ((lAt r22 1).bind fun x80 =>
  zaI x_a1 r22 r72 (!((x80.length : Int) == 3)))))))

def zet (x_a0 : Int) (x_a1 : Str) (t4 : Bool) : Option (api_Head × Int) :=
  if t4 then (some (((⟨0, [], [], 0, [], 0, []⟩ : api_Head), 1))) else (zaX x_a0 x_a1 fuel 0)

def zfs (x_a0 : Int) (x_a1 : Str) : Option (api_Head × Int) :=
  if (!(x_a0 == 1)) then (zet x_a0 x_a1 (!(x_a0 == 2))) else (zet x_a0 x_a1 false)

def zfP (t3 : Bool) : Option Bool :=
  some t3

def zeu (x_b : UInt8) : Option Bool :=
  if (x_b == 32) then (zfP true) else (zfP (x_b == 9))

def zdW (rec3 : Str → Option Str) (s11 : Str) (t16 : Bool) : Option Str :=
  if t16 then ((zdb (s11.length : Int) 1).bind fun i19 =>
  (sTo s11 i19).bind fun s20 =>
  rec3 s20) else (some s11)

def zbl : Nat → Str → Option Str
  | 0, _ => none
  | n + 1, s11 =>
  if (decide (0 < (s11.length : Int))) then ((zdb (s11.length : Int) 1).bind fun i13 =>
  (sAt s11 i13).bind fun b14 =>
  (zeu b14).bind fun r15 =>
  zdW (zbl n) s11 r15) else (zdW (zbl n) s11 false)

def zdX (rec1 : Str → Option Str) (s2 : Str) (t6 : Bool) : Option Str :=
  if t6 then ((zbD s2 1).bind fun s9 =>
  rec1 s9) else (zbl fuel s2)

def zbm : Nat → Str → Option Str
  | 0, _ => none
  | n + 1, s2 =>
  if (decide (0 < (s2.length : Int))) then ((sAt s2 0).bind fun b4 =>
  (zeu b4).bind fun r5 =>
  zdX (zbm n) s2 r5) else (zdX (zbm n) s2 false)

def zgd (x_s : Str) : Option Str :=
  zbm fuel x_s

def zca (x_s : Str) : Nat → Int → Option Bool
  | 0, _ => none
  | n + 1, i3 =>
  if (decide (i3 < (x_s.length : Int))) then ((sAt x_s i3).bind fun b7 =>
  (zfr b7).bind fun r8 =>
  if (!r8) then (some false) else ((zE i3 1).bind fun i13 =>
  (zca x_s n) i13)) else (some true)

def zfQ (x_s : Str) : Option Bool :=
  zca x_s fuel 0

def zev (rec1 : Int → Option (api_Field × Int)) (i4 : Int) (t11 : Bool) : Option (api_Field × Int) :=
  if t11 then (some (((⟨[], []⟩ : api_Field), 24))) else ((zE i4 1).bind fun i15 =>
  rec1 i15)

def zew (x_a0 : Str) (i25 : Int) (r34 : Str) (t38 : Bool) : Option (api_Field × Int) :=
  if t38 then (some (((⟨[], []⟩ : api_Field), 21))) else (if (decide ((r34.length : Int) < i25)) then (some (((⟨[], []⟩ : api_Field), 22))) else ((zE i25 1).bind fun i46 =>
  (zbD x_a0 i46).bind fun s47 =>
  (zfQ s47).bind fun r48 =>
  if (!r48) then (some (((⟨[], []⟩ : api_Field), 25))) else ((zE i25 1).bind fun i53 =>
  (zbD x_a0 i53).bind fun s54 =>
  (zgd s54).bind fun r55 =>
  some (((⟨r34, r55⟩ : api_Field), 0)))))

def zcF (rec4 : Int → Option (api_Field × Int)) (x_a0 : Str) (i25 : Int) (t28 : Bool) : Option (api_Field × Int) :=
  if t28 then ((zE i25 1).bind fun i31 =>
  rec4 i31) else ((sTo x_a0 i25).bind fun s33 =>
  (zgd s33).bind fun r34 =>
  if (i25 == (x_a0.length : Int)) then (zew x_a0 i25 r34 true) else ((zeg r34).bind fun r37 =>
  zew x_a0 i25 r34 (!r37)))

def zaJ (x_a0 : Str) : Nat → Int → Option (api_Field × Int)
  | 0, _ => none
  | n + 1, i25 =>
  if (decide (i25 < (x_a0.length : Int))) then ((sAt x_a0 i25).bind fun b27 =>
  zcF (zaJ x_a0 n) x_a0 i25 (!(b27 == 58))) else (zcF (zaJ x_a0 n) x_a0 i25 false)

def zcG (x_a0 : Str) (t20 : Bool) : Option (api_Field × Int) :=
  if t20 then (some (((⟨[], []⟩ : api_Field), 23))) else (zaJ x_a0 fuel 0)

def zbr (x_a0 : Str) : Nat → Int → Option (api_Field × Int)
  | 0, _ => none
  | n + 1, i4 =>
  if (decide (i4 < (x_a0.length : Int))) then ((sAt x_a0 i4).bind fun b8 =>
  if (b8 == 13) then (zev (zbr x_a0 n) i4 true) else ((sAt x_a0 i4).bind fun b10 =>
  zev (zbr x_a0 n) i4 (b10 == 10))) else (if (decide (0 < (x_a0.length : Int))) then ((sAt x_a0 0).bind fun b18 =>
  (zeu b18).bind fun r19 =>
  zcG x_a0 r19) else (zcG x_a0 false))

def zft (x_a0 : Str) : Option (api_Field × Int) :=
  zbr x_a0 fuel 0

def zdA (x_b : Str) : Nat → Int → Option Int
  | 0, _ => none
  | n + 1, i3 =>
  (zE i3 4).bind fun i4 =>
  if (decide (i4 ≤ (x_b.length : Int))) then ((zE i3 4).bind fun i8 =>
  (zeC x_b i3 i8).bind fun s9 =>
  if (s9 == [13, 10, 13, 10]) then ((zE i3 4).bind fun i12 =>
  some i12) else ((zE i3 1).bind fun i15 =>
  (zdA x_b n) i15)) else (some (-1))

def zig (x_b : Str) : Option Int :=
  zdA x_b fuel 0

def zjs (x_f : api_Field) (x_name : Str) : Option Bool :=
  (zfe x_f.Name).bind fun r3 =>
  (zfe x_name).bind fun r4 =>
  some (r3 == r4)

def zdL (rec1 : (List Str) → Int → Option (List Str)) (i7 : Int) (l26 : List Str) : Option (List Str) :=
  (zE i7 1).bind fun i27 =>
  rec1 l26 i27

def za0 (x_l : List api_Field) (x_name : Str) : Nat → (List Str) → Int → Option (List Str)
  | 0, _, _ => none
  | n + 1, l6, i7 =>
  if (decide (i7 < (x_l.length : Int))) then ((lAt x_l i7).bind fun x11 =>
  (zjs x11 x_name).bind fun r14 =>
  if r14 then ((lAt x_l i7).bind fun x17 =>
  if zci l6.length 1 16 then (zdL (za0 x_l x_name n) i7 (l6 ++ ([x17.Value] : List Str))) else none) else (zdL (za0 x_l x_name n) i7 l6)) else (some l6)

def zeL (x_l : List api_Field) (x_name : Str) : Option (List Str) :=
  za0 x_l x_name fuel [] 0

def zex (r11 : List Str) (t25 : Bool) : Option Int :=
  if t25 then ((lAt r11 0).bind fun x27 =>
  (zdv x27).bind fun r30 =>
  some r30.2) else (some 0)

def zat (r11 : List Str) (t17 : Bool) : Option Int :=
  if t17 then (some 27) else (if ((r11.length : Int) == 1) then ((lAt r11 0).bind fun x22 =>
  zex r11 (!(x22 == []))) else (zex r11 false))

def zgD (x_h : api_Head) : Option Int :=
  if (decide (100 < (x_h.Fields.length : Int))) then (some 3) else (if (x_h.Kind == 2) then (some 0) else ((zeL x_h.Fields [104, 111, 115, 116]).bind fun r11 =>
  if (decide (1 < (r11.length : Int))) then (zat r11 true) else (if (x_h.Minor == 1) then (zat r11 ((r11.length : Int) == 0)) else (zat r11 false))))

def zcH (rec3 : (List api_Field) → Int → Str → Str → Int → Str → Int → Bool → Int → Int → Option (api_Head × Int)) (i34 : Int) (t73 : Bool) (i74 : Int) (i75 : Int) (s76 : Str) (s77 : Str) (i78 : Int) (s79 : Str) (i80 : Int) (l83 : List api_Field) : Option (api_Head × Int) :=
  (zE i34 1).bind fun i84 =>
  rec3 l83 i75 s76 s77 i78 s79 i80 t73 i74 i84

def zey (i85 : Int) (s86 : Str) (s87 : Str) (i88 : Int) (s89 : Str) (i90 : Int) (l93 : List api_Field) : Option (api_Head × Int) :=
  (zgD (⟨i85, s86, s87, i88, s89, i90, l93⟩ : api_Head)).bind fun r94 =>
  if (!(r94 == 0)) then (some (((⟨0, [], [], 0, [], 0, []⟩ : api_Head), r94))) else (some (((⟨i85, s86, s87, i88, s89, i90, l93⟩ : api_Head), 0)))

def zI (x_a0 : Int) (x_a1 : Str) : Nat → (List api_Field) → Int → Str → Str → Int → Str → Int → Bool → Int → Int → Option (api_Head × Int)
  | 0, _, _, _, _, _, _, _, _, _, _ => none
  | n + 1, l25, i26, s27, s28, i29, s30, i31, t32, i33, i34 =>
  (zE i34 3).bind fun i35 =>
  if (decide (i35 < (x_a1.length : Int))) then ((zE i34 2).bind fun i39 =>
  (zeC x_a1 i34 i39).bind fun s40 =>
  if (!(s40 == [13, 10])) then (zcH (zI x_a0 x_a1 n) i34 t32 i33 i26 s27 s28 i29 s30 i31 l25) else ((zeC x_a1 i33 i34).bind fun s44 =>
  (zE i34 2).bind fun i46 =>
  if t32 then ((zfs x_a0 s44).bind fun r50 =>
  if (!(r50.2 == 0)) then (some (((⟨0, [], [], 0, [], 0, []⟩ : api_Head), r50.2))) else (zcH (zI x_a0 x_a1 n) i34 false i46 r50.1.Kind r50.1.Method r50.1.Target r50.1.Code r50.1.Reason r50.1.Minor r50.1.Fields)) else ((zft s44).bind fun r62 =>
  if (!(r62.2 == 0)) then (some (((⟨0, [], [], 0, [], 0, []⟩ : api_Head), r62.2))) else (if zci l25.length 1 32 then (zcH (zI x_a0 x_a1 n) i34 t32 i46 i26 s27 s28 i29 s30 i31 (l25 ++ [r62.1])) else none)))) else (zey i26 s27 s28 i29 s30 i31 l25)

def zdl (x_a0 : Int) (x_a1 : Str) (t14 : Bool) : Option (api_Head × Int) :=
  if t14 then (some (((⟨0, [], [], 0, [], 0, []⟩ : api_Head), 6))) else (zI x_a0 x_a1 fuel [] 0 [] [] 0 [] 0 true 0 0)

def zdm (x_a0 : Int) (x_a1 : Str) (x_a2 : Int) (t4 : Bool) : Option (api_Head × Int) :=
  if t4 then (some (((⟨0, [], [], 0, [], 0, []⟩ : api_Head), 1))) else (if (decide (x_a2 < (x_a1.length : Int))) then (some (((⟨0, [], [], 0, [], 0, []⟩ : api_Head), 3))) else (if (decide ((x_a1.length : Int) < 4)) then (zdl x_a0 x_a1 true) else ((zig x_a1).bind fun r13 =>
  zdl x_a0 x_a1 (!(r13 == (x_a1.length : Int))))))

def zgE (x_a0 : Int) (x_a1 : Str) (x_a2 : Int) : Option (api_Head × Int) :=
  if (!(x_a0 == 1)) then (zdm x_a0 x_a1 x_a2 (!(x_a0 == 2))) else (zdm x_a0 x_a1 x_a2 false)

def zfu (rec1 : Int → Int → Option ref16_Fate) (i6 : Int) (i67 : Int) : Option ref16_Fate :=
  (zE i6 1).bind fun i68 =>
  rec1 i67 i68

def zfv (rec1 : Int → Int → Option ref16_Fate) (i6 : Int) (i60 : Int) : Option ref16_Fate :=
  if (!(i60 == 0)) then ((zE i6 1).bind fun i63 =>
  some ((⟨i63, i60, (⟨0, [], [], 0, [], 0, []⟩ : api_Head)⟩ : ref16_Fate))) else ((zE i6 1).bind fun i66 =>
  zfu rec1 i6 i66)

def zcY (rec1 : Int → Int → Option ref16_Fate) (x_a0 : Int) (x_a1 : Int) (x_a2 : Str) (i5 : Int) (i6 : Int) (t26 : Bool) : Option ref16_Fate :=
  if t26 then ((zE i6 1).bind fun i28 =>
  some ((⟨i28, 24, (⟨0, [], [], 0, [], 0, []⟩ : api_Head)⟩ : ref16_Fate))) else ((sAt x_a2 i6).bind fun b31 =>
  if (!(b31 == 10)) then (zfu rec1 i6 i5) else ((zdb i6 1).bind fun i35 =>
  (zeC x_a2 i5 i35).bind fun s36 =>
  if (i5 == 0) then ((zfs x_a0 s36).bind fun r41 =>
  zfv rec1 i6 r41.2) else (if (!(s36 == [])) then ((zft s36).bind fun r48 =>
  zfv rec1 i6 r48.2) else ((zE i6 1).bind fun i51 =>
  (sTo x_a2 i51).bind fun s52 =>
  (zgE x_a0 s52 x_a1).bind fun r53 =>
  (zE i6 1).bind fun i58 =>
  some (⟨i58, r53.2, r53.1⟩ : ref16_Fate)))))

def zez (rec1 : Int → Int → Option ref16_Fate) (x_a0 : Int) (x_a1 : Int) (x_a2 : Str) (i5 : Int) (i6 : Int) (t18 : Bool) : Option ref16_Fate :=
  (sAt x_a2 i6).bind fun b19 =>
  if (b19 == 10) then (if (!t18) then (zcY rec1 x_a0 x_a1 x_a2 i5 i6 true) else ((sAt x_a2 i6).bind fun b22 =>
  if (!(b22 == 10)) then (zcY rec1 x_a0 x_a1 x_a2 i5 i6 t18) else (zcY rec1 x_a0 x_a1 x_a2 i5 i6 false))) else ((sAt x_a2 i6).bind fun b24 =>
  if (!(b24 == 10)) then (zcY rec1 x_a0 x_a1 x_a2 i5 i6 t18) else (zcY rec1 x_a0 x_a1 x_a2 i5 i6 false))

def zaK (x_a0 : Int) (x_a1 : Int) (x_a2 : Str) : Nat → Int → Int → Option ref16_Fate
  | 0, _, _ => none
  | n + 1, i5, i6 =>
  if (decide (i6 < (x_a2.length : Int))) then (if (decide (x_a1 ≤ i6)) then ((zE i6 1).bind fun i12 =>
  some ((⟨i12, 3, (⟨0, [], [], 0, [], 0, []⟩ : api_Head)⟩ : ref16_Fate))) else (if (decide (0 < i6)) then ((zdb i6 1).bind fun i16 =>
  (sAt x_a2 i16).bind fun b17 =>
  zez (zaK x_a0 x_a1 x_a2 n) x_a0 x_a1 x_a2 i5 i6 (b17 == 13)) else (zez (zaK x_a0 x_a1 x_a2 n) x_a0 x_a1 x_a2 i5 i6 false))) else (some ((⟨0, 0, (⟨0, [], [], 0, [], 0, []⟩ : api_Head)⟩ : ref16_Fate)))

def zkX (x_a0 : Int) (x_a1 : Int) (x_a2 : Str) : Option ref16_Fate :=
  zaK x_a0 x_a1 x_a2 fuel 0 0

def zdn (x_a : accum_Accum) : Option Int :=
  some (x_a.f_buf.length : Int)

def zg2 (x_b : Bool) : Option Int :=
  if x_b then (some 1) else (some 0)

def zaA (i18 : Int) (t23 : Bool) : Option Bool :=
  if t23 then (some (i18 == 1)) else (some false)

def zcf (x_a0 : Int) (x_a1 : Int) (i18 : Int) : Option Bool :=
  if (!(x_a0 == 1)) then (if (!(x_a0 == 2)) then (zaA i18 true) else (if (decide (x_a1 < 0)) then (zaA i18 true) else (zaA i18 (decide (65536 < x_a1))))) else (if (decide (x_a1 < 0)) then (zaA i18 true) else (zaA i18 (decide (65536 < x_a1))))

def zbe (rec6 : Int → Int → (List UInt8) → Int → Bool → Int → Bool → Int → Str → Str → Int → Str → Int → (List api_Field) → Int → Int → Option Bool) (i96 : Int) (i156 : Int) (i157 : Int) (i158 : Int) (l161 : List UInt8) (i162 : Int) (t163 : Bool) (i164 : Int) (t165 : Bool) (i166 : Int) (s167 : Str) (s168 : Str) (i169 : Int) (s170 : Str) (i171 : Int) (l174 : List api_Field) : Option Bool :=
  (zE i96 1).bind fun i175 =>
  rec6 i157 i158 l161 i162 t163 i164 t165 i166 s167 s168 i169 s170 i171 l174 i156 i175

def zbx (rec6 : Int → Int → (List UInt8) → Int → Bool → Int → Bool → Int → Str → Str → Int → Str → Int → (List api_Field) → Int → Int → Option Bool) (i95 : Int) (i96 : Int) (r103 : Int × Bool × Int × accum_Accum) (t116 : Bool) : Option Bool :=
  if t116 then (some false) else (zbe rec6 i96 i95 r103.2.2.2.f_kind r103.2.2.2.f_limit r103.2.2.2.f_buf r103.2.2.2.f_from r103.2.2.2.f_took r103.2.2.2.f_bad r103.2.2.2.f_whole r103.2.2.2.f_got.Kind r103.2.2.2.f_got.Method r103.2.2.2.f_got.Target r103.2.2.2.f_got.Code r103.2.2.2.f_got.Reason r103.2.2.2.f_got.Minor r103.2.2.2.f_got.Fields)

def zF (rec6 : Int → Int → (List UInt8) → Int → Bool → Int → Bool → Int → Str → Str → Int → Str → Int → (List api_Field) → Int → Int → Option Bool) (i96 : Int) (r103 : Int × Bool × Int × accum_Accum) (i132 : Int) (t153 : Bool) : Option Bool :=
  if t153 then (some false) else (zbe rec6 i96 i132 r103.2.2.2.f_kind r103.2.2.2.f_limit r103.2.2.2.f_buf r103.2.2.2.f_from r103.2.2.2.f_took r103.2.2.2.f_bad r103.2.2.2.f_whole r103.2.2.2.f_got.Kind r103.2.2.2.f_got.Method r103.2.2.2.f_got.Target r103.2.2.2.f_got.Code r103.2.2.2.f_got.Reason r103.2.2.2.f_got.Minor r103.2.2.2.f_got.Fields)

def zbf (rec6 : Int → Int → (List UInt8) → Int → Bool → Int → Bool → Int → Str → Str → Int → Str → Int → (List api_Field) → Int → Int → Option Bool) (x_a1 : Int) (r63 : ref16_Fate) (i96 : Int) (r103 : Int × Bool × Int × accum_Accum) (t127 : Bool) (i131 : Int) (i132 : Int) (i137 : Int) : Option Bool :=
  if (!(r103.1 == i131)) then (zF rec6 i96 r103 i132 true) else ((zdn r103.2.2.2).bind fun r139 =>
  if (!(r139 == i137)) then (zF rec6 i96 r103 i132 true) else (if (decide (x_a1 < i137)) then (zF rec6 i96 r103 i132 true) else (if t127 then (if (!(r103.2.1 == (r63.Err == 0))) then (zF rec6 i96 r103 i132 true) else ((zg2 t127).bind fun r144 =>
  (zlp r63.Err r144).bind fun i145 =>
  if (!(r103.2.2.1 == i145)) then (zF rec6 i96 r103 i132 true) else ((zbp r103.2.2.2).bind fun r147 =>
  zF rec6 i96 r103 i132 (!(r147 == (i132 == 0)))))) else (if (!(r103.2.1 == false)) then (zF rec6 i96 r103 i132 true) else ((zg2 t127).bind fun r149 =>
  (zlp r63.Err r149).bind fun i150 =>
  if (!(r103.2.2.1 == i150)) then (zF rec6 i96 r103 i132 true) else ((zbp r103.2.2.2).bind fun r152 =>
  zF rec6 i96 r103 i132 (!(r152 == (i132 == 0)))))))))

def zbg (rec6 : Int → Int → (List UInt8) → Int → Bool → Int → Bool → Int → Str → Str → Int → Str → Int → (List api_Field) → Int → Int → Option Bool) (x_a1 : Int) (r63 : ref16_Fate) (i95 : Int) (i96 : Int) (r103 : Int × Bool × Int × accum_Accum) (t127 : Bool) (i131 : Int) : Option Bool :=
  (zE i95 i131).bind fun i132 =>
  if t127 then (zbf rec6 x_a1 r63 i96 r103 t127 i131 i132 0) else (zbf rec6 x_a1 r63 i96 r103 t127 i131 i132 i132)

def zai (rec6 : Int → Int → (List UInt8) → Int → Bool → Int → Bool → Int → Str → Str → Int → Str → Int → (List api_Field) → Int → Int → Option Bool) (x_a1 : Int) (r63 : ref16_Fate) (i95 : Int) (i96 : Int) (r103 : Int × Bool × Int × accum_Accum) (x121 : Str) (t127 : Bool) : Option Bool :=
  if t127 then ((zdb r63.At i95).bind fun i130 =>
  zbg rec6 x_a1 r63 i95 i96 r103 t127 i130) else (zbg rec6 x_a1 r63 i95 i96 r103 t127 (x121.length : Int))

def zaB (rec6 : Int → Int → (List UInt8) → Int → Bool → Int → Bool → Int → Str → Str → Int → Str → Int → (List api_Field) → Int → Int → Option Bool) (x_a1 : Int) (r63 : ref16_Fate) (r72 : List Str) (i95 : Int) (i96 : Int) (r103 : Int × Bool × Int × accum_Accum) (t111 : Bool) : Option Bool :=
  if t111 then (if (!(r103.1 == 0)) then (zbx rec6 i95 i96 r103 true) else (if r103.2.1 then (zbx rec6 i95 i96 r103 true) else (zbx rec6 i95 i96 r103 (!(r103.2.2.1 == 8))))) else ((lAt r72 i96).bind fun x121 =>
  if (decide (0 < r63.At)) then ((zE i95 (x121.length : Int)).bind fun i126 =>
  zai rec6 x_a1 r63 i95 i96 r103 x121 (decide (r63.At ≤ i126))) else (zai rec6 x_a1 r63 i95 i96 r103 x121 false))

def zb1 (t203 : Bool) : Option Bool :=
  some t203

def zbh (r63 : ref16_Fate) (r194 : api_Head × Bool) (t200 : Bool) : Option Bool :=
  if (r194.2 == t200) then ((zhq r194.1 r63.Head).bind fun r202 =>
  zb1 r202) else (zb1 false)

def zcZ (r63 : ref16_Fate) (i176 : Int) (i177 : Int) (l180 : List UInt8) (i181 : Int) (t182 : Bool) (i183 : Int) (t184 : Bool) (i185 : Int) (s186 : Str) (s187 : Str) (i188 : Int) (s189 : Str) (i190 : Int) (l193 : List api_Field) : Option Bool :=
  (zbM ((⟨i176, i177, l180, i181, t182, i183, t184, (⟨i185, s186, s187, i188, s189, i190, l193⟩ : api_Head)⟩ : accum_Accum))).bind fun r194 =>
  if (decide (0 < r63.At)) then (zbh r63 r194 (r63.Err == 0)) else (zbh r63 r194 false)

def zs (x_a1 : Int) (r63 : ref16_Fate) (r72 : List Str) : Nat → Int → Int → (List UInt8) → Int → Bool → Int → Bool → Int → Str → Str → Int → Str → Int → (List api_Field) → Int → Int → Option Bool
  | 0, _, _, _, _, _, _, _, _, _, _, _, _, _, _, _, _ => none
  | n + 1, i77, i78, l81, i82, t83, i84, t85, i86, s87, s88, i89, s90, i91, l94, i95, i96 =>
  if (decide (i96 < (r72.length : Int))) then ((lAt r72 i96).bind fun x100 =>
  (zak ((⟨i77, i78, l81, i82, t83, i84, t85, (⟨i86, s87, s88, i89, s90, i91, l94⟩ : api_Head)⟩ : accum_Accum)) x100).bind fun r103 =>
  if (decide (0 < r63.At)) then (zaB (zs x_a1 r63 r72 n) x_a1 r63 r72 i95 i96 r103 (decide (r63.At ≤ i95))) else (zaB (zs x_a1 r63 r72 n) x_a1 r63 r72 i95 i96 r103 false)) else (zcZ r63 i77 i78 l81 i82 t83 i84 t85 i86 s87 s88 i89 s90 i91 l94)

def zby (x_a0 : Int) (x_a1 : Int) (x_a2 : Str × Str) (s8 : Str) (i31 : Int) (i32 : Int) (l35 : List UInt8) (i36 : Int) (t37 : Bool) (i38 : Int) (t39 : Bool) (i40 : Int) (s41 : Str) (s42 : Str) (i43 : Int) (s44 : Str) (i45 : Int) (l48 : List api_Field) (t59 : Bool) : Option Bool :=
  if t59 then (some false) else ((zkX x_a0 x_a1 s8).bind fun r63 =>
  (sTo x_a2.2 (min (x_a2.2.length : Int) 60)).bind fun s69 =>
  (zid s8 s69).bind fun r72 =>
  zs x_a1 r63 r72 fuel i31 i32 l35 i36 t37 i38 t39 i40 s41 s42 i43 s44 i45 l48 0 0)

def zaj (x_a0 : Int) (x_a1 : Int) (x_a2 : Str × Str) (s8 : Str) (i30 : Int) (i31 : Int) (i32 : Int) (l35 : List UInt8) (i36 : Int) (t37 : Bool) (i38 : Int) (t39 : Bool) (i40 : Int) (s41 : Str) (s42 : Str) (i43 : Int) (s44 : Str) (i45 : Int) (l48 : List api_Field) (t53 : Bool) : Option Bool :=
  if t53 then (some false) else (if (!(i30 == 0)) then (zby x_a0 x_a1 x_a2 s8 i31 i32 l35 i36 t37 i38 t39 i40 s41 s42 i43 s44 i45 l48 true) else ((zbp ((⟨i31, i32, l35, i36, t37, i38, t39, (⟨i40, s41, s42, i43, s44, i45, l48⟩ : api_Head)⟩ : accum_Accum))).bind fun r58 =>
  zby x_a0 x_a1 x_a2 s8 i31 i32 l35 i36 t37 i38 t39 i40 s41 s42 i43 s44 i45 l48 (!r58)))

def zcg (x_a0 : Int) (x_a1 : Int) (x_a2 : Str × Str) (s8 : Str) (i30 : Int) (i31 : Int) (i32 : Int) (l35 : List UInt8) (i36 : Int) (t37 : Bool) (i38 : Int) (t39 : Bool) (i40 : Int) (s41 : Str) (s42 : Str) (i43 : Int) (s44 : Str) (i45 : Int) (l48 : List api_Field) : Option Bool :=
  if (!(x_a0 == 1)) then (if (!(x_a0 == 2)) then (zaj x_a0 x_a1 x_a2 s8 i30 i31 i32 l35 i36 t37 i38 t39 i40 s41 s42 i43 s44 i45 l48 true) else (if (decide (x_a1 < 0)) then (zaj x_a0 x_a1 x_a2 s8 i30 i31 i32 l35 i36 t37 i38 t39 i40 s41 s42 i43 s44 i45 l48 true) else (zaj x_a0 x_a1 x_a2 s8 i30 i31 i32 l35 i36 t37 i38 t39 i40 s41 s42 i43 s44 i45 l48 (decide (65536 < x_a1))))) else (if (decide (x_a1 < 0)) then (zaj x_a0 x_a1 x_a2 s8 i30 i31 i32 l35 i36 t37 i38 t39 i40 s41 s42 i43 s44 i45 l48 true) else (zaj x_a0 x_a1 x_a2 s8 i30 i31 i32 l35 i36 t37 i38 t39 i40 s41 s42 i43 s44 i45 l48 (decide (65536 < x_a1))))

def zeM (x_a0 : Int) (x_a1 : Int) (x_a2 : Str × Str) : Option Bool :=
  (zhJ).bind fun r3 =>
  if (!r3) then (some false) else ((sTo x_a2.1 (min (x_a2.1.length : Int) 3000)).bind fun s8 =>
  (zgY x_a0 x_a1).bind fun r10 =>
  zq2 r10.1 (zcf x_a0 x_a1 r10.2) (fun x12 => zcg x_a0 x_a1 x_a2 s8 r10.2 x12.f_kind x12.f_limit x12.f_buf x12.f_from x12.f_took x12.f_bad x12.f_whole x12.f_got.Kind x12.f_got.Method x12.f_got.Target x12.f_got.Code x12.f_got.Reason x12.f_got.Minor x12.f_got.Fields))

end Go.Dm
end
section
namespace Go.Dm
theorem zmL (b : Bool) (v : Int) (k : Nat) (h : -1 ≤ v) : (if b = true then (k : Int) else if v = -1 then -1 else v + ((k + 1 : Nat) : Int)) =
    if (if b = true then 0 else if (v == -1) = true then -1 else v + 1) = -1 then -1 else (if b = true then 0 else if (v == -1) = true then -1 else v + 1) + (k : Int) := by
  cases b with
  | true => simp
  | false =>
    by_cases hm : v = -1
    · subst hm; simp
    · have h2 : ¬ (v + 1 = -1) := by omega
      have h3 : (v == -1) = false := beq_eq_false_iff_ne.2 hm
      rw [h3]
      simp only [Bool.false_eq_true, if_false, if_neg hm, if_neg h2]
      omega
theorem zlS : ∀ (l : Str) (c : UInt8) (k : Nat), zgS l c k = if Go.Lib.indexByte l c = -1 then -1 else Go.Lib.indexByte l c + k
  | [], _, _ => rfl
  | x :: l, c, k => by
    rw [zgS, Go.Lib.indexByte, zlS l c (k + 1)]
    exact zmL _ _ k (Go.Lib.indexByte_ge l c)
theorem zmM (x y : UInt8) : (x == y) = (y == x) := by
  by_cases h : x = y
  · subst h; rfl
  · rw [beq_eq_false_iff_ne.2 h, beq_eq_false_iff_ne.2 (Ne.symm h)]
theorem zmN : ∀ (s t : Str), zkx s t = t.isPrefixOf s
  | s, [] => by cases s <;> rfl
  | [], y :: t => rfl
  | x :: s, y :: t => by
    rw [zkx, List.isPrefixOf, zmN s t, zmM x y]
theorem zmO : ∀ (l t : Str) (k : Nat), zhg l t k = if Go.Lib.index l t = -1 then -1 else Go.Lib.index l t + k
  | [], t, k => by
    rw [zhg, Go.Lib.index]
    cases t <;> simp [zkx]
  | x :: l, t, k => by
    rw [zhg, Go.Lib.index, zmN]
    simp only [zmO l t (k + 1)]
    exact zmL _ _ k (Go.Lib.index_ge l t)
theorem zmP : ∀ (l cs : Str) (k : Nat), zjq l cs k = if Go.Lib.indexAny l cs = -1 then -1 else Go.Lib.indexAny l cs + k
  | [], _, _ => rfl
  | x :: l, cs, k => by
    rw [zjq, Go.Lib.indexAny, zmP l cs (k + 1)]
    exact zmL _ _ k (Go.Lib.indexAny_ge cs l)
theorem zpR (l : Str) (c : UInt8) : zgS l c 0 = Go.Lib.indexByte l c := by
  rw [zlS]; have := Go.Lib.indexByte_ge l c; split <;> omega
theorem zmQ (l t : Str) : zhg l t 0 = Go.Lib.index l t := by
  rw [zmO]; have := Go.Lib.index_ge l t; split <;> omega
theorem zqS (l cs : Str) : zjq l cs 0 = Go.Lib.indexAny l cs := by
  rw [zmP]; have := Go.Lib.indexAny_ge cs l; split <;> omega
end Go.Dm
end
section
namespace Go.Dm
@[simp] theorem zZ (l : Str) (i : Nat) : sAt l (i : Int) = l[i]? := by simp [sAt]
@[simp] theorem zjx (l : Str) : sAt l 0 = l[0]? := by simp [sAt]
@[simp] theorem sAt_one (l : Str) : sAt l 1 = l[1]? := by simp [sAt]
@[simp] theorem sAt_two (l : Str) : sAt l 2 = l[2]? := by simp [sAt]
@[simp] theorem zc1 {α : Type} (l : List α) (i : Nat) : lAt l (i : Int) = l[i]? := by simp [lAt]
@[simp] theorem ztf {α : Type} (l : List α) : lAt l 0 = l[0]? := by simp [lAt]
theorem za1 {m n : Int} (h1 : -9223372036854775808 ≤ m + n) (h2 : m + n ≤ 9223372036854775807) : zE m n = some (m + n) := by simp [zE, inI, h1, h2]
theorem zcn {m n : Int} (h1 : -9223372036854775808 ≤ m - n) (h2 : m - n ≤ 9223372036854775807) : zdb m n = some (m - n) := by simp [zdb, inI, h1, h2]
theorem zmy {m n : Int} (h1 : -9223372036854775808 ≤ m * n) (h2 : m * n ≤ 9223372036854775807) : zlp m n = some (m * n) := by simp [zlp, inI, h1, h2]
theorem zr {i : Nat} (h : i < 4611686018427387904) : zE (i : Int) 1 = some ((i + 1 : Nat) : Int) := by
  rw [za1 (by omega) (by omega)]; simp
theorem ztg {i k : Nat} (h : i + k < 4611686018427387904) : zE (i : Int) (k : Int) = some ((i + k : Nat) : Int) := by
  rw [za1 (by omega) (by omega)]; simp
theorem zdC {l : Str} {h : Nat} (hh : h ≤ l.length) : sTo l (h : Int) = some (l.take h) := by simp [sTo, hh]
theorem zan {l : Str} {i : Nat} (hh : i ≤ l.length) : zbD l (i : Int) = some (l.drop i) := by simp [zbD, hh]
theorem zc2 {l : Str} {i h : Nat} (h1 : i ≤ h) (h2 : h ≤ l.length) : zeC l (i : Int) (h : Int) = some ((l.take h).drop i) := by simp [zeC, h1, h2]
theorem zgn {l m : Str} (h : l.length + m.length ≤ 9223372036854775807) : zjb l m = some (l ++ m) := by simp [zjb, h]
theorem zpq {n : Nat} (h : n < 1000000000000000000) : n < fuel := h

theorem zoB {α β : Type} (l : List α) (L : Nat → Int → Option β) (F : α → Option β → Option β) (E : Option β)
    (hE : ∀ n, L (n + 1) (l.length : Int) = E) (hL : ∀ n (i : Nat) x, i < l.length → l[i]? = some x → L (n + 1) (i : Int) = F x (L n ((i + 1 : Nat) : Int))) :
    ∀ (n i : Nat), i ≤ l.length → l.length - i < n → L n (i : Int) = (l.drop i).foldr F E
  | 0, _, _, h => by omega
  | n + 1, i, hi, h => by
    by_cases hlt : i < l.length
    · rw [hL n i _ hlt (List.getElem?_eq_getElem hlt), zoB l L F E hE hL n (i + 1) (by omega) (by omega), List.drop_eq_getElem_cons hlt]
      rfl
    · have : i = l.length := by omega
      subst this
      rw [hE, List.drop_length]
      rfl
theorem zhy {α β : Type} (l : List α) (L : Nat → Int → Option β) (F : α → Option β → Option β) (E : Option β) (hl : l.length < 1000000000000000000)
    (hE : ∀ n, L (n + 1) (l.length : Int) = E) (hL : ∀ n (i : Nat) x, i < l.length → l[i]? = some x → L (n + 1) (i : Int) = F x (L n ((i + 1 : Nat) : Int))) : L fuel 0 = l.foldr F E := by
  have := zoB l L F E hE hL fuel 0 (Nat.zero_le _) (zpq (by omega))
  simpa using this
theorem zfS {n m b : Nat} (h : (n + m) * b ≤ 140737488355328) (h2 : n + m ≤ 140737488355328) : zci n m b = true := by
  simp only [zci, Bool.and_eq_true, decide_eq_true_eq]; exact ⟨by omega, h⟩

theorem zP (p : UInt8 → Bool) (h : (List.range 256).all (fun n => p (UInt8.ofNat n)) = true) (b : UInt8) : p b = true := by
  have := List.all_eq_true.1 h b.toNat (by simpa using b.toNat_lt)
  simpa using this
theorem zsc {α : Type} (p : α → Bool) (l : List α) : l.foldr (fun x r => if p x = true then r else some false) (some true) = some (l.all p) := by
  induction l with
  | nil => rfl
  | cons x l ih => simp only [List.foldr_cons, ih, List.all_cons]; cases p x <;> simp
theorem zth {α : Type} (p : α → Bool) (l : List α) : l.foldr (fun x r => if p x = true then some true else r) (some false) = some (l.any p) := by
  induction l with
  | nil => rfl
  | cons x l ih => simp only [List.foldr_cons, ih, List.any_cons]; cases p x <;> simp
end Go.Dm
end
section
namespace Go.Dm
def zT (b : UInt8) : Bool := decide (48 ≤ b) && decide (b ≤ 57)
def zdB (b : UInt8) : UInt8 := if 65 ≤ b ∧ b ≤ 90 then b + 32 else b
def ztd (b : UInt8) : Bool := decide (97 ≤ zdB b) && decide (zdB b ≤ 122)
def ze6 (b : UInt8) : Bool := zT b || decide (97 ≤ zdB b) && decide (zdB b ≤ 102)
def zh0 (b : UInt8) : Bool := ztd b || zT b || ([45, 46, 95, 126] : Str).contains b
def zn8 (b : UInt8) : Bool := ([33, 36, 38, 39, 40, 41, 42, 43, 44, 59, 61] : Str).contains b
def zkY (b : UInt8) : Bool := zh0 b || zn8 b || b == 58 || b == 64

theorem zq4 (l : Str) (c : UInt8) (k : Nat) : decide (0 ≤ zgS l c k) = l.contains c := by
  induction l generalizing k with
  | nil => simp [zgS]
  | cons x l ih =>
    simp only [zgS, List.contains_cons]
    by_cases h : x = c
    · simp [h]
    · have h' : (c == x) = false := by simp; exact fun e => h e.symm
      simp [h, h', ih]
theorem znl (b : UInt8) : zaT b = some (zdB b) :=
  of_decide_eq_true (zP (fun b => decide (zaT b = some (zdB b))) (by decide +kernel) b)
theorem zge (b : UInt8) : zab b = some (zT b) :=
  of_decide_eq_true (zP (fun b => decide (zab b = some (zT b))) (by decide +kernel) b)
theorem zhx (b : UInt8) : zco b = some (ze6 b) :=
  of_decide_eq_true (zP (fun b => decide (zco b = some (ze6 b))) (by decide +kernel) b)
theorem zmn (b : UInt8) : zfI b = some (zkY b) :=
  of_decide_eq_true (zP (fun b => decide (zfI b = some (zkY b))) (by decide +kernel) b)
theorem znm (b : UInt8) : zdt b = some (zT b) :=
  of_decide_eq_true (zP (fun b => decide (zdt b = some (zT b))) (by decide +kernel) b)
theorem ziH (b : UInt8) : zeI b = some (ze6 b) :=
  of_decide_eq_true (zP (fun b => decide (zeI b = some (ze6 b))) (by decide +kernel) b)
theorem zn9 (b : UInt8) : zhv b = some (zkY b) :=
  of_decide_eq_true (zP (fun b => decide (zhv b = some (zkY b))) (by decide +kernel) b)

theorem zph (b : UInt8) (l : Str) : l.any (fun x => x == b) = l.contains b := by
  induction l with
  | nil => rfl
  | cons x l ih =>
    simp only [List.any_cons, List.contains_cons, ih]
    congr 1
    rw [Bool.eq_iff_iff, beq_iff_eq, beq_iff_eq]; exact eq_comm
theorem zqm (b : UInt8) (l : Str) (hl : l.length < 1000000000) : ze2 b l = some (l.contains b) := by
  unfold ze2
  rw [zhy l (zds b l) (fun x r => if (x == b) = true then some true else r) (some false) (by omega)]
  · rw [zth, zph]
  · intro n; rw [zds]; simp only [Int.lt_irrefl, decide_false, Bool.false_eq_true, if_false]
  · intro n i x hi hx
    rw [zds]
    simp only [Int.ofNat_lt, hi, decide_true, if_true, zZ, hx, Option.bind_some, zr (show i < 4611686018427387904 by omega)]

theorem zdY {p : UInt8 → Bool} {f : UInt8 → Option Bool} (hf : ∀ b, f b = some (p b)) (s : Str) (hs : s.length < 1000000000) : zdP f [s] = some (s.all p) := by
  unfold zdP
  have h2 : ∀ (rec1 : Int → Option Bool) (i : Int), zcj rec1 f i s fuel 0 = s.foldr (fun x r => if p x = true then r else some false) ((zE i 1).bind rec1) := by
    intro rec1 i
    refine zhy s (zcj rec1 f i s) _ _ (by omega) ?_ ?_
    · intro n; rw [zcj]; simp only [Int.lt_irrefl, decide_false, Bool.false_eq_true, if_false]
    · intro n k x hk hx
      rw [zcj]
      simp only [Int.ofNat_lt, hk, decide_true, if_true, zZ, hx, Option.bind_some, hf, zr (show k < 4611686018427387904 by omega)]
      cases p x <;> rfl
  rw [zhy [s] (zck f [s]) (fun x r => x.foldr (fun x r => if p x = true then r else some false) r) (some true) (by simp)]
  · simp only [List.foldr_cons, List.foldr_nil]
    exact zsc p s
  · intro n; rw [zck]; simp only [Int.lt_irrefl, decide_false, Bool.false_eq_true, if_false]
  · intro n i x hi hx
    have hi0 : i = 0 := by simp at hi; exact hi
    subst hi0
    simp at hx; subst hx
    rw [zck]
    simp [h2, za1]
def zbs (b : UInt8) : Bool := ztd b || zT b || ([33, 35, 36, 37, 38, 39, 42, 43, 45, 46, 94, 95, 96, 124, 126] : Str).contains b
def zf0 (b : UInt8) : Bool := decide (32 ≤ b) && !(b == 127) || b == 9
theorem zlx (b : UInt8) : zdO b = some (zbs b) :=
  of_decide_eq_true (zP (fun b => decide (zdO b = some (zbs b))) (by decide +kernel) b)
theorem zik (b : UInt8) : zcp b = some (zf0 b) :=
  of_decide_eq_true (zP (fun b => decide (zcp b = some (zf0 b))) (by decide +kernel) b)
theorem zi4 (b : UInt8) : zbK b = some (zh0 b) :=
  of_decide_eq_true (zP (fun b => decide (zbK b = some (zh0 b))) (by decide +kernel) b)
theorem znn (b : UInt8) : zfj b = some (zn8 b) :=
  of_decide_eq_true (zP (fun b => decide (zfj b = some (zn8 b))) (by decide +kernel) b)
theorem zpi (b : UInt8) : zie b = some (zbs b) :=
  of_decide_eq_true (zP (fun b => decide (zie b = some (zbs b))) (by decide +kernel) b)
theorem zju (b : UInt8) : zfr b = some (zf0 b) :=
  of_decide_eq_true (zP (fun b => decide (zfr b = some (zf0 b))) (by decide +kernel) b)
theorem zjY (b : UInt8) : zcw b = some (zh0 b) :=
  of_decide_eq_true (zP (fun b => decide (zcw b = some (zh0 b))) (by decide +kernel) b)
theorem zpj (b : UInt8) : zg1 b = some (zn8 b) :=
  of_decide_eq_true (zP (fun b => decide (zg1 b = some (zn8 b))) (by decide +kernel) b)
theorem zke {α : Type} (p : α → Bool) (l : List α) (e : Bool) : l.foldr (fun x r => if p x = true then r else some false) (some e) = some (l.all p && e) := by
  induction l with
  | nil => simp
  | cons x l ih => simp only [List.foldr_cons, ih, List.all_cons]; cases p x <;> simp
def zgF (s : Str) : Bool := s.all zbs && !(s == [])
theorem zjv (s : Str) (hs : s.length < 1000000000) : zeg s = some (zgF s) := by
  unfold zeg
  rw [zhy s (zbV s) (fun x r => if zbs x = true then r else some false) (some (!(s == []))) (by omega)]
  · rw [zke]; rfl
  · intro n; rw [zbV]; simp only [Int.lt_irrefl, decide_false, Bool.false_eq_true, if_false]
    cases s <;> simp
  · intro n i x hi hx
    rw [zbV]
    simp only [Int.ofNat_lt, hi, decide_true, if_true, zZ, hx, Option.bind_some, zpi, zr (show i < 4611686018427387904 by omega)]
    cases zbs x <;> rfl
end Go.Dm
end
section
namespace Go.Dm
def za2 (b : Nat) (l : List Nat) : Nat := l.foldl (fun n d => n * b + d) 0
theorem zoK (b : Nat) (l : List Nat) : ∀ n, l.foldl (fun n d => n * b + d) n = n * b ^ l.length + za2 b l := by
  unfold za2
  induction l with
  | nil => intro n; simp
  | cons x l ih =>
    intro n
    rw [List.foldl_cons, ih, List.foldl_cons, ih (0 * b + x), List.length_cons, Nat.pow_succ, Nat.add_mul, Nat.zero_mul, Nat.zero_add, Nat.mul_assoc, Nat.mul_comm b, Nat.add_assoc]
theorem ztG (b : Nat) : za2 b [] = 0 := rfl
theorem zg3 (b x : Nat) (l : List Nat) : za2 b (x :: l) = x * b ^ l.length + za2 b l := by
  have := zoK b l (0 * b + x)
  rw [Nat.zero_mul, Nat.zero_add] at this
  rw [← this]; unfold za2; rw [List.foldl_cons, Nat.zero_mul, Nat.zero_add]
theorem zlG (b x : Nat) (l : List Nat) : za2 b (l ++ [x]) = za2 b l * b + x := by
  unfold za2; rw [List.foldl_append]; rfl
theorem zmA {b : Nat} (hb : 0 < b) : ∀ {l : List Nat}, (∀ d ∈ l, d < b) → za2 b l < b ^ l.length
  | [], _ => by simp [za2]
  | x :: l, h => by
    have h1 := h x (List.mem_cons_self ..)
    have h2 := zmA hb (l := l) fun d hd => h d (List.mem_cons_of_mem _ hd)
    rw [zg3, List.length_cons, Nat.pow_succ]
    have : (x + 1) * b ^ l.length ≤ b * b ^ l.length := Nat.mul_le_mul_right _ h1
    rw [Nat.add_mul, Nat.one_mul] at this
    rw [Nat.mul_comm (b ^ l.length) b]; omega
def zhR (b : Nat) : Nat → Nat → List Nat
  | 0, n => [n % b]
  | k + 1, n => if n < b then [n] else zhR b k (n / b) ++ [n % b]
def zfZ (b n : Nat) : List Nat := zhR b 70 n
theorem zkE {b n k : Nat} (hb : 2 ≤ b) (h : n < 2 ^ (k + 1)) : n / b < 2 ^ k := by
  rw [Nat.div_lt_iff_lt_mul (by omega)]
  calc n < 2 ^ (k + 1) := h
    _ = 2 ^ k * 2 := Nat.pow_succ ..
    _ ≤ 2 ^ k * b := Nat.mul_le_mul_left _ hb
theorem zkF {b : Nat} (hb : 2 ≤ b) : ∀ (k m n : Nat), k ≤ m → n < 2 ^ (k + 1) → zhR b m n = zhR b k n
  | 0, 0, n, _, _ => rfl
  | 0, m + 1, n, _, h => by
    have hn : n < b := by have : n < 2 := by simpa using h
                          omega
    show zhR b (m + 1) n = [n % b]
    rw [zhR, if_pos hn, Nat.mod_eq_of_lt hn]
  | k + 1, 0, n, h, _ => by omega
  | k + 1, m + 1, n, hm, h => by
    rw [zhR, zhR]
    split
    · rfl
    · rw [zkF hb k m (n / b) (by omega) (zkE hb h)]
theorem zin {b n : Nat} (hb : 2 ≤ b) (hn : b ≤ n) (h : n < 2 ^ 64) : zfZ b n = zfZ b (n / b) ++ [n % b] := by
  have h1 := zkF hb 64 70 n (by decide) (Nat.lt_of_lt_of_le h (Nat.pow_le_pow_right (by decide) (by decide)))
  have h2 := zkF hb 63 70 (n / b) (by decide) (zkE hb (Nat.lt_of_lt_of_le h (Nat.pow_le_pow_right (by decide) (by decide))))
  unfold zfZ
  rw [h1, h2, zhR, if_neg (by omega)]
theorem zdE {b n : Nat} (hn : n < b) : zfZ b n = [n] := by unfold zfZ; rw [zhR, if_pos hn]
theorem zld {b : Nat} (hb : 2 ≤ b) {P : Nat → Prop} (h0 : ∀ n, n < b → P n) (h1 : ∀ n, b ≤ n → n < 2 ^ 64 → P (n / b) → P n) : ∀ n, n < 2 ^ 64 → P n := by
  intro n
  induction n using Nat.strongRecOn with
  | _ n ih =>
    intro hn
    by_cases h : n < b
    · exact h0 n h
    · have : n / b < n := Nat.div_lt_self (by omega) (by omega)
      exact h1 n (by omega) hn (ih _ this (by omega))
theorem zqB {b : Nat} (hb : 2 ≤ b) : ∀ n, n < 2 ^ 64 → za2 b (zfZ b n) = n :=
  zld hb (fun n h => by rw [zdE h]; simp [za2]) fun n h hn ih => by
    rw [zin hb h hn, zlG, ih, Nat.mul_comm]; exact Nat.div_add_mod n b
theorem zuN {b : Nat} (hb : 2 ≤ b) : ∀ n, n < 2 ^ 64 → ∀ d ∈ zfZ b n, d < b :=
  zld hb (fun n h d hd => by rw [zdE h] at hd; simp at hd; omega) fun n h hn ih d hd => by
    rw [zin hb h hn] at hd
    rcases List.mem_append.1 hd with hd | hd
    · exact ih d hd
    · simp at hd; subst hd; exact Nat.mod_lt _ (by omega)
theorem zpz {b n : Nat} : zfZ b n ≠ [] := by
  unfold zfZ; rw [zhR]; split <;> simp
theorem zoL {b : Nat} (hb : 2 ≤ b) : ∀ n, n < 2 ^ 64 → n = 0 ∨ (zfZ b n).head? ≠ some 0 :=
  zld hb (fun n h => by
    rw [zdE h]; by_cases e : n = 0
    · exact .inl e
    · exact .inr (by simpa using e)) fun n h hn ih => by
    right
    rw [zin hb h hn]
    rcases ih with h0 | h0
    · have : b ≤ n := h
      have : 0 < n / b := Nat.div_pos h (by omega)
      omega
    · cases hd : zfZ b (n / b) with
      | nil => exact absurd hd zpz
      | cons x l => rw [hd] at h0; simpa using h0
theorem ztH {b : Nat} (hb : 2 ≤ b) : ∀ n, n < 2 ^ 64 → (zfZ b n).length ≤ 71 := by
  have : ∀ k n, (zhR b k n).length ≤ k + 1 := by
    intro k
    induction k with
    | zero => intro n; simp [zhR]
    | succ k ih => intro n; rw [zhR]; split
                   · simp
                   · simp; exact ih _
  intro n _; exact this 70 n
def znF : List Nat → List Nat → Bool
  | _, [] => false
  | [], _ :: _ => true
  | x :: l, y :: m => decide (x < y) || (x == y && znF l m)
theorem zrQ {b : Nat} (hb : 0 < b) : ∀ (l m : List Nat), l.length = m.length → (∀ d ∈ l, d < b) → (∀ d ∈ m, d < b) → znF l m = decide (za2 b l < za2 b m)
  | [], [], _, _, _ => by simp [znF]
  | [], _ :: _, h, _, _ => by simp at h
  | _ :: _, [], h, _, _ => by simp at h
  | x :: l, y :: m, h, hl, hm => by
    have e : l.length = m.length := by simpa using h
    have h1 := zmA hb (l := l) fun d hd => hl d (List.mem_cons_of_mem _ hd)
    have h2 := zmA hb (l := m) fun d hd => hm d (List.mem_cons_of_mem _ hd)
    rw [znF, zrQ hb l m e (fun d hd => hl d (List.mem_cons_of_mem _ hd)) (fun d hd => hm d (List.mem_cons_of_mem _ hd)), zg3, zg3, e]
    rw [e] at h1
    rcases Nat.lt_trichotomy x y with hxy | hxy | hxy
    · have : (x + 1) * b ^ m.length ≤ y * b ^ m.length := Nat.mul_le_mul_right _ hxy
      rw [Nat.add_mul, Nat.one_mul] at this
      have h3 : x * b ^ m.length + za2 b l < y * b ^ m.length + za2 b m := by omega
      simp [hxy, h3]
    · subst hxy; simp
    · have : (y + 1) * b ^ m.length ≤ x * b ^ m.length := Nat.mul_le_mul_right _ hxy
      rw [Nat.add_mul, Nat.one_mul] at this
      have h3 : ¬ x * b ^ m.length + za2 b l < y * b ^ m.length + za2 b m := by omega
      have h4 : ¬ x < y := by omega
      have h5 : (x == y) = false := beq_eq_false_iff_ne.2 (by omega)
      simp [h3, h4, h5]
def dch (d : Nat) : UInt8 := if d < 10 then UInt8.ofNat (48 + d) else UInt8.ofNat (87 + d)
def zC (l : List Nat) : Str := l.map dch
def wor (c : UInt8) : Nat := if zT c then (c - 48).toNat else (zdB c - 97).toNat + 10
def zhS (b : Nat) (c : UInt8) : Bool := if b = 10 then zT c else ze6 c
theorem zsn : ∀ d : Nat, d < 16 → (wor (dch d) = d ∧ ze6 (dch d) = true ∧ (d < 10 → zT (dch d) = true)) := by decide
theorem dch_lt : ∀ d : Nat, d < 16 → ∀ e : Nat, e < 16 → (decide (dch d < dch e) = decide (d < e) ∧ (dch d == dch e) = (d == e)) := by decide
theorem zmc : ∀ (l m : List Nat), (∀ d ∈ l, d < 16) → (∀ d ∈ m, d < 16) → zlY (zC l) (zC m) = znF l m
  | [], [], _, _ => rfl
  | [], _ :: _, _, _ => rfl
  | _ :: _, [], _, _ => rfl
  | x :: l, y :: m, hl, hm => by
    have ih := zmc l m (fun d hd => hl d (List.mem_cons_of_mem _ hd)) (fun d hd => hm d (List.mem_cons_of_mem _ hd))
    obtain ⟨h1, h2⟩ := dch_lt x (hl x (List.mem_cons_self ..)) y (hm y (List.mem_cons_self ..))
    show (decide (dch x < dch y) || (dch x == dch y && zlY (zC l) (zC m))) = _
    rw [h1, h2, ih, znF]
theorem zlH (b : UInt8) : zeW b = some (wor b : Int) :=
  of_decide_eq_true (zP (fun b => decide (zeW b = some (wor b : Int))) (by decide +kernel) b)
theorem ztI (c : UInt8) : (zT c = true → wor c < 10) ∧ (ze6 c = true → wor c < 16) :=
  of_decide_eq_true (zP (fun c => decide ((zT c = true → wor c < 10) ∧ (ze6 c = true → wor c < 16))) (by decide +kernel) c)
theorem znG (c : UInt8) (b : Int) (n : Nat) {i : Int} (hn : n ≤ fuel) (h : (zJ c b n i).isSome = true) : zJ c b fuel i = zJ c b n i := by
  obtain ⟨k, hk⟩ : ∃ k, fuel = n + k := ⟨fuel - n, by omega⟩
  rw [hk]
  clear hk hn
  induction n generalizing i with
  | zero => simp [zJ] at h
  | succ n ih =>
    rw [Nat.add_right_comm, zJ, zJ]
    rw [zJ] at h
    split
    · rename_i hlt
      rw [if_pos hlt] at h
      cases hs : sAt [48, 49, 50, 51, 52, 53, 54, 55, 56, 57, 97, 98, 99, 100, 101, 102] i with
      | none => rfl
      | some x =>
        rw [hs] at h
        simp only [Option.bind_some] at h ⊢
        split
        · rfl
        · rename_i hne
          rw [if_neg hne] at h
          cases hs2 : sAt [48, 49, 50, 51, 52, 53, 54, 55, 56, 57, 65, 66, 67, 68, 69, 70] i with
          | none => rfl
          | some y =>
            rw [hs2] at h
            simp only [Option.bind_some, zeh] at h ⊢
            split
            · rfl
            · rename_i hne2
              rw [if_neg hne2] at h
              cases hi : zE i 1 with
              | none => rfl
              | some j => rw [hi] at h; exact ih h
    · rfl
theorem znH (c : UInt8) : zcW c 10 = some (if zT c then (wor c : Int) else -1) := by
  have h1 : zJ c 10 20 0 = some (if zT c then (wor c : Int) else -1) := of_decide_eq_true (zP (fun c => decide (zJ c 10 20 0 = some (if zT c then (wor c : Int) else -1))) (by decide +kernel) c)
  unfold zcW
  rw [← h1]
  exact znG c 10 20 (by decide) (by rw [h1]; rfl)
theorem znI (c : UInt8) : zcW c 16 = some (if ze6 c then (wor c : Int) else -1) := by
  have h1 : zJ c 16 20 0 = some (if ze6 c then (wor c : Int) else -1) := of_decide_eq_true (zP (fun c => decide (zJ c 16 20 0 = some (if ze6 c then (wor c : Int) else -1))) (by decide +kernel) c)
  unfold zcW
  rw [← h1]
  exact znG c 16 20 (by decide) (by rw [h1]; rfl)
def zgg (b : Nat) : Prop := b = 10 ∨ b = 16
theorem zgg.two {b : Nat} (h : zgg b) : 2 ≤ b ∧ b ≤ 16 := by rcases h with rfl | rfl <;> omega
theorem zjF {b : Nat} (hb : zgg b) (c : UInt8) : zcW c (b : Int) = some (if zhS b c then (wor c : Int) else -1) := by
  rcases hb with rfl | rfl
  · exact znH c
  · exact znI c
theorem znJ {b : Nat} (hb : zgg b) {c : UInt8} (h : zhS b c = true) : wor c < b := by
  rcases hb with rfl | rfl
  · exact (ztI c).1 h
  · exact (ztI c).2 h
theorem znK : ∀ d : Nat, d < 16 → zeC [48, 49, 50, 51, 52, 53, 54, 55, 56, 57, 97, 98, 99, 100, 101, 102] (d : Int) ((d + 1 : Nat) : Int) = some [dch d] := by decide
theorem zqC {b : Nat} (hb : zgg b) : ∀ (k m n : Nat), k ≤ m → n < 2 ^ (k + 1) → k < 63 → zbW (m + 1) (n : Int) (b : Int) = some (zC (zfZ b n)) := by
  obtain ⟨h2, h16⟩ := hb.two
  intro k
  induction k with
  | zero =>
    intro m n _ h _
    have hn : n < b := by have : n < 2 := by simpa using h
                          omega
    rw [zbW, zdE hn]
    simp only [Int.ofNat_lt, hn, decide_true, if_true, zr (show n < 4611686018427387904 by omega), Option.bind_some, znK n (by omega)]
    rfl
  | succ k ih =>
    intro m n hm h hk
    obtain ⟨m, rfl⟩ : ∃ j, m = j + 1 := ⟨m - 1, by omega⟩
    have hbig : n < 2 ^ 64 := Nat.lt_of_lt_of_le h (Nat.pow_le_pow_right (by decide) (by omega))
    have hq : ∀ q : Nat, q ≤ n → inI (q : Int) = true := fun q hq => zhG.2 (by
      have : n < 2 ^ 63 := Nat.lt_of_lt_of_le h (Nat.pow_le_pow_right (by decide) (by omega))
      omega)
    rw [zbW]
    by_cases hn : n < b
    · rw [zdE hn]
      simp only [Int.ofNat_lt, hn, decide_true, if_true, zr (show n < 4611686018427387904 by omega), Option.bind_some, znK n (by omega)]
      rfl
    · have e1 : zo9 (n : Int) (b : Int) = some ((n / b : Nat) : Int) := by
        unfold zo9
        rw [if_pos ⟨by omega, by omega, by rw [← Int.natCast_ediv]; exact hq _ (Nat.div_le_self n b)⟩, Int.natCast_ediv]
      have e2 : zqT (n : Int) (b : Int) = some ((n % b : Nat) : Int) := by
        unfold zqT
        rw [if_pos ⟨by omega, by omega, by rw [← Int.natCast_emod]; exact hq _ (Nat.mod_le n b)⟩, Int.natCast_emod]
      have hlt : n % b < b := Nat.mod_lt _ (by omega)
      have hlen := ztH h2 (n / b) (by have := Nat.div_le_self n b; omega)
      have hn' : ¬ decide ((n : Int) < (b : Int)) = true := by simp; omega
      have e3 := ih m (n / b) (by omega) (zkE h2 h) (by omega)
      have e4 := znK (n % b) (by omega)
      have e5 := zr (i := n % b) (by omega)
      have e6 := zin h2 (show b ≤ n by omega) hbig
      generalize n / b = q at *
      generalize n % b = r at *
      have e7 : zjb (zC (zfZ b q)) [dch r] = some (zC (zfZ b q) ++ [dch r]) := zgn (by simp [zC]; omega)
      rw [if_neg hn', e1, Option.bind_some, e3, Option.bind_some, e2, Option.bind_some, Option.bind_some, e5, Option.bind_some, e4, Option.bind_some, e7, Option.bind_some, e6]
      simp [zC]
theorem zgO {b : Nat} (hb : zgg b) (n : Nat) (hn : n < 2 ^ 63) : zdy (n : Int) (b : Int) = some (zC (zfZ b n)) := by
  unfold zdy
  obtain ⟨m, hm⟩ : ∃ m, fuel = m + 1 := ⟨999999999999999999, rfl⟩
  rw [hm]
  exact zqC hb 62 m n (by unfold fuel at hm; omega) (by omega) (by omega)
def zi3 (b : Nat) (n : Int) : Str := if n < 0 then [] else zC (zfZ b n.toNat)
theorem zof {b : Nat} (hb : zgg b) (n : Int) (hn : inI n = true) : zhs n (b : Int) = some (zi3 b n) := by
  obtain ⟨h1, h2⟩ := zhG.1 hn
  unfold zhs zi3
  by_cases h : n < 0
  · simp [h]
  · obtain ⟨k, rfl⟩ : ∃ k : Nat, n = k := ⟨n.toNat, by omega⟩
    simp [h, zgO hb k (by omega)]
theorem dec_eq : ∀ n, n < 2 ^ 64 → Go.Lib.decDigits n = zC (zfZ 10 n) :=
  zld (b := 10) (by decide) (fun n h => by rw [Go.Lib.decDigits, dif_pos h, zdE h]; simp [zC, dch, h]) fun n h hn ih => by
    rw [Go.Lib.decDigits, dif_neg (by omega), ih, zin (by decide) h hn]
    have : n % 10 < 10 := Nat.mod_lt _ (by decide)
    simp [zC, dch, this]
theorem zmq (n : Int) (hn : inI n = true) : zfH n = some (zi3 10 n) := by
  obtain ⟨h1, h2⟩ := zhG.1 hn
  unfold zfH zgT zi3
  by_cases h : n < 0
  · simp [h]
  · obtain ⟨k, rfl⟩ : ∃ k : Nat, n = k := ⟨n.toNat, by omega⟩
    have hk : ¬ ((k : Int) < 0) := by omega
    simp [hk, zd4, hn, Go.Lib.itoa, dec_eq k (by omega)]
def vals (s : Str) : List Nat := s.map wor
def zav (b : Nat) (s : Str) (most : Int) : Int × Int :=
  if (s == [] || !s.all (zhS b)) = true then (0, 2) else if most < (za2 b (vals s) : Int) then (0, 7) else (((za2 b (vals s) : Nat) : Int), 0)
theorem zuO {b : Nat} (hb : zgg b) {s : Str} (h : s.all (zhS b) = true) : ∀ d ∈ vals s, d < b := by
  intro d hd
  obtain ⟨c, hc, rfl⟩ := List.mem_map.1 hd
  exact znJ hb (List.all_eq_true.1 h c hc)
theorem zoM {b : Nat} (hb : 1 ≤ b) (l m : List Nat) : za2 b l ≤ za2 b (l ++ m) := by
  unfold za2
  rw [List.foldl_append]
  generalize l.foldl (fun n d => n * b + d) 0 = n
  rw [zoK]
  have : 1 ≤ b ^ m.length := Nat.one_le_pow _ _ hb
  have := Nat.le_mul_of_pos_right n this
  omega
theorem zri {b : Nat} (hb : zgg b) (s : Str) (most : Int) (hs : s.length < 1000000000) (hd : s.all (zhS b) = true) (hm : most < 4611686018427387904) (hm0 : -4611686018427387904 < most) (hne : s ≠ []) :
    zaM s (b : Int) most fuel 0 0 = some (if most < (za2 b (vals s) : Int) then (0, 7) else (((za2 b (vals s) : Nat) : Int), 0)) := by
  obtain ⟨h2, h16⟩ := hb.two
  have key : ∀ (n i v : Nat), i ≤ s.length → s.length - i < n → v = za2 b (vals (s.take i)) → (i = 0 ∨ (v : Int) ≤ most) → (i < s.length ∨ (v : Int) ≤ most) →
      zaM s (b : Int) most n (v : Int) (i : Int) = some (if most < (za2 b (vals s) : Int) then (0, 7) else (((za2 b (vals s) : Nat) : Int), 0)) := by
    intro n
    induction n with
    | zero => intro i v _ h; omega
    | succ n ih =>
      intro i v hi h hv h0 h1
      rw [zaM]
      by_cases hlt : i < s.length
      · have hx : s[i]? = some s[i] := List.getElem?_eq_getElem hlt
        have hw : wor s[i] < b := znJ hb (List.all_eq_true.1 hd _ (List.getElem_mem hlt))
        have htk : vals (s.take (i + 1)) = vals (s.take i) ++ [wor s[i]] := by
          unfold vals
          rw [List.take_succ_eq_append_getElem hlt, List.map_append]; rfl
        have hv' : za2 b (vals (s.take (i + 1))) = v * b + wor s[i] := by rw [htk, zlG, ← hv]
        have hle : za2 b (vals (s.take (i + 1))) ≤ za2 b (vals s) := by
          have := zoM (b := b) (by omega) (vals (s.take (i + 1))) (vals (s.drop (i + 1)))
          unfold vals at this ⊢
          rwa [← List.map_append, List.take_append_drop] at this
        simp only [Int.ofNat_lt, hlt, decide_true, if_true, zZ, hx, Option.bind_some, zlH]
        by_cases hov : most < (wor s[i] : Int)
        · have : most < (za2 b (vals s) : Int) := by
            have := Nat.zero_le (v * b); omega
          simp [hov, zcN, this]
        · have hsub : zdb most (wor s[i] : Int) = some (most - (wor s[i] : Int)) := zcn (by omega) (by omega)
          have hdv : zo9 (most - (wor s[i] : Int)) (b : Int) = some ((most - (wor s[i] : Int)) / (b : Int)) := by
            unfold zo9
            have h5 : 0 ≤ (most - (wor s[i] : Int)) / (b : Int) := Int.ediv_nonneg (by omega) (by omega)
            have h6 : (most - (wor s[i] : Int)) / (b : Int) ≤ most - (wor s[i] : Int) := Int.ediv_le_self _ (by omega)
            rw [if_pos ⟨by omega, by omega, by rw [zhG]; omega⟩]
          have hiff : (most - (wor s[i] : Int)) / (b : Int) < (v : Int) ↔ most < ((v * b + wor s[i] : Nat) : Int) := by
            rw [Int.ediv_lt_iff_lt_mul (by omega)]
            push_cast
            omega
          simp only [hov, decide_false, Bool.false_eq_true, if_false, hsub, hdv, Option.bind_some, zcN]
          by_cases hov2 : (most - (wor s[i] : Int)) / (b : Int) < (v : Int)
          · have h7 : most < (za2 b (vals s) : Int) := by have := hiff.1 hov2; omega
            simp [hov2, h7]
          · have h7 : ((v * b + wor s[i] : Nat) : Int) ≤ most := by have := (not_congr hiff).1 hov2; omega
            have hmul : zlp (v : Int) (b : Int) = some ((v * b : Nat) : Int) := by
              rw [zmy (by rw [← Int.natCast_mul]; omega) (by rw [← Int.natCast_mul]; omega), Int.natCast_mul]
            have hadd : zE ((v * b : Nat) : Int) (wor s[i] : Int) = some ((v * b + wor s[i] : Nat) : Int) := by
              rw [za1 (by omega) (by omega)]; simp
            simp only [hov2, decide_false, Bool.false_eq_true, if_false, hmul, hadd, Option.bind_some, zr (show i < 4611686018427387904 by omega)]
            exact ih (i + 1) (v * b + wor s[i]) (by omega) (by omega) hv'.symm (.inr h7) (.inr h7)
      · have : i = s.length := by omega
        subst this
        rw [List.take_length] at hv
        have h8 : ¬ most < (za2 b (vals s) : Int) := by rw [← hv]; rcases h1 with h1 | h1 <;> omega
        simp [h8, hv]
  have := key fuel 0 0 (Nat.zero_le _) (by unfold fuel; omega) (by simp [vals, za2]) (.inl rfl) (.inl (by cases s with | nil => exact absurd rfl hne | cons _ _ => simp))
  simpa using this
theorem zmr {b : Nat} (hb : zgg b) (s : Str) (most : Int) (hs : s.length < 1000000000) (hm : most < 4611686018427387904) (hm0 : -4611686018427387904 < most) {f : UInt8 → Option Bool} (hf : ∀ c, f c = some (zhS b c)) :
    zfG s (b : Int) most f = some (zav b s most) := by
  unfold zfG zav
  rcases zbN (s == []) with h | h
  · rw [h]; simp [zcO]
  · rw [h]
    rw [zdY hf s hs]
    simp only [Bool.false_eq_true, if_false, Option.bind_some, zcO, Bool.false_or]
    rcases zbN (s.all (zhS b)) with h2 | h2
    · rw [h2]
      simp only [Bool.not_true, Bool.false_eq_true, if_false]
      exact zri hb s most hs h2 hm hm0 (by simpa using h)
    · rw [h2]; simp
theorem zfi (s : Str) (most : Int) (hs : s.length < 1000000000) (hm : most < 4611686018427387904) (hm0 : -4611686018427387904 < most) : zb6 s most = some (zav 10 s most) := by
  unfold zb6
  have := zmr (.inl rfl) s most hs hm hm0 (f := zab) zge
  rw [show ((10 : Nat) : Int) = 10 from rfl] at this
  rw [this]; rfl
def zgJ : List Nat → List Nat
  | 0 :: l => zgJ l
  | l => l
theorem zlI (b : Nat) : ∀ l, za2 b (zgJ l) = za2 b l
  | [] => rfl
  | 0 :: l => by rw [zgJ, zlI b l, zg3, Nat.zero_mul, Nat.zero_add]
  | (n + 1) :: l => rfl
theorem znL : ∀ l, (zgJ l).head? ≠ some 0
  | [] => by simp [zgJ]
  | 0 :: l => by rw [zgJ]; exact znL l
  | (n + 1) :: l => by simp [zgJ]
theorem zoN : ∀ {l : List Nat} {d : Nat}, d ∈ zgJ l → d ∈ l
  | [], _, h => h
  | 0 :: l, d, h => by rw [zgJ] at h; exact List.mem_cons_of_mem _ (zoN h)
  | (n + 1) :: l, _, h => h
theorem zoO : ∀ l, (zgJ l).length ≤ l.length
  | [] => Nat.le_refl _
  | 0 :: l => by rw [zgJ]; have := zoO l; simp; omega
  | (n + 1) :: l => Nat.le_refl _
def zgK (l : List Nat) : List Nat := if zgJ l = [] then [0] else zgJ l
theorem ztJ {b : Nat} (hb : zgg b) (s : Str) (hs : s.length < 1000000000) :
    zgB s (b : Int) = some (if s.all (zhS b) then (zC (zgK (vals s)), !(s == [])) else ([], false)) := by
  obtain ⟨h2, h16⟩ := hb.two
  unfold zgB
  have key : ∀ (n i : Nat) (acc : List Nat), i ≤ s.length → s.length - i < n → acc.length ≤ i → (acc = [] ∨ acc.head? ≠ some 0) →
      zaW s (b : Int) n (zC acc) (i : Int) = some (if (s.drop i).all (zhS b) then (zC (if acc = [] then zgK (vals (s.drop i)) else acc ++ vals (s.drop i)), !(s == [])) else ([], false)) := by
    intro n
    induction n with
    | zero => intro i acc _ h; omega
    | succ n ih =>
      intro i acc hi h ha h0
      rw [zaW]
      by_cases hlt : i < s.length
      · have hx : s[i]? = some s[i] := List.getElem?_eq_getElem hlt
        rw [List.drop_eq_getElem_cons hlt]
        generalize hc : s[i] = c at hx ⊢
        simp only [Int.ofNat_lt, hlt, decide_true, if_true, zZ, hx, Option.bind_some, zjF hb, List.all_cons]
        rcases zbN (zhS b c) with hdg | hdg
        · have hw := znJ hb hdg
          have hw0 : ¬ ((wor c : Int) < 0) := by omega
          have hdig : zdy (wor c : Int) (b : Int) = some [dch (wor c)] := by
            rw [zgO hb _ (by omega), zdE hw]; rfl
          have hcat : zjb (zC acc) [dch (wor c)] = some (zC (acc ++ [wor c])) := by
            rw [zgn (by simp [zC]; omega)]; simp [zC]
          simp only [hdg, if_true, hw0, decide_false, Bool.false_eq_true, if_false, zej, zei, hdig, hcat, Option.bind_some, zr (show i < 4611686018427387904 by omega), Bool.true_and]
          have hvc : vals (c :: s.drop (i + 1)) = wor c :: vals (s.drop (i + 1)) := rfl
          cases acc with
          | nil =>
            by_cases hz : wor c = 0
            · have hz' : ¬ (0 < (wor c : Int)) := by omega
              simp only [show (zC [] == ([] : Str)) = true from rfl, Bool.not_true, Bool.false_eq_true, if_false, hz', decide_false]
              have := ih (i + 1) [] (by omega) (by omega) (by simp) (.inl rfl)
              rw [show zC [] = ([] : Str) from rfl] at this ⊢
              rw [this]
              simp only [if_true, hvc, hz, zgK, zgJ]
            · have hz' : 0 < (wor c : Int) := by omega
              simp only [show (zC [] == ([] : Str)) = true from rfl, Bool.not_true, Bool.false_eq_true, if_false, hz', decide_true, if_true]
              rw [ih (i + 1) ([] ++ [wor c]) (by omega) (by omega) (by simp) (.inr (by simpa using hz))]
              obtain ⟨m, hm⟩ : ∃ m, wor c = m + 1 := ⟨wor c - 1, by omega⟩
              simp [hvc, zgK, hm, zgJ]
          | cons y acc =>
            simp only [show (zC (y :: acc) == ([] : Str)) = false from rfl, Bool.not_false, if_true]
            have hy : (y :: acc ++ [wor c]) = [] ∨ (y :: acc ++ [wor c]).head? ≠ some 0 := by
              right
              rcases h0 with h0 | h0
              · cases h0
              · simpa using h0
            rw [ih (i + 1) (y :: acc ++ [wor c]) (by omega) (by omega) (by simp at ha ⊢; omega) hy]
            simp [hvc]
        · simp [hdg]
      · have : i = s.length := by omega
        subst this
        simp only [Int.lt_irrefl, decide_false, Bool.false_eq_true, if_false, List.drop_length, List.all_nil, if_true, zek]
        cases acc with
        | nil => simp [zC, zgK, vals, zgJ, dch]
        | cons y acc => simp [zC, vals]
  have := key fuel 0 [] (Nat.zero_le _) (by unfold fuel; omega) (by simp) (.inl rfl)
  simpa [zC] using this
theorem zqD {b : Nat} (hb : 0 < b) {l : List Nat} (h : ∀ d ∈ l, d < b) : zgK l ≠ [] ∧ (∀ d ∈ zgK l, d < b) ∧ (zgK l = [0] ∨ (zgK l).head? ≠ some 0) ∧ za2 b (zgK l) = za2 b l ∧ (zgK l).length ≤ l.length + 1 := by
  unfold zgK
  by_cases e : zgJ l = []
  · rw [if_pos e]
    have := zlI b l
    rw [e, ztG] at this
    refine ⟨by simp, fun d hd => by simp at hd; omega, .inl rfl, by simp [za2] at this ⊢; exact this, by simp⟩
  · rw [if_neg e]
    exact ⟨e, fun d hd => h d (zoN hd), .inr (znL l), zlI b l, by have := zoO l; omega⟩
theorem ztK {b : Nat} (hb : 2 ≤ b) (l m : List Nat) (hl0 : l ≠ []) (hm0 : m ≠ []) (hl : ∀ d ∈ l, d < b) (hm : ∀ d ∈ m, d < b) (zl : l = [0] ∨ l.head? ≠ some 0) (zm : m = [0] ∨ m.head? ≠ some 0) :
    (decide (l.length < m.length) || (l.length == m.length && znF l m)) = decide (za2 b l < za2 b m) := by
  have low : ∀ x : List Nat, x ≠ [] → x.head? ≠ some 0 → b ^ (x.length - 1) ≤ za2 b x := by
    intro x hx h0
    cases x with
    | nil => exact absurd rfl hx
    | cons y t =>
      have hy : 1 ≤ y := by
        rcases Nat.eq_zero_or_pos y with e | e
        · subst e; simp at h0
        · exact e
      rw [zg3, List.length_cons, Nat.add_sub_cancel]
      have := Nat.mul_le_mul_right (b ^ t.length) hy
      rw [Nat.one_mul] at this; omega
  have cmp : ∀ x y : List Nat, x ≠ [] → y ≠ [] → (∀ d ∈ x, d < b) → (y = [0] ∨ y.head? ≠ some 0) → x.length < y.length → za2 b x < za2 b y := by
    intro x y hx hy hxd zy h
    have hyh : y.head? ≠ some 0 := by
      rcases zy with e | e
      · have : 1 ≤ x.length := by cases x with | nil => exact absurd rfl hx | cons _ _ => simp
        rw [e] at h
        have h' : x.length < 1 := h
        omega
      · exact e
    have h1 := zmA (b := b) (by omega) hxd
    have h2 := low y hy hyh
    have h3 : b ^ x.length ≤ b ^ (y.length - 1) := Nat.pow_le_pow_right (by omega) (by omega)
    omega
  rcases Nat.lt_trichotomy l.length m.length with h | h | h
  · have := cmp l m hl0 hm0 hl zm h
    simp [h, this]
  · rw [h, zrQ (b := b) (by omega) l m h hl hm]; simp
  · have h1 := cmp m l hm0 hl0 hm zl h
    have h2 : ¬ l.length < m.length := by omega
    have h3 : (l.length == m.length) = false := beq_eq_false_iff_ne.2 (by omega)
    have h4 : ¬ za2 b l < za2 b m := by omega
    simp [h2, h3, h4]
theorem zio (l : List Nat) : (zC l).length = l.length := by simp [zC]
theorem zlJ {b : Nat} (hb : zgg b) (l : List Nat) (q : Bool) (hl : ∀ d ∈ l, d < b) (hlen : l.length < 2000000000) (hv : za2 b l < 4611686018427387904) :
    zct (b : Int) (zC l, q) fuel 0 0 = some (((za2 b l : Nat) : Int), 0) := by
  obtain ⟨h2, h16⟩ := hb.two
  have key : ∀ (n i v : Nat), i ≤ l.length → l.length - i < n → v = za2 b (l.take i) → zct (b : Int) (zC l, q) n (v : Int) (i : Int) = some (((za2 b l : Nat) : Int), 0) := by
    intro n
    induction n with
    | zero => intro i v _ h; omega
    | succ n ih =>
      intro i v hi h hvv
      rw [zct]
      by_cases hlt : i < l.length
      · have hx : (zC l)[i]? = some (dch l[i]) := by simp [zC, hlt]
        have hd : l[i] < b := hl _ (List.getElem_mem hlt)
        obtain ⟨w1, w2, w3⟩ := zsn l[i] (by omega)
        have hdg : zhS b (dch l[i]) = true := by
          rcases hb with rfl | rfl
          · exact w3 hd
          · exact w2
        have hv' : za2 b (l.take (i + 1)) = v * b + l[i] := by
          rw [List.take_succ_eq_append_getElem hlt, zlG, ← hvv]
        have hle : za2 b (l.take (i + 1)) ≤ za2 b l := by
          have := zoM (b := b) (by omega) (l.take (i + 1)) (l.drop (i + 1))
          rwa [List.take_append_drop] at this
        have hmul : zlp (v : Int) (b : Int) = some ((v * b : Nat) : Int) := by
          rw [zmy (by rw [← Int.natCast_mul]; omega) (by rw [← Int.natCast_mul]; omega), Int.natCast_mul]
        have hadd : zE ((v * b : Nat) : Int) (l[i] : Int) = some ((v * b + l[i] : Nat) : Int) := by
          rw [za1 (by omega) (by omega)]; simp
        simp only [zio, Int.ofNat_lt, hlt, decide_true, if_true, hmul, Option.bind_some, zZ, hx, zjF hb, hdg, w1, hadd, zr (show i < 4611686018427387904 by omega)]
        exact ih (i + 1) _ (by omega) (by omega) hv'.symm
      · have : i = l.length := by omega
        subst this
        rw [List.take_length] at hvv
        simp [zio, hvv]
  have := key fuel 0 0 (Nat.zero_le _) (by unfold fuel; omega) (by simp [za2])
  simpa using this
theorem zkk {b : Nat} (hb : zgg b) (s : Str) (most : Int) (hs : s.length < 1000000000) (hm : most < 4611686018427387904) (hm0 : -4611686018427387904 < most) : zgb s (b : Int) most = some (zav b s most) := by
  obtain ⟨h2, h16⟩ := hb.two
  unfold zgb zav
  rw [ztJ hb s hs, Option.bind_some]
  rcases zbN (s.all (zhS b)) with hd | hd
  · rw [hd]
    simp only [if_true, Bool.not_true, Bool.or_false]
    rcases zbN (s == []) with he | he
    · rw [he]; simp
    · rw [he]
      have hv := zuO hb hd
      obtain ⟨c1, c2, c3, c4, c5⟩ := zqD (b := b) (by omega) hv
      have hlen : (vals s).length = s.length := by simp [vals]
      simp only [Bool.not_false, Bool.not_true, Bool.false_eq_true, if_false]
      by_cases hneg : most < 0
      · have h7 : most < (za2 b (vals s) : Int) := by omega
        simp [hneg, h7, zdS]
      · obtain ⟨k, rfl⟩ : ∃ k : Nat, most = k := ⟨most.toNat, by omega⟩
        have hk : k < 2 ^ 64 := by omega
        have hless : zhr (zC (zfZ b k)) (zC (zgK (vals s))) = some (decide (k < za2 b (vals s))) := by
          unfold zhr
          have d1 := zuN h2 k hk
          have d3 : zfZ b k = [0] ∨ (zfZ b k).head? ≠ some 0 := by
            rcases zoL h2 k hk with e | e
            · left; subst e; exact zdE (by omega)
            · exact .inr e
          have := ztK h2 (zfZ b k) (zgK (vals s)) zpz c1 d1 c2 d3 c3
          rw [zqB h2 k hk, c4] at this
          rw [← this, zio, zio, zmc _ _ (fun d hd => by have := d1 d hd; omega) (fun d hd => by have := c2 d hd; omega)]
          by_cases h1 : (zfZ b k).length < (zgK (vals s)).length
          · simp [h1, zcs]
          · by_cases h3 : (zfZ b k).length = (zgK (vals s)).length
            · simp [h3, zcs]
            · have h4 : (((zfZ b k).length : Int) == ((zgK (vals s)).length : Int)) = false := beq_eq_false_iff_ne.2 (by omega)
              simp [h1, h3, h4, zcs]
        simp only [hneg, decide_false, Bool.false_eq_true, if_false, zgO hb k (by omega), Option.bind_some, hless, zdS]
        by_cases h7 : k < za2 b (vals s)
        · have h8 : (k : Int) < (za2 b (vals s) : Int) := by omega
          simp [h7, h8]
        · have h8 : ¬ ((k : Int) < (za2 b (vals s) : Int)) := by omega
          simp only [h7, decide_false, Bool.false_eq_true, if_false, h8]
          rw [zlJ hb _ _ c2 (by omega) (by rw [c4]; omega), c4]
  · rw [hd]; simp
end Go.Dm
end
section
namespace Go.Dm
def low (s : Str) : Str := s.map zdB
theorem zgl (s : Str) (hs : s.length < 1000000000) : zfd s = some (low s) := by
  unfold zfd
  rw [if_pos (by omega)]
  unfold low
  clear hs
  induction s with
  | nil => rfl
  | cons x s ih => simp [List.mapM_cons, znl, ih]
theorem upAt : ∀ j : Nat, j < 26 → (([65, 66, 67, 68, 69, 70, 71, 72, 73, 74, 75, 76, 77, 78, 79, 80, 81, 82, 83, 84, 85, 86, 87, 88, 89, 90] : Str)[j]? = some (UInt8.ofNat (65 + j)) ∧
    zeC [97, 98, 99, 100, 101, 102, 103, 104, 105, 106, 107, 108, 109, 110, 111, 112, 113, 114, 115, 116, 117, 118, 119, 120, 121, 122] (j : Int) ((j + 1 : Nat) : Int) = some [UInt8.ofNat (97 + j)]) := by decide
theorem zlu (rec1 : Str → Int → Option Str) (t : Str) (s4 : Str) (i : Nat) (x : UInt8) (hx : t[i]? = some x) : ∀ (k j n : Nat) (s : Str), j + k = 26 → k < n →
    zbj rec1 t s4 (i : Int) n s (j : Int) = (zjb s4 (if 65 + j ≤ x.toNat ∧ x.toNat < 91 then [x + 32] else s)).bind fun s27 => (zE (i : Int) 1).bind fun i29 => rec1 s27 i29 := by
  intro k
  induction k with
  | zero =>
    intro j n s hj hn
    obtain ⟨n, rfl⟩ : ∃ m, n = m + 1 := ⟨n - 1, by omega⟩
    obtain rfl : j = 26 := by omega
    have h0 : ¬ (65 + 26 ≤ x.toNat ∧ x.toNat < 91) := by omega
    rw [zbj, if_neg h0]
    rfl
  | succ k ih =>
    intro j n s hj hn
    obtain ⟨n, rfl⟩ : ∃ m, n = m + 1 := ⟨n - 1, by omega⟩
    obtain ⟨h1, h2⟩ := upAt j (by omega)
    have hj26 : (j : Int) < 26 := by omega
    rw [zbj]
    simp only [hj26, decide_true, if_true, zZ, h1, hx, Option.bind_some, zr (show j < 4611686018427387904 by omega), h2, ze5]
    rw [ih (j + 1) n _ (by omega) (by omega), ih (j + 1) n _ (by omega) (by omega)]
    by_cases he : UInt8.ofNat (65 + j) = x
    · subst he
      have e1 : (UInt8.ofNat (65 + j)).toNat = 65 + j := by simp; omega
      have e2 : UInt8.ofNat (97 + j) = UInt8.ofNat (65 + j) + 32 := by
        apply UInt8.toNat_inj.1; simp; omega
      simp only [beq_self_eq_true, if_true, e1]
      rw [if_neg (by omega), if_pos (by omega), e2]
    · have hb : (UInt8.ofNat (65 + j) == x) = false := beq_eq_false_iff_ne.2 he
      have hne : x.toNat ≠ 65 + j := fun e => he (by apply UInt8.toNat_inj.1; simp; omega)
      simp only [hb, Bool.false_eq_true, if_false]
      have : (65 + (j + 1) ≤ x.toNat ∧ x.toNat < 91) ↔ (65 + j ≤ x.toNat ∧ x.toNat < 91) := by omega
      simp only [this]
theorem zr6 (x : UInt8) : (if 65 ≤ x.toNat ∧ x.toNat < 91 then [x + 32] else [x]) = [zdB x] := by
  have hi : (65 ≤ x ∧ x ≤ 90) ↔ (65 ≤ x.toNat ∧ x.toNat < 91) := by
    have h1 : (65 ≤ x) ↔ (65 ≤ x.toNat) := Iff.rfl
    have h2 : (x ≤ 90) ↔ (x.toNat ≤ 90) := Iff.rfl
    rw [h1, h2]; omega
  unfold zdB
  by_cases h : 65 ≤ x.toNat ∧ x.toNat < 91
  · rw [if_pos h, if_pos (hi.2 h)]
  · rw [if_neg h, if_neg (fun e => h (hi.1 e))]
theorem zhZ (s : Str) (hs : s.length < 1000000000) : zfe s = some (low s) := by
  unfold zfe
  have key : ∀ (n i : Nat) (acc : Str), acc.length = i → i ≤ s.length → s.length - i < n → zbk s n acc (i : Int) = some (acc ++ low (s.drop i)) := by
    intro n
    induction n with
    | zero => intro i acc _ _ h; omega
    | succ n ih =>
      intro i acc ha hi h
      rw [zbk]
      by_cases hlt : i < s.length
      · have hx : s[i]? = some s[i] := List.getElem?_eq_getElem hlt
        have e1 : (s.take (i + 1)).drop i = [s[i]] := by
          rw [List.drop_take, List.drop_eq_getElem_cons hlt, show i + 1 - i = 1 by omega]
          rfl
        have h2 := zlu (zbk s n) s acc i s[i] hx 26 0 fuel [s[i]] rfl (by unfold fuel; omega)
        simp only [Int.natCast_zero, Nat.add_zero, zr6] at h2
        simp only [Int.ofNat_lt, hlt, decide_true, if_true, zr (show i < 4611686018427387904 by omega), Option.bind_some, zc2 (show i ≤ i + 1 by omega) (show i + 1 ≤ s.length by omega), e1, h2, zgn (show acc.length + [zdB s[i]].length ≤ 9223372036854775807 by simp; omega)]
        rw [ih (i + 1) _ (by simp [ha]) (by omega) (by omega), List.drop_eq_getElem_cons hlt]
        show some ((acc ++ [zdB s[i]]) ++ low (s.drop (i + 1))) = some (acc ++ (zdB s[i] :: low (s.drop (i + 1))))
        rw [List.append_assoc]
        rfl
      · have : i = s.length := by omega
        subst this
        simp [low]
  have := key fuel 0 [] rfl (Nat.zero_le _) (by unfold fuel; omega)
  simpa using this
theorem zn3 (a b : Str) (ha : a.length < 1000000000) (hb : b.length < 1000000000) : zhj a b = some (low a == low b) := by
  unfold zhj
  rw [zgl a ha, zgl b hb]; rfl
end Go.Dm
end
section
namespace Go.Dm
def upto (cs s : Str) : Str := s.takeWhile (fun c => !cs.contains c)
def zaf (cs s : Str) : Str := s.dropWhile (fun c => !cs.contains c)
theorem zbH (cs s : Str) : upto cs s ++ zaf cs s = s := List.takeWhile_append_dropWhile
theorem ziu (cs s : Str) : (upto cs s).length ≤ s.length := by
  have := congrArg List.length (zbH cs s); simp at this; omega
theorem zh5 (cs s : Str) : s.take (upto cs s).length = upto cs s := by
  have h := zbH cs s
  conv => lhs; arg 2; rw [← h]
  exact List.take_left
theorem zf8 (cs s : Str) : s.drop (upto cs s).length = zaf cs s := by
  have h := zbH cs s
  conv => lhs; arg 2; rw [← h]
  exact List.drop_left
theorem zcR (cs s : Str) : zaf cs s = [] ↔ (upto cs s).length = s.length := by
  have h := congrArg List.length (zbH cs s)
  simp only [List.length_append] at h
  rw [← List.length_eq_zero_iff]; omega
theorem zjN {cs s : Str} {c : UInt8} {r : Str} (h : zaf cs s = c :: r) : cs.contains c = true := by
  have := List.head?_dropWhile_not (fun c => !cs.contains c) s
  unfold zaf at h
  rw [h] at this
  simpa using this
theorem zmH {cs s : Str} : ∀ c ∈ upto cs s, cs.contains c = false := by
  intro c hc
  have h : (upto cs s).all (fun c => !cs.contains c) = true := List.all_takeWhile
  have := List.all_eq_true.1 h c hc
  simpa using this
theorem zgq {cs s : Str} {x : UInt8} (h : cs.contains x = true) : upto cs (x :: s) = [] := by
  unfold upto; rw [List.takeWhile_cons_of_neg (by rw [h]; simp)]
theorem zgr {cs s : Str} {x : UInt8} (h : cs.contains x = true) : zaf cs (x :: s) = x :: s := by
  unfold zaf; rw [List.dropWhile_cons_of_neg (by rw [h]; simp)]
theorem zgs {cs s : Str} {x : UInt8} (h : cs.contains x = false) : upto cs (x :: s) = x :: upto cs s := by
  unfold upto; rw [List.takeWhile_cons_of_pos (by rw [h]; rfl)]
theorem zgt {cs s : Str} {x : UInt8} (h : cs.contains x = false) : zaf cs (x :: s) = zaf cs s := by
  unfold zaf; rw [List.dropWhile_cons_of_pos (by rw [h]; rfl)]

theorem zoi (cs : Str) : ∀ (s : Str) (k : Nat), zjq s cs k = if zaf cs s = [] then -1 else ((k + (upto cs s).length : Nat) : Int)
  | [], k => by simp [zjq, zaf]
  | x :: s, k => by
    simp only [zjq]
    by_cases h : cs.contains x = true
    · rw [if_pos h, zgq h, zgr h]; simp
    · have h' : cs.contains x = false := by simpa using h
      rw [if_neg h, zoi cs s (k + 1)]
      rw [zgt h', zgs h', List.length_cons]
      split
      · rfl
      · congr 1; omega
theorem zo1 (s p : Str) (hs : s.length < 1000000000) : stringslite_HasPrefix s p = some (p.isPrefixOf s) := by
  unfold stringslite_HasPrefix
  by_cases h : p.length ≤ s.length
  · have h' : (p.length : Int) ≤ (s.length : Int) := by omega
    simp only [h', decide_true, if_true, zdC h, Option.bind_some, zax]
    congr 1
    rw [Bool.eq_iff_iff, beq_iff_eq, List.isPrefixOf_iff_prefix, List.prefix_iff_eq_take]
    exact eq_comm
  · have h' : ¬ (p.length : Int) ≤ (s.length : Int) := by omega
    simp only [h', decide_false, Bool.false_eq_true, if_false, zax]
    congr 1
    rw [eq_comm, Bool.eq_false_iff]
    intro hp
    rw [List.isPrefixOf_iff_prefix] at hp
    exact h hp.length_le
theorem zd8 (s p : Str) (hs : s.length < 1000000000) : strings_HasPrefix s p = some (p.isPrefixOf s) := by
  unfold strings_HasPrefix
  rw [zo1 s p hs]; rfl
theorem zgP (s cs : Str) (hs : s.length < 1000000000) (hc : cs.length < 1000000000) (ha : cs.all (fun c => c.toNat < 128) = true) :
    strings_IndexAny s cs = some (if zaf cs s = [] then -1 else ((upto cs s).length : Int)) := by
  unfold strings_IndexAny
  rw [if_pos ⟨by omega, by omega, ha⟩, zoi, Nat.zero_add]
theorem zpM (cs s : Str) : zaf cs s = [] ↔ s.any cs.contains = false := by
  induction s with
  | nil => simp [zaf]
  | cons x s ih =>
    rcases zbN (cs.contains x) with h | h
    · rw [zgr h, List.any_cons, h]; simp
    · rw [zgt h, ih, List.any_cons, h, Bool.false_or]
theorem zfB (s cs : Str) (hs : s.length < 1000000000) (hc : cs.length < 1000000000) (ha : cs.all (fun c => c.toNat < 128) = true) : strings_ContainsAny s cs = some (s.any cs.contains) := by
  unfold strings_ContainsAny
  rw [zgP s cs hs hc ha, Option.bind_some]
  rcases zbN (s.any cs.contains) with h | h
  · have e : ¬ zaf cs s = [] := fun e => by rw [(zpM cs s).1 e] at h; cases h
    rw [if_neg e, h]; simp
  · rw [if_pos ((zpM cs s).2 h), h]; rfl

end Go.Dm
end
section
namespace Go.Dm
def scn (s : Str) (k : Nat) : scan_Scanner := ⟨s, (k : Int)⟩
theorem zhQ (s : Str) : zhh s = some (scn s 0) := rfl
theorem zrh (s : Str) (k : Nat) : ze9 (scn s k) = some (k : Int) := rfl
theorem zlc {s : Str} {k : Nat} (h : k ≤ s.length) : zX (scn s k) = some (s.drop k) := by
  unfold zX scn
  rw [zan h]; rfl
theorem zjE {s : Str} {k : Nat} (h : k ≤ s.length) : za7 (scn s k) = some (s.drop k == []) := by
  unfold za7
  rw [zlc h]; rfl
theorem zh3 {s : Str} {k : Nat} (h : k ≤ s.length) (hd : s.drop k = []) : z8 (scn s k) = some (0, false) := by
  unfold z8
  rw [zjE h, hd]; rfl
theorem zhB {s : Str} {k : Nat} {x : UInt8} {r : Str} (h : k ≤ s.length) (hd : s.drop k = x :: r) : z8 (scn s k) = some (x, true) := by
  unfold z8
  rw [zjE h, hd]
  have hx : s[k]? = some x := by
    have := congrArg (·[0]?) hd
    simpa using this
  simp [scn, hx]
theorem zod {s : Str} {k : Nat} (b : UInt8) (h : k ≤ s.length) (hd : s.drop k = []) : zH (scn s k) b = some (false, scn s k) := by
  unfold zH
  rw [zh3 h hd]; rfl
theorem znE {s : Str} {k : Nat} {x : UInt8} {r : Str} (b : UInt8) (h : k ≤ s.length) (hs : s.length < 1000000000) (hd : s.drop k = x :: r) : zH (scn s k) b = some (x == b, if x == b then scn s (k + 1) else scn s k) := by
  unfold zH
  rw [zhB h hd]
  simp only [Option.bind_some, Bool.not_true, Bool.false_eq_true, if_false, zbT]
  rcases zbN (x == b) with hb | hb
  · rw [hb]; simp [scn, zr (show k < 4611686018427387904 by omega)]
  · rw [hb]; simp
theorem ziN {s : Str} {k : Nat} {x : UInt8} {r : Str} (hd : s.drop k = x :: r) : k < s.length ∧ s.drop (k + 1) = r := by
  have hl : k < s.length := by
    rcases Nat.lt_or_ge k s.length with h | h
    · exact h
    · rw [List.drop_eq_nil_of_le h] at hd; cases hd
  refine ⟨hl, ?_⟩
  rw [List.drop_eq_getElem_cons hl] at hd
  exact (List.cons.inj hd).2
theorem zoe {f : UInt8 → Option Bool} {p : UInt8 → Bool} (hf : ∀ b, f b = some (p b)) {s : Str} {k : Nat} (hs : s.length < 1000000000) (hk : k ≤ s.length) :
    zar (scn s k) f = some ((s.drop k).takeWhile p, scn s (k + ((s.drop k).takeWhile p).length)) := by
  unfold zar
  rw [zrh, Option.bind_some]
  show zR f k fuel s k = _
  have key : ∀ (n i : Nat), k ≤ i → i ≤ s.length → s.length - i < n → zR f k n s i = some ((s.take (i + ((s.drop i).takeWhile p).length)).drop k, scn s (i + ((s.drop i).takeWhile p).length)) := by
    intro n
    induction n with
    | zero => intro i _ _ h; omega
    | succ n ih =>
      intro i hki hi h
      rw [zR]
      have e : (⟨s, (i : Int)⟩ : scan_Scanner) = scn s i := rfl
      rw [e]
      cases hd : s.drop i with
      | nil =>
        rw [zh3 hi hd]
        simp [zaU, zbF, zc2 hki hi, scn]
      | cons x r =>
        obtain ⟨hlt, hr⟩ := ziN hd
        rw [zhB hi hd]
        simp only [Option.bind_some, Bool.not_true, Bool.false_eq_true, if_false, hf, zaU, zr (show i < 4611686018427387904 by omega), ih (i + 1) (by omega) (by omega) (by omega), hr, List.takeWhile_cons]
        rcases zbN (p x) with hp | hp
        · rw [hp]; simp [Nat.add_assoc, Nat.add_comm 1]
        · rw [hp]; simp [zbF, zc2 hki hi, scn]
  rw [key fuel k (Nat.le_refl _) hk (by unfold fuel; omega)]
  congr 2
  rw [List.drop_take, Nat.add_sub_cancel_left]
  have := List.takeWhile_prefix (l := s.drop k) p
  exact (List.prefix_iff_eq_take.1 this).symm
theorem ziO (p : UInt8 → Bool) (s : Str) : (s.takeWhile p).length ≤ s.length := (List.takeWhile_prefix p).length_le
theorem zsm (p : UInt8 → Bool) (s : Str) (k : Nat) (hk : k ≤ s.length) : s.drop (k + ((s.drop k).takeWhile p).length) = (s.drop k).dropWhile p ∧ k + ((s.drop k).takeWhile p).length ≤ s.length := by
  refine ⟨?_, ?_⟩
  · rw [← List.drop_drop]
    generalize s.drop k = t
    have h := List.takeWhile_append_dropWhile (p := p) (l := t)
    conv => lhs; arg 2; rw [← h]
    exact List.drop_left
  · have := ziO p (s.drop k)
    rw [List.length_drop] at this; omega
end Go.Dm
end
section
namespace Go.Dm
structure At (s : Str) (k : Nat) (r : Str) : Prop where
  le : k ≤ s.length
  drop : s.drop k = r
theorem At.zero (s : Str) : At s 0 s := ⟨Nat.zero_le _, rfl⟩
theorem At.len {s : Str} {k : Nat} {r : Str} (h : At s k r) : k + r.length = s.length := by
  have := congrArg List.length h.drop
  rw [List.length_drop] at this
  have := h.le
  omega
theorem At.le_len {s : Str} {k : Nat} {r : Str} (h : At s k r) : r.length ≤ s.length := by have := h.len; omega
theorem At.next {s : Str} {k : Nat} {r : Str} (h : At s k r) (n : Nat) (hn : n ≤ r.length) : At s (k + n) (r.drop n) :=
  ⟨by have := h.len; omega, by rw [← List.drop_drop, h.drop]⟩
def peekR : Str → UInt8 × Bool
  | [] => (0, false)
  | x :: _ => (x, true)
def zf2 (b : UInt8) (r : Str) : Bool := r.head? == some b
def zaS (b : UInt8) (r : Str) : Str := if zf2 b r then r.drop 1 else r
theorem zd9 (b x : UInt8) (r : Str) : zf2 b (x :: r) = (x == b) := Option.some_beq_some ..
theorem zcy (b : UInt8) (r : Str) : zaS b (b :: r) = r := by unfold zaS; rw [zd9, beq_self_eq_true, if_pos rfl]; rfl
theorem zga {b : UInt8} {r : Str} (h : zf2 b r = true) : r = b :: zaS b r := by
  cases r with
  | nil => cases h
  | cons x r =>
    rw [zd9] at h
    have : x = b := by simpa using h
    subst this
    rw [zcy]
section
variable {s r : Str} {k : Nat}
theorem zs8 (h : At s k r) : za7 (scn s k) = some (r == []) := by rw [zjE h.le, h.drop]
theorem zmw (h : At s k r) : zX (scn s k) = some r := by rw [zlc h.le, h.drop]
theorem zur (h : At s k r) : z8 (scn s k) = some (peekR r) := by
  cases r with
  | nil => exact zh3 h.le h.drop
  | cons x r => exact zhB h.le h.drop
theorem ziC (hs : s.length < 1000000000) (b : UInt8) (h : At s k r) : ∃ k', At s k' (zaS b r) ∧ zH (scn s k) b = some (zf2 b r, scn s k') := by
  cases r with
  | nil => exact ⟨k, h, zod b h.le h.drop⟩
  | cons x r =>
    rw [znE b h.le hs h.drop, zd9]
    unfold zaS
    rw [zd9]
    cases x == b with
    | true => exact ⟨k + 1, h.next 1 (by simp), rfl⟩
    | false => exact ⟨k, h, rfl⟩
theorem zjh {f : UInt8 → Option Bool} {p : UInt8 → Bool} (hf : ∀ b, f b = some (p b)) (hs : s.length < 1000000000) (h : At s k r) : ∃ k', At s k' (r.dropWhile p) ∧ zar (scn s k) f = some (r.takeWhile p, scn s k') := by
  have e := zoe hf hs h.le
  rw [h.drop] at e
  have hd := zsm p s k h.le
  rw [h.drop] at hd
  exact ⟨_, ⟨hd.2, hd.1⟩, e⟩
theorem zqg (hs : s.length < 1000000000) (h : At s k r) : ∃ k', At s k' (r.dropWhile zbs) ∧ zbI (scn s k) = some (r.takeWhile zbs, !(r.takeWhile zbs == []), scn s k') := by
  obtain ⟨k', h1, h2⟩ := zjh zlx hs h
  refine ⟨k', h1, ?_⟩
  unfold zbI
  rw [h2]; rfl
theorem zus (hs : s.length < 1000000000) (t : Str) (ht : t.length < 1000000000) (h : At s k r) : ∃ k', At s k' (if t.isPrefixOf r then r.drop t.length else r) ∧ zb3 (scn s k) t = some (t.isPrefixOf r, scn s k') := by
  unfold zb3
  have := h.le_len
  rw [zmw h, Option.bind_some, zd8 r t (by omega), Option.bind_some]
  cases hp : t.isPrefixOf r with
  | false => exact ⟨k, h, rfl⟩
  | true =>
    have hl := (List.isPrefixOf_iff_prefix.1 hp).length_le
    have hk := h.len
    rw [if_pos rfl]
    show ∃ k', At s k' (r.drop t.length) ∧ ((zE (k : Int) (t.length : Int)).bind fun i9 => some (true, (⟨s, i9⟩ : scan_Scanner))) = _
    rw [za1 (by omega) (by omega), Option.bind_some]
    exact ⟨k + t.length, h.next _ hl, by unfold scn; simp⟩
end
end Go.Dm
end
section
namespace Go.Dm
theorem zbn (c : UInt8) (s : Str) : zi c s ≠ [] := by
  cases s with
  | nil => simp [zi]
  | cons x s =>
    unfold zi
    split
    · simp
    · split <;> simp
theorem zj0 {b c : UInt8} {l : Str} (h : b ≠ c) : Go.Lib.index (b :: l) [c] = if Go.Lib.index l [c] = -1 then -1 else Go.Lib.index l [c] + 1 := by
  have hp : ([c] : List UInt8).isPrefixOf (b :: l) = false := by simp [List.isPrefixOf, Ne.symm h]
  rw [Go.Lib.index, hp]; simp
theorem zj1 (c : UInt8) (l : Str) : Go.Lib.index (c :: l) [c] = 0 := by
  rw [Go.Lib.index]; simp [List.isPrefixOf]
theorem zkn (c : UInt8) : ∀ (s : Str) (k : Nat), Go.Lib.count s [c] = k → Go.Lib.splitK [c] 0 k s = zi c s
  | [], k, h => by
    rw [Go.Lib.count_one] at h
    simp at h; subst h; rfl
  | b :: l, k, h => by
    by_cases hb : b = c
    · subst hb
      rw [Go.Lib.count_cons_eq] at h
      obtain ⟨m, rfl⟩ : ∃ m, k = m + 1 := ⟨k - 1, by omega⟩
      have ih := zkn b l m (by omega)
      unfold Go.Lib.splitK
      rw [zj1]
      simp [zi, ih]
    · rw [Go.Lib.count_cons_ne b c l hb] at h
      have ih := zkn c l k h
      unfold zi
      rw [if_neg hb, ← ih]
      cases k with
      | zero => simp [Go.Lib.splitK]
      | succ k =>
        unfold Go.Lib.splitK
        rw [zj0 hb]
        have hge := Go.Lib.index_ge l [c]
        by_cases hm : Go.Lib.index l [c] = -1
        · rw [Go.Lib.count_miss hm] at h; omega
        · obtain ⟨j, hj⟩ : ∃ j : Nat, Go.Lib.index l [c] = j := ⟨(Go.Lib.index l [c]).toNat, by omega⟩
          have e1 : ¬ ((j : Int) + 1 = -1) := by omega
          have e2 : ¬ ((j : Int) = -1) := by omega
          have e3 : ((j : Int) + 1).toNat = j + 1 := by omega
          rw [hj]
          simp [e1, e2, e3, Nat.add_right_comm j 1 1]
theorem zll (s : Str) (c : UInt8) (hs : s.length < 1000000000) : strings_Split s [c] = some (zi c s) := by
  unfold strings_Split
  rw [if_pos ⟨by omega, by simp⟩]
  rw [zkn c s _ rfl]
def zc4 (p : Str) : List Str → List Str
  | [] => [p]
  | h :: t => (p ++ h) :: t
theorem zaN (c x : UInt8) (s : Str) : zi c (x :: s) = if x = c then [] :: zi c s else zc4 [x] (zi c s) := by
  rw [zi]
  split
  · rfl
  · cases h : zi c s <;> rfl
theorem zg4 (l : List Str) (h : l ≠ []) : zc4 [] l = l := by
  cases l with
  | nil => exact absurd rfl h
  | cons a t => rfl
theorem zhV (p q : Str) (l : List Str) (h : l ≠ []) : zc4 p (zc4 q l) = zc4 (p ++ q) l := by
  cases l with
  | nil => exact absurd rfl h
  | cons a t => simp [zc4]
theorem zi6 (c : UInt8) : ∀ (a s : Str), c ∉ a → zi c (a ++ s) = zc4 a (zi c s)
  | [], s, _ => (zg4 _ (zbn c s)).symm
  | x :: a, s, h => by
    have hx : ¬ x = c := fun e => h (by simp [e])
    rw [List.cons_append, zaN, if_neg hx, zi6 c a s (fun e => h (List.mem_cons_of_mem _ e)), zhV _ _ _ (zbn c s)]
    rfl
theorem zfA {c : UInt8} {a : Str} (h : c ∉ a) : zi c a = [a] := by
  have := zi6 c a [] h
  simpa [zi, zc4] using this
theorem zd6 {c : UInt8} {a : Str} (s : Str) (h : c ∉ a) : zi c (a ++ c :: s) = a :: zi c s := by
  rw [zi6 c a _ h, zaN, if_pos rfl]
  simp [zc4]
theorem zcQ {c : UInt8} : ∀ {s p : Str}, p ∈ zi c s → c ∉ p ∧ p.length ≤ s.length ∧ ∀ x ∈ p, x ∈ s
  | [], p, h => by
    simp [zi] at h; subst h; simp
  | x :: s, p, h => by
    rw [zaN] at h
    split at h
    · rcases List.mem_cons.1 h with rfl | h
      · simp
      · obtain ⟨h1, h2, h3⟩ := zcQ h
        exact ⟨h1, by simp; omega, fun y hy => List.mem_cons_of_mem _ (h3 y hy)⟩
    · rename_i hx
      cases hl : zi c s with
      | nil => exact absurd hl (zbn c s)
      | cons a t =>
        rw [hl] at h
        rcases List.mem_cons.1 h with rfl | h
        · obtain ⟨h1, h2, h3⟩ := zcQ (c := c) (s := s) (p := a) (by rw [hl]; simp)
          refine ⟨?_, by simp; omega, ?_⟩
          · simp only [List.singleton_append, List.mem_cons, not_or]; exact ⟨fun e => hx e.symm, h1⟩
          · intro y hy
            simp only [List.singleton_append, List.mem_cons] at hy ⊢
            rcases hy with hy | hy
            · exact .inl hy
            · exact .inr (h3 y hy)
        · obtain ⟨h1, h2, h3⟩ := zcQ (c := c) (s := s) (p := p) (by rw [hl]; exact List.mem_cons_of_mem _ h)
          exact ⟨h1, by simp; omega, fun y hy => List.mem_cons_of_mem _ (h3 y hy)⟩
theorem zd7 (c : UInt8) : ∀ s : Str, (zi c s).length ≤ s.length + 1
  | [] => by simp [zi]
  | x :: s => by
    have ih := zd7 c s
    rw [zaN]
    split
    · simp; omega
    · cases hl : zi c s with
      | nil => exact absurd hl (zbn c s)
      | cons a t => rw [hl] at ih; simp [zc4] at ih ⊢; omega
theorem zg5 (s : Str) (c : UInt8) (hs : s.length < 1000000000) : zef s c = some (zi c s) := by
  unfold zef
  have key : ∀ (n i k : Nat) (acc : List Str), k ≤ i → i ≤ s.length → acc.length ≤ i → s.length - i < n → zbq s c n acc (k : Int) (i : Int) = some (acc ++ zc4 ((s.take i).drop k) (zi c (s.drop i))) := by
    intro n
    induction n with
    | zero => intro i k acc _ _ _ h; omega
    | succ n ih =>
      intro i k acc hk hi ha h
      rw [zbq]
      by_cases hlt : i < s.length
      · have hx : s[i]? = some s[i] := List.getElem?_eq_getElem hlt
        have ht : (s.take (i + 1)).drop k = (s.take i).drop k ++ [s[i]] := by
          rw [List.take_succ_eq_append_getElem hlt, List.drop_append_of_le_length (by simp; omega)]
        simp only [Int.ofNat_lt, hlt, decide_true, if_true, zZ, hx, Option.bind_some, zee, zr (show i < 4611686018427387904 by omega), zc2 hk hi]
        rw [List.drop_eq_getElem_cons hlt, zaN]
        by_cases he : s[i] = c
        · simp only [he, beq_self_eq_true, if_true, zfS (n := acc.length) (m := 1) (b := 16) (by omega) (by omega)]
          rw [ih (i + 1) (i + 1) _ (by omega) (by omega) (by simp; omega) (by omega)]
          have e0 : (s.take (i + 1)).drop (i + 1) = [] := by simp
          rw [e0, zg4 _ (zbn _ _)]
          simp [zc4]
        · have hb : (s[i] == c) = false := beq_eq_false_iff_ne.2 he
          simp only [hb, Bool.false_eq_true, if_false, he]
          rw [ih (i + 1) k _ (by omega) (by omega) (by omega) (by omega), ht, zhV _ _ _ (zbn _ _)]
      · have : i = s.length := by omega
        subst this
        simp only [Int.lt_irrefl, decide_false, Bool.false_eq_true, if_false, zan hk, Option.bind_some, zfS (n := acc.length) (m := 1) (b := 16) (by omega) (by omega), if_true]
        simp [zi, zc4]
  have := key fuel 0 0 [] (Nat.le_refl _) (Nat.zero_le _) (Nat.le_refl _) (by unfold fuel; omega)
  simp only [Int.natCast_zero, List.nil_append, List.take_zero, List.drop_nil, List.drop_zero] at this
  rw [this, zg4 _ (zbn _ _)]
end Go.Dm
end
section
namespace Go.Dm
theorem ztc {b : Nat} : ∀ {x : List Nat}, x ≠ [] → x.head? ≠ some 0 → b ^ (x.length - 1) ≤ za2 b x
  | [], h, _ => absurd rfl h
  | y :: t, _, h0 => by
    have hy : 1 ≤ y := by
      rcases Nat.eq_zero_or_pos y with e | e
      · subst e; simp at h0
      · exact e
    rw [zg3, List.length_cons, Nat.add_sub_cancel]
    have := Nat.mul_le_mul_right (b ^ t.length) hy
    rw [Nat.one_mul] at this; omega
theorem zq3 {k n : Nat} (hk : 1 ≤ k) (h64 : n < 2 ^ 64) (hn : n < 10 ^ k) : (zfZ 10 n).length ≤ k := by
  rcases zoL (b := 10) (by decide) n h64 with e | e
  · subst e; rw [zdE (by decide)]; exact hk
  · have h1 := ztc (b := 10) zpz e
    rw [zqB (by decide) n h64] at h1
    rcases Nat.lt_or_ge k (zfZ 10 n).length with h | h
    · have : 10 ^ k ≤ 10 ^ ((zfZ 10 n).length - 1) := Nat.pow_le_pow_right (by decide) (by omega)
      omega
    · exact h
def zda (s : Str) (most : Int) : Bool := (zav 10 s most).2 == 0 && zi3 10 (zav 10 s most).1 == s
theorem zih {b : Nat} {s : Str} {most : Int} (h : (zav b s most).2 = 0) (hm : most < 4611686018427387904) : 0 ≤ (zav b s most).1 ∧ (zav b s most).1 ≤ most ∧ inI (zav b s most).1 = true := by
  unfold zav at *
  split at h
  · cases h
  · rename_i h1
    rw [if_neg h1]
    split at h
    · cases h
    · rename_i h2
      rw [if_neg h2]
      refine ⟨by simp only; omega, by simp only; omega, by rw [zhG]; simp only; omega⟩
theorem zhK (s : Str) (most : Int) (hs : s.length < 1000000000) (hm : most < 4611686018427387904) (hm0 : -4611686018427387904 < most) : zcz s most = some (zda s most) := by
  unfold zcz zda
  rw [zfi s most hs hm hm0, Option.bind_some]
  by_cases h : (zav 10 s most).2 = 0
  · have hi := (zih h hm).2.2
    simp [h, zmq _ hi, zb4]
  · simp [h, zb4]
theorem zjt (s : Str) (most : Int) (hs : s.length < 1000000000) (hm : most < 100000) (hm0 : -4611686018427387904 < most) : zfn s most = some (if zda s most then (zav 10 s most).1 else -1) := by
  unfold zfn
  have hR := zkk (b := 10) (.inl rfl) s most hs (by omega) hm0
  rw [show ((10 : Nat) : Int) = 10 from rfl] at hR
  by_cases hl : 5 < (s.length : Int)
  · have : zda s most = false := by
      rw [Bool.eq_false_iff]
      intro h
      unfold zda at h
      simp only [Bool.and_eq_true, beq_iff_eq] at h
      obtain ⟨h1, h2⟩ := h
      obtain ⟨g1, g2, g3⟩ := zih (b := 10) h1 (by omega)
      have hlen := congrArg List.length h2
      unfold zi3 at hlen
      rw [if_neg (by omega), zio] at hlen
      have := zq3 (k := 5) (n := (zav 10 s most).1.toNat) (by decide) (by omega) (by omega)
      omega
    simp [hl, this]
  · simp only [hl, decide_false, Bool.false_eq_true, if_false, hR, Option.bind_some]
    unfold zda
    by_cases h : (zav 10 s most).2 = 0
    · have hi := (zih h (by omega)).2.2
      have hT := zof (b := 10) (.inl rfl) _ hi
      rw [show ((10 : Nat) : Int) = 10 from rfl] at hT
      simp only [h, beq_self_eq_true, Bool.not_true, Bool.false_eq_true, if_false, hT, Option.bind_some, zdi, Bool.true_and]
      rcases zbN (zi3 10 (zav 10 s most).1 == s) with h2 | h2 <;> rw [h2] <;> simp
    · have h' : ((zav 10 s most).2 == 0) = false := beq_eq_false_iff_ne.2 h
      simp [h', zdi]
def zff (s : Str) : Bool := (zi 46 s).all (fun x => zda x 255) && decide (((zi 46 s).length : Int) = 4)
theorem zoy {α β : Type} {f : α → Option β} {g : α → β} : ∀ {l : List α}, (∀ x ∈ l, f x = some (g x)) → l.mapM f = some (l.map g)
  | [], _ => rfl
  | x :: l, h => by
    rw [List.mapM_cons, h x (List.mem_cons_self ..), zoy fun y hy => h y (List.mem_cons_of_mem _ hy)]; rfl
theorem zii (s : Str) (hs : s.length < 1000000000) : zdQ s = some (zff s) := by
  unfold zdQ zff
  rw [if_pos hs, zoy (g := fun x => zda x 255) fun x hx => zhK x 255 (by have := (zcQ hx).2.1; omega) (by decide) (by decide)]
  simp only [Option.bind_some, List.length_map, List.all_map]
  rfl
theorem zkd (s : Str) (hs : s.length < 1000000000) : zgc s = some (zff s) := by
  unfold zgc zff
  rw [zg5 s 46 hs, Option.bind_some]
  have hlen := zd7 46 s
  have hm := fun x (h : x ∈ zi 46 s) => (zcQ h).2.1
  generalize zi 46 s = l at *
  rw [zhy l (zcu l) (fun x r => if zda x 255 = true then r else some false) (some (decide ((l.length : Int) = 4))) (by omega)]
  · exact zke _ _ _
  · intro n; rw [zcu]; simp only [Int.lt_irrefl, decide_false, Bool.false_eq_true, if_false]
    rw [show ((l.length : Int) == 4) = decide ((l.length : Int) = 4) from rfl]
  · intro n i x hi hx
    have hxl := hm x (List.mem_of_getElem? hx)
    rw [zcu]
    simp only [Int.ofNat_lt, hi, decide_true, if_true, zc1, hx, Option.bind_some, zjt x 255 (by omega) (by decide) (by decide), zr (show i < 4611686018427387904 by omega)]
    rcases zbN (zda x 255) with h | h
    · have h2 : (zav 10 x 255).2 = 0 := by unfold zda at h; simp at h; exact h.1
      have h3 := (zih h2 (by decide)).1
      have h4 : ¬ (zav 10 x 255).1 < 0 := by omega
      rw [h]; simp [h4]
    · rw [h]; simp
def zij : Str → Bool
  | [] => true
  | c :: s => if c == 37 then (match s with
    | a :: b :: r => ze6 a && ze6 b && zij r
    | _ => false) else (zh0 c || zn8 c) && zij s
theorem zoz (s : Str) : zij (37 :: s) = (match s with | a :: b :: r => ze6 a && ze6 b && zij r | _ => false) := by
  rw [zij.eq_def]
  match s with
  | [] => rfl
  | [_] => rfl
  | _ :: _ :: _ => rfl
theorem zoA (c : UInt8) (s : Str) (h : (c == 37) = false) : zij (c :: s) = ((zh0 c || zn8 c) && zij s) := by
  rw [zij.eq_def]; simp only [h, Bool.false_eq_true, if_false]
def ziG (s : Str) : Bool := !(s == []) && zij s
theorem zlv (s : Str) (hs : s.length < 1000000000) : zeX s = some (ziG s) := by
  unfold zeX ziG
  rcases zbN (s == []) with h0 | h0
  · rw [h0]; simp
  rw [h0]
  simp only [Bool.false_eq_true, if_false, Bool.not_false, Bool.true_and]
  have key : ∀ (n : Nat) (s : Str), s.length < n → s.length < 1000000000 → zay n s = some (zij s) := by
    intro n
    induction n with
    | zero => intro s h; omega
    | succ n ih =>
      intro s h hs
      rw [zay]
      cases s with
      | nil => simp [zij]
      | cons c s =>
        have h1 : ((c :: s == ([] : Str))) = false := rfl
        have e1 : zbD (c :: s) 1 = some s := by
          have := zan (l := c :: s) (i := 1) (by simp)
          simpa using this
        simp only [List.length_cons] at h hs
        simp only [h1, Bool.not_false, if_true, zeG, zjx, List.getElem?_cons_zero, Option.bind_some, zi4, znn, zde, e1, ih s (by omega) (by omega), Bool.false_eq_true, if_false]
        rcases zbN (c == 37) with hc | hc
        · have : c = 37 := by simpa using hc
          subst this
          have hu : zh0 37 = false := by decide
          have hb : zn8 37 = false := by decide
          rw [zoz]
          match s, h, hs with
          | [], _, _ => simp [hu, hb, zah]
          | [a], _, _ => simp [hu, hb, zah]
          | a :: b :: r, h, hs =>
            have h2 : (3 : Int) ≤ ((37 :: a :: b :: r : Str).length : Int) := by simp only [List.length_cons]; omega
            have e3 : zbD (37 :: a :: b :: r) 3 = some r := by
              have := zan (l := 37 :: a :: b :: r) (i := 3) (by simp)
              simpa using this
            have e2 : zeC (37 :: a :: b :: r) 1 3 = some [a, b] := by
              have := zc2 (l := 37 :: a :: b :: r) (i := 1) (h := 3) (by decide) (by simp)
              simpa using this
            simp only [List.length_cons] at h hs
            simp only [h2, decide_true, if_true, beq_self_eq_true, e2, Option.bind_some, zdY zhx [a, b] (by simp), zah, e3, ih r (by omega) (by omega), hu, hb, Bool.false_eq_true, if_false]
            cases ha : ze6 a <;> cases hb : ze6 b <;> simp [ha, hb]
        · rw [zoA c s hc, hc]
          simp only [Bool.false_eq_true, if_false, zah]
          have : (if (decide ((3 : Int) ≤ ((c :: s).length : Int))) = true then some false else some false) = some false := by split <;> rfl
          rw [this]
          simp only [Option.bind_some, Bool.false_eq_true, if_false]
          cases hp : zh0 c <;> cases hq : zn8 c <;> simp
  exact key fuel s (zpq (by omega)) hs
theorem zlw (rec1 : Int → Option Bool) (i : Nat) (t : Bool) (hi : i < 4000000000) : zbR rec1 (i : Int) t = if t = true then some false else rec1 ((i + 3 : Nat) : Int) := by
  unfold zbR zdT
  have i2 : zE (i : Int) 2 = some ((i + 2 : Nat) : Int) := by rw [za1 (by omega) (by omega)]; simp
  have i3 : zE ((i + 2 : Nat) : Int) 1 = some ((i + 3 : Nat) : Int) := zr (i := i + 2) (by omega)
  rw [i2, Option.bind_some, i3, Option.bind_some]
theorem zn7 (s : Str) (hs : s.length < 1000000000) : zht s = some (ziG s) := by
  unfold zht ziG
  have key : ∀ (n i : Nat), i ≤ s.length → s.length - i < n → zac s n (i : Int) = some (zij (s.drop i) && !(s == [])) := by
    intro n
    induction n with
    | zero => intro i _ h; omega
    | succ n ih =>
      intro i hi h
      rw [zac]
      cases hd : s.drop i with
      | nil =>
        have : i = s.length := by have := congrArg List.length hd; simp at this; omega
        subst this
        simp only [Int.lt_irrefl, decide_false, Bool.false_eq_true, if_false, zij, Bool.true_and]
        cases s <;> simp
      | cons c t =>
        have hlt : i < s.length := by have := congrArg List.length hd; simp at this; omega
        have hx : s[i]? = some c := by have := congrArg (·[0]?) hd; simpa using this
        have ht : s.drop (i + 1) = t := by rw [← List.drop_drop, hd]; rfl
        have htl : t.length = s.length - (i + 1) := by rw [← ht]; simp
        have i2 : zE (i : Int) 2 = some ((i + 2 : Nat) : Int) := by rw [za1 (by omega) (by omega)]; simp
        simp only [Int.ofNat_lt, hlt, decide_true, if_true, zZ, hx, Option.bind_some, zr (show i < 4611686018427387904 by omega), i2]
        rcases zbN (c == 37) with hc | hc
        · have : c = 37 := by simpa using hc
          subst this
          rw [zoz]
          match t, ht, htl with
          | [], ht, htl =>
            have : (s.length : Int) ≤ ((i + 2 : Nat) : Int) := by simp at htl; omega
            simp only [beq_self_eq_true, if_true, this, decide_true, zbR, Bool.false_and]
          | [a], ht, htl =>
            have : (s.length : Int) ≤ ((i + 2 : Nat) : Int) := by simp at htl; omega
            simp only [beq_self_eq_true, if_true, this, decide_true, zbR, Bool.false_and]
          | a :: b :: r, ht, htl =>
            have hlt2 : ¬ (s.length : Int) ≤ ((i + 2 : Nat) : Int) := by simp at htl; omega
            have ha : s[i + 1]? = some a := by have := congrArg (·[0]?) ht; simpa using this
            have hb : s[i + 2]? = some b := by have := congrArg (·[1]?) ht; simpa using this
            have hr : s.drop (i + 3) = r := by
              have : (s.drop (i + 1)).drop 2 = r := by rw [ht]; rfl
              rwa [List.drop_drop] at this
            have hi3 : i + 3 ≤ s.length := by simp at htl; omega
            have hih := ih (i + 3) hi3 (by omega)
            rw [hr] at hih
            have hj := zlw (zac s n) i
            simp only [beq_self_eq_true, if_true, hlt2, decide_false, Bool.false_eq_true, if_false, zZ, ha, hb, Option.bind_some, ziH, hj _ (by omega), hih]
            cases ze6 a <;> cases ze6 b <;> simp
        · rw [zoA c t hc, hc]
          have hih := ih (i + 1) (by omega) (by omega)
          rw [ht] at hih
          simp only [Bool.false_eq_true, if_false, zjY, zpj, Option.bind_some, ze3, zdT, zr (show i < 4611686018427387904 by omega), hih]
          cases zh0 c <;> cases zn8 c <;> simp
  have := key fuel 0 (Nat.zero_le _) (by unfold fuel; omega)
  simp only [Int.natCast_zero, List.drop_zero] at this
  rw [this, Bool.and_comm]
def under (a b : Str) : Bool := ziG a && ziG b && !zff a && !zff b && (low a == low b || ((46 :: low b) : Str).isSuffixOf (low a))
end Go.Dm
end
section
namespace Go.Dm
def zaq (t : Str) : Str → Option (Str × Str)
  | [] => none
  | x :: s => if t.isPrefixOf (x :: s) then some ([], (x :: s).drop t.length) else (zaq t s).map fun p => (x :: p.1, p.2)
theorem zbu {t : Str} : ∀ {s a b : Str}, zaq t s = some (a, b) → s = a ++ t ++ b
  | [], _, _, h => by cases h
  | x :: s, a, b, h => by
    rw [zaq] at h
    split at h
    · rename_i hp
      obtain ⟨r, hr⟩ := List.isPrefixOf_iff_prefix.1 hp
      simp only [Option.some.injEq, Prod.mk.injEq] at h
      obtain ⟨rfl, rfl⟩ := h
      rw [← hr]; simp
    · cases hc : zaq t s with
      | none => rw [hc] at h; cases h
      | some p =>
        rw [hc] at h
        simp only [Option.map_some, Option.some.injEq, Prod.mk.injEq] at h
        obtain ⟨rfl, rfl⟩ := h
        have := zbu (a := p.1) (b := p.2) hc
        rw [List.cons_append, List.cons_append, ← this]
theorem zjQ {t : Str} (ht : t ≠ []) : ∀ s : Str, Go.Lib.index s t = match zaq t s with | none => -1 | some p => (p.1.length : Int)
  | [] => by
    cases t with
    | nil => exact absurd rfl ht
    | cons y t => rfl
  | x :: s => by
    rw [Go.Lib.index, zaq, zjQ ht s]
    cases t.isPrefixOf (x :: s) with
    | true => rfl
    | false =>
      cases zaq t s with
      | none => rfl
      | some p =>
        simp only [Bool.false_eq_true, if_false, Option.map_some, List.length_cons]
        have : ((p.1.length : Int) == -1) = false := beq_eq_false_iff_ne.2 (by omega)
        rw [this]
        simp
theorem zjA (s t : Str) (hs : s.length < 1000000000) (ht : t ≠ []) : strings_Cut s t = some (match zaq t s with | none => (s, [], false) | some p => (p.1, p.2, true)) := by
  unfold strings_Cut Go.Lib.cut
  rw [if_pos (by omega), zjQ ht]
  congr 1
  cases hc : zaq t s with
  | none => rfl
  | some p =>
    have e := zbu (a := p.1) (b := p.2) hc
    have h0 : (0 : Int) ≤ (p.1.length : Int) := by omega
    simp only [h0, if_true, Int.toNat_natCast]
    have e1 : s.take p.1.length = p.1 := by rw [e, List.append_assoc, List.take_left']; rfl
    have e2 : s.drop (p.1.length + t.length) = p.2 := by rw [e, List.drop_left']; simp
    rw [e1, e2]
def grp (x : Str) : Bool := decide (1 ≤ x.length) && decide (x.length ≤ 4) && x.all ze6
def zN (last : Bool) : List Str → Option Nat
  | [] => some 0
  | [x] => if last && zff x then some 2 else if grp x then some 1 else none
  | x :: y :: l => if grp x then (zN last (y :: l)).map (· + 1) else none
theorem zkA (last : Bool) : ∀ (l m : List Str), m ≠ [] → zN last (l ++ m) = (zN false l).bind fun a => (zN last m).map (· + a)
  | [], m, _ => by simp [zN]
  | [x], m, hm => by
    cases m with
    | nil => exact absurd rfl hm
    | cons y m =>
      show zN last (x :: y :: m) = _
      rw [zN, zN]
      cases grp x <;> simp
  | x :: y :: l, m, hm => by
    show zN last (x :: y :: (l ++ m)) = _
    have ih := zkA last (y :: l) m hm
    rw [zN, zN]
    rw [List.cons_append] at ih
    rw [ih]
    cases grp x with
    | false => rfl
    | true =>
      simp only [if_true]
      cases zN false (y :: l) with
      | none => rfl
      | some a =>
        cases zN last m with
        | none => rfl
        | some b => simp; omega
def znx (a : Nat) : Option Nat → Int
  | none => -1
  | some k => ((a + k : Nat) : Int)
theorem zk6 (rec1 : Int → Int → Option Int) (a i : Nat) (hi : i < 4000000000) : zbJ rec1 (i : Int) (a : Int) = rec1 (a : Int) ((i + 1 : Nat) : Int) := by
  unfold zbJ; rw [zr (by omega), Option.bind_some]
theorem zk7 (rec1 : Int → Int → Option Int) (a i : Nat) (t : Bool) (hi : i < 4000000000) (ha : a < 4000000000) : za4 rec1 (a : Int) (i : Int) t = if t = true then rec1 ((a + 1 : Nat) : Int) ((i + 1 : Nat) : Int) else some (-1) := by
  unfold za4
  rw [zr (by omega), Option.bind_some, zk6 rec1 (a + 1) i hi]
theorem zpv (rec1 : Int → Int → Option Int) (a i : Nat) (x : Str) (t : Bool) (hi : i < 4000000000) (ha : a < 4000000000) (hx : x.length < 1000000000) :
    za5 rec1 (a : Int) (i : Int) x t = if t = true then rec1 ((a + 2 : Nat) : Int) ((i + 1 : Nat) : Int) else if grp x = true then rec1 ((a + 1 : Nat) : Int) ((i + 1 : Nat) : Int) else some (-1) := by
  unfold za5 grp
  have i2 : zE (a : Int) 2 = some ((a + 2 : Nat) : Int) := by rw [za1 (by omega) (by omega)]; simp
  have e1 : decide ((1 : Int) ≤ (x.length : Int)) = decide (1 ≤ x.length) := decide_eq_decide.2 (by omega)
  have e2 : decide ((x.length : Int) ≤ 4) = decide (x.length ≤ 4) := decide_eq_decide.2 (by omega)
  rw [i2, Option.bind_some, zk6 rec1 (a + 2) i hi, zdY zhx x hx, Option.bind_some, zk7 rec1 a i _ hi ha, zk7 rec1 a i _ hi ha, e1, e2]
  generalize rec1 _ _ = r1
  generalize rec1 _ _ = r2
  generalize decide (1 ≤ x.length) = d1
  generalize decide (x.length ≤ 4) = d2
  generalize x.all ze6 = d3
  cases t <;> cases d1 <;> cases d2 <;> cases d3 <;> rfl
theorem ziJ (last : Bool) (x : Str) : zN last [x] = if last && zff x then some 2 else if grp x then some 1 else none := rfl
theorem zhP (last : Bool) (x y : Str) (l : List Str) : zN last (x :: y :: l) = if grp x then (zN last (y :: l)).map (· + 1) else none := rfl
theorem zsj (a : Nat) (o : Option Nat) : znx a (o.map (· + 1)) = znx (a + 1) o := by
  cases o with
  | none => rfl
  | some k => simp only [Option.map_some, znx]; congr 1; omega
theorem ziK (last : Bool) (l : List Str) (hl : l.length < 1000000000) (hx : ∀ x ∈ l, x.length < 1000000000) : ∀ (n i a : Nat), i ≤ l.length → l.length - i < n → a ≤ 2 * i → zL last l n (a : Int) (i : Int) = some (znx a (zN last (l.drop i)))
  | 0, _, _, _, h, _ => by omega
  | n + 1, i, a, hi, h, ha => by
    rw [zL]
    cases hd : l.drop i with
    | nil =>
      have : i = l.length := by have := congrArg List.length hd; simp at this; omega
      subst this
      simp [zN, znx]
    | cons x t =>
      have hlt : i < l.length := by have := congrArg List.length hd; simp at this; omega
      have hxx : l[i]? = some x := by have := congrArg (·[0]?) hd; simpa using this
      have ht : l.drop (i + 1) = t := by rw [← List.drop_drop, hd]; rfl
      have htl : t.length = l.length - (i + 1) := by rw [← ht]; simp
      have hxl := hx x (List.mem_of_getElem? hxx)
      have hsub : zdb (l.length : Int) 1 = some ((l.length - 1 : Nat) : Int) := by rw [zcn (by omega) (by omega)]; congr 1; omega
      have ih1 := ziK last l hl hx n (i + 1) (a + 1) (by omega) (by omega) (by omega)
      have ih2 := ziK last l hl hx n (i + 1) (a + 2) (by omega) (by omega) (by omega)
      rw [ht] at ih1 ih2
      have j2 := fun t => zpv (zL last l n) a i x t (by omega) (by omega) hxl
      simp only [Int.ofNat_lt, hlt, decide_true, if_true, zc1, hxx, Option.bind_some, hsub, zii x hxl, j2, ih1, ih2]
      cases t with
      | nil =>
        have hei : ((i : Int) == ((l.length - 1 : Nat) : Int)) = true := by simp at htl; simp; omega
        rw [hei, ziJ]
        have en : ∀ b, zN b [] = some 0 := fun _ => rfl
        rw [en]
        cases last <;> cases zff x <;> cases grp x <;> rfl
      | cons y t =>
        have hei : ((i : Int) == ((l.length - 1 : Nat) : Int)) = false := by simp at htl; simp; omega
        rw [hei, zhP]
        have := zsj a (zN last (y :: t))
        have hn : znx a none = -1 := rfl
        cases last <;> cases grp x <;> simp only [if_true, Bool.false_eq_true, if_false, this, hn]
def zaY (s : Str) : List Str := if s = [] then [] else zi 58 s
theorem zlD (s : Str) (last : Bool) (hs : s.length < 900000000) : zb7 s last = some (znx 0 (zN last (zaY s))) := by
  unfold zb7 zaY
  by_cases h0 : s = []
  · subst h0; rfl
  · have h1 : (s == []) = false := beq_eq_false_iff_ne.2 h0
    rw [h1, if_neg h0]
    have hl := zd7 58 s
    simp only [Bool.false_eq_true, if_false, zll s 58 (by omega), Option.bind_some]
    have := ziK last (zi 58 s) (by omega) (fun x hx => by have := (zcQ hx).2.1; omega) fuel 0 0 (by omega) (by unfold fuel; omega) (by omega)
    simpa using this
theorem zoG (last : Bool) : ∀ (l : List Str) (k : Nat), zN last l = some k → k ≤ l.length + 1
  | [], k, h => by cases h; omega
  | [x], k, h => by
    rw [ziJ] at h
    split at h
    · cases h; simp
    · split at h
      · cases h; simp
      · cases h
  | x :: y :: l, k, h => by
    rw [zhP] at h
    split at h
    · obtain ⟨j, hj, rfl⟩ := Option.map_eq_some_iff.1 h
      have := zoG last (y :: l) j hj
      simp only [List.length_cons] at this ⊢
      omega
    · cases h
theorem zk8 (s : Str) (last : Bool) (hs : s.length < 900000000) (k : Nat) (h : zN last (zaY s) = some k) : k < 1000000000 := by
  have h1 := zoG last _ k h
  have h2 := zd7 58 s
  unfold zaY at h1
  split at h1
  · simp at h1; omega
  · omega
def zfV (s : Str) : Bool := zN true (zi 58 s) == some 8
def zoH (s : Str) : Bool := match zaq [58, 58] s with
  | none => zfV s
  | some p => match zN false (zaY p.1), zN true (zaY p.2) with
    | some a, some b => decide (a + b ≤ 7)
    | _, _ => false
theorem Six_eq (s : Str) (hs : s.length < 900000000) : zeF s = some (zoH s) := by
  unfold zeF zoH
  rw [zjA s [58, 58] (by omega) (by simp), Option.bind_some]
  cases hc : zaq [58, 58] s with
  | none =>
    simp only [Bool.not_false, if_true, zlD s true hs, Option.bind_some, zfV]
    unfold zaY
    split
    · rename_i h; subst h; rfl
    · cases zN true (zi 58 s) with
      | none => rfl
      | some k =>
        simp only [znx, Nat.zero_add, Option.some.injEq]
        by_cases h : k = 8
        · subst h; rfl
        · have h1 : ((k : Int) == 8) = false := beq_eq_false_iff_ne.2 (by omega)
          rw [h1]; simp [h]
  | some p =>
    have e := congrArg List.length (zbu (a := p.1) (b := p.2) hc)
    simp only [List.length_append] at e
    simp only [Bool.not_true, Bool.false_eq_true, if_false, zlD p.1 false (by omega), zlD p.2 true (by omega), Option.bind_some]
    cases ha : zN false (zaY p.1) with
    | none => simp [znx, zbA]
    | some a =>
      cases hb : zN true (zaY p.2) with
      | none => simp [znx, zbA]
      | some b =>
        have hb' := (zk8 p.1 false (by omega) a ha)
        have hb2 := (zk8 p.2 true (by omega) b hb)
        simp only [znx, Nat.zero_add]
        have e0 : decide ((0 : Int) ≤ (a : Int)) = true := by simp
        have e1 : decide ((0 : Int) ≤ (b : Int)) = true := by simp
        rw [e0, e1, if_pos rfl, if_pos rfl, ztg (by omega), Option.bind_some]
        unfold zbA
        congr 1
        exact decide_eq_decide.2 (by omega)
theorem zqw (rec1 : Int → Int → Option Bool) (l : List Str) (a i : Nat) (x : Str) (hx : l[i]? = some x) (hxl : x.length < 1000000000) (hi : i < 2000000000) (ha : a < 4000000000) :
    zbX rec1 l (a : Int) (i : Int) fuel 0 = if grp x = true then rec1 ((a + 1 : Nat) : Int) ((i + 1 : Nat) : Int) else some false := by
  have key : ∀ (n j : Nat), j ≤ x.length → x.length - j < n → zbX rec1 l (a : Int) (i : Int) n (j : Int) = if (x.drop j).all ze6 = true then (if (decide (1 ≤ x.length) && decide (x.length ≤ 4)) = true then rec1 ((a + 1 : Nat) : Int) ((i + 1 : Nat) : Int) else some false) else some false := by
    intro n
    induction n with
    | zero => intro j _ h; omega
    | succ n ih =>
      intro j hj h
      rw [zbX]
      rw [zc1, hx]
      simp only [Option.bind_some]
      by_cases hlt : j < x.length
      · have e : decide ((j : Int) < (x.length : Int)) = true := decide_eq_true (by omega)
        have hc : x[j]? = some x[j] := List.getElem?_eq_getElem hlt
        rw [e, if_pos rfl, zZ, hc, Option.bind_some, ziH, Option.bind_some, zr (by omega), Option.bind_some, ih (j + 1) (by omega) (by omega), List.drop_eq_getElem_cons hlt, List.all_cons]
        cases ze6 x[j] <;> rfl
      · have hjl : j = x.length := by omega
        subst hjl
        have e : decide ((x.length : Int) < (x.length : Int)) = false := decide_eq_false (by omega)
        have e1 : decide ((x.length : Int) < 1) = !decide (1 ≤ x.length) := by rw [← decide_not]; exact decide_eq_decide.2 (by omega)
        have e2 : decide (4 < (x.length : Int)) = !decide (x.length ≤ 4) := by rw [← decide_not]; exact decide_eq_decide.2 (by omega)
        rw [e, if_neg (by decide), List.drop_length, e1, e2]
        unfold zel zdj
        rw [zr (by omega), Option.bind_some, zr (by omega), Option.bind_some]
        generalize rec1 _ _ = r1
        generalize decide (1 ≤ x.length) = d1
        generalize decide (x.length ≤ 4) = d2
        cases d1 <;> cases d2 <;> rfl
  have := key fuel 0 (Nat.zero_le _) (by unfold fuel; omega)
  rw [show (0 : Int) = ((0 : Nat) : Int) from rfl, this, List.drop_zero]
  unfold grp
  generalize rec1 _ _ = r1
  generalize decide (1 ≤ x.length) = d1
  generalize decide (x.length ≤ 4) = d2
  generalize x.all ze6 = d3
  cases d1 <;> cases d2 <;> cases d3 <;> rfl
def isW (a : Nat) : Option Nat → Bool
  | none => false
  | some k => a + k == 8
theorem ztD (a : Nat) (o : Option Nat) : isW a (o.map (· + 1)) = isW (a + 1) o := by
  cases o with
  | none => rfl
  | some k => simp only [Option.map_some, isW]; congr 1; omega
theorem zjB (l : List Str) (hl : l.length < 1000000000) (hx : ∀ x ∈ l, x.length < 1000000000) : ∀ (n i a : Nat), i ≤ l.length → l.length - i < n → a ≤ 2 * i → zal l n (a : Int) (i : Int) = some (isW a (zN true (l.drop i)))
  | 0, _, _, _, h, _ => by omega
  | n + 1, i, a, hi, h, ha => by
    rw [zal]
    cases hd : l.drop i with
    | nil =>
      have : i = l.length := by have := congrArg List.length hd; simp at this; omega
      subst this
      have e : decide ((l.length : Int) < (l.length : Int)) = false := decide_eq_false (by omega)
      rw [e, if_neg (by decide)]
      show some ((a : Int) == 8) = some (a + 0 == 8)
      congr 1
      by_cases h8 : a = 8
      · subst h8; rfl
      · rw [beq_eq_false_iff_ne.2 (show (a : Int) ≠ 8 by omega), beq_eq_false_iff_ne.2 (show a + 0 ≠ 8 by omega)]
    | cons x t =>
      have hlt : i < l.length := by have := congrArg List.length hd; simp at this; omega
      have hxx : l[i]? = some x := by have := congrArg (·[0]?) hd; simpa using this
      have ht : l.drop (i + 1) = t := by rw [← List.drop_drop, hd]; rfl
      have htl : t.length = l.length - (i + 1) := by rw [← ht]; simp
      have hxl := hx x (List.mem_of_getElem? hxx)
      have hsub : zdb (l.length : Int) 1 = some ((l.length - 1 : Nat) : Int) := by rw [zcn (by omega) (by omega)]; congr 1; omega
      have ih1 := zjB l hl hx n (i + 1) (a + 1) (by omega) (by omega) (by omega)
      have ih2 := zjB l hl hx n (i + 1) (a + 2) (by omega) (by omega) (by omega)
      rw [ht] at ih1 ih2
      have e : decide ((i : Int) < (l.length : Int)) = true := decide_eq_true (by omega)
      have i2 : zE (a : Int) 2 = some ((a + 2 : Nat) : Int) := by rw [za1 (by omega) (by omega)]; simp
      have j2 : ∀ t, zdk (zal l n) l (a : Int) (i : Int) t = if t = true then some (isW (a + 2) (zN true (l.drop (i + 1)))) else if grp x = true then some (isW (a + 1) (zN true (l.drop (i + 1)))) else some false := by
        intro t
        unfold zdk zdj
        rw [i2, Option.bind_some, zr (by omega), Option.bind_some, zqw _ l a i x hxx hxl (by omega) (by omega), ht, ih1, ih2]
      rw [e, if_pos rfl, hsub, Option.bind_some, zc1, hxx, Option.bind_some, zkd x hxl, Option.bind_some, j2, j2, ht]
      cases t with
      | nil =>
        have hei : ((i : Int) == ((l.length - 1 : Nat) : Int)) = true := by simp at htl; simp; omega
        rw [hei, ziJ]
        have en : ∀ b, zN b [] = some 0 := fun _ => rfl
        rw [en]
        cases zff x <;> cases grp x <;> rfl
      | cons y t =>
        have hei : ((i : Int) == ((l.length - 1 : Nat) : Int)) = false := by simp at htl; simp; omega
        rw [hei, zhP]
        have := ztD a (zN true (y :: t))
        have hn : isW a none = false := rfl
        cases grp x <;> simp only [if_true, Bool.false_eq_true, if_false, this, hn]
theorem zqx (s : Str) (hs : s.length < 900000000) : zfo s = some (zfV s) := by
  unfold zfo zfV
  have hl := zd7 58 s
  rw [zg5 s 58 (by omega), Option.bind_some]
  have := zjB (zi 58 s) (by omega) (fun x hx => by have := (zcQ hx).2.1; omega) fuel 0 0 (by omega) (by unfold fuel; omega) (by omega)
  rw [List.drop_zero] at this
  rw [show (0 : Int) = ((0 : Nat) : Int) from rfl, this]
  congr 1
  cases zN true (zi 58 s) with
  | none => rfl
  | some k => simp only [isW, Nat.zero_add]; exact (Option.some_beq_some ..).symm
def zny : Nat → Str → Str
  | 0, s => s
  | k + 1, s => zny k (if s = [] then [48] else s ++ [58, 48])
def zqy (s b : Str) : Str := if b = [] then s else s ++ 58 :: b
theorem zre (p : Str) (l m : List Str) (h : l ≠ []) : zc4 p (l ++ m) = zc4 p l ++ m := by
  cases l with
  | nil => exact absurd rfl h
  | cons x l => rfl
theorem zjC (c : UInt8) : ∀ x y : Str, zi c (x ++ c :: y) = zi c x ++ zi c y
  | [], y => by rw [List.nil_append, zaN, if_pos rfl]; rfl
  | z :: x, y => by
    rw [List.cons_append, zaN, zaN, zjC c x y]
    split
    · rfl
    · rw [zre _ _ _ (zbn c x)]
theorem ziL : ∀ (k : Nat) (s : Str), s ≠ [] → zi 58 (zny k s) = zi 58 s ++ List.replicate k [48]
  | 0, s, _ => by simp [zny]
  | k + 1, s, h => by
    rw [zny, if_neg h, ziL k _ (by simp), show s ++ [58, 48] = s ++ (58 : UInt8) :: [48] from rfl, zjC, List.append_assoc]
    rfl
theorem znz (k : Nat) (s : Str) : zi 58 (zny (k + 1) s) = zaY s ++ List.replicate (k + 1) [48] := by
  unfold zaY
  split
  · rename_i h
    subst h
    rw [zny, if_pos rfl, ziL k _ (by simp)]
    rfl
  · rename_i h
    rw [ziL _ _ h]
theorem zsk : zff [48] = false := by simp [zff, zi]
theorem zqz : grp [48] = true := by decide
theorem zjD (last : Bool) : ∀ k : Nat, zN last (List.replicate (k + 1) [48]) = some (k + 1)
  | 0 => by rw [show List.replicate (0 + 1) ([48] : Str) = [[48]] from rfl, ziJ, zsk, zqz]; cases last <;> rfl
  | k + 1 => by
    have ih := zjD last k
    rw [List.replicate_succ] at ih
    rw [List.replicate_succ, List.replicate_succ, zhP, zqz, ih]
    rfl
def zk9 (k : Nat) (a b : Str) : Bool := match zN false (zaY a), zN true (zaY b) with
  | some x, some y => decide (x + y + k ≤ 8)
  | _, _ => false
def sixE (k : Nat) (a b : Str) : Bool := match zN false (zaY a), zN true (zaY b) with
  | some x, some y => x + y + k == 8
  | _, _ => false
theorem zrf (k : Nat) (a b : Str) : zfV (zqy (zny (k + 1) a) b) = sixE (k + 1) a b := by
  unfold zfV sixE
  have e : zi 58 (zqy (zny (k + 1) a) b) = zaY a ++ (List.replicate (k + 1) [48] ++ zaY b) := by
    unfold zqy
    split
    · rename_i h; subst h; rw [znz]; simp [zaY]
    · rename_i h
      rw [zjC, znz, List.append_assoc]
      congr 2
      unfold zaY; rw [if_neg h]
  rw [e, zkA _ _ _ (by simp [List.replicate_succ])]
  have e2 : zN true (List.replicate (k + 1) [48] ++ zaY b) = (zN true (zaY b)).map (· + (k + 1)) := by
    by_cases hb : zaY b = []
    · rw [hb, List.append_nil, zjD]
      simp [zN]
    · rw [zkA _ _ _ hb, zjD]; rfl
  rw [e2]
  cases zN false (zaY a) with
  | none => rfl
  | some x =>
    cases zN true (zaY b) with
    | none => rfl
    | some y =>
      simp only [Option.bind_some, Option.map_some]
      have : y + (k + 1) + x = x + y + (k + 1) := by omega
      rw [this]
      exact Option.some_beq_some ..
theorem zoI (rec3 : Int → Option Bool) (k : Nat) (t : Str) (ht : t.length < 900000000) (hk : k < 100) : zeJ rec3 (k : Int) t = if zfV t = true then some true else rec3 ((k + 1 : Nat) : Int) := by
  unfold zeJ
  rw [zqx t ht, Option.bind_some, zr (by omega), Option.bind_some]
theorem zlE (rec3 : Int → Option Bool) (s b : Str) (i k : Nat) (hi : i + 2 ≤ s.length) (hs : s.length < 400000000) (hb : s.drop (i + 2) = b) (hk : k < 100) : ∀ (n j : Nat) (t : Str), j ≤ k → k - j < n → t.length ≤ s.length + 2 * j →
    zcl rec3 s (i : Int) (k : Int) n t (j : Int) = if zfV (zqy (zny (k - j) t) b) = true then some true else rec3 ((k + 1 : Nat) : Int)
  | 0, _, _, _, h, _ => by omega
  | n + 1, j, t, hj, h, ht => by
    rw [zcl]
    by_cases hlt : j < k
    · have e : decide ((j : Int) < (k : Int)) = true := decide_eq_true (by omega)
      have hkj : k - j = (k - (j + 1)) + 1 := by omega
      rw [e, if_pos rfl, hkj, zny]
      unfold zfN
      rw [zr (by omega)]
      simp only [Option.bind_some]
      by_cases h0 : t = []
      · subst h0
        have hn : (!(([] : Str) == [])) = false := rfl
        have := zlE rec3 s b i k hi hs hb hk n (j + 1) [48] (by omega) (by omega) (by simp; omega)
        rw [hn, if_neg (by decide), zgn (by simp), Option.bind_some, if_pos rfl]
        exact this
      · have hn : (!(t == [])) = true := by simp [h0]
        have := zlE rec3 s b i k hi hs hb hk n (j + 1) (t ++ [58, 48]) (by omega) (by omega) (by simp; omega)
        rw [hn, if_pos rfl, zgn (by simp; omega), Option.bind_some, zgn (by simp; omega), Option.bind_some, if_neg h0, List.append_assoc]
        exact this
    · have hjk : j = k := by omega
      subst hjk
      have e : decide ((j : Int) < (j : Int)) = false := decide_eq_false (by omega)
      have i2 : zE (i : Int) 2 = some ((i + 2 : Nat) : Int) := by rw [za1 (by omega) (by omega)]; simp
      have hbl : b.length ≤ s.length := by rw [← hb]; simp
      rw [e, if_neg (by decide), Nat.sub_self, zny, i2, Option.bind_some, zan hi, Option.bind_some, hb]
      unfold zqy
      by_cases h0 : b = []
      · subst h0
        have hn : (!(([] : Str) == [])) = false := rfl
        rw [hn, if_neg (by decide), if_pos rfl, zoI rec3 j t (by omega) hk]
      · have hn : (!(b == [])) = true := by simp [h0]
        rw [hn, if_pos rfl, zgn (by simp; omega), Option.bind_some, Option.bind_some, zan hi, Option.bind_some, hb, zgn (by simp; omega), Option.bind_some, if_neg h0, List.append_assoc]
        exact zoI rec3 j (t ++ 58 :: b) (by simp; omega) hk
theorem ztF (k : Nat) (a b : Str) : zk9 k a b = (sixE k a b || zk9 (k + 1) a b) := by
  unfold zk9 sixE
  cases zN false (zaY a) with
  | none => rfl
  | some x =>
    cases zN true (zaY b) with
    | none => rfl
    | some y =>
      show decide (x + y + k ≤ 8) = (x + y + k == 8 || decide (x + y + (k + 1) ≤ 8))
      rw [Bool.eq_iff_iff]
      simp only [decide_eq_true_eq, Bool.or_eq_true, beq_iff_eq]
      omega
theorem zoJ (s b : Str) (i : Nat) (hi : i + 2 ≤ s.length) (hs : s.length < 400000000) (hb : s.drop (i + 2) = b) : ∀ (n k : Nat), k ≤ 8 → 8 - k + 1 < n → zaZ s (i : Int) n ((k + 1 : Nat) : Int) = some (zk9 (k + 1) (s.take i) b)
  | 0, _, _, h => by omega
  | n + 1, k, hk, h => by
    rw [zaZ]
    by_cases hlt : k < 8
    · have e : decide (((k + 1 : Nat) : Int) ≤ 8) = true := decide_eq_true (by omega)
      have ih := zoJ s b i hi hs hb n (k + 1) (by omega) (by omega)
      rw [e, if_pos rfl, zdC (by omega), Option.bind_some]
      have := zlE (zaZ s (i : Int) n) s b i (k + 1) hi hs hb (by omega) fuel 0 (s.take i) (by omega) (by unfold fuel; omega) (by simp; omega)
      rw [Nat.sub_zero] at this
      rw [show (0 : Int) = ((0 : Nat) : Int) from rfl, this, ih, zrf, ztF (k + 1)]
      cases sixE (k + 1) (s.take i) b <;> rfl
    · have : k = 8 := by omega
      subst this
      have e : decide (((8 + 1 : Nat) : Int) ≤ 8) = false := by decide
      rw [e, if_neg (by decide)]
      congr 1
      unfold zk9
      cases zN false (zaY (s.take i)) with
      | none => rfl
      | some x =>
        cases zN true (zaY b) with
        | none => rfl
        | some y => exact (decide_eq_false (by omega)).symm
theorem zuM (a b : Str) : zk9 1 a b = (match zN false (zaY a), zN true (zaY b) with | some a, some b => decide (a + b ≤ 7) | _, _ => false) := by
  unfold zk9
  cases zN false (zaY a) with
  | none => rfl
  | some x =>
    cases zN true (zaY b) with
    | none => rfl
    | some y => exact decide_eq_decide.2 (by omega)
theorem zpw (s : Str) (hs : s.length < 400000000) : zg0 s = some (zoH s) := by
  unfold zg0
  have key : ∀ (n i : Nat), i ≤ s.length → s.length - i < n → zcm s n (i : Int) = some (match zaq [58, 58] (s.drop i) with | none => zfV s | some p => zk9 1 (s.take (i + p.1.length)) p.2) := by
    intro n
    induction n with
    | zero => intro i _ h; omega
    | succ n ih =>
      intro i hi h
      rw [zcm, zr (by omega), Option.bind_some]
      by_cases hlt : i + 1 < s.length
      · have e : decide (((i + 1 : Nat) : Int) < (s.length : Int)) = true := decide_eq_true (by omega)
        have hd : s.drop i = s[i] :: s[i + 1] :: s.drop (i + 2) := by rw [List.drop_eq_getElem_cons (by omega), List.drop_eq_getElem_cons hlt]
        have hd1 : s.drop (i + 1) = s[i + 1] :: s.drop (i + 2) := List.drop_eq_getElem_cons hlt
        have g0 : s[i]? = some s[i] := List.getElem?_eq_getElem (by omega)
        have g1 : s[i + 1]? = some s[i + 1] := List.getElem?_eq_getElem hlt
        have ih1 := ih (i + 1) (by omega) (by omega)
        have hL3 := zoJ s (s.drop (i + 2)) i (by omega) hs rfl fuel 0 (by omega) (by unfold fuel; omega)
        have next : (match zaq [58, 58] (s[i] :: s.drop (i + 1)) with | none => zfV s | some p => zk9 1 (s.take (i + p.1.length)) p.2) = if ([58, 58] : Str).isPrefixOf (s[i] :: s.drop (i + 1)) = true then zk9 1 (s.take i) (s.drop (i + 2)) else (match zaq [58, 58] (s.drop (i + 1)) with | none => zfV s | some p => zk9 1 (s.take (i + 1 + p.1.length)) p.2) := by
          rw [zaq]
          cases ([58, 58] : Str).isPrefixOf (s[i] :: s.drop (i + 1)) with
          | true =>
            rw [if_pos rfl, if_pos rfl]
            show zk9 1 (s.take (i + 0)) (List.drop (1 + 1) (s[i] :: s.drop (i + 1))) = _
            rw [hd1]; rfl
          | false =>
            rw [if_neg (by decide), if_neg (by decide)]
            cases zaq [58, 58] (s.drop (i + 1)) with
            | none => rfl
            | some p =>
              show zk9 1 (s.take (i + (p.1.length + 1))) p.2 = _
              rw [show i + (p.1.length + 1) = i + 1 + p.1.length from by omega]
        rw [e, if_pos rfl, zZ, g0, Option.bind_some, Option.bind_some, zZ, g1, Option.bind_some, List.drop_eq_getElem_cons (show i < s.length by omega), next]
        unfold zfO
        rw [zr (by omega), Option.bind_some, ih1]
        have hp : ([58, 58] : Str).isPrefixOf (s[i] :: s.drop (i + 1)) = (s[i] == 58 && s[i + 1] == 58) := by
          rw [hd1]
          simp only [List.isPrefixOf_cons_cons, List.isPrefixOf_nil_left, Bool.and_true]
          rw [zmM 58, zmM 58]
        rw [hp]
        have hL3' : zaZ s (i : Int) fuel 1 = some (zk9 1 (s.take i) (s.drop (i + 2))) := hL3
        rw [hL3']
        cases s[i] == 58 <;> cases s[i + 1] == 58 <;> rfl
      · have e : decide (((i + 1 : Nat) : Int) < (s.length : Int)) = false := decide_eq_false (by omega)
        rw [e, if_neg (by decide), zqx s (by omega), Option.bind_some]
        have : zaq [58, 58] (s.drop i) = none := by
          cases hd : s.drop i with
          | nil => rfl
          | cons x t =>
            have : t = [] := by have := congrArg List.length hd; simp at this; exact List.eq_nil_of_length_eq_zero (by omega)
            subst this
            rw [zaq]
            simp [List.isPrefixOf, zaq]
        rw [this]
  have := key fuel 0 (Nat.zero_le _) (by unfold fuel; omega)
  rw [List.drop_zero] at this
  rw [show (0 : Int) = ((0 : Nat) : Int) from rfl, this]
  unfold zoH
  congr 1
  cases hc : zaq [58, 58] s with
  | none => rfl
  | some p =>
    have e := zbu (a := p.1) (b := p.2) hc
    have e1 : s.take (0 + p.1.length) = p.1 := by rw [Nat.zero_add, e, List.append_assoc, List.take_left']; rfl
    simp only [e1]
    exact zuM p.1 p.2
end Go.Dm
end
section
namespace Go.Dm
def znj (s : Str) : Str := (s.take (s.length - 1)).drop 1
def ziE (s : Str) : Bool := decide (2 < s.length) && s[0]? == some 91 && s[s.length - 1]? == some 93 && zoH (znj s)
def zeV (s : Str) : Int × Str := if ziE s then (3, znj s) else if zff s then (2, s) else if ziG s then (1, s) else (0, s)
theorem znk (x y : UInt8) : ((some x : Option UInt8) == some y) = (x == y) := Option.some_beq_some ..
theorem zr8 (s : Str) : (znj s).length ≤ s.length := by unfold znj; simp; omega
theorem zkc {β : Type} (s : Str) (hs : s.length < 400000000) (f : Str → Option Bool) (hf : ∀ t, t.length < 400000000 → f t = some (zoH t)) (J : Bool → Option β) :
    (if (decide (2 < (s.length : Int))) then ((sAt s 0).bind fun b6 => if (b6 == 91) then ((zdb (s.length : Int) 1).bind fun i8 => (sAt s i8).bind fun b9 => if (b9 == 93) then ((zdb (s.length : Int) 1).bind fun i11 => (zeC s 1 i11).bind fun s12 => (f s12).bind fun r13 => J r13) else J false) else J false) else J false) = J (ziE s) := by
  unfold ziE
  by_cases h : 2 < s.length
  · have e : decide (2 < (s.length : Int)) = true := decide_eq_true (by omega)
    have e' : decide (2 < s.length) = true := decide_eq_true h
    have g0 : s[0]? = some s[0] := List.getElem?_eq_getElem (by omega)
    have g1 : s[s.length - 1]? = some s[s.length - 1] := List.getElem?_eq_getElem (by omega)
    have i1 : zdb (s.length : Int) 1 = some ((s.length - 1 : Nat) : Int) := by rw [zcn (by omega) (by omega)]; congr 1; omega
    have s1 : zeC s 1 ((s.length - 1 : Nat) : Int) = some (znj s) := zc2 (i := 1) (by omega) (by omega)
    have := zr8 s
    rw [e, e', if_pos rfl, show (0 : Int) = ((0 : Nat) : Int) from rfl, zZ, g0, Option.bind_some, i1, Option.bind_some, zZ, g1, Option.bind_some, Option.bind_some, s1, Option.bind_some, hf _ (by omega), Option.bind_some, znk, znk]
    cases s[0] == 91 <;> cases s[s.length - 1] == 93 <;> rfl
  · rw [decide_eq_false (show ¬ (2 < (s.length : Int)) by omega), decide_eq_false h]; rfl
theorem zjo (s : Str) (hs : s.length < 400000000) : zfk s = some (⟨(zeV s).1, (zeV s).2, -1⟩, !((zeV s).1 == 0)) := by
  unfold zfk
  rw [zkc s hs zeF (fun t ht => Six_eq t (by omega)) (zbU s)]
  unfold zbU zcA zeV
  cases hb : ziE s with
  | true =>
    have h : 2 < s.length := by unfold ziE at hb; simp at hb; exact hb.1.1.1
    have i1 : zdb (s.length : Int) 1 = some ((s.length - 1 : Nat) : Int) := by rw [zcn (by omega) (by omega)]; congr 1; omega
    have s1 : zeC s 1 ((s.length - 1 : Nat) : Int) = some (znj s) := zc2 (i := 1) (by omega) (by omega)
    rw [if_pos rfl, i1, Option.bind_some, s1, Option.bind_some, if_pos rfl]
  | false =>
    rw [if_neg (by decide), zii s (by omega), Option.bind_some, zlv s (by omega), Option.bind_some]
    cases zff s <;> cases ziG s <;> rfl
theorem zl8 (s : Str) (hs : s.length < 400000000) : zif s = some (if (zeV s).1 == 0 then ⟨0, [], 0⟩ else ⟨(zeV s).1, (zeV s).2, -1⟩) := by
  unfold zif
  rw [zkc s hs zg0 zpw (zdu s)]
  unfold zdu zeV
  cases hb : ziE s with
  | true =>
    have h : 2 < s.length := by unfold ziE at hb; simp at hb; exact hb.1.1.1
    have i1 : zdb (s.length : Int) 1 = some ((s.length - 1 : Nat) : Int) := by rw [zcn (by omega) (by omega)]; congr 1; omega
    have s1 : zeC s 1 ((s.length - 1 : Nat) : Int) = some (znj s) := zc2 (i := 1) (by omega) (by omega)
    rw [if_pos rfl, i1, Option.bind_some, s1, Option.bind_some, if_pos rfl]
    rfl
  | false =>
    rw [if_neg (by decide), zkd s (by omega), Option.bind_some, zn7 s (by omega), Option.bind_some]
    cases zff s <;> cases ziG s <;> rfl
def zgy (s : Str) (c : UInt8) : Nat → Option Nat
  | 0 => none
  | k + 1 => if s[k]? = some c then some k else zgy s c k
theorem zjp {s : Str} {c : UInt8} : ∀ {k i : Nat}, zgy s c k = some i → i < k ∧ s[i]? = some c
  | 0, _, h => by cases h
  | k + 1, i, h => by
    rw [zgy] at h
    split at h
    · rename_i h2; cases h; exact ⟨by omega, h2⟩
    · have := zjp h; exact ⟨by omega, this.2⟩
theorem zh9 (s : Str) (c : UInt8) (hs : s.length < 1000000000) : zaC s c = some (match zgy s c s.length with | none => -1 | some k => (k : Int)) := by
  unfold zaC zbi
  have key : ∀ (n k : Nat), k ≤ s.length → k < n → zK s c n ((k : Int) - 1) = some (match zgy s c k with | none => -1 | some j => (j : Int)) := by
    intro n
    induction n with
    | zero => intro k _ h; omega
    | succ n ih =>
      intro k hk h
      rw [zK]
      cases k with
      | zero => rw [decide_eq_false (by omega)]; rfl
      | succ k =>
        have e1 : ((k + 1 : Nat) : Int) - 1 = (k : Int) := by omega
        have g : s[k]? = some s[k] := List.getElem?_eq_getElem (by omega)
        rw [e1, decide_eq_true (show (0 : Int) ≤ (k : Int) by omega), if_pos rfl, zZ, g, Option.bind_some, zcn (by omega) (by omega), Option.bind_some, ih k (by omega) (by omega), zgy, g]
        by_cases hc : s[k] = c
        · have : (s[k] == c) = true := by simp [hc]
          rw [this, if_pos rfl, if_pos (by rw [hc])]
        · have : (s[k] == c) = false := beq_eq_false_iff_ne.2 hc
          rw [this, if_neg (by decide), if_neg (by simpa using hc)]
  rw [zcn (by omega) (by omega), Option.bind_some, key fuel s.length (Nat.le_refl _) (by unfold fuel; omega), Option.bind_some]
def zb2 (s : Str) : api_Host × Int :=
  if !((zeV s).1 == 0) then (⟨(zeV s).1, (zeV s).2, -1⟩, 0) else match zgy s 58 s.length with
  | none => (⟨0, [], 0⟩, 27)
  | some k => if !((zeV (s.take k)).1 == 0) && zda (s.drop (k + 1)) 65535 then (⟨(zeV (s.take k)).1, (zeV (s.take k)).2, (zav 10 (s.drop (k + 1)) 65535).1⟩, 0) else (⟨0, [], 0⟩, 27)
theorem zfD (s : Str) (hs : s.length < 400000000) : zcB s = some (zb2 s) := by
  unfold zcB zb2
  rw [zjo s hs, Option.bind_some]
  cases !((zeV s).1 == 0) with
  | true => rfl
  | false =>
    show (if false = true then _ else _) = some (if false = true then _ else _)
    rw [if_neg (by decide), if_neg (by decide), zh9 s 58 (by omega), Option.bind_some]
    cases hl : zgy s 58 s.length with
    | none => rfl
    | some k =>
      have hk := (zjp hl).1
      show (if decide ((k : Int) < 0) = true then _ else _) = _
      rw [decide_eq_false (show ¬ ((k : Int) < 0) by omega), if_neg (by decide), zdC (by omega), Option.bind_some, zjo _ (by simp; omega), Option.bind_some]
      unfold zcT
      rw [zr (by omega), Option.bind_some, zan (by omega), Option.bind_some, Option.bind_some, zan (by omega), Option.bind_some, zhK _ _ (by simp; omega) (by decide) (by decide), Option.bind_some, zfi _ _ (by simp; omega) (by decide) (by decide), Option.bind_some]
      dsimp only
      cases (zeV (s.take k)).1 == 0 <;> cases zda (s.drop (k + 1)) 65535 <;> rfl
theorem zhf (s : Str) (hs : s.length < 400000000) : zdv s = some (zb2 s) := by
  unfold zdv zb2
  have key : ∀ (n k : Nat), k ≤ s.length → k < n → zcE s n ((k : Int) - 1) = some (match zgy s 58 k with
      | none => (⟨0, [], 0⟩, 27)
      | some k => if !((zeV (s.take k)).1 == 0) && zda (s.drop (k + 1)) 65535 then (⟨(zeV (s.take k)).1, (zeV (s.take k)).2, (zav 10 (s.drop (k + 1)) 65535).1⟩, 0) else (⟨0, [], 0⟩, 27)) := by
    intro n
    induction n with
    | zero => intro k _ h; omega
    | succ n ih =>
      intro k hk h
      rw [zcE]
      cases k with
      | zero => rw [decide_eq_false (by omega)]; rfl
      | succ k =>
        have e1 : ((k + 1 : Nat) : Int) - 1 = (k : Int) := by omega
        have g : s[k]? = some s[k] := List.getElem?_eq_getElem (by omega)
        rw [e1, decide_eq_true (show (0 : Int) ≤ (k : Int) by omega), if_pos rfl, zZ, g, Option.bind_some, zcn (by omega) (by omega), Option.bind_some, ih k (by omega) (by omega), zgy, g]
        by_cases hc : s[k] = 58
        · have : (s[k] == 58) = true := by simp [hc]
          rw [this, if_neg (by decide), if_pos (by rw [hc]), zdC (by omega), Option.bind_some, zl8 _ (by simp; omega), Option.bind_some, zr (by omega), Option.bind_some, zan (by omega), Option.bind_some, zjt _ _ (by simp; omega) (by decide) (by decide), Option.bind_some]
          unfold zem
          dsimp only
          cases h0 : (zeV (s.take k)).1 == 0 with
          | true => rfl
          | false =>
            simp only [Bool.false_eq_true, if_false, h0, Bool.not_false, Bool.true_and]
            cases hsm : zda (s.drop (k + 1)) 65535 with
            | false => rfl
            | true =>
              have h2 : (zav 10 (s.drop (k + 1)) 65535).2 = 0 := by unfold zda at hsm; simp at hsm; exact hsm.1
              have h3 := (zih h2 (by decide)).1
              simp only [if_true]
              rw [decide_eq_false (by omega)]; rfl
        · have : (s[k] == 58) = false := beq_eq_false_iff_ne.2 hc
          rw [this, Bool.not_false, if_pos rfl, if_neg (by simpa using hc)]
  rw [zl8 s hs, Option.bind_some]
  cases h0 : (zeV s).1 == 0 with
  | true =>
    simp only [if_true, beq_self_eq_true, Bool.not_true, Bool.false_eq_true, if_false]
    rw [zcn (by omega) (by omega), Option.bind_some, key fuel s.length (Nat.le_refl _) (by unfold fuel; omega)]
  | false =>
    simp only [Bool.false_eq_true, if_false, h0, Bool.not_false, if_true]
end Go.Dm
end
section
namespace Go.Dm
def pqL (more : Str) : Str → Bool
  | [] => true
  | c :: s => if c == 37 then (match s with
    | a :: b :: r => ze6 a && ze6 b && pqL more r
    | _ => false) else (zkY c || more.contains c) && pqL more s
theorem zrC (more s : Str) : pqL more (37 :: s) = (match s with | a :: b :: r => ze6 a && ze6 b && pqL more r | _ => false) := by
  rw [pqL.eq_def]
  match s with
  | [] => rfl
  | [_] => rfl
  | _ :: _ :: _ => rfl
theorem zrD (more : Str) (c : UInt8) (s : Str) (h : (c == 37) = false) : pqL more (c :: s) = ((zkY c || more.contains c) && pqL more s) := by
  rw [pqL.eq_def]; simp only [h, Bool.false_eq_true, if_false]
theorem zut (l : Str) (c : UInt8) : decide (0 ≤ zgS l c 0) = l.contains c := zq4 l c 0
theorem zl5 (rec1 : Int → Option Bool) (i : Nat) (hi : i < 4000000000) : zfl rec1 (i : Int) = rec1 ((i + 1 : Nat) : Int) := by
  unfold zfl; rw [zr (by omega), Option.bind_some]
theorem zql (rec1 : Int → Option Bool) (i : Nat) (t : Bool) (hi : i < 3000000000) : zdr rec1 (i : Int) t = if t = true then rec1 ((i + 3 : Nat) : Int) else some false := by
  unfold zdr
  have i2 : zE (i : Int) 2 = some ((i + 2 : Nat) : Int) := by rw [za1 (by omega) (by omega)]; simp
  rw [i2, Option.bind_some, zl5 rec1 (i + 2) (by omega)]
theorem zl6 (s more : Str) (hs : s.length < 1000000000) (hm : more.contains 37 = false) : zia s more = some (pqL more s) := by
  unfold zia
  have key : ∀ (n i : Nat), i ≤ s.length → s.length - i < n → zbc s more n (i : Int) = some (pqL more (s.drop i)) := by
    intro n
    induction n with
    | zero => intro i _ h; omega
    | succ n ih =>
      intro i hi h
      rw [zbc]
      cases hd : s.drop i with
      | nil =>
        have : i = s.length := by have := congrArg List.length hd; simp at this; omega
        subst this
        simp only [Int.lt_irrefl, decide_false, Bool.false_eq_true, if_false, pqL]
      | cons c t =>
        have hlt : i < s.length := by have := congrArg List.length hd; simp at this; omega
        have hx : s[i]? = some c := by have := congrArg (·[0]?) hd; simpa using this
        have ht : s.drop (i + 1) = t := by rw [← List.drop_drop, hd]; rfl
        have htl : t.length = s.length - (i + 1) := by rw [← ht]; simp
        have i2 : zE (i : Int) 2 = some ((i + 2 : Nat) : Int) := by rw [za1 (by omega) (by omega)]; simp
        have i3 : zE (i : Int) 3 = some ((i + 3 : Nat) : Int) := by rw [za1 (by omega) (by omega)]; simp
        have hih := ih (i + 1) (by omega) (by omega)
        rw [ht] at hih
        have j4 := zl5 (zbc s more n) i (by omega)
        have j3 := zql (zbc s more n) i
        simp only [Int.ofNat_lt, hlt, decide_true, if_true, zZ, hx, Option.bind_some, zmn, strings_IndexByte, zut, zgz, j4, hih]
        rcases zbN (c == 37) with hc | hc
        · have : c = 37 := by simpa using hc
          subst this
          have hp : zkY 37 = false := by decide
          rw [zrC, hp, hm]
          simp only [Bool.false_eq_true, if_false, beq_self_eq_true, if_true, i2, Option.bind_some, zr (show i < 4611686018427387904 by omega), i3]
          match t, ht, htl with
          | [], ht, htl =>
            have : ¬ ((i + 2 : Nat) : Int) < (s.length : Int) := by simp at htl; omega
            simp only [this, decide_false, Bool.false_eq_true, if_false, j3 false (by omega)]
          | [a], ht, htl =>
            have : ¬ ((i + 2 : Nat) : Int) < (s.length : Int) := by simp at htl; omega
            simp only [this, decide_false, Bool.false_eq_true, if_false, j3 false (by omega)]
          | a :: b :: r, ht, htl =>
            have hlt2 : ((i + 2 : Nat) : Int) < (s.length : Int) := by simp at htl; omega
            have hr : s.drop (i + 3) = r := by
              have : (s.drop (i + 1)).drop 2 = r := by rw [ht]; rfl
              rwa [List.drop_drop] at this
            have hi3 : i + 3 ≤ s.length := by simp at htl; omega
            have hih := ih (i + 3) hi3 (by omega)
            rw [hr] at hih
            have hsub : zeC s ((i + 1 : Nat) : Int) ((i + 3 : Nat) : Int) = some [a, b] := by
              rw [zc2 (by omega) hi3, List.drop_take, ht]
              have : i + 3 - (i + 1) = 2 := by omega
              rw [this]; rfl
            simp only [hlt2, decide_true, if_true, hsub, Option.bind_some, zdY zhx [a, b] (by simp), j3 _ (show i < 3000000000 by omega), hih]
            cases ha : ze6 a <;> cases hb : ze6 b <;> simp [ha, hb]
        · rw [zrD more c t hc, hc]
          cases zkY c <;> cases hq : more.contains c <;> simp [zdr]
  have := key fuel 0 (Nat.zero_le _) (by unfold fuel; omega)
  simpa using this
theorem zl7 (s more : Str) (hs : s.length < 1000000000) (hm : more.length < 1000000000) : zjr s more = some (pqL more s) := by
  unfold zjr
  have key : ∀ (n : Nat) (s : Str), s.length < n → s.length < 1000000000 → zdz n s more = some (pqL more s) := by
    intro n
    induction n with
    | zero => intro s h; omega
    | succ n ih =>
      intro s h hs
      rw [zdz]
      cases s with
      | nil => simp [pqL]
      | cons c s =>
        have h1 : ((c :: s == ([] : Str))) = false := rfl
        have e1 : zbD (c :: s) 1 = some s := by
          have := zan (l := c :: s) (i := 1) (by simp)
          simpa using this
        simp only [List.length_cons] at h hs
        simp only [h1, Bool.false_eq_true, if_false, zjx, List.getElem?_cons_zero, Option.bind_some, zn9, zqm _ more hm, zfp, e1, ih s (by omega) (by omega)]
        rcases zbN (c == 37) with hc | hc
        · have : c = 37 := by simpa using hc
          subst this
          rw [zrC]
          match s, h, hs with
          | [], _, _ => simp [zcX]
          | [a], _, _ => simp [zcX]
          | a :: b :: r, h, hs =>
            have h2 : (2 : Int) < ((37 :: a :: b :: r : Str).length : Int) := by simp only [List.length_cons]; omega
            have e3 : zbD (37 :: a :: b :: r) 3 = some r := by
              have := zan (l := 37 :: a :: b :: r) (i := 3) (by simp)
              simpa using this
            have a1 : sAt (37 :: a :: b :: r) 1 = some a := by simp
            have a2 : sAt (37 :: a :: b :: r) 2 = some b := by simp
            simp only [List.length_cons] at h hs
            simp only [h2, decide_true, if_true, beq_self_eq_true, a1, a2, Option.bind_some, ziH, zcX, e3, ih r (by omega) (by omega)]
            cases ha : ze6 a <;> cases hb : ze6 b <;> simp [ha, hb]
        · rw [zrD more c s hc, hc]
          cases zkY c <;> cases more.contains c <;> simp
  exact key fuel s (zpq (by omega)) hs
def zd2 (s : Str) : Bool := (([47] : Str).isPrefixOf s) && pqL [47] s
def zd3 (s : Str) : Bool := pqL [47, 63] s
theorem zn4 (s : Str) (hs : s.length < 1000000000) : zhi s = some (zd2 s) := by
  unfold zhi zd2
  rw [zd8 s [47] hs, Option.bind_some, zl6 s [47] hs (by decide), Option.bind_some]
  cases ([47] : Str).isPrefixOf s <;> simp [zeY]
theorem znh (s : Str) (hs : s.length < 1000000000) : zgA s = some (zd3 s) := by
  unfold zgA zd3
  rw [zl6 s [47, 63] hs (by decide), Option.bind_some]
theorem zn5 (s : Str) (hs : s.length < 1000000000) : zhw s = some (zd2 s) := by
  unfold zhw zd2
  rw [zl7 s [47] hs (by decide)]
  cases s with
  | nil => rfl
  | cons c s =>
    have h2 : (0 : Int) < ((c :: s : Str).length : Int) := by simp only [List.length_cons]; omega
    simp only [h2, decide_true, if_true, zjx, List.getElem?_cons_zero, Option.bind_some, zdV, List.isPrefixOf_cons_cons, List.isPrefixOf_nil_left, Bool.and_true]
    rcases zbN (c == 47) with h | h
    · have : c = 47 := by simpa using h
      subst this; simp
    · have : ((47 : UInt8) == c) = false := by rw [beq_eq_false_iff_ne] at h ⊢; exact fun e => h e.symm
      rw [h, this]; simp
theorem zjn (s : Str) (hs : s.length < 1000000000) : zfq s = some (zd3 s) := by
  unfold zfq zd3
  rw [zl7 s [47, 63] hs (by decide), Option.bind_some]
theorem zr7 (c : UInt8) : ∀ s : Str, Go.Lib.index s [c] = if zaf [c] s = [] then -1 else ((upto [c] s).length : Int) := by
  intro s
  induction s with
  | nil => rfl
  | cons x s ih =>
    by_cases h : x = c
    · subst h
      rw [zj1, zgr (by simp), zgq (by simp)]; simp
    · rw [zj0 h, ih]
      have hx : ([c] : Str).contains x = false := by simp [h]
      rw [zgt hx, zgs hx]
      split
      · rfl
      · rename_i h2
        rw [if_neg (by omega)]
        simp
def zO (c : UInt8) (s : Str) : Str × Str × Bool := (upto [c] s, (zaf [c] s).drop 1, !(zaf [c] s == []))
theorem ziZ (s : Str) (c : UInt8) (hs : s.length < 1000000000) : strings_Cut s [c] = some (zO c s) := by
  unfold strings_Cut Go.Lib.cut zO
  rw [if_pos (by omega), zr7]
  congr 1
  by_cases h2 : zaf [c] s = []
  · rw [if_pos h2, if_neg (by omega)]
    have e := zbH [c] s
    rw [h2, List.append_nil] at e
    rw [h2, e]; rfl
  · have h3 : (zaf [c] s == []) = false := beq_eq_false_iff_ne.2 h2
    rw [h3, if_neg h2, if_pos (by omega)]
    have e : s.drop ((upto [c] s).length + 1) = (zaf [c] s).drop 1 := by rw [← List.drop_drop, zf8]
    simp only [Int.toNat_natCast, zh5, List.length_singleton, e, Bool.not_false]
theorem zni (c : UInt8) (s : Str) (h : (zO c s).2.2 = true) : (zO c s).1 ++ c :: (zO c s).2.1 = s := by
  have e := zbH [c] s
  unfold zO at h ⊢
  simp only [Bool.not_eq_true', beq_eq_false_iff_ne] at h
  cases hf : zaf [c] s with
  | nil => exact absurd hf h
  | cons x r =>
    have := zjN hf
    have hx : x = c := by simpa using this
    subst hx
    rw [hf] at e
    simpa [hf] using e
theorem ziD (c : UInt8) (s : Str) (h : (zO c s).2.2 = false) : zO c s = (s, [], false) := by
  have e := zbH [c] s
  unfold zO at h ⊢
  simp only [Bool.not_eq_false', beq_iff_eq] at h
  rw [h, List.append_nil] at e
  rw [h, e]; rfl
theorem zjP (c : UInt8) (s : Str) : (zO c s).1.length ≤ s.length ∧ (zO c s).2.1.length ≤ s.length := by
  have e := congrArg List.length (zbH [c] s)
  rw [List.length_append] at e
  unfold zO
  simp only [List.length_drop]
  omega
def zn6 (s : Str) : Str × Str × Bool × Int :=
  if zd2 (zO 63 s).1 && zd3 (zO 63 s).2.1 then ((zO 63 s).1, (zO 63 s).2.1, (zO 63 s).2.2, 0) else ([], [], false, 2)
theorem zkW (s : Str) (hs : s.length < 1000000000) : zib s = some (zn6 s) := by
  unfold zib zn6
  have := zjP 63 s
  rw [ziZ s 63 hs, Option.bind_some, zn4 _ (by omega), Option.bind_some, znh _ (by omega), Option.bind_some]
  cases zd2 (zO 63 s).1 <;> cases zd3 (zO 63 s).2.1 <;> simp [zfJ]
end Go.Dm
end
section
namespace Go.Dm
def zox : api_Target := ⟨0, [], ⟨0, [], 0⟩, [], [], false⟩
def ziX (t : api_Target) (s : Str) : api_Target × Bool :=
  if s = [] then (t, true) else
    (⟨t.Kind, t.Scheme, t.Host, if s.head? == some 63 then [] else (zn6 s).1, (zn6 (if s.head? == some 63 then 47 :: s else s)).2.1, (zn6 (if s.head? == some 63 then 47 :: s else s)).2.2.1⟩, (zn6 (if s.head? == some 63 then 47 :: s else s)).2.2.2 == 0)
theorem zjl (t : api_Target) (s : Str) (hs : s.length < 900000000) : zfm t s = some (ziX t s) := by
  unfold zfm ziX
  cases s with
  | nil => rfl
  | cons c r =>
    have h1 : ((c :: r == ([] : Str))) = false := rfl
    rw [h1, if_neg (by decide), if_neg (by simp), show (0 : Int) = ((0 : Nat) : Int) from rfl, zZ, List.getElem?_cons_zero, Option.bind_some, List.head?_cons, Option.some_beq_some]
    unfold zec zeb
    simp only [List.length_cons] at hs
    cases hc : c == 63 with
    | true =>
      rw [if_pos rfl, if_pos rfl, zgn (by simp only [List.length_cons, List.length_nil]; omega), Option.bind_some, show ([47] : Str) ++ c :: r = 47 :: c :: r from rfl, zkW _ (by simp only [List.length_cons]; omega), Option.bind_some]
      rfl
    | false =>
      rw [if_neg (by decide), if_neg (by decide), zkW _ (by simp only [List.length_cons]; omega), Option.bind_some, if_neg (by decide)]
      rfl
def ziY : Str := [104, 116, 116, 112]
def zgM : Str := [104, 116, 116, 112, 115]
def zqk (s : Str) : api_Target × Bool := match zaq [58, 47, 47] s with
  | none => (⟨2, low s, ⟨0, [], 0⟩, [], [], false⟩, false)
  | some p => if low p.1 == ziY || low p.1 == zgM then
      (if (zb2 (upto [47, 63] p.2)).2 == 0 then ziX ⟨2, low p.1, (zb2 (upto [47, 63] p.2)).1, [], [], false⟩ (zaf [47, 63] p.2) else (⟨2, low p.1, ⟨0, [], 0⟩, [], [], false⟩, false))
    else (⟨2, low p.1, ⟨0, [], 0⟩, [], [], false⟩, false)
theorem znf (a b c : Str) (q : Bool) (hb : b.length < 300000000) : zbL (a, b, q) c ((upto [47, 63] b).length : Int) = some (if (zb2 (upto [47, 63] b)).2 == 0 then ziX ⟨2, c, (zb2 (upto [47, 63] b)).1, [], [], false⟩ (zaf [47, 63] b) else (⟨2, c, ⟨0, [], 0⟩, [], [], false⟩, false)) := by
  unfold zbL
  have hu := ziu [47, 63] b
  have hf : (zaf [47, 63] b).length ≤ b.length := by
    have := congrArg List.length (zbH [47, 63] b); rw [List.length_append] at this; omega
  dsimp only
  rw [zdC hu, Option.bind_some, zh5, zfD _ (by omega), Option.bind_some, zan hu, Option.bind_some, zf8, zjl _ _ (by omega), Option.bind_some]
  cases (zb2 (upto [47, 63] b)).2 == 0 <;> rfl
theorem zkw (s : Str) (hs : s.length < 300000000) : zdI s = some (zqk s) := by
  unfold zdI zqk
  rw [zjA s _ (by omega) (by simp), Option.bind_some]
  cases hc : zaq [58, 47, 47] s with
  | none =>
    dsimp only
    rw [zgl s (by omega), Option.bind_some]
    rfl
  | some p =>
    have e := congrArg List.length (zbu (a := p.1) (b := p.2) hc)
    simp only [List.length_append, List.length_cons, List.length_nil] at e
    have hu := ziu [47, 63] p.2
    dsimp only
    rw [zgl p.1 (by omega), Option.bind_some]
    have hj : zas (p.1, p.2, true) (low p.1) false = some (if (zb2 (upto [47, 63] p.2)).2 == 0 then ziX ⟨2, low p.1, (zb2 (upto [47, 63] p.2)).1, [], [], false⟩ (zaf [47, 63] p.2) else (⟨2, low p.1, ⟨0, [], 0⟩, [], [], false⟩, false)) := by
      unfold zas
      rw [if_neg (by decide)]
      dsimp only
      rw [zgP p.2 [47, 63] (by omega) (by decide) (by decide), Option.bind_some]
      have hj2 := znf p.1 p.2 (low p.1) true (by omega)
      by_cases h0 : zaf [47, 63] p.2 = []
      · rw [if_pos h0, decide_eq_true (by omega), if_pos rfl]
        rw [(zcR _ _).1 h0] at hj2
        exact hj2
      · rw [if_neg h0, decide_eq_false (by omega), if_neg (by decide)]
        exact hj2
    have hj0 : zas (p.1, p.2, true) (low p.1) true = some (⟨2, low p.1, ⟨0, [], 0⟩, [], [], false⟩, false) := rfl
    rw [hj, hj0, if_neg (by decide)]
    show (if (!(low p.1 == ziY)) = true then zas (p.1, p.2, true) (low p.1) (!(low p.1 == zgM)) else _) = _
    cases low p.1 == ziY with
    | true => rfl
    | false =>
      cases low p.1 == zgM with
      | true => rw [Bool.not_false, if_pos rfl, Bool.not_true, hj]; rfl
      | false => rw [Bool.not_false, if_pos rfl, hj0]; rfl
def zng : Str := [79, 80, 84, 73, 79, 78, 83]
def zjm : Str := [67, 79, 78, 78, 69, 67, 84]
def ofT (m s : Str) : api_Target × Bool := if s == [42] then (⟨4, [], ⟨0, [], 0⟩, [], [], false⟩, m == zng) else if ([47] : Str).isPrefixOf s then ziX ⟨1, [], ⟨0, [], 0⟩, [], [], false⟩ s else zqk s
theorem zpg (m s : Str) (hs : s.length < 300000000) : zic m s = some (ofT m s) := by
  unfold zic ofT
  rw [zd8 s [47] (by omega), Option.bind_some, zkw s hs, Option.bind_some, zjl _ s (by omega), Option.bind_some]
  cases s == [42] <;> cases ([47] : Str).isPrefixOf s <;> rfl
def zhe (m s : Str) : api_Target × Int :=
  if m == zjm then (if (zb2 s).2 == 0 && !decide ((zb2 s).1.Port < 0) then (⟨3, [], (zb2 s).1, [], [], false⟩, 0) else (zox, 20))
  else if (ofT m s).2 then ((ofT m s).1, 0) else (zox, 20)
theorem zmm (m s : Str) (hs : s.length < 300000000) : zfK m s = some (zhe m s) := by
  unfold zfK zhe zdJ
  rw [zfD s (by omega), Option.bind_some, zpg m s hs, Option.bind_some]
  show (if (m == zjm) = true then _ else _) = _
  cases m == zjm <;> cases (zb2 s).2 == 0 <;> cases decide ((zb2 s).1.Port < 0) <;> cases (ofT m s).2 <;> rfl
end Go.Dm
end
section
namespace Go.Dm
theorem zqP (c : UInt8) (s : Str) : (zO c s).1 ++ (if (zO c s).2.2 = true then c :: (zO c s).2.1 else []) = s := by
  rcases zbN (zO c s).2.2 with h | h
  · rw [if_pos h]; exact zni c s h
  · rw [if_neg (by rw [h]; decide), ziD c s h, List.append_nil]
theorem zo0 {s : Str} (h : zd2 s = true) : ∃ r, s = 47 :: r := by
  unfold zd2 at h
  simp only [Bool.and_eq_true] at h
  obtain ⟨r, hr⟩ := List.isPrefixOf_iff_prefix.1 h.1
  exact ⟨r, hr.symm⟩
def zsM : api_Target := ⟨1, [], ⟨0, [], 0⟩, [], [], false⟩
end Go.Dm
end
section
namespace Go.Dm
theorem znW (s : Str) (hs : s.length < 1000000000) : zhu s = some ((upto [63] s).length : Int) := by
  unfold zhu
  have key : ∀ (n i : Nat), i ≤ s.length → s.length - i < n → zbS s n (i : Int) = some ((i + (upto [63] (s.drop i)).length : Nat) : Int) := by
    intro n
    induction n with
    | zero => intro i _ h; omega
    | succ n ih =>
      intro i hi h
      rw [zbS]
      unfold ze4
      rw [zr (by omega), Option.bind_some]
      by_cases hlt : i < s.length
      · have g : s[i]? = some s[i] := List.getElem?_eq_getElem hlt
        rw [decide_eq_true (show (i : Int) < (s.length : Int) by omega), if_pos rfl, zZ, g, Option.bind_some, ih (i + 1) (by omega) (by omega), List.drop_eq_getElem_cons hlt]
        by_cases hc : s[i] = 63
        · have h1 : (s[i] == 63) = true := by simp [hc]
          rw [h1, if_neg (by decide), zgq (by simp [hc])]; rfl
        · have h1 : (s[i] == 63) = false := beq_eq_false_iff_ne.2 hc
          rw [h1, Bool.not_false, if_pos rfl, zgs (by simp [hc])]
          congr 2
          simp only [List.length_cons]; omega
      · have : i = s.length := by omega
        subst this
        rw [decide_eq_false (show ¬ ((s.length : Int) < (s.length : Int)) by omega), if_neg (by decide), List.drop_length]
        rfl
  have := key fuel 0 (Nat.zero_le _) (by unfold fuel; omega)
  rw [List.drop_zero, Nat.zero_add] at this
  exact this
theorem ziT (t : api_Target) (s : Str) (hq : t.Query = []) (hs : s.length < 900000000) : zeK t s =
    some (⟨t.Kind, t.Scheme, t.Host, (zO 63 s).1, (zO 63 s).2.1, (zO 63 s).2.2⟩, zd2 (zO 63 s).1 && zd3 (zO 63 s).2.1) := by
  unfold zeK
  have hu := ziu [63] s
  have hl := zjP 63 s
  have e1 : (zO 63 s).1 = upto [63] s := rfl
  rw [znW s (by omega), Option.bind_some, zdC hu, Option.bind_some, zh5]
  have hj : ∀ q : Str, q.length < 900000000 → zcP t s ((upto [63] s).length : Int) (upto [63] s) q = some (⟨t.Kind, t.Scheme, t.Host, upto [63] s, q, decide ((upto [63] s).length < s.length)⟩, zd2 (upto [63] s) && zd3 q) := by
    intro q hq
    unfold zcP zdK
    rw [zn5 _ (by omega), Option.bind_some, zjn q (by omega), Option.bind_some]
    have : decide (((upto [63] s).length : Int) < (s.length : Int)) = decide ((upto [63] s).length < s.length) := decide_eq_decide.2 (by omega)
    rw [this]
    cases zd2 (upto [63] s) <;> rfl
  by_cases h0 : zaf [63] s = []
  · have hn := (zcR _ _).1 h0
    have hc : (zO 63 s).2.2 = false := by unfold zO; rw [h0]; rfl
    rw [decide_eq_false (by omega), if_neg (by decide), hj _ (by rw [hq]; simp), hq, ziD 63 s hc, decide_eq_false (by omega)]
    have : upto [63] s = s := by have := zbH [63] s; rw [h0, List.append_nil] at this; exact this
    rw [this]
  · have hn : (upto [63] s).length < s.length := by
      have : ¬ (upto [63] s).length = s.length := fun h => h0 ((zcR _ _).2 h)
      omega
    have hc : (zO 63 s).2.2 = true := by unfold zO; simp [h0]
    have hd : s.drop ((upto [63] s).length + 1) = (zO 63 s).2.1 := by rw [← List.drop_drop, zf8]; rfl
    rw [decide_eq_true (by omega), if_pos rfl, zr (by omega), Option.bind_some, zan (by omega), Option.bind_some, hd, hj _ (by omega), decide_eq_true hn, hc, e1]
theorem zrW (c : UInt8) : (zdB c == 58) = (c == 58) :=
  eq_of_beq (zP (fun c => (zdB c == 58) == (c == 58)) (by decide +kernel) c)
theorem zoj (c : UInt8) : (zdB c == 47) = (c == 47) :=
  eq_of_beq (zP (fun c => (zdB c == 47) == (c == 47)) (by decide +kernel) c)
theorem zlQ {c : UInt8} {t : Str} : ∀ {a b : Str}, c ∉ a → zaq (c :: t) (a ++ (c :: t) ++ b) = some (a, b)
  | [], b, _ => by
    show zaq (c :: t) (c :: (t ++ b)) = _
    rw [zaq, if_pos (by simp [List.isPrefixOf_iff_prefix])]
    simp
  | x :: a, b, h => by
    have hx : c ≠ x := fun e => h (by simp [e])
    show zaq (c :: t) (x :: (a ++ (c :: t) ++ b)) = _
    have hp : (c :: t).isPrefixOf (x :: (a ++ (c :: t) ++ b)) = false := by
      rw [List.isPrefixOf_cons_cons, beq_eq_false_iff_ne.2 hx, Bool.false_and]
    rw [zaq, hp, if_neg (by decide), zlQ (fun hm => h (by simp [hm]))]
    rfl
theorem zmI (a b : Str) : low (a ++ b) = low a ++ low b := by simp [low]
theorem zud {u : Str} (h : low u = [58, 47, 47]) : u = [58, 47, 47] := by
  match u, h with
  | [a, b, c], h =>
    simp only [low, List.map_cons, List.map_nil, List.cons.injEq, and_true] at h
    obtain ⟨h1, h2, h3⟩ := h
    have g1 : a = 58 := by have := zrW a; rw [h1] at this; simpa using this.symm
    have g2 : b = 47 := by have := zoj b; rw [h2] at this; simpa using this.symm
    have g3 : c = 47 := by have := zoj c; rw [h3] at this; simpa using this.symm
    rw [g1, g2, g3]
  | [], h => simp [low] at h
  | [_], h => simp [low] at h
  | [_, _], h => simp [low] at h
  | _ :: _ :: _ :: _ :: _, h => simp [low] at h
theorem zqQ (sc s : Str) (hsc : (58 : UInt8) ∉ sc) : (sc.length + 3 ≤ s.length ∧ low (s.take (sc.length + 3)) = sc ++ [58, 47, 47]) ↔ ∃ a, zaq [58, 47, 47] s = some (a, s.drop (sc.length + 3)) ∧ low a = sc := by
  constructor
  · rintro ⟨h1, h2⟩
    have e : s = s.take sc.length ++ (s.drop sc.length).take 3 ++ s.drop (sc.length + 3) := by
      rw [List.append_assoc, ← List.drop_drop, List.take_append_drop, List.take_append_drop]
    have e2 : s.take (sc.length + 3) = s.take sc.length ++ (s.drop sc.length).take 3 := List.take_add
    rw [e2, zmI] at h2
    obtain ⟨g1, g2⟩ := List.append_inj h2 (by simp [low]; omega)
    have g3 := zud g2
    have hn : (58 : UInt8) ∉ s.take sc.length := fun hm => by
      have : (58 : UInt8) ∈ low (s.take sc.length) := List.mem_map.2 ⟨58, hm, by decide⟩
      rw [g1] at this; exact hsc this
    refine ⟨s.take sc.length, ?_, g1⟩
    have := zlQ (t := [47, 47]) (b := s.drop (sc.length + 3)) hn
    rw [← g3, ← e, g3] at this
    exact this
  · rintro ⟨a, h1, h2⟩
    have e := zbu h1
    have hal : a.length = sc.length := by rw [← h2]; simp [low]
    have hl : sc.length + 3 ≤ s.length := by have := congrArg List.length e; simp at this; omega
    refine ⟨hl, ?_⟩
    have : s.take (sc.length + 3) = a ++ [58, 47, 47] := by
      rw [e, List.take_left']
      simp [hal]
    rw [this, zmI, h2]
    rfl
def ziv (r : api_Target × Bool) : api_Target × Int := if r.2 then (r.1, 0) else (zox, 20)
def ziw (sc r : Str) : api_Target × Int := if (zb2 (upto [47, 63] r)).2 == 0 then ziv (ziX ⟨2, sc, (zb2 (upto [47, 63] r)).1, [], [], false⟩ (zaf [47, 63] r)) else (zox, 20)
theorem zue (q : Str) : zO 63 (47 :: 63 :: q) = ([47], q, true) := by
  unfold zO
  rw [zgs (by decide), zgt (by decide), zgq (by decide), zgr (by decide)]
  rfl
theorem cutQ_q (q : Str) : zn6 (47 :: 63 :: q) = if zd3 q then ([47], q, true, 0) else ([], [], false, 2) := by
  unfold zn6
  rw [zue]
  have : zd2 [47] = true := by decide
  rw [this, Bool.true_and]
theorem zlR (rec5 : Int → Option (api_Target × Int)) (sc r : Str) (hr : r.length < 300000000) : zbY rec5 sc r ((upto [47, 63] r).length : Int) false = some (ziw sc r) := by
  unfold zbY ziw
  have hu := ziu [47, 63] r
  rw [if_neg (by decide), zdC hu, Option.bind_some, zh5, zhf _ (by omega), Option.bind_some]
  cases (zb2 (upto [47, 63] r)).2 == 0 with
  | false => rfl
  | true =>
    rw [Bool.not_true, if_neg (by decide), if_pos rfl]
    cases hf : zaf [47, 63] r with
    | nil =>
      have hn := (zcR _ _).1 hf
      rw [hn, beq_self_eq_true, if_pos rfl]
      rfl
    | cons c t =>
      have hne : zaf [47, 63] r ≠ [] := by rw [hf]; simp
      have hlt : (upto [47, 63] r).length < r.length := by
        have : ¬ (upto [47, 63] r).length = r.length := fun h => hne ((zcR _ _).2 h)
        omega
      have hd := zf8 [47, 63] r
      rw [hf] at hd
      have g : r[(upto [47, 63] r).length]? = some c := by have := congrArg (·[0]?) hd; simpa using this
      have hd1 : r.drop ((upto [47, 63] r).length + 1) = t := by rw [← List.drop_drop, hd]; rfl
      have htl : (c :: t).length ≤ r.length := by rw [← hd]; simp
      simp only [List.length_cons] at htl
      have hbe : (((upto [47, 63] r).length : Int) == (r.length : Int)) = false := beq_eq_false_iff_ne.2 (by omega)
      rw [hbe, if_neg (by decide), zZ, g, Option.bind_some, zr (by omega), Option.bind_some, zan (by omega), Option.bind_some, hd1, zjn t (by omega), Option.bind_some, zan hu, Option.bind_some, hd, ziT _ _ rfl (by simp only [List.length_cons]; omega), Option.bind_some]
      unfold zeo ziX ziv
      have hne2 : c :: t ≠ [] := by simp
      rw [if_neg hne2, List.head?_cons, Option.some_beq_some]
      cases hc : c == 63 with
      | true =>
        have : c = 63 := by simpa using hc
        subst this
        simp only [if_true]
        rw [cutQ_q]
        cases zd3 t <;> rfl
      | false =>
        simp only [Bool.false_eq_true, if_false]
        unfold zn6
        cases zd2 (zO 63 (c :: t)).1 && zd3 (zO 63 (c :: t)).2.1 <;> rfl
theorem zpO (sc r : Str) (hr : r.length < 300000000) : zaG sc r fuel 0 = some (ziw sc r) := by
  have hu := ziu [47, 63] r
  have key : ∀ (n i : Nat), i ≤ (upto [47, 63] r).length → (upto [47, 63] r).length - i < n → zaG sc r n (i : Int) = some (ziw sc r) := by
    intro n
    induction n with
    | zero => intro i _ h; omega
    | succ n ih =>
      intro i hi h
      rw [zaG]
      by_cases hlt : i < (upto [47, 63] r).length
      · have g : r[i]? = some (upto [47, 63] r)[i] := by
          have e := List.getElem?_append_left (l₂ := zaf [47, 63] r) hlt
          rw [zbH] at e; rw [e]; exact List.getElem?_eq_getElem hlt
        have hno := zmH (upto [47, 63] r)[i] (List.getElem_mem hlt)
        generalize (upto [47, 63] r)[i] = c at g hno
        have h1 : (c == 47) = false := by simp at hno; simp [hno.1]
        have h2 : (c == 63) = false := by simp at hno; simp [hno.2]
        rw [decide_eq_true (show (i : Int) < (r.length : Int) by omega), if_pos rfl, zZ, g, Option.bind_some, Option.bind_some, h1, h2, Bool.not_false, if_pos rfl]
        unfold zbY
        rw [if_pos rfl, zr (by omega), Option.bind_some]
        exact ih (i + 1) (by omega) (by omega)
      · have : i = (upto [47, 63] r).length := by omega
        subst this
        rw [zlR _ sc r hr]
        cases hf : zaf [47, 63] r with
        | nil =>
          have hn := (zcR _ _).1 hf
          rw [decide_eq_false (by omega), if_neg (by decide)]
        | cons c t =>
          have hd := zf8 [47, 63] r
          rw [hf] at hd
          have g : r[(upto [47, 63] r).length]? = some c := by have := congrArg (·[0]?) hd; simpa using this
          have hlt : (upto [47, 63] r).length < r.length := by have := congrArg List.length hd; simp at this; omega
          have hin := zjN hf
          rw [decide_eq_true (by omega), if_pos rfl, zZ, g, Option.bind_some, Option.bind_some]
          rcases zbN (c == 47) with h1 | h1
          · rw [h1]; rfl
          · have h2 : (c == 63) = true := by simp at hin h1 ⊢; rcases hin with h | h; exact absurd h h1; exact h
            rw [h1, h2, Bool.not_true, zlR _ sc r hr]; rfl
  exact key fuel 0 (Nat.zero_le _) (by unfold fuel; omega)
def zdM (sc s : Str) : Bool := decide (sc.length + 3 ≤ s.length) && low (s.take (sc.length + 3)) == sc ++ [58, 47, 47]
theorem zj2 (sc s : Str) (hsc : (58 : UInt8) ∉ sc) : zdM sc s = true ↔ ∃ a, zaq [58, 47, 47] s = some (a, s.drop (sc.length + 3)) ∧ low a = sc := by
  rw [← zqQ sc s hsc]
  unfold zdM
  simp
theorem zrv (n i : Nat) (s x : Str) (hx : lAt [[104, 116, 116, 112], [104, 116, 116, 112, 115]] (i : Int) = some x) (hi : i < 2) (hl : x.length < 10) (hs : s.length < 300000000) :
    zam (n + 1) s (i : Int) = if zdM x s = true then some (ziw x (s.drop (x.length + 3))) else zam n s ((i + 1 : Nat) : Int) := by
  rw [zam]
  have e3 : zE (x.length : Int) 3 = some ((x.length + 3 : Nat) : Int) := by rw [za1 (by omega) (by omega)]; simp
  show (if decide ((i : Int) < 2) = true then (lAt [[104, 116, 116, 112], [104, 116, 116, 112, 115]] (i : Int)).bind _ else _) = _
  rw [decide_eq_true (show (i : Int) < 2 by omega), if_pos rfl, hx, Option.bind_some, e3, Option.bind_some]
  unfold zdM zep
  rw [zr (by omega), Option.bind_some]
  by_cases hlt : x.length + 3 ≤ s.length
  · have e4 : decide ((s.length : Int) < ((x.length + 3 : Nat) : Int)) = false := decide_eq_false (by omega)
    rw [e4, if_neg (by decide), decide_eq_true hlt, zdC hlt, Option.bind_some, zhZ _ (by simp; omega), Option.bind_some, zgn (by simp; omega), Option.bind_some, zan hlt, Option.bind_some, zpO x _ (by simp; omega), Bool.true_and]
    cases low (s.take (x.length + 3)) == x ++ [58, 47, 47] <;> rfl
  · have e4 : decide ((s.length : Int) < ((x.length + 3 : Nat) : Int)) = true := decide_eq_true (by omega)
    rw [e4, if_pos rfl, if_pos rfl, decide_eq_false hlt]
    rfl
theorem zmJ (a r : Str) (sc : Str) (h : low a = sc) : ziv (if (zb2 (upto [47, 63] r)).2 == 0 then ziX ⟨2, low a, (zb2 (upto [47, 63] r)).1, [], [], false⟩ (zaf [47, 63] r) else (⟨2, low a, ⟨0, [], 0⟩, [], [], false⟩, false)) = ziw sc r := by
  unfold ziw
  rw [h]
  cases (zb2 (upto [47, 63] r)).2 == 0 <;> rfl
theorem zpP (s : Str) (hs : s.length < 300000000) : zam fuel s 0 = some (ziv (zqk s)) := by
  have hf : fuel = 999999999999999997 + 1 + 1 + 1 := rfl
  have s1 := zrv (999999999999999997 + 1 + 1) 0 s ziY rfl (by decide) (by decide) hs
  have s2 := zrv (999999999999999997 + 1) 1 s zgM rfl (by decide) (by decide) hs
  have s3 : zam (999999999999999997 + 1) s ((1 + 1 : Nat) : Int) = some (zox, 20) := by rw [zam]; rfl
  have h1 := zj2 ziY s (by decide)
  have h2 := zj2 zgM s (by decide)
  rw [hf, show (0 : Int) = ((0 : Nat) : Int) from rfl, s1, s2, s3]
  unfold zqk
  cases hc : zaq [58, 47, 47] s with
  | none =>
    rw [hc] at h1 h2
    have g1 : ¬ zdM ziY s = true := fun h => by obtain ⟨a, ha, _⟩ := h1.1 h; cases ha
    have g2 : ¬ zdM zgM s = true := fun h => by obtain ⟨a, ha, _⟩ := h2.1 h; cases ha
    rw [if_neg g1, if_neg g2]
    rfl
  | some p =>
    rw [hc] at h1 h2
    dsimp only
    have hp : ∀ sc : Str, low p.1 = sc → p.2 = s.drop (sc.length + 3) := fun sc h => by
      have e := zbu (a := p.1) (b := p.2) hc
      have hal : p.1.length = sc.length := by rw [← h]; simp [low]
      rw [e, ← hal, List.drop_left']
      simp
    by_cases c1 : low p.1 = ziY
    · have g1 : zdM ziY s = true := h1.2 ⟨p.1, by rw [← hp _ c1], c1⟩
      rw [if_pos g1, c1]
      have := zmJ p.1 p.2 ziY c1
      rw [c1] at this
      rw [if_pos (by decide), this, hp _ c1]
    · have g1 : ¬ zdM ziY s = true := fun h => by obtain ⟨a, ha, hb⟩ := h1.1 h; cases ha; exact c1 hb
      rw [if_neg g1]
      by_cases c2 : low p.1 = zgM
      · have g2 : zdM zgM s = true := h2.2 ⟨p.1, by rw [← hp _ c2], c2⟩
        have := zmJ p.1 p.2 zgM c2
        rw [c2] at this
        rw [if_pos g2, c2, if_pos (by decide), this, hp _ c2]
      · have g2 : ¬ zdM zgM s = true := fun h => by obtain ⟨a, ha, hb⟩ := h2.1 h; cases ha; exact c2 hb
        rw [if_neg g2, if_neg (by simp [c1, c2])]
        rfl
theorem zrX {s : Str} (h : ([47] : Str).isPrefixOf s = true) : (zqk s).2 = false := by
  obtain ⟨r, hr⟩ := List.isPrefixOf_iff_prefix.1 h
  unfold zqk
  cases hc : zaq [58, 47, 47] s with
  | none => rfl
  | some p =>
    have e := zbu (a := p.1) (b := p.2) hc
    have hh : low p.1 ≠ ziY ∧ low p.1 ≠ zgM := by
      cases hp : p.1 with
      | nil => exact ⟨by decide, by decide⟩
      | cons c t =>
        rw [hp, ← hr] at e
        have : c = 47 := by simp at e; exact e.1.symm
        subst this
        exact ⟨by simp [low, ziY, zdB], by simp [low, zgM, zdB]⟩
    dsimp only
    rw [if_neg (by simp [hh.1, hh.2])]
theorem zpQ (s : Str) (h : ([47] : Str).isPrefixOf s = true) : ziX zsM s = (if zd2 (zO 63 s).1 && zd3 (zO 63 s).2.1 then ((⟨1, [], ⟨0, [], 0⟩, (zO 63 s).1, (zO 63 s).2.1, (zO 63 s).2.2⟩ : api_Target), true) else (⟨1, [], ⟨0, [], 0⟩, [], [], false⟩, false)) := by
  obtain ⟨r, hr⟩ := List.isPrefixOf_iff_prefix.1 h
  subst hr
  unfold ziX
  rw [if_neg (by simp)]
  have hh : (([47] ++ r : Str).head? == some 63) = false := rfl
  rw [hh]
  simp only [Bool.false_eq_true, if_false]
  unfold zn6
  cases zd2 (zO 63 ([47] ++ r)).1 && zd3 (zO 63 ([47] ++ r)).2.1 <;> rfl
theorem zqR {s : Str} (h : ([47] : Str).isPrefixOf s = false) : zd2 (zO 63 s).1 = false := by
  rcases zbN (zd2 (zO 63 s).1) with h1 | h1
  · obtain ⟨r, hr⟩ := zo0 h1
    have ht := zqP 63 s
    rw [hr] at ht
    rw [← ht] at h
    simp at h
  · exact h1
theorem zo2 {r : api_Target × Bool} (h : r.2 = false) : ziv r = (zox, 20) := by unfold ziv; rw [h]; rfl
theorem zi8 (s : Str) (hs : s.length < 300000000) : zbZ s false = some (if ([47] : Str).isPrefixOf s then ziv (ziX zsM s) else ziv (zqk s)) := by
  unfold zbZ
  rw [if_neg (by decide), ziT _ _ rfl (by omega), Option.bind_some, zpP s hs]
  dsimp only
  cases h : ([47] : Str).isPrefixOf s with
  | true =>
    rw [if_pos rfl, zpQ s h]
    cases zd2 (zO 63 s).1 && zd3 (zO 63 s).2.1 with
    | true => rfl
    | false =>
      rw [zo2 (zrX h)]
      rfl
  | false =>
    rw [zqR h, Bool.false_and, if_neg (by decide), if_neg (by decide)]
theorem zmK (m s : Str) (hs : s.length < 300000000) : zgC m s = some (zhe m s) := by
  unfold zgC zhe zen
  rw [zhf s (by omega), Option.bind_some]
  show (if (m == zjm) = true then _ else _) = _
  cases hm : m == zjm with
  | true =>
    rw [if_pos rfl, if_pos rfl]
    cases (zb2 s).2 == 0 <;> cases decide ((zb2 s).1.Port < 0) <;> rfl
  | false =>
    show (if (s == [42]) = true then zbZ s (m == zng) else zbZ s false) = some (ziv (ofT m s))
    rw [zi8 s hs]
    unfold ofT
    cases h : s == [42] with
    | true =>
      have : s = [42] := by simpa using h
      subst this
      cases m == zng with
      | true => rfl
      | false => rw [if_pos rfl, zi8 [42] (by decide)]; rfl
    | false =>
      cases ([47] : Str).isPrefixOf s <;> rfl

end Go.Dm
end
section
namespace Go.Dm
def zhE (r : Str) : Int × Bool × Str := match r with
  | [] => (0, false, [])
  | c :: t => if zT c then (((c - 48).toNat : Int), true, t) else (0, false, c :: t)
section
variable {s r : Str} {k : Nat}
theorem zqh (hs : s.length < 1000000000) (h : At s k r) : ∃ k', At s k' (zhE r).2.2 ∧ za9 ⟨scn s k⟩ = some ((zhE r).1, (zhE r).2.1, scn s k') := by
  unfold za9
  show ∃ k', _ ∧ (z8 (scn s k)).bind _ = _
  rw [zur h, Option.bind_some]
  cases r with
  | nil => exact ⟨k, h, rfl⟩
  | cons c t =>
    have e : zhE (c :: t) = if zT c then (((c - 48).toNat : Int), true, t) else (0, false, c :: t) := rfl
    rw [e]
    show ∃ k', _ ∧ (zab c).bind (fun r6 => za8 ⟨scn s k⟩ (c, true) (!r6)) = _
    rw [zge, Option.bind_some]
    obtain ⟨k', h1, h2⟩ := ziC hs c h
    rw [zcy] at h1
    cases zT c with
    | false => exact ⟨k, h, rfl⟩
    | true =>
      refine ⟨k', h1, ?_⟩
      show (zH (scn s k) c).bind (fun r11 => some (((c - 48).toNat : Int), true, r11.2)) = _
      rw [h2]; rfl
def zbo : Str := [72, 84, 84, 80, 47]
def zfb (r : Str) : Int × Int × Bool × Str :=
  if zbo.isPrefixOf r then
    ((zhE (r.drop 5)).1, (zhE (zaS 46 (zhE (r.drop 5)).2.2)).1, (zhE (r.drop 5)).2.1 && zf2 46 (zhE (r.drop 5)).2.2 && (zhE (zaS 46 (zhE (r.drop 5)).2.2)).2.1, (zhE (zaS 46 (zhE (r.drop 5)).2.2)).2.2)
  else (0, 0, false, r)
theorem znc (hs : s.length < 1000000000) (h : At s k r) : ∃ k', At s k' (zfb r).2.2.2 ∧ zaO ⟨scn s k⟩ = some ((zfb r).1, (zfb r).2.1, (zfb r).2.2.1, scn s k') := by
  unfold zaO
  obtain ⟨k1, h1, e1⟩ := zus hs zbo (by decide) h
  show ∃ k', _ ∧ (zb3 (scn s k) zbo).bind _ = _
  rw [e1, Option.bind_some]
  unfold zfb
  cases hp : zbo.isPrefixOf r with
  | false =>
    rw [hp, if_neg (by decide)] at h1
    exact ⟨k1, h1, rfl⟩
  | true =>
    rw [hp, if_pos rfl] at h1
    have h1 : At s k1 (r.drop 5) := h1
    obtain ⟨k2, h2, e2⟩ := zqh hs h1
    obtain ⟨k3, h3, e3⟩ := ziC hs 46 h2
    obtain ⟨k4, h4, e4⟩ := zqh hs h3
    refine ⟨k4, h4, ?_⟩
    dsimp only
    rw [Bool.not_true, if_neg (by decide), e2, Option.bind_some]
    dsimp only
    rw [e3, Option.bind_some]
    dsimp only
    rw [e4, Option.bind_some, if_pos rfl]
    dsimp only
    cases (zhE (r.drop 5)).2.1 <;> cases zf2 46 (zhE (r.drop 5)).2.2 <;> rfl
def zb5 (u : Str) : Int := if (zfb u).2.2.1 && (zfb u).2.2.2 == [] then (if (zfb u).1 == 1 && decide ((zfb u).2.1 ≤ 1) then (zfb u).2.1 else 2) else -1
theorem zrB {r : Str} (h : (zhE r).2.1 = true) : ∃ c t, r = c :: t ∧ zT c = true ∧ zhE r = (((c - 48).toNat : Int), true, t) := by
  cases r with
  | nil => cases h
  | cons c t =>
    unfold zhE at h ⊢
    dsimp only at h ⊢
    cases hc : zT c with
    | false => rw [hc] at h; cases h
    | true => exact ⟨c, t, rfl, hc, by simp⟩
theorem zkU {r : Str} (h : (zfb r).2.2.1 = true) : ∃ a b t, r = zbo ++ a :: 46 :: b :: t ∧ zT a = true ∧ zT b = true ∧ zfb r = (((a - 48).toNat : Int), ((b - 48).toNat : Int), true, t) := by
  unfold zfb at h ⊢
  cases hp : zbo.isPrefixOf r with
  | false => rw [hp] at h; cases h
  | true =>
    rw [hp, if_pos rfl] at h
    rw [if_pos rfl]
    simp only [Bool.and_eq_true] at h
    obtain ⟨⟨h1, h2⟩, h3⟩ := h
    obtain ⟨t0, ht0⟩ := List.isPrefixOf_iff_prefix.1 hp
    have hd : r.drop 5 = t0 := by rw [← ht0]; rfl
    rw [hd] at h1 h2 h3 ⊢
    obtain ⟨a, t1, rfl, ha, ea⟩ := zrB h1
    rw [ea] at h2 h3 ⊢
    have hb := zga h2
    dsimp only at h2 h3 hb ⊢
    obtain ⟨b, t, e, hbd, eb⟩ := zrB h3
    rw [e] at hb
    rw [eb]
    refine ⟨a, b, t, by rw [← ht0, hb], ha, hbd, ?_⟩
    simp [h2]
theorem zji {c : UInt8} (h : zT c = true) (h1 : (c - 48).toNat ≤ 1) : c = 48 ∨ c = 49 := by
  have := zP (fun c => !(zT c && decide ((c - 48).toNat ≤ 1)) || (c == 48 || c == 49)) (by decide +kernel) c
  rw [h] at this
  simpa [h1] using this
theorem zhc {u : Str} (h : 0 ≤ zb5 u) (h2 : (zb5 u == 2) = false) : (u = zbo ++ [49, 46, 48] ∧ zb5 u = 0) ∨ (u = zbo ++ [49, 46, 49] ∧ zb5 u = 1) := by
  unfold zb5 at *
  cases hc : (zfb u).2.2.1 && (zfb u).2.2.2 == [] with
  | false => rw [hc] at h; exact absurd (show (0 : Int) ≤ -1 from h) (by decide)
  | true =>
    rw [hc, if_pos rfl] at h h2
    rw [if_pos rfl]
    simp only [Bool.and_eq_true] at hc
    obtain ⟨a, b, t, e, ha, hb, ev⟩ := zkU hc.1
    rw [ev] at hc h h2 ⊢
    have ht : t = [] := by simpa using hc.2
    subst ht
    dsimp only at h h2 ⊢
    cases hq : (((a - 48).toNat : Int) == 1 && decide (((b - 48).toNat : Int) ≤ 1)) with
    | false => rw [hq] at h2; exact absurd (show ((2 : Int) == 2) = false from h2) (by decide)
    | true =>
      rw [if_pos rfl]
      simp only [Bool.and_eq_true, beq_iff_eq, decide_eq_true_eq] at hq
      have ha1 : a = 49 := by
        rcases zji ha (by omega) with h | h
        · subst h; exact absurd hq.1 (by decide)
        · exact h
      subst ha1
      rcases zji hb (by omega) with h | h <;> subst h
      · left; exact ⟨e, by decide⟩
      · right; exact ⟨e, by decide⟩
theorem zhd (u : Str) (hu : u.length < 1000000000) : zcM u = some (zb5 u == 2) := by
  unfold zcM
  rw [zhQ, Option.bind_some]
  obtain ⟨k', h, e⟩ := znc hu (At.zero u)
  rw [e, Option.bind_some]
  dsimp only
  rw [zs8 h]
  unfold zb5 za3
  have h1 : decide ((zfb u).2.1 ≤ 1) = !decide (1 < (zfb u).2.1) := by
    rw [Bool.eq_iff_iff]; simp
  rw [h1]
  cases hv : (zfb u).2.2.1 with
  | false => rfl
  | true =>
    rw [if_pos rfl, Option.bind_some, Bool.true_and]
    cases (zfb u).2.2.2 == [] with
    | false => rfl
    | true =>
      rw [if_pos rfl, if_pos rfl]
      obtain ⟨a, b, t, _, ha, hb, ev⟩ := zkU hv
      rw [ev]
      dsimp only
      cases ((a - 48).toNat : Int) == 1 with
      | false => rfl
      | true =>
        rw [Bool.not_true, if_neg (by decide), Bool.true_and]
        by_cases h2 : (1 : Int) < ((b - 48).toNat : Int)
        · rw [decide_eq_true h2]; rfl
        · rw [decide_eq_false h2, Bool.not_false, if_pos rfl]
          have : (((b - 48).toNat : Int) == 2) = false := beq_eq_false_iff_ne.2 (by omega)
          rw [this]
def zd5 (r : Str) : Int × Bool × Str := ((zfb r).2.1, (zfb r).2.2.1 && (zfb r).1 == 1 && decide ((zfb r).2.1 ≤ 1), (zfb r).2.2.2)
theorem zqi (hs : s.length < 1000000000) (h : At s k r) : ∃ k', At s k' (zd5 r).2.2 ∧ zbb ⟨scn s k⟩ = some ((zd5 r).1, (zd5 r).2.1, scn s k') := by
  unfold zbb zd5
  obtain ⟨k', h1, e⟩ := znc hs h
  refine ⟨k', h1, ?_⟩
  rw [e, Option.bind_some]
  dsimp only
  cases (zfb r).2.2.1 <;> cases (zfb r).1 == 1 <;> rfl
theorem zov (r : Str) : ((zd5 r).2.1 && (zd5 r).2.2 == []) = (decide (0 ≤ zb5 r) && !(zb5 r == 2)) ∧ ((zd5 r).2.1 = true → (zd5 r).2.2 = [] → (zd5 r).1 = zb5 r) := by
  unfold zd5 zb5
  dsimp only
  cases hv : (zfb r).2.2.1 with
  | false => exact ⟨rfl, fun h => by cases h⟩
  | true =>
    obtain ⟨a, b, t, _, ha, hb, ev⟩ := zkU hv
    rw [ev]
    dsimp only
    rw [Bool.true_and, Bool.true_and]
    cases hq : (((a - 48).toNat : Int) == 1 && decide (((b - 48).toNat : Int) ≤ 1)) with
    | false =>
      refine ⟨?_, fun h => by cases h⟩
      cases t == [] <;> rfl
    | true =>
      simp only [Bool.and_eq_true, decide_eq_true_eq] at hq
      refine ⟨?_, fun _ h => ?_⟩
      · cases t == [] with
        | false => rfl
        | true =>
          rw [if_pos rfl, if_pos rfl]
          have : (((b - 48).toNat : Int) == 2) = false := beq_eq_false_iff_ne.2 (by omega)
          rw [this, decide_eq_true (by omega)]; rfl
      · subst h; rfl
end
def zz : api_Head := ⟨0, [], [], 0, [], 0, []⟩
def zow (s : Str) : Nat := match zgy s 32 s.length with
  | none => 0
  | some k => k + 1
theorem zq1 (s : Str) (hs : s.length < 300000000) : ∃ r, zaC s 32 = some r ∧ zE r 1 = some (zow s : Int) ∧ zow s ≤ s.length := by
  rw [zh9 s 32 (by omega)]
  unfold zow
  cases hl : zgy s 32 s.length with
  | none => exact ⟨-1, rfl, by decide, Nat.zero_le _⟩
  | some k =>
    have := (zjp hl).1
    exact ⟨k, rfl, zr (by omega), by show k + 1 ≤ s.length; omega⟩
def zjj (s : Str) : Str := s.drop (zow s)
def zku (s : Str) : Str := s.takeWhile zbs
def zl4 (s : Str) : Str := s.dropWhile zbs
def zml (s : Str) : Str := (zaS 32 (zl4 s)).takeWhile (fun b => !(b == 32))
def zhI (s : Str) : Str := (zaS 32 (zl4 s)).dropWhile (fun b => !(b == 32))
def zqj (s : Str) : Bool := !(zku s == []) && zf2 32 (zl4 s) && zf2 32 (zhI s) && ((zd5 (zaS 32 (zhI s))).2.1 && (zd5 (zaS 32 (zhI s))).2.2 == []) && (zhe (zku s) (zml s)).2 == 0
def zlt (s : Str) : api_Head × Int := if zb5 (zjj s) == 2 then (zz, 26) else if zqj s then (⟨1, zku s, zml s, 0, [], (zd5 (zaS 32 (zhI s))).1, []⟩, 0) else (zz, 20)
theorem zjk (s : Str) (hs : s.length < 300000000) : zcU s = some (zlt s) := by
  unfold zcU zlt zjj
  obtain ⟨r, e0, hi⟩ := zq1 s hs
  rw [e0, Option.bind_some]
  generalize zow s = n at hi
  rw [hi.1, Option.bind_some, zan hi.2, Option.bind_some, zhd _ (by simp; omega), Option.bind_some]
  cases zb5 (s.drop n) == 2 with
  | true => rfl
  | false =>
    rw [if_neg (by decide), if_neg (by decide), zhQ, Option.bind_some]
    have hs' : s.length < 1000000000 := by omega
    obtain ⟨k1, h1, e1⟩ := zqg hs' (At.zero s)
    obtain ⟨k2, h2, e2⟩ := ziC hs' 32 h1
    obtain ⟨k3, h3, e3⟩ := zjh (f := zcc) (p := fun b => !(b == 32)) (fun b => rfl) hs' h2
    obtain ⟨k4, h4, e4⟩ := ziC hs' 32 h3
    obtain ⟨k5, h5, e5⟩ := zqi hs' h4
    rw [e1, Option.bind_some]
    dsimp only
    rw [e2, Option.bind_some]
    dsimp only
    rw [e3, Option.bind_some]
    dsimp only
    rw [e4, Option.bind_some]
    dsimp only
    have hl := h2.le_len
    have hl2 := ziO (fun b => !(b == 32)) (zaS 32 (s.dropWhile zbs))
    rw [e5, Option.bind_some, zmm _ _ (by omega), Option.bind_some]
    dsimp only
    rw [zs8 h5, Option.bind_some]
    unfold zaa zqj zml zku zhI zl4
    cases s.takeWhile zbs == [] <;> cases zf2 32 (s.dropWhile zbs) <;> cases zf2 32 ((zaS 32 (s.dropWhile zbs)).dropWhile (fun b => !(b == 32))) <;> cases (zd5 (zaS 32 ((zaS 32 (s.dropWhile zbs)).dropWhile (fun b => !(b == 32))))).2.1 <;> cases (zd5 (zaS 32 ((zaS 32 (s.dropWhile zbs)).dropWhile (fun b => !(b == 32))))).2.2 == [] <;> cases (zhe (s.takeWhile zbs) ((zaS 32 (s.dropWhile zbs)).takeWhile (fun b => !(b == 32)))).2 == 0 <;> rfl
theorem zgk {p : UInt8 → Bool} {s : Str} {x : UInt8} (h : x ∈ s.takeWhile p) : p x = true := by
  induction s with
  | nil => cases h
  | cons c s ih =>
    rw [List.takeWhile_cons] at h
    split at h
    · rename_i hc
      rcases List.mem_cons.1 h with rfl | h
      · exact hc
      · exact ih h
    · cases h
theorem zs9 {x : UInt8} (h : zbs x = true) : x ≠ 32 := by rintro rfl; revert h; decide
theorem zkv {s : Str} (h : zqj s = true) : ∃ v, s = zku s ++ 32 :: (zml s ++ 32 :: v) ∧ (32 : UInt8) ∉ zku s ∧ (32 : UInt8) ∉ zml s ∧ zku s ≠ [] ∧ (zku s).all zbs = true ∧ 0 ≤ zb5 v ∧ (zb5 v == 2) = false ∧ (zd5 (zaS 32 (zhI s))).1 = zb5 v ∧ ((zhe (zku s) (zml s)).2 == 0) = true := by
  unfold zqj at h
  simp only [Bool.and_eq_true, Bool.not_eq_true', beq_eq_false_iff_ne] at h
  obtain ⟨⟨⟨⟨h1, h2⟩, h3⟩, h4, h5⟩, h6⟩ := h
  have e1 : zku s ++ zl4 s = s := List.takeWhile_append_dropWhile
  have e2 := zga h2
  have e3 : zml s ++ zhI s = zaS 32 (zl4 s) := List.takeWhile_append_dropWhile
  have e4 := zga h3
  have hm := zov (zaS 32 (zhI s))
  have hk : (decide (0 ≤ zb5 (zaS 32 (zhI s))) && !(zb5 (zaS 32 (zhI s)) == 2)) = true := by rw [← hm.1, h4, Bool.true_and]; exact h5
  simp only [Bool.and_eq_true, decide_eq_true_eq, Bool.not_eq_true'] at hk
  refine ⟨zaS 32 (zhI s), ?_, ?_, ?_, h1, ?_, hk.1, hk.2, hm.2 h4 (by simpa using h5), h6⟩
  · rw [← e4, e3, ← e2, e1]
  · exact fun hx => zs9 (zgk hx) rfl
  · exact fun hx => by have := zgk hx; simp at this
  · exact List.all_eq_true.2 fun x hx => zgk hx
def znd (s : Str) : Str := (zaS 32 (zd5 s).2.2).takeWhile zT
def zkV (s : Str) : Str := (zaS 32 (zd5 s).2.2).dropWhile zT
def zpf (s : Str) : Bool := (zd5 s).2.1 && zf2 32 (zd5 s).2.2 && zf2 32 (zkV s) && ((znd s).length : Int) == 3 && (zav 10 (znd s) 599).2 == 0 && !decide ((zav 10 (znd s) 599).1 < 100) && (zaS 32 (zkV s)).all zf0
def zne (s : Str) : api_Head × Int := if zb5 (zO 32 s).1 == 2 then (zz, 26) else if zpf s then (⟨2, [], [], (zav 10 (znd s) 599).1, zaS 32 (zkV s), (zd5 s).1, []⟩, 0) else (zz, 20)
theorem zjX (s : Str) (hs : s.length < 300000000) : zdg s = some (zne s) := by
  unfold zdg zne
  have hcl := zjP 32 s
  rw [ziZ s 32 (by omega), Option.bind_some, zhd _ (by omega), Option.bind_some]
  cases zb5 (zO 32 s).1 == 2 with
  | true => rfl
  | false =>
    rw [if_neg (by decide), if_neg (by decide), zhQ, Option.bind_some]
    have hs' : s.length < 1000000000 := by omega
    obtain ⟨k1, h1, e1⟩ := zqi hs' (At.zero s)
    obtain ⟨k2, h2, e2⟩ := ziC hs' 32 h1
    obtain ⟨k3, h3, e3⟩ := zjh zge hs' h2
    obtain ⟨k4, h4, e4⟩ := ziC hs' 32 h3
    rw [e1, Option.bind_some]
    dsimp only
    rw [e2, Option.bind_some]
    dsimp only
    rw [e3, Option.bind_some]
    dsimp only
    have hl := h2.le_len
    have hl2 := ziO zT (zaS 32 (zd5 s).2.2)
    have hl4 := h4.le_len
    rw [e4, Option.bind_some, zfi _ _ (by omega) (by decide) (by decide), Option.bind_some]
    dsimp only
    rw [zmw h4, Option.bind_some, zdY zik _ (by omega), Option.bind_some]
    unfold z6 zpf zkV znd
    dsimp only
    rw [zmw h4, Option.bind_some]
    cases (zd5 s).2.1 <;> cases zf2 32 (zd5 s).2.2 <;> cases zf2 32 ((zaS 32 (zd5 s).2.2).dropWhile zT) <;> cases (((zaS 32 (zd5 s).2.2).takeWhile zT).length : Int) == 3 <;> cases (zav 10 ((zaS 32 (zd5 s).2.2).takeWhile zT) 599).2 == 0 <;> cases decide ((zav 10 ((zaS 32 (zd5 s).2.2).takeWhile zT) 599).1 < 100) <;> cases (zaS 32 ((zaS 32 (zd5 s).2.2).dropWhile zT)).all zf0 <;> rfl
def zbE (kind : Int) (s : Str) : api_Head × Int := if !(kind == 1) && !(kind == 2) then (zz, 1) else if s.any ([13, 10] : Str).contains then (zz, 24) else if kind == 1 then zlt s else zne s
theorem zfc (kind : Int) (s : Str) (hs : s.length < 300000000) : zb8 kind s = some (zbE kind s) := by
  unfold zb8 zcC zbE
  rw [zfB s [13, 10] (by omega) (by decide) (by decide), Option.bind_some, zjk s hs, Option.bind_some, zjX s hs, Option.bind_some]
  cases kind == 1 <;> cases kind == 2 <;> cases s.any ([13, 10] : Str).contains <;> rfl

end Go.Dm
end
section
namespace Go.Dm
theorem zte {v : Str} (h : 0 ≤ zb5 v) (h2 : (zb5 v == 2) = false) : (32 : UInt8) ∉ v := by
  rcases zhc h h2 with ⟨h, _⟩ | ⟨h, _⟩ <;> rw [h] <;> decide
theorem zqn {m t v : Str} (h1 : (32 : UInt8) ∉ m) (h2 : (32 : UInt8) ∉ t) (h3 : (32 : UInt8) ∉ v) : zi 32 (m ++ 32 :: (t ++ 32 :: v)) = [m, t, v] := by
  rw [zd6 _ h1, zd6 _ h2, zfA h3]
theorem zk0 (c : UInt8) : ∀ (x y : Str), zi c (x ++ c :: y) = zi c x ++ zi c y
  | [], y => by rw [List.nil_append, zaN, if_pos rfl]; rfl
  | z :: x, y => by
    rw [List.cons_append, zaN, zaN, zk0 c x y]
    split
    · rfl
    · cases h : zi c x with
      | nil => exact absurd h (zbn c x)
      | cons a l => rfl
theorem zjw {c : UInt8} : ∀ {s x : Str}, zi c s = [x] → x = s
  | [], x, h => by rw [zi] at h; cases h; rfl
  | y :: s, x, h => by
    rw [zaN] at h
    split at h
    · injection h with h1 h2
      exact absurd h2 (zbn c s)
    · cases h3 : zi c s with
      | nil => exact absurd h3 (zbn c s)
      | cons a l =>
        rw [h3] at h
        injection h with h1 h2
        subst h2
        have := zjw h3
        rw [← h1, this]; rfl
theorem znq (s : Str) : (zlt s = (zz, 26) ∨ zlt s = (zz, 20)) ∨ zqj s = true ∧ zlt s = (⟨1, zku s, zml s, 0, [], (zd5 (zaS 32 (zhI s))).1, []⟩, 0) := by
  unfold zlt
  split
  · exact .inl (.inl rfl)
  · cases h : zqj s with
    | true => exact .inr ⟨rfl, rfl⟩
    | false => exact .inl (.inr rfl)
end Go.Dm
end
