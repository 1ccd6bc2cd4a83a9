/-
  The models' words: partial operations as functions into Option. No program in sight.
  The models of the functions: written by a program (wip/gen) off the translation. No program in sight.
  The library's functions as the models say them, and as the library's contracts say them. No program in sight.
  Plain tools for the laws: the partial operations at natural numbers, loops over lists. No program in sight.
  Layer 1 (bytes): what the program's and the reference's models come to.
  Layer 3 (numbers): reading and writing: the program's and the document's come to the same. No program in sight.
-/
import Derived.Lib.ItoaNum
import Derived.Lib.SplitLaws
import Derived.Lib.SlTrimSet
import Derived.Lib.Join
import Derived.Lib.IndexMore
import Derived.Lib.Bytealg
import Derived.Lib.Index
import Derived.Lib.IndexAny
section
namespace Go.Dm
abbrev Str := List UInt8

def inI (n : Int) : Bool := decide (-9223372036854775808 ≤ n) && decide (n ≤ 9223372036854775807)
theorem zf2 {n : Int} : inI n = true ↔ -9223372036854775808 ≤ n ∧ n ≤ 9223372036854775807 := by simp [inI]

def zbj (m n : Int) : Option Int := if inI (m + n) then some (m + n) else none
def zey (m n : Int) : Option Int := if inI (m - n) then some (m - n) else none
def iMul (m n : Int) : Option Int := if inI (m * n) then some (m * n) else none
def iDiv (m n : Int) : Option Int := if 0 ≤ m ∧ 1 ≤ n ∧ inI (m / n) = true then some (m / n) else none
def iMod (m n : Int) : Option Int := if 0 ≤ m ∧ 1 ≤ n ∧ inI (m % n) = true then some (m % n) else none
def sAt (l : Str) (i : Int) : Option UInt8 := if 0 ≤ i then l[i.toNat]? else none
def sTo (l : Str) (h : Int) : Option Str := if 0 ≤ h ∧ h ≤ l.length then some (l.take h.toNat) else none
def zdT (l : Str) (i : Int) : Option Str := if 0 ≤ i ∧ i ≤ l.length then some (l.drop i.toNat) else none
def zgp (l : Str) (i h : Int) : Option Str := if 0 ≤ i ∧ i ≤ h ∧ h ≤ l.length then some ((l.take h.toNat).drop i.toNat) else none
def sCat (l m : Str) : Option Str := if l.length + m.length ≤ 9223372036854775807 then some (l ++ m) else none
def lAt {α : Type} (l : List α) (i : Int) : Option α := if 0 ≤ i then l[i.toNat]? else none
def zhG {α : Type} (l : List α) (i : Int) : Option (List α) := if 0 ≤ i ∧ i ≤ l.length then some (l.drop i.toNat) else none
def lSub {α : Type} (l : List α) (i h : Int) : Option (List α) := if 0 ≤ i ∧ i ≤ h ∧ h ≤ l.length then some ((l.take h.toNat).drop i.toNat) else none
def zbL (n m bytes : Nat) : Bool := decide (n + m ≤ 9223372036854775807) && decide ((n + m) * bytes ≤ 140737488355328)
theorem og {α : Type} {b : Bool} {x : Option α} {r : α} (h : (if b = true then x else none) = some r) : b = true ∧ x = some r := by
  cases b with
  | false => cases h
  | true => exact ⟨rfl, h⟩
theorem bcase (b : Bool) : b = true ∨ b = false := by cases b <;> simp
theorem ob {α β : Type} {m : Option α} {f : α → Option β} {r : β} (h : m.bind f = some r) : ∃ x, m = some x ∧ f x = some r := by
  cases m with
  | none => cases h
  | some x => exact ⟨x, rfl, h⟩
theorem it {α : Type} {b : Bool} {x y : Option α} {r : α} (hb : b = true) (h : (if b = true then x else y) = some r) : x = some r := by rwa [if_pos hb] at h
def fuel : Nat := 1000000000000000000
end Go.Dm
end
section
set_option linter.unusedVariables false
set_option maxRecDepth 10000
namespace Go.Dm
structure api_Field where
  Name : Str
  Value : Str
deriving DecidableEq
structure api_Head where
  Kind : Int
  Method : Str
  Target : Str
  Code : Int
  Reason : Str
  Minor : Int
  Fields : List api_Field
deriving DecidableEq
structure accum_Accum where
  f_kind : Int
  f_limit : Int
  f_buf : List UInt8
  f_from : Int
  f_took : Bool
  f_bad : Int
  f_whole : Bool
  f_got : api_Head
deriving DecidableEq
structure scan_Scanner where
  f_s : Str
  f_at : Int
deriving DecidableEq
structure startline_line where
  Scanner : scan_Scanner
deriving DecidableEq
structure api_Host where
  Kind : Int
  Name : Str
  Port : Int
deriving DecidableEq
structure api_Target where
  Kind : Int
  Scheme : Str
  Host : api_Host
  Path : Str
  Query : Str
  HasQuery : Bool
deriving DecidableEq
structure bag_Bag where
  f_l : List api_Field
deriving DecidableEq
abbrev optE {α : Type} {β : Sort _} (o : Option α) (k0 : β) (k1 : α → β) : β := match o with | none => k0 | some x => k1 x
theorem optE_n {α β : Type} {o : Option α} {k0 R : β} {k1 : α → β} (h : o = none) (hm : optE o k0 k1 = R) : k0 = R := by subst h; exact hm
theorem optE_s {α β : Type} {o : Option α} {x : α} {k0 R : β} {k1 : α → β} (h : o = some x) (hm : optE o k0 k1 = R) : k1 x = R := by subst h; exact hm
theorem ziw {α : Type} {o : Option α} {k0 : Prop} {k1 : α → Prop} (h : o = none) (hm : optE o k0 k1) : k0 := by subst h; exact hm
theorem zix {α : Type} {o : Option α} {x : α} {k0 : Prop} {k1 : α → Prop} (h : o = some x) (hm : optE o k0 k1) : k1 x := by subst h; exact hm

def zei : Str → UInt8 → Nat → Int
  | [], _, _ => -1
  | x :: l, c, k => if x == c then (k : Int) else zei l c (k + 1)
def strings_IndexByte (s : Str) (c : UInt8) : Option Int := some (zei s c 0)
def zd1 : Str → Str → Bool
  | _, [] => true
  | [], _ :: _ => false
  | x :: s, y :: t => x == y && zd1 s t
def zcy : Str → Str → Nat → Int
  | s, t, k => if zd1 s t then (k : Int) else match s with
    | [] => -1
    | _ :: s => zcy s t (k + 1)
def strings_Index (s t : Str) : Option Int := if s.length < 4294967281 then some (zcy s t 0) else none
def strings_Cut (s t : Str) : Option (Str × Str × Bool) := if s.length < 4294967281 then some (Go.Lib.cut s t) else none
def zfk : Str → Str → Nat → Int
  | [], _, _ => -1
  | x :: l, cs, k => if cs.contains x then (k : Int) else zfk l cs (k + 1)
def strings_IndexAny (s cs : Str) : Option Int := if s.length < 4294967281 ∧ cs.length < 4294967281 ∧ cs.all (fun c => c.toNat < 128) then some (zfk s cs 0) else none
def strings_Split (s sep : Str) : Option (List Str) := if s.length < 4294967281 ∧ 1 ≤ sep.length then some (Go.Lib.splitK sep 0 (Go.Lib.countB ⟨s.toArray⟩ ⟨sep.toArray⟩) s) else none
def zq (c : UInt8) : Str → List Str
  | [] => [[]]
  | x :: s => if x = c then [] :: zq c s else match zq c s with
    | [] => [[x]]
    | h :: t => (x :: h) :: t
def zbM (n b : Int) : Option Str := if inI n = true ∧ b = 10 then some (Go.Lib.itoa n) else none
def zdb (s cs : Str) : Option Str := if s.length < 4294967281 ∧ cs.length < 4294967281 ∧ cs.all (fun c => c.toNat < 128) then some (Go.Lib.trimS s cs) else none
def zaL (x_kind : Int) (x_limit : Int) (t6 : Bool) : Option (Option accum_Accum × Int) :=
  if t6 then (some (none, 1)) else (some ((some ((⟨x_kind, x_limit, [], 0, false, 0, false, (⟨0, [], [], 0, [], 0, []⟩ : api_Head)⟩ : accum_Accum)), 0)))

def zeA (x_kind : Int) (x_limit : Int) : Option (Option accum_Accum × Int) :=
  if (!(x_kind == 1)) then (if (!(x_kind == 2)) then (zaL x_kind x_limit true) else (if (decide (x_limit < 0)) then (zaL x_kind x_limit true) else (zaL x_kind x_limit (decide (65536 < x_limit))))) else (if (decide (x_limit < 0)) then (zaL x_kind x_limit true) else (zaL x_kind x_limit (decide (65536 < x_limit))))

def zaz (x_a : accum_Accum) (t8 : Bool) : Option Bool :=
  (zey (x_a.f_buf.length : Int) 1).bind fun i9 =>
  (lAt x_a.f_buf i9).bind fun x10 =>
  some (!((x10 == 10) == t8))

def zb2 (x_a : accum_Accum) : Option Bool :=
  if (decide (1 < (x_a.f_buf.length : Int))) then ((zey (x_a.f_buf.length : Int) 2).bind fun i4 =>
  (lAt x_a.f_buf i4).bind fun x5 =>
  zaz x_a (x5 == 13)) else (zaz x_a false)

def strings_ContainsAny (x_s : Str) (x_chars : Str) : Option Bool :=
  (strings_IndexAny x_s x_chars).bind fun r2 =>
  some (decide (0 ≤ r2))

def zw (x_s : Str) (x_c : UInt8) : Nat → Int → Option Int
  | 0, _ => none
  | n + 1, i4 =>
  if (decide (0 ≤ i4)) then ((sAt x_s i4).bind fun b8 =>
  if (b8 == x_c) then (some i4) else ((zey i4 1).bind fun i13 =>
  (zw x_s x_c n) i13)) else (some (-1))

def zag (x_s : Str) (x_c : UInt8) : Option Int :=
  (zey (x_s.length : Int) 1).bind fun i2 =>
  zw x_s x_c fuel i2

def zan (x_s : Str) (x_c : UInt8) : Option Int :=
  (zag x_s x_c).bind fun r2 =>
  some r2

def zc1 (x_s : Str) : Option scan_Scanner :=
  some (⟨x_s, 0⟩ : scan_Scanner)

def zL (x_c : scan_Scanner) : Option Str :=
  (zdT x_c.f_s x_c.f_at).bind fun s4 =>
  some s4

def z6 (t4 : Bool) : Option Bool :=
  some t4

def stringslite_HasPrefix (x_s : Str) (x_prefix : Str) : Option Bool :=
  if (decide ((x_prefix.length : Int) ≤ (x_s.length : Int))) then ((sTo x_s (x_prefix.length : Int)).bind fun s3 =>
  z6 (s3 == x_prefix)) else (z6 false)

def strings_HasPrefix (x_s : Str) (x_prefix : Str) : Option Bool :=
  (stringslite_HasPrefix x_s x_prefix).bind fun r2 =>
  some r2

def zbN (x_c : scan_Scanner) (x_t : Str) : Option (Bool × scan_Scanner) :=
  (zL x_c).bind fun r2 =>
  (strings_HasPrefix r2 x_t).bind fun r3 =>
  if (!r3) then (some (false, x_c)) else ((zbj x_c.f_at (x_t.length : Int)).bind fun i9 =>
  some ((true, (⟨x_c.f_s, i9⟩ : scan_Scanner))))

def zaF (x_c : scan_Scanner) : Option Bool :=
  (zL x_c).bind fun r2 =>
  some (r2 == [])

def zap (x_c : scan_Scanner) : Option (UInt8 × Bool) :=
  (zaF x_c).bind fun r2 =>
  if r2 then (some (0, false)) else ((sAt x_c.f_s x_c.f_at).bind fun b7 =>
  some (b7, true))

def zbc (t3 : Bool) : Option Bool :=
  some t3

def zN (x_b : UInt8) : Option Bool :=
  if (decide (48 ≤ x_b)) then (zbc (decide (x_b ≤ 57))) else (zbc false)

def zaq (x_c : scan_Scanner) (t5 : Bool) : Option (Bool × scan_Scanner) :=
  if t5 then (some (false, x_c)) else ((zbj x_c.f_at 1).bind fun i9 =>
  some ((true, (⟨x_c.f_s, i9⟩ : scan_Scanner))))

def zG (x_c : scan_Scanner) (x_b : UInt8) : Option (Bool × scan_Scanner) :=
  (zap x_c).bind fun r2 =>
  if (!r2.2) then (zaq x_c true) else (zaq x_c (!(r2.1 == x_b)))

def zaa (x_p : startline_line) (r3 : UInt8 × Bool) (t7 : Bool) : Option (Int × Bool × scan_Scanner) :=
  if t7 then (some (0, false, x_p.Scanner)) else ((zG x_p.Scanner r3.1).bind fun r11 =>
  some ((((r3.1 - 48).toNat : Int), true, r11.2)))

def zar (x_p : startline_line) : Option (Int × Bool × scan_Scanner) :=
  (zap x_p.Scanner).bind fun r3 =>
  if (!r3.2) then (zaa x_p r3 true) else ((zN r3.1).bind fun r6 =>
  zaa x_p r3 (!r6))

def zI (r9 : Int × Bool × scan_Scanner) (r15 : Int × Bool × scan_Scanner) (t20 : Bool) : Option (Int × Int × Bool × scan_Scanner) :=
  some (r9.1, r15.1, t20, r15.2.2)

def zah (x_p : startline_line) : Option (Int × Int × Bool × scan_Scanner) :=
  (zbN x_p.Scanner [72, 84, 84, 80, 47]).bind fun r3 =>
  if (!r3.1) then (some (0, 0, false, r3.2)) else ((zar (⟨r3.2⟩ : startline_line)).bind fun r9 =>
  (zG r9.2.2 46).bind fun r12 =>
  (zar (⟨r12.2⟩ : startline_line)).bind fun r15 =>
  if r9.2.1 then (if r12.1 then (zI r9 r15 r15.2.1) else (zI r9 r15 false)) else (zI r9 r15 false))

def zY (t13 : Bool) : Option Bool :=
  some t13

def zbz (x_s : Str) : Option Bool :=
  (zc1 x_s).bind fun r2 =>
  (zah (⟨r2⟩ : startline_line)).bind fun r6 =>
  if r6.2.2.1 then ((zaF r6.2.2.2).bind fun r10 =>
  if r10 then (if (!(r6.1 == 1)) then (zY true) else (zY (decide (1 < r6.2.1)))) else (zY false)) else (zY false)

def zcp (x_c : scan_Scanner) : Option Int :=
  some x_c.f_at

def za4 (r2 : Int) (s14 : Str) (i15 : Int) : Option (Str × scan_Scanner) :=
  (zgp s14 r2 i15).bind fun s18 =>
  some ((s18, (⟨s14, i15⟩ : scan_Scanner)))

def zao (rec1 : Str → Int → Option (Str × scan_Scanner)) (r2 : Int) (s4 : Str) (i5 : Int) (t10 : Bool) : Option (Str × scan_Scanner) :=
  if t10 then (za4 r2 s4 i5) else ((zbj i5 1).bind fun i13 =>
  rec1 s4 i13)

def zE (x_is : UInt8 → Option Bool) (r2 : Int) : Nat → Str → Int → Option (Str × scan_Scanner)
  | 0, _, _ => none
  | n + 1, s4, i5 =>
  (zap (⟨s4, i5⟩ : scan_Scanner)).bind fun r6 =>
  if (!r6.2) then (zao (zE x_is r2 n) r2 s4 i5 true) else ((x_is r6.1).bind fun r9 =>
  zao (zE x_is r2 n) r2 s4 i5 (!r9))

def zZ (x_c : scan_Scanner) (x_is : UInt8 → Option Bool) : Option (Str × scan_Scanner) :=
  (zcp x_c).bind fun r2 =>
  zE x_is r2 fuel x_c.f_s x_c.f_at

def zbO (x_b : UInt8) (t3 : Bool) : Option UInt8 :=
  if t3 then (some (x_b + 32)) else (some x_b)

def zW (x_b : UInt8) : Option UInt8 :=
  if (decide (65 ≤ x_b)) then (zbO x_b (decide (x_b ≤ 90))) else (zbO x_b false)

def zbd (t5 : Bool) : Option Bool :=
  some t5

def zcc (x_b : UInt8) : Option Bool :=
  (zW x_b).bind fun r2 =>
  if (decide (97 ≤ r2)) then ((zW x_b).bind fun r4 =>
  zbd (decide (r4 ≤ 122))) else (zbd false)

def zcw (x_b : UInt8) (x_l : Str) : Option Bool :=
  (strings_IndexByte x_l x_b).bind fun r2 =>
  some (decide (0 ≤ r2))

def zaG (t7 : Bool) : Option Bool :=
  some t7

def zcd (x_b : UInt8) : Option Bool :=
  (zcc x_b).bind fun r2 =>
  if r2 then (zaG true) else ((zN x_b).bind fun r4 =>
  if r4 then (zaG true) else ((zcw x_b [33, 35, 36, 37, 38, 39, 42, 43, 45, 46, 94, 95, 96, 124, 126]).bind fun r6 =>
  zaG r6))

def zaM (x_c : scan_Scanner) : Option (Str × Bool × scan_Scanner) :=
  (zZ x_c zcd).bind fun r2 =>
  some ((r2.1, !(r2.1 == []), r2.2))

def zaA (x_b : UInt8) : Option Bool :=
  some (!(x_b == 32))

def zR (r3 : Int × Int × Bool × scan_Scanner) (t8 : Bool) : Option (Int × Bool × scan_Scanner) :=
  some (r3.2.1, t8, r3.2.2.2)

def zas (x_p : startline_line) : Option (Int × Bool × scan_Scanner) :=
  (zah x_p).bind fun r3 =>
  if r3.2.2.1 then (if (r3.1 == 1) then (zR r3 (decide (r3.2.1 ≤ 1))) else (zR r3 false)) else (zR r3 false)

def zbP (rec1 : Int → Option Bool) (x_is : UInt8 → Option Bool) (i3 : Int) (x7 : Str) : Nat → Int → Option Bool
  | 0, _ => none
  | n + 1, i12 =>
  if (decide (i12 < (x7.length : Int))) then ((sAt x7 i12).bind fun b17 =>
  (x_is b17).bind fun r18 =>
  if (!r18) then (some false) else ((zbj i12 1).bind fun i23 =>
  (zbP rec1 x_is i3 x7 n) i23)) else ((zbj i3 1).bind fun i25 =>
  rec1 i25)

def zbe (x_is : UInt8 → Option Bool) (x_l : List Str) : Nat → Int → Option Bool
  | 0, _ => none
  | n + 1, i3 =>
  if (decide (i3 < (x_l.length : Int))) then ((lAt x_l i3).bind fun x7 =>
  zbP (zbe x_is x_l n) x_is i3 x7 fuel 0) else (some true)

def zbH (x_is : UInt8 → Option Bool) (x_l : List Str) : Option Bool :=
  zbe x_is x_l fuel 0

def zcU (x_b : UInt8) : Option Int :=
  (zN x_b).bind fun r2 =>
  if r2 then (some (((x_b - 48).toNat : Int))) else ((zW x_b).bind fun r7 =>
  (zbj (((r7 - 97).toNat : Int)) 10).bind fun i8 =>
  some i8)

def zbA (rec2 : Int → Int → Option (Int × Int)) (x_base : Int) (i11 : Int) (i12 : Int) (r18 : Int) (t23 : Bool) : Option (Int × Int) :=
  if t23 then (some (0, 7)) else ((iMul i11 x_base).bind fun i27 =>
  (zbj i27 r18).bind fun i28 =>
  (zbj i12 1).bind fun i30 =>
  rec2 i28 i30)

def zac (x_s : Str) (x_base : Int) (x_most : Int) : Nat → Int → Int → Option (Int × Int)
  | 0, _, _ => none
  | n + 1, i11, i12 =>
  if (decide (i12 < (x_s.length : Int))) then ((sAt x_s i12).bind fun b17 =>
  (zcU b17).bind fun r18 =>
  if (decide (x_most < r18)) then (zbA (zac x_s x_base x_most n) x_base i11 i12 r18 true) else ((zey x_most r18).bind fun i21 =>
  (iDiv i21 x_base).bind fun i22 =>
  zbA (zac x_s x_base x_most n) x_base i11 i12 r18 (decide (i22 < i11)))) else (some (i11, 0))

def zbB (x_s : Str) (x_base : Int) (x_most : Int) (t5 : Bool) : Option (Int × Int) :=
  if t5 then (some (0, 2)) else (zac x_s x_base x_most fuel 0 0)

def zdc (x_s : Str) (x_base : Int) (x_most : Int) (x_is : UInt8 → Option Bool) : Option (Int × Int) :=
  if (x_s == []) then (zbB x_s x_base x_most true) else ((zbH x_is ([x_s] : List Str)).bind fun r4 =>
  zbB x_s x_base x_most (!r4))

def zaV (x_s : Str) (x_most : Int) : Option (Int × Int) :=
  (zdc x_s 10 x_most zN).bind fun r2 =>
  some (r2.1, r2.2)

def zdd (x_n : Int) (x_base : Int) : Option Str :=
  if (decide (x_n < 0)) then (some []) else ((zbM x_n x_base).bind fun r6 =>
  some r6)

def zde (x_n : Int) : Option Str :=
  (zdd x_n 10).bind fun r2 =>
  some r2

def za5 (t6 : Bool) : Option Bool :=
  some t6

def za8 (x_s : Str) (x_most : Int) : Option Bool :=
  (zaV x_s x_most).bind fun r2 =>
  if (r2.2 == 0) then ((zde r2.1).bind fun r5 =>
  za5 (r5 == x_s)) else (za5 false)

def zce (s : Str) : Option Bool := if s.length < 1000000000 then ((zq 46 s).mapM (fun x => za8 x 255)).bind fun bs => some (bs.all id && decide ((bs.length : Int) = 4)) else none

def za9 (t7 : Bool) : Option Bool :=
  some t7

def zaK (x_b : UInt8) : Option Bool :=
  (zN x_b).bind fun r2 =>
  if r2 then (za9 true) else ((zW x_b).bind fun r4 =>
  if (decide (97 ≤ r4)) then ((zW x_b).bind fun r6 =>
  za9 (decide (r6 ≤ 102))) else (za9 false))

def zaN (rec1 : Int → Int → Option Int) (i13 : Int) (i36 : Int) : Option Int :=
  (zbj i13 1).bind fun i37 =>
  rec1 i36 i37

def zaj (rec1 : Int → Int → Option Int) (i12 : Int) (i13 : Int) (t32 : Bool) : Option Int :=
  if t32 then ((zbj i12 1).bind fun i34 =>
  zaN rec1 i13 i34) else (some (-1))

def zak (rec1 : Int → Int → Option Int) (i12 : Int) (i13 : Int) (x17 : Str) (t25 : Bool) : Option Int :=
  if t25 then ((zbj i12 2).bind fun i27 =>
  zaN rec1 i13 i27) else (if (decide (1 ≤ (x17.length : Int))) then (if (decide ((x17.length : Int) ≤ 4)) then ((zbH zaK ([x17] : List Str)).bind fun r31 =>
  zaj rec1 i12 i13 r31) else (zaj rec1 i12 i13 false)) else (zaj rec1 i12 i13 false))

def zs (x_last : Bool) (r6 : List Str) : Nat → Int → Int → Option Int
  | 0, _, _ => none
  | n + 1, i12, i13 =>
  if (decide (i13 < (r6.length : Int))) then ((lAt r6 i13).bind fun x17 =>
  if x_last then ((zey (r6.length : Int) 1).bind fun i22 =>
  if (i13 == i22) then ((zce x17).bind fun r24 =>
  zak (zs x_last r6 n) i12 i13 x17 r24) else (zak (zs x_last r6 n) i12 i13 x17 false)) else (zak (zs x_last r6 n) i12 i13 x17 false)) else (some i12)

def zaW (x_s : Str) (x_last : Bool) : Option Int :=
  if (x_s == []) then (some 0) else ((strings_Split x_s [58]).bind fun r6 =>
  zs x_last r6 fuel 0 0)

def zaX (t15 : Bool) : Option Bool :=
  some t15

def zdf (x_s : Str) : Option Bool :=
  (strings_Cut x_s [58, 58]).bind fun r2 =>
  if (!r2.2.2) then ((zaW x_s true).bind fun r6 =>
  some (r6 == 8)) else ((zaW r2.1 false).bind fun r9 =>
  (zaW r2.2.1 true).bind fun r10 =>
  if (decide (0 ≤ r9)) then (if (decide (0 ≤ r10)) then ((zbj r9 r10).bind fun i14 =>
  zaX (decide (i14 ≤ 7))) else (zaX false)) else (zaX false))

def zae (t8 : Bool) : Option Bool :=
  some t8

def zb3 (x_s : Str) : Option Bool :=
  if (decide (3 ≤ (x_s.length : Int))) then ((sAt x_s 0).bind fun b3 =>
  if (b3 == 37) then ((zgp x_s 1 3).bind fun s5 =>
  (zbH zaK ([s5] : List Str)).bind fun r7 =>
  zae r7) else (zae false)) else (zae false)

def zX (t7 : Bool) : Option Bool :=
  some t7

def zaO (x_b : UInt8) : Option Bool :=
  (zcc x_b).bind fun r2 =>
  if r2 then (zX true) else ((zN x_b).bind fun r4 =>
  if r4 then (zX true) else ((zcw x_b [45, 46, 95, 126]).bind fun r6 =>
  zX r6))

def zcI (x_b : UInt8) : Option Bool :=
  (zcw x_b [33, 36, 38, 39, 40, 41, 42, 43, 44, 59, 61]).bind fun r2 =>
  some r2

def zbf (rec1 : Str → Option Bool) (s6 : Str) (t19 : Bool) : Option Bool :=
  if t19 then ((zdT s6 1).bind fun s21 =>
  rec1 s21) else (some false)

def zS : Nat → Str → Option Bool
  | 0, _ => none
  | n + 1, s6 =>
  if (!(s6 == [])) then ((zb3 s6).bind fun r10 =>
  if r10 then ((zdT s6 3).bind fun s13 =>
  (zS n) s13) else ((sAt s6 0).bind fun b14 =>
  (zaO b14).bind fun r15 =>
  if r15 then (zbf (zS n) s6 true) else ((sAt s6 0).bind fun b17 =>
  (zcI b17).bind fun r18 =>
  zbf (zS n) s6 r18))) else (some true)

def zcV (x_s : Str) : Option Bool :=
  if (x_s == []) then (some false) else (zS fuel x_s)

def zaH (i24 : Int) (s25 : Str) : Option (api_Host × Bool) :=
  some (((⟨i24, s25, (-1)⟩ : api_Host), !(i24 == 0)))

def zaI (x_s : Str) (t14 : Bool) : Option (api_Host × Bool) :=
  if t14 then ((zey (x_s.length : Int) 1).bind fun i16 =>
  (zgp x_s 1 i16).bind fun s17 =>
  zaH 3 s17) else ((zce x_s).bind fun r18 =>
  if r18 then (zaH 2 x_s) else ((zcV x_s).bind fun r21 =>
  if r21 then (zaH 1 x_s) else (zaH 0 x_s)))

def zcJ (x_s : Str) : Option (api_Host × Bool) :=
  if (decide (2 < (x_s.length : Int))) then ((sAt x_s 0).bind fun b6 =>
  if (b6 == 91) then ((zey (x_s.length : Int) 1).bind fun i8 =>
  (sAt x_s i8).bind fun b9 =>
  if (b9 == 93) then ((zey (x_s.length : Int) 1).bind fun i11 =>
  (zgp x_s 1 i11).bind fun s12 =>
  (zdf s12).bind fun r13 =>
  zaI x_s r13) else (zaI x_s false)) else (zaI x_s false)) else (zaI x_s false)

def za6 (x_s : Str) (r10 : Int) (r17 : api_Host × Bool) (t24 : Bool) : Option (api_Host × Int) :=
  if t24 then (some (((⟨0, [], 0⟩ : api_Host), 27))) else ((zbj r10 1).bind fun i28 =>
  (zdT x_s i28).bind fun s29 =>
  (zaV s29 65535).bind fun r30 =>
  some (((⟨r17.1.Kind, r17.1.Name, r30.1⟩ : api_Host), 0)))

def zba (x_s : Str) : Option (api_Host × Int) :=
  (zcJ x_s).bind fun r3 =>
  if r3.2 then (some (r3.1, 0)) else ((zan x_s 58).bind fun r10 =>
  if (decide (r10 < 0)) then (some (((⟨0, [], 0⟩ : api_Host), 27))) else ((sTo x_s r10).bind fun s16 =>
  (zcJ s16).bind fun r17 =>
  if (!r17.2) then (za6 x_s r10 r17 true) else ((zbj r10 1).bind fun i21 =>
  (zdT x_s i21).bind fun s22 =>
  (za8 s22 65535).bind fun r23 =>
  za6 x_s r10 r17 (!r23))))

def zcz (s : Str) : Option Str := if s.length < 4294967281 then s.mapM zW else none

def zaY (t7 : Bool) : Option Bool :=
  some t7

def zdg (x_b : UInt8) : Option Bool :=
  (zaO x_b).bind fun r2 =>
  if r2 then (zaY true) else ((zcI x_b).bind fun r4 =>
  if r4 then (zaY true) else ((zcw x_b [58, 64]).bind fun r6 =>
  zaY r6))

def zcK (rec1 : Int → Option Bool) (i27 : Int) : Option Bool :=
  (zbj i27 1).bind fun i28 =>
  rec1 i28

def zcl (rec1 : Int → Option Bool) (i3 : Int) (t23 : Bool) : Option Bool :=
  if t23 then ((zbj i3 2).bind fun i25 =>
  zcK rec1 i25) else (some false)

def zcL (rec1 : Int → Option Bool) (x_s : Str) (i3 : Int) (t12 : Bool) : Option Bool :=
  if t12 then (zcK rec1 i3) else ((sAt x_s i3).bind fun b14 =>
  if (b14 == 37) then ((zbj i3 2).bind fun i16 =>
  if (decide (i16 < (x_s.length : Int))) then ((zbj i3 1).bind fun i18 =>
  (zbj i3 3).bind fun i19 =>
  (zgp x_s i18 i19).bind fun s20 =>
  (zbH zaK ([s20] : List Str)).bind fun r22 =>
  zcl rec1 i3 r22) else (zcl rec1 i3 false)) else (zcl rec1 i3 false))

def zat (x_s : Str) (x_more : Str) : Nat → Int → Option Bool
  | 0, _ => none
  | n + 1, i3 =>
  if (decide (i3 < (x_s.length : Int))) then ((sAt x_s i3).bind fun b7 =>
  (zdg b7).bind fun r8 =>
  if r8 then (zcL (zat x_s x_more n) x_s i3 true) else ((sAt x_s i3).bind fun b10 =>
  (strings_IndexByte x_more b10).bind fun r11 =>
  zcL (zat x_s x_more n) x_s i3 (decide (0 ≤ r11)))) else (some true)

def zej (x_s : Str) (x_more : Str) : Option Bool :=
  zat x_s x_more fuel 0

def zcf (t5 : Bool) : Option Bool :=
  some t5

def zd2 (x_s : Str) : Option Bool :=
  (strings_HasPrefix x_s [47]).bind fun r2 =>
  if r2 then ((zej x_s [47]).bind fun r4 =>
  zcf r4) else (zcf false)

def zdF (x_s : Str) : Option Bool :=
  (zej x_s [47, 63]).bind fun r2 =>
  some r2

def zcu (r2 : Str × Str × Bool) (t7 : Bool) : Option (Str × Str × Bool × Int) :=
  if t7 then (some ([], [], false, 2)) else (some (r2.1, r2.2.1, r2.2.2, 0))

def zeB (x_s : Str) : Option (Str × Str × Bool × Int) :=
  (strings_Cut x_s [63]).bind fun r2 =>
  (zd2 r2.1).bind fun r4 =>
  if (!r4) then (zcu r2 true) else ((zdF r2.2.1).bind fun r6 =>
  zcu r2 (!r6))

def zbQ (x_t : api_Target) (r15 : Str × Str × Bool × Int) (s19 : Str) : Option (api_Target × Bool) :=
  some (((⟨x_t.Kind, x_t.Scheme, x_t.Host, s19, r15.2.1, r15.2.2.1⟩ : api_Target), r15.2.2.2 == 0))

def zbR (x_t : api_Target) (b9 : UInt8) (s14 : Str) : Option (api_Target × Bool) :=
  (zeB s14).bind fun r15 =>
  if (b9 == 63) then (zbQ x_t r15 []) else (zbQ x_t r15 r15.1)

def zcM (x_t : api_Target) (x_s : Str) : Option (api_Target × Bool) :=
  if (x_s == []) then (some (x_t, true)) else ((sAt x_s 0).bind fun b9 =>
  if (b9 == 63) then ((sCat [47] x_s).bind fun s13 =>
  zbR x_t b9 s13) else (zbR x_t b9 x_s))

def zaP (r3 : Str × Str × Bool) (r5 : Str) (i18 : Int) : Option (api_Target × Bool) :=
  (sTo r3.2.1 i18).bind fun s19 =>
  (zba s19).bind fun r20 =>
  if (!(r20.2 == 0)) then (some (((⟨2, r5, (⟨0, [], 0⟩ : api_Host), [], [], false⟩ : api_Target), false))) else ((zdT r3.2.1 i18).bind fun s28 =>
  (zcM (⟨2, r5, r20.1, [], [], false⟩ : api_Target) s28).bind fun r29 =>
  some (r29.1, r29.2))

def zal (r3 : Str × Str × Bool) (r5 : Str) (t10 : Bool) : Option (api_Target × Bool) :=
  if t10 then (some (((⟨2, r5, (⟨0, [], 0⟩ : api_Host), [], [], false⟩ : api_Target), false))) else ((strings_IndexAny r3.2.1 [47, 63]).bind fun r14 =>
  if (decide (r14 < 0)) then (zaP r3 r5 (r3.2.1.length : Int)) else (zaP r3 r5 r14))

def zcq (x_s : Str) : Option (api_Target × Bool) :=
  (strings_Cut x_s [58, 47, 47]).bind fun r3 =>
  (zcz r3.1).bind fun r5 =>
  if (!r3.2.2) then (zal r3 r5 true) else (if (!(r5 == [104, 116, 116, 112])) then (zal r3 r5 (!(r5 == [104, 116, 116, 112, 115]))) else (zal r3 r5 false))

def zeC (x_method : Str) (x_s : Str) : Option (api_Target × Bool) :=
  if (x_s == [42]) then (some (((⟨4, [], (⟨0, [], 0⟩ : api_Host), [], [], false⟩ : api_Target), x_method == [79, 80, 84, 73, 79, 78, 83]))) else ((strings_HasPrefix x_s [47]).bind fun r7 =>
  if (!r7) then ((zcq x_s).bind fun r10 =>
  some (r10.1, r10.2)) else ((zcM ((⟨1, [], (⟨0, [], 0⟩ : api_Host), [], [], false⟩ : api_Target)) x_s).bind fun r13 =>
  some (r13.1, r13.2)))

def zbC (r5 : api_Host × Int) (t9 : Bool) : Option (api_Target × Int) :=
  if t9 then (some (((⟨0, [], (⟨0, [], 0⟩ : api_Host), [], [], false⟩ : api_Target), 20))) else (some (((⟨3, [], r5.1, [], [], false⟩ : api_Target), 0)))

def zdh (x_method : Str) (x_s : Str) : Option (api_Target × Int) :=
  if (x_method == [67, 79, 78, 78, 69, 67, 84]) then ((zba x_s).bind fun r5 =>
  if (!(r5.2 == 0)) then (zbC r5 true) else (zbC r5 (decide (r5.1.Port < 0)))) else ((zeC x_method x_s).bind fun r15 =>
  if (!r15.2) then (some (((⟨0, [], (⟨0, [], 0⟩ : api_Host), [], [], false⟩ : api_Target), 20))) else (some (r15.1, 0)))

def zy (r17 : Str × Bool × scan_Scanner) (r23 : Str × scan_Scanner) (r29 : Int × Bool × scan_Scanner) (t41 : Bool) : Option (api_Head × Int) :=
  if t41 then (some (((⟨0, [], [], 0, [], 0, []⟩ : api_Head), 20))) else (some (((⟨1, r17.1, r23.1, 0, [], r29.1, []⟩ : api_Head), 0)))

def zbS (x_a0 : Str) : Option (api_Head × Int) :=
  (zan x_a0 32).bind fun r5 =>
  (zbj r5 1).bind fun i6 =>
  (zdT x_a0 i6).bind fun s7 =>
  (zbz s7).bind fun r8 =>
  if r8 then (some (((⟨0, [], [], 0, [], 0, []⟩ : api_Head), 26))) else ((zc1 x_a0).bind fun r13 =>
  (zaM r13).bind fun r17 =>
  (zG r17.2.2 32).bind fun r20 =>
  (zZ r20.2 zaA).bind fun r23 =>
  (zG r23.2 32).bind fun r26 =>
  (zas (⟨r26.2⟩ : startline_line)).bind fun r29 =>
  (zdh r17.1 r23.1).bind fun r32 =>
  if (!r17.2.1) then (zy r17 r23 r29 true) else (if (!r20.1) then (zy r17 r23 r29 true) else (if (!r26.1) then (zy r17 r23 r29 true) else (if (!r29.2.1) then (zy r17 r23 r29 true) else ((zaF r29.2.2).bind fun r39 =>
  if (!r39) then (zy r17 r23 r29 true) else (zy r17 r23 r29 (!(r32.2 == 0))))))))

def zaQ (t3 : Bool) : Option Bool :=
  some t3

def zcr (x_b : UInt8) : Option Bool :=
  if (decide (32 < x_b)) then (zaQ (decide (x_b < 127))) else (zaQ false)

def zbg (t3 : Bool) : Option Bool :=
  some t3

def zbs (x_b : UInt8) : Option Bool :=
  if (x_b == 32) then (zbg true) else (zbg (x_b == 9))

def zaJ (t6 : Bool) : Option Bool :=
  some t6

def za1 (x_b : UInt8) : Option Bool :=
  (zcr x_b).bind fun r2 =>
  if r2 then (zaJ true) else ((zbs x_b).bind fun r4 =>
  if r4 then (zaJ true) else (zaJ (decide (127 < x_b))))

def zv (r14 : Int × Bool × scan_Scanner) (r23 : Bool × scan_Scanner) (r26 : Int × Int) (t37 : Bool) : Option (api_Head × Int) :=
  if t37 then (some (((⟨0, [], [], 0, [], 0, []⟩ : api_Head), 20))) else ((zL r23.2).bind fun r41 =>
  some (((⟨2, [], [], r26.1, r41, r14.1, []⟩ : api_Head), 0)))

def zb4 (x_a0 : Str) : Option (api_Head × Int) :=
  (strings_Cut x_a0 [32]).bind fun r3 =>
  (zbz r3.1).bind fun r5 =>
  if r5 then (some (((⟨0, [], [], 0, [], 0, []⟩ : api_Head), 26))) else ((zc1 x_a0).bind fun r10 =>
  (zas (⟨r10⟩ : startline_line)).bind fun r14 =>
  (zG r14.2.2 32).bind fun r17 =>
  (zZ r17.2 zN).bind fun r20 =>
  (zG r20.2 32).bind fun r23 =>
  (zaV r20.1 599).bind fun r26 =>
  if (!r14.2.1) then (zv r14 r23 r26 true) else (if (!r17.1) then (zv r14 r23 r26 true) else (if (!r23.1) then (zv r14 r23 r26 true) else (if (!((r20.1.length : Int) == 3)) then (zv r14 r23 r26 true) else (if (!(r26.2 == 0)) then (zv r14 r23 r26 true) else (if (decide (r26.1 < 100)) then (zv r14 r23 r26 true) else ((zL r23.2).bind fun r34 =>
  (zbH za1 ([r34] : List Str)).bind fun r36 =>
  zv r14 r23 r26 (!r36))))))))

def zaR (x_kind : Int) (x_s : Str) (t4 : Bool) : Option (api_Head × Int) :=
  if t4 then (some (((⟨0, [], [], 0, [], 0, []⟩ : api_Head), 1))) else ((strings_ContainsAny x_s [13, 10]).bind fun r7 =>
  if r7 then (some (((⟨0, [], [], 0, [], 0, []⟩ : api_Head), 24))) else (if (x_kind == 1) then ((zbS x_s).bind fun r13 =>
  some (r13.1, r13.2)) else ((zb4 x_s).bind fun r18 =>
  some (r18.1, r18.2))))

def zaZ (x_kind : Int) (x_s : Str) : Option (api_Head × Int) :=
  if (!(x_kind == 1)) then (zaR x_kind x_s (!(x_kind == 2))) else (zaR x_kind x_s false)

def zaB (x_c : scan_Scanner) : Option (Str × scan_Scanner) :=
  (zZ x_c zbs).bind fun r2 =>
  some (r2.1, r2.2)

def zaS (r17 : Str × Bool × scan_Scanner) (r20 : Str × scan_Scanner) (t26 : Bool) (s27 : Str) (i28 : Int) : Option (api_Field × Int) :=
  if t26 then (some (((⟨[], []⟩ : api_Field), 21))) else (if (!(r20.1 == [])) then (some (((⟨[], []⟩ : api_Field), 22))) else ((zL (⟨s27, i28⟩ : scan_Scanner)).bind fun r34 =>
  (zbH za1 ([r34] : List Str)).bind fun r36 =>
  if (!r36) then (some (((⟨[], []⟩ : api_Field), 25))) else ((zL (⟨s27, i28⟩ : scan_Scanner)).bind fun r41 =>
  (zdb r41 [32, 9]).bind fun r42 =>
  some (((⟨r17.1, r42⟩ : api_Field), 0)))))

def zbD (x_s : Str) : Option (api_Field × Int) :=
  (strings_ContainsAny x_s [13, 10]).bind fun r3 =>
  if r3 then (some (((⟨[], []⟩ : api_Field), 24))) else ((zc1 x_s).bind fun r8 =>
  (zaB r8).bind fun r11 =>
  if (!(r11.1 == [])) then (some (((⟨[], []⟩ : api_Field), 23))) else ((zaM r11.2).bind fun r17 =>
  (zaB r17.2.2).bind fun r20 =>
  if (!r17.2.1) then (zaS r17 r20 true r20.2.f_s r20.2.f_at) else ((zG r20.2 58).bind fun r24 =>
  zaS r17 r20 (!r24.1) r24.2.f_s r24.2.f_at)))

def zz (x_s : List api_Field) : Option (List api_Field) :=
  if zbL 0 x_s.length 32 then (some x_s) else none

def zf4 (x_l : List api_Field) : Option bag_Bag :=
  (zz x_l).bind fun r2 =>
  some (⟨r2⟩ : bag_Bag)

def zdi (x_b : bag_Bag) : Option (List api_Field) :=
  (zz x_b.f_l).bind fun r4 =>
  some r4

def zd3 (x_a : Str) (x_b : Str) : Option Bool :=
  (zcz x_a).bind fun r2 =>
  (zcz x_b).bind fun r3 =>
  some (r2 == r3)

def za7 (rec1 : (List Str) → Int → Option (List Str)) (i10 : Int) (l28 : List Str) : Option (List Str) :=
  (zbj i10 1).bind fun i29 =>
  rec1 l28 i29

def zT (x_name : Str) (r3 : List api_Field) : Nat → (List Str) → Int → Option (List Str)
  | 0, _, _ => none
  | n + 1, l9, i10 =>
  if (decide (i10 < (r3.length : Int))) then ((lAt r3 i10).bind fun x14 =>
  (zd3 x14.Name x_name).bind fun r19 =>
  if r19 then (if zbL l9.length 1 16 then (za7 (zT x_name r3 n) i10 (l9 ++ ([x14.Value] : List Str))) else none) else (za7 (zT x_name r3 n) i10 l9)) else (some l9)

def zcA (x_b : bag_Bag) (x_name : Str) : Option (List Str) :=
  (zdi x_b).bind fun r3 =>
  zT x_name r3 fuel [] 0

def zcg (rec2 : Int → Option Bool) (i21 : Int) (t33 : Bool) : Option Bool :=
  if t33 then (some false) else ((zbj i21 1).bind fun i37 =>
  rec2 i37)

def zaw (r11 : List Str) : Nat → Int → Option Bool
  | 0, _ => none
  | n + 1, i21 =>
  if (decide (i21 < (r11.length : Int))) then ((lAt r11 i21).bind fun x25 =>
  (zba x25).bind fun r29 =>
  if (!(r29.2 == 0)) then (zcg (zaw r11 n) i21 (!(x25 == []))) else (zcg (zaw r11 n) i21 false)) else (some true)

def zch (r11 : List Str) (t16 : Bool) : Option Bool :=
  if t16 then (some false) else (zaw r11 fuel 0)

def zd4 (x_h : api_Head) : Option Bool :=
  if (!(x_h.Kind == 1)) then (some true) else ((zf4 x_h.Fields).bind fun r7 =>
  (zcA r7 [72, 111, 115, 116]).bind fun r11 =>
  if (decide (1 < (r11.length : Int))) then (zch r11 true) else (zch r11 (decide ((r11.length : Int) < x_h.Minor))))

def zd5 (x_h : api_Head) : Option Int :=
  if (decide (100 < (x_h.Fields.length : Int))) then (some 3) else ((zd4 x_h).bind fun r6 =>
  if (!r6) then (some 27) else (some 0))

def zcW (i75 : Int) (s76 : Str) (s77 : Str) (i78 : Int) (s79 : Str) (i80 : Int) (l83 : List api_Field) : Option (api_Head × Int) :=
  (zd5 (⟨i75, s76, s77, i78, s79, i80, l83⟩ : api_Head)).bind fun r84 =>
  if (!(r84 == 0)) then (some (((⟨0, [], [], 0, [], 0, []⟩ : api_Head), r84))) else (some (((⟨i75, s76, s77, i78, s79, i80, l83⟩ : api_Head), 0)))

def zbt (l41 : List Str) : Nat → Int → Str → Str → Int → Str → Int → (List api_Field) → Int → Option (api_Head × Int)
  | 0, _, _, _, _, _, _, _, _ => none
  | n + 1, i45, s46, s47, i48, s49, i50, l53, i54 =>
  if (decide (i54 < (l41.length : Int))) then ((lAt l41 i54).bind fun x58 =>
  (zbD x58).bind fun r62 =>
  if (!(r62.2 == 0)) then (some (((⟨0, [], [], 0, [], 0, []⟩ : api_Head), r62.2))) else (if zbL l53.length 1 32 then ((zbj i54 1).bind fun i74 =>
  (zbt l41 n) i45 s46 s47 i48 s49 i50 (l53 ++ [r62.1]) i74) else none)) else (zcW i45 s46 s47 i48 s49 i50 l53)

def zci (x_a0 : Int) (x_a1 : Str) (r12 : Int) (t19 : Bool) : Option (api_Head × Int) :=
  if t19 then (some (((⟨0, [], [], 0, [], 0, []⟩ : api_Head), 6))) else ((sTo x_a1 r12).bind fun s23 =>
  (strings_Split s23 [13, 10]).bind fun r24 =>
  (lAt r24 0).bind fun x28 =>
  (zaZ x_a0 x28).bind fun r31 =>
  if (!(r31.2 == 0)) then (some (((⟨0, [], [], 0, [], 0, []⟩ : api_Head), r31.2))) else ((zhG r24 1).bind fun l41 =>
  zbt l41 fuel r31.1.Kind r31.1.Method r31.1.Target r31.1.Code r31.1.Reason r31.1.Minor r31.1.Fields 0))

def zd6 (x_a0 : Int) (x_a1 : Str) (x_a2 : Int) : Option (api_Head × Int) :=
  (zaZ x_a0 []).bind fun r3 =>
  if (r3.2 == 1) then (some (((⟨0, [], [], 0, [], 0, []⟩ : api_Head), r3.2))) else ((strings_Index x_a1 [13, 10, 13, 10]).bind fun r12 =>
  if (decide (x_a2 < (x_a1.length : Int))) then (some (((⟨0, [], [], 0, [], 0, []⟩ : api_Head), 3))) else (if (decide (r12 < 0)) then (zci x_a0 x_a1 r12 true) else ((zbj r12 4).bind fun i18 =>
  zci x_a0 x_a1 r12 (!(i18 == (x_a1.length : Int))))))

def zaC (x_a : accum_Accum) (i16 : Int) : Option (Bool × Int × accum_Accum) :=
  some ((false, i16, (⟨x_a.f_kind, x_a.f_limit, x_a.f_buf, (x_a.f_buf.length : Int), x_a.f_took, x_a.f_bad, x_a.f_whole, x_a.f_got⟩ : accum_Accum)))

def zb5 (x_a : accum_Accum) (x_s : Str) : Option (Bool × Int × accum_Accum) :=
  if (x_a.f_from == 0) then ((zaZ x_a.f_kind x_s).bind fun r5 =>
  zaC x_a r5.2) else (if (!(x_s == [])) then ((zbD x_s).bind fun r10 =>
  zaC x_a r10.2) else ((zd6 x_a.f_kind x_a.f_buf x_a.f_limit).bind fun r11 =>
  some ((r11.2 == 0, r11.2, (⟨x_a.f_kind, x_a.f_limit, x_a.f_buf, x_a.f_from, x_a.f_took, x_a.f_bad, x_a.f_whole, r11.1⟩ : accum_Accum)))))

def zb6 (x_a : accum_Accum) (x_b : UInt8) : Option (Bool × Int × accum_Accum) :=
  if (decide (x_a.f_limit ≤ (x_a.f_buf.length : Int))) then (some (false, 3, x_a)) else (if zbL x_a.f_buf.length 1 1 then ((zb2 (⟨x_a.f_kind, x_a.f_limit, x_a.f_buf ++ [x_b], x_a.f_from, x_a.f_took, x_a.f_bad, x_a.f_whole, x_a.f_got⟩ : accum_Accum)).bind fun r11 =>
  if r11 then (some ((false, 24, (⟨x_a.f_kind, x_a.f_limit, x_a.f_buf ++ [x_b], x_a.f_from, x_a.f_took, x_a.f_bad, x_a.f_whole, x_a.f_got⟩ : accum_Accum)))) else (if (!(x_b == 10)) then (some ((false, 0, (⟨x_a.f_kind, x_a.f_limit, x_a.f_buf ++ [x_b], x_a.f_from, x_a.f_took, x_a.f_bad, x_a.f_whole, x_a.f_got⟩ : accum_Accum)))) else ((zey (((x_a.f_buf ++ [x_b]).length : Int)) 2).bind fun i20 =>
  (lSub (x_a.f_buf ++ [x_b]) x_a.f_from i20).bind fun l21 =>
  (zb5 (⟨x_a.f_kind, x_a.f_limit, x_a.f_buf ++ [x_b], x_a.f_from, x_a.f_took, x_a.f_bad, x_a.f_whole, x_a.f_got⟩ : accum_Accum) l21).bind fun r24 =>
  some (r24.1, r24.2.1, r24.2.2)))) else none)

def zaD (rec2 : Int → Int → (List UInt8) → Int → Bool → Int → Bool → Int → Str → Str → Int → Str → Int → (List api_Field) → Int → Option (Int × Bool × Int × accum_Accum)) (i27 : Int) (r34 : Bool × Int × accum_Accum) (t42 : Bool) : Option (Int × Bool × Int × accum_Accum) :=
  if t42 then ((zbj i27 1).bind fun i45 =>
  some ((i45, r34.1, r34.2.1, (⟨r34.2.2.f_kind, r34.2.2.f_limit, [], r34.2.2.f_from, r34.2.2.f_took, r34.2.1, r34.1, r34.2.2.f_got⟩ : accum_Accum)))) else ((zbj i27 1).bind fun i48 =>
  rec2 r34.2.2.f_kind r34.2.2.f_limit r34.2.2.f_buf r34.2.2.f_from r34.2.2.f_took r34.2.1 r34.1 r34.2.2.f_got.Kind r34.2.2.f_got.Method r34.2.2.f_got.Target r34.2.2.f_got.Code r34.2.2.f_got.Reason r34.2.2.f_got.Minor r34.2.2.f_got.Fields i48)

def zbk (x_a1 : Str) (i49 : Int) (i50 : Int) (l53 : List UInt8) (i54 : Int) (t55 : Bool) (i56 : Int) (t57 : Bool) (i58 : Int) (s59 : Str) (s60 : Str) (i61 : Int) (s62 : Str) (i63 : Int) (l66 : List api_Field) : Option (Int × Bool × Int × accum_Accum) :=
  some (((x_a1.length : Int), false, 0, (⟨i49, i50, l53, i54, t55, i56, t57, (⟨i58, s59, s60, i61, s62, i63, l66⟩ : api_Head)⟩ : accum_Accum)))

def zJ (x_a1 : Str) : Nat → Int → Int → (List UInt8) → Int → Bool → Int → Bool → Int → Str → Str → Int → Str → Int → (List api_Field) → Int → Option (Int × Bool × Int × accum_Accum)
  | 0, _, _, _, _, _, _, _, _, _, _, _, _, _, _, _ => none
  | n + 1, i9, i10, l13, i14, t15, i16, t17, i18, s19, s20, i21, s22, i23, l26, i27 =>
  if (decide (i27 < (x_a1.length : Int))) then ((sAt x_a1 i27).bind fun b33 =>
  (zb6 ((⟨i9, i10, l13, i14, true, i16, t17, (⟨i18, s19, s20, i21, s22, i23, l26⟩ : api_Head)⟩ : accum_Accum)) b33).bind fun r34 =>
  if r34.1 then (zaD (zJ x_a1 n) i27 r34 true) else (zaD (zJ x_a1 n) i27 r34 (!(r34.2.1 == 0)))) else (zbk x_a1 i9 i10 l13 i14 t15 i16 t17 i18 s19 s20 i21 s22 i23 l26)

def zaE (x_a0 : accum_Accum) (x_a1 : Str) (t4 : Bool) : Option (Int × Bool × Int × accum_Accum) :=
  if t4 then (some (0, false, 8, x_a0)) else (zJ x_a1 fuel x_a0.f_kind x_a0.f_limit x_a0.f_buf x_a0.f_from x_a0.f_took x_a0.f_bad x_a0.f_whole x_a0.f_got.Kind x_a0.f_got.Method x_a0.f_got.Target x_a0.f_got.Code x_a0.f_got.Reason x_a0.f_got.Minor x_a0.f_got.Fields 0)

def zbh (x_a0 : accum_Accum) (x_a1 : Str) : Option (Int × Bool × Int × accum_Accum) :=
  if (!(x_a0.f_bad == 0)) then (zaE x_a0 x_a1 true) else (zaE x_a0 x_a1 x_a0.f_whole)

def zb7 (x_a : accum_Accum) : Option (api_Head × Bool) :=
  if (!x_a.f_whole) then (some (((⟨0, [], [], 0, [], 0, []⟩ : api_Head), false))) else (if zbL 0 x_a.f_got.Fields.length 32 then (some (x_a.f_got, true)) else none)

def zbT : Option Bool :=
  some false

def zcB (i10 : Int) : Option Bool :=
  if (!(i10 == 0)) then (zbT) else (zbT)

def zO (t64 : Bool) : Option Bool :=
  some t64

def zbU (i15 : Int) (i16 : Int) (l19 : List UInt8) (i20 : Int) (t21 : Bool) (i22 : Int) (t23 : Bool) (i24 : Int) (s25 : Str) (s26 : Str) (i27 : Int) (s28 : Str) (i29 : Int) (l32 : List api_Field) (t34 : Bool) : Option Bool :=
  if t34 then (some false) else ((zbh ((⟨i15, i16, l19, i20, t21, i22, t23, (⟨i24, s25, s26, i27, s28, i29, l32⟩ : api_Head)⟩ : accum_Accum)) [71, 69, 84, 32, 47, 32, 72, 84, 84, 80, 47, 49, 46, 48, 13]).bind fun r38 =>
  (zbh r38.2.2.2 [10, 13, 10, 120]).bind fun r45 =>
  (zb7 r45.2.2.2).bind fun r52 =>
  if (r38.1 == 15) then (if (!r38.2.1) then (if (r38.2.2.1 == 0) then (if (r45.1 == 3) then (if r45.2.1 then (if (r45.2.2.1 == 0) then (if r52.2 then (zO (r52.1.Target == [47])) else (zO false)) else (zO false)) else (zO false)) else (zO false)) else (zO false)) else (zO false)) else (zO false))

def zcC (i14 : Int) (i15 : Int) (i16 : Int) (l19 : List UInt8) (i20 : Int) (t21 : Bool) (i22 : Int) (t23 : Bool) (i24 : Int) (s25 : Str) (s26 : Str) (i27 : Int) (s28 : Str) (i29 : Int) (l32 : List api_Field) : Option Bool :=
  if (!(i14 == 0)) then (zbU i15 i16 l19 i20 t21 i22 t23 i24 s25 s26 i27 s28 i29 l32 true) else (zbU i15 i16 l19 i20 t21 i22 t23 i24 s25 s26 i27 s28 i29 l32 false)

def zcN : Option Bool :=
  (zeA 1 99).bind fun r2 =>
  optE r2.1 (zcB r2.2) (fun x4 => zcC r2.2 x4.f_kind x4.f_limit x4.f_buf x4.f_from x4.f_took x4.f_bad x4.f_whole x4.f_got.Kind x4.f_got.Method x4.f_got.Target x4.f_got.Code x4.f_got.Reason x4.f_got.Minor x4.f_got.Fields)

def z7 (t9 : Bool) : Option Bool :=
  some t9

def zdj (x_a : api_Head) (x_b : api_Head) : Option Bool :=
  if (x_a.Kind == x_b.Kind) then (if (x_a.Method == x_b.Method) then (if (x_a.Target == x_b.Target) then (if (x_a.Minor == x_b.Minor) then (if (x_a.Code == x_b.Code) then (z7 (x_a.Reason == x_b.Reason)) else (z7 false)) else (z7 false)) else (z7 false)) else (z7 false)) else (z7 false)

def zai (x_a : List api_Field) (x_b : List api_Field) : Nat → Int → Option Bool
  | 0, _ => none
  | n + 1, i7 =>
  if (decide (i7 < (x_a.length : Int))) then ((lAt x_a i7).bind fun x11 =>
  (lAt x_b i7).bind fun x14 =>
  if (!(x11 == x14)) then (some false) else ((zbj i7 1).bind fun i21 =>
  (zai x_a x_b n) i21)) else (some true)

def zcD (x_a : List api_Field) (x_b : List api_Field) : Option Bool :=
  if (!((x_a.length : Int) == (x_b.length : Int))) then (some false) else (zai x_a x_b fuel 0)

def zbu (t7 : Bool) : Option Bool :=
  some t7

def zb8 (x_a : api_Head) (x_b : api_Head) : Option Bool :=
  (zdj x_a x_b).bind fun r4 =>
  if r4 then ((zcD x_a.Fields x_b.Fields).bind fun r6 =>
  zbu r6) else (zbu false)

def zbl (x_a1 : Str) : Option (Int × Bool × Int) :=
  some (0, false, 5)

def zbm : Option (api_Head × Bool) :=
  some (((⟨0, [], [], 0, [], 0, []⟩ : api_Head), false))

def zbn : Option Int :=
  some 0

def zbb : Option Bool :=
  some true

def zA (t24 : Bool) : Option Bool :=
  some t24

def zbE (x_s : Str) : Option Bool :=
  (zcN).bind fun r2 =>
  if (!r2) then (some false) else ((zbl x_s).bind fun r8 =>
  (zbm).bind fun r10 =>
  if (r8.1 == 0) then (if (!r8.2.1) then (if (r8.2.2 == 5) then (if (!r10.2) then ((zb8 r10.1 (⟨0, [], [], 0, [], 0, []⟩ : api_Head)).bind fun r19 =>
  if r19 then ((zbn).bind fun r21 =>
  if (r21 == 0) then ((zbb).bind fun r23 =>
  zA r23) else (zA false)) else (zA false)) else (zA false)) else (zA false)) else (zA false)) else (zA false))

end Go.Dm
end
section
namespace Go.Dm
theorem ze6 (b : Bool) (v : Int) (k : Nat) (h : -1 ≤ v) : (if b = true then (k : Int) else if v = -1 then -1 else v + ((k + 1 : Nat) : Int)) =
    if (if b = true then 0 else if (v == -1) = true then -1 else v + 1) = -1 then -1 else (if b = true then 0 else if (v == -1) = true then -1 else v + 1) + (k : Int) := by
  cases b with
  | true => simp
  | false =>
    by_cases hm : v = -1
    · subst hm; simp
    · have h2 : ¬ (v + 1 = -1) := by omega
      have h3 : (v == -1) = false := beq_eq_false_iff_ne.2 hm
      rw [h3]
      simp only [Bool.false_eq_true, if_false, if_neg hm, if_neg h2]
      omega
theorem zeQ : ∀ (l : Str) (c : UInt8) (k : Nat), zei l c k = if Go.Lib.indexByte l c = -1 then -1 else Go.Lib.indexByte l c + k
  | [], _, _ => rfl
  | x :: l, c, k => by
    rw [zei, Go.Lib.indexByte, zeQ l c (k + 1)]
    exact ze6 _ _ k (Go.Lib.indexByte_ge l c)
theorem zhF (x y : UInt8) : (x == y) = (y == x) := by
  by_cases h : x = y
  · subst h; rfl
  · rw [beq_eq_false_iff_ne.2 h, beq_eq_false_iff_ne.2 (Ne.symm h)]
theorem ze7 : ∀ (s t : Str), zd1 s t = t.isPrefixOf s
  | s, [] => by cases s <;> rfl
  | [], y :: t => rfl
  | x :: s, y :: t => by
    rw [zd1, List.isPrefixOf, ze7 s t, zhF x y]
theorem ze8 : ∀ (l t : Str) (k : Nat), zcy l t k = if Go.Lib.index l t = -1 then -1 else Go.Lib.index l t + k
  | [], t, k => by
    rw [zcy, Go.Lib.index]
    cases t <;> simp [zd1]
  | x :: l, t, k => by
    rw [zcy, Go.Lib.index, ze7]
    simp only [ze8 l t (k + 1)]
    exact ze6 _ _ k (Go.Lib.index_ge l t)
theorem ze9 : ∀ (l cs : Str) (k : Nat), zfk l cs k = if Go.Lib.indexAny l cs = -1 then -1 else Go.Lib.indexAny l cs + k
  | [], _, _ => rfl
  | x :: l, cs, k => by
    rw [zfk, Go.Lib.indexAny, ze9 l cs (k + 1)]
    exact ze6 _ _ k (Go.Lib.indexAny_ge cs l)
theorem zgl (l : Str) (c : UInt8) : zei l c 0 = Go.Lib.indexByte l c := by
  rw [zeQ]; have := Go.Lib.indexByte_ge l c; split <;> omega
theorem zgI (l t : Str) : zcy l t 0 = Go.Lib.index l t := by
  rw [ze8]; have := Go.Lib.index_ge l t; split <;> omega
theorem zgJ (l cs : Str) : zfk l cs 0 = Go.Lib.indexAny l cs := by
  rw [ze9]; have := Go.Lib.indexAny_ge cs l; split <;> omega
end Go.Dm
end
section
namespace Go.Dm
@[simp] theorem sAt_nat (l : Str) (i : Nat) : sAt l (i : Int) = l[i]? := by simp [sAt]
@[simp] theorem sAt_zero (l : Str) : sAt l 0 = l[0]? := by simp [sAt]
@[simp] theorem sAt_one (l : Str) : sAt l 1 = l[1]? := by simp [sAt]
@[simp] theorem sAt_two (l : Str) : sAt l 2 = l[2]? := by simp [sAt]
@[simp] theorem zg0 {α : Type} (l : List α) (i : Nat) : lAt l (i : Int) = l[i]? := by simp [lAt]
@[simp] theorem lAt_zero {α : Type} (l : List α) : lAt l 0 = l[0]? := by simp [lAt]
theorem ziz {m n : Int} (h1 : -9223372036854775808 ≤ m + n) (h2 : m + n ≤ 9223372036854775807) : zbj m n = some (m + n) := by simp [zbj, inI, h1, h2]
theorem zhK {i : Nat} (h : i < 4611686018427387904) : zbj (i : Int) 1 = some ((i + 1 : Nat) : Int) := by
  rw [ziz (by omega) (by omega)]; simp
end Go.Dm
end
section
namespace Go.Dm
def zf5 (b : UInt8) : Bool := decide (48 ≤ b) && decide (b ≤ 57)
def zeD (b : UInt8) : UInt8 := if 65 ≤ b ∧ b ≤ 90 then b + 32 else b
def cAlpha (b : UInt8) : Bool := decide (97 ≤ zeD b) && decide (zeD b ≤ 122)
def cHex (b : UInt8) : Bool := zf5 b || decide (97 ≤ zeD b) && decide (zeD b ≤ 102)
def cUnres (b : UInt8) : Bool := cAlpha b || zf5 b || ([45, 46, 95, 126] : Str).contains b
def cSub (b : UInt8) : Bool := ([33, 36, 38, 39, 40, 41, 42, 43, 44, 59, 61] : Str).contains b
end Go.Dm
end
section
namespace Go.Dm
def valB (b : Nat) (l : List Nat) : Nat := l.foldl (fun n d => n * b + d) 0
def digsF (b : Nat) : Nat → Nat → List Nat
  | 0, n => [n % b]
  | k + 1, n => if n < b then [n] else digsF b k (n / b) ++ [n % b]
def digs (b n : Nat) : List Nat := digsF b 70 n
def dch (d : Nat) : UInt8 := if d < 10 then UInt8.ofNat (48 + d) else UInt8.ofNat (87 + d)
def zp (l : List Nat) : Str := l.map dch
def wor (c : UInt8) : Nat := if zf5 c then (c - 48).toNat else (zeD c - 97).toNat + 10
def isDig (b : Nat) (c : UInt8) : Bool := if b = 10 then zf5 c else cHex c
def textN (b : Nat) (n : Int) : Str := if n < 0 then [] else zp (digs b n.toNat)
def vals (s : Str) : List Nat := s.map wor
def readN (b : Nat) (s : Str) (most : Int) : Int × Int :=
  if (s == [] || !s.all (isDig b)) = true then (0, 2) else if most < (valB b (vals s) : Int) then (0, 7) else (((valB b (vals s) : Nat) : Int), 0)
end Go.Dm
end
section
namespace Go.Dm
def low (s : Str) : Str := s.map zeD
end Go.Dm
end
section
namespace Go.Dm
def upto (cs s : Str) : Str := s.takeWhile (fun c => !cs.contains c)
end Go.Dm
end
section
namespace Go.Dm
structure At (s : Str) (k : Nat) (r : Str) : Prop where
  le : k ≤ s.length
  drop : s.drop k = r
theorem At.zero (s : Str) : At s 0 s := ⟨Nat.zero_le _, rfl⟩
theorem At.len {s : Str} {k : Nat} {r : Str} (h : At s k r) : k + r.length = s.length := by
  have := congrArg List.length h.drop
  rw [List.length_drop] at this
  have := h.le
  omega
section
variable {s r : Str} {k : Nat}
end
end Go.Dm
end
section
namespace Go.Dm
theorem zdX (c : UInt8) (s : Str) : zq c s ≠ [] := by
  cases s with
  | nil => simp [zq]
  | cons x s =>
    unfold zq
    split
    · simp
    · split <;> simp
def zcT (p : Str) : List Str → List Str
  | [] => [p]
  | h :: t => (p ++ h) :: t
theorem zc8 (c x : UInt8) (s : Str) : zq c (x :: s) = if x = c then [] :: zq c s else zcT [x] (zq c s) := by
  rw [zq]
  split
  · rfl
  · cases h : zq c s <;> rfl
theorem zgE (l : List Str) (h : l ≠ []) : zcT [] l = l := by
  cases l with
  | nil => exact absurd rfl h
  | cons a t => rfl
theorem zfG (p q : Str) (l : List Str) (h : l ≠ []) : zcT p (zcT q l) = zcT (p ++ q) l := by
  cases l with
  | nil => exact absurd rfl h
  | cons a t => simp [zcT]
theorem zdC (c : UInt8) : ∀ (a s : Str), c ∉ a → zq c (a ++ s) = zcT a (zq c s)
  | [], s, _ => (zgE _ (zdX c s)).symm
  | x :: a, s, h => by
    have hx : ¬ x = c := fun e => h (by simp [e])
    rw [List.cons_append, zc8, if_neg hx, zdC c a s (fun e => h (List.mem_cons_of_mem _ e)), zfG _ _ _ (zdX c s)]
    rfl
theorem zfS {c : UInt8} {a : Str} (h : c ∉ a) : zq c a = [a] := by
  have := zdC c a [] h
  simpa [zq, zcT] using this
theorem zgF {c : UInt8} {a : Str} (s : Str) (h : c ∉ a) : zq c (a ++ c :: s) = a :: zq c s := by
  rw [zdC c a _ h, zc8, if_pos rfl]
  simp [zcT]
theorem zeP (c : UInt8) : ∀ s : Str, (zq c s).length ≤ s.length + 1
  | [] => by simp [zq]
  | x :: s => by
    have ih := zeP c s
    rw [zc8]
    split
    · simp; omega
    · cases hl : zq c s with
      | nil => exact absurd hl (zdX c s)
      | cons a t => rw [hl] at ih; simp [zcT] at ih ⊢; omega
end Go.Dm
end
section
namespace Go.Dm
def ziy (s : Str) (most : Int) : Bool := (readN 10 s most).2 == 0 && textN 10 (readN 10 s most).1 == s
def zhH (s : Str) : Bool := (zq 46 s).all (fun x => ziy x 255) && decide (((zq 46 s).length : Int) = 4)
def zhI : Str → Bool
  | [] => true
  | c :: s => if c == 37 then (match s with
    | a :: b :: r => cHex a && cHex b && zhI r
    | _ => false) else (cUnres c || cSub c) && zhI s
def zhJ (s : Str) : Bool := !(s == []) && zhI s
def under (a b : Str) : Bool := zhJ a && zhJ b && !zhH a && !zhH b && (low a == low b || ((46 :: low b) : Str).isSuffixOf (low a))
end Go.Dm
end
section
namespace Go.Dm
section
variable {s r : Str} {k : Nat}
end
def zeroH : api_Head := ⟨0, [], [], 0, [], 0, []⟩
end Go.Dm
end
section
namespace Go.Dm
def isBl (b : UInt8) : Bool := b == 32 || b == 9
def triml (s : Str) : Str := s.dropWhile isBl
def trimr (s : Str) : Str := (s.reverse.dropWhile isBl).reverse
def trim (s : Str) : Str := triml (trimr s)
end Go.Dm
end
section
namespace Go.Dm
def elems (l : List Str) : List Str := (l.map trim).filter (fun x => !(x == []))
end Go.Dm
end
section
namespace Go.Dm
theorem zhd {α : Type} [BEq α] [LawfulBEq α] (a b : List α) (L : Nat → Int → Option Bool) (hl : a.length = b.length) (ha : a.length < 1000000000)
    (hE : ∀ n, L (n + 1) (a.length : Int) = some true) (hL : ∀ n (i : Nat) x y, i < a.length → a[i]? = some x → b[i]? = some y → L (n + 1) (i : Int) = if (x == y) = true then L n ((i + 1 : Nat) : Int) else some false) : L fuel 0 = some (a == b) := by
  have key : ∀ (n i : Nat), i ≤ a.length → a.length - i < n → L n (i : Int) = some (a.drop i == b.drop i) := by
    intro n
    induction n with
    | zero => intro i _ h; omega
    | succ n ih =>
      intro i hi h
      by_cases hlt : i < a.length
      · have g1 : a[i]? = some a[i] := List.getElem?_eq_getElem hlt
        have g2 : b[i]? = some (b[i]'(by omega)) := List.getElem?_eq_getElem (by omega)
        rw [hL n i _ _ hlt g1 g2, ih (i + 1) (by omega) (by omega), List.drop_eq_getElem_cons hlt, List.drop_eq_getElem_cons (show i < b.length by omega), List.cons_beq_cons]
        cases a[i] == b[i]'(by omega) <;> rfl
      · have : i = a.length := by omega
        subst this
        rw [hE, List.drop_length, List.drop_of_length_le (by omega)]
        rfl
  have := key fuel 0 (Nat.zero_le _) (by unfold fuel; omega)
  rw [List.drop_zero, List.drop_zero] at this
  exact this
theorem zfJ (a b : List api_Field) (ha : a.length < 1000000000) : zcD a b = some (a == b) := by
  unfold zcD
  by_cases hl : a.length = b.length
  · rw [hl, beq_self_eq_true, Bool.not_true, if_neg (by decide)]
    refine zhd a b (zai a b) hl ha (fun n => ?_) (fun n i x y hi hx hy => ?_)
    · rw [zai, decide_eq_false (by omega), if_neg (by decide)]
    · rw [zai, decide_eq_true (by omega), if_pos rfl, zg0, hx, Option.bind_some, zg0, hy, Option.bind_some, zhK (by omega), Option.bind_some]
      cases x == y <;> rfl
  · have : (((a.length : Int) == (b.length : Int))) = false := beq_eq_false_iff_ne.2 (by omega)
    have h2 : (a == b) = false := beq_eq_false_iff_ne.2 (fun e => hl (by rw [e]))
    rw [this, h2]; rfl
end Go.Dm
end
section
namespace Go.Dm
def zg9 (a b : api_Head) : Bool := a.Kind == b.Kind && a.Method == b.Method && a.Target == b.Target && a.Minor == b.Minor && a.Code == b.Code && a.Reason == b.Reason && a.Fields == b.Fields
theorem zgY (a : api_Head) : zg9 a a = true := by unfold zg9; simp
theorem zfL (a b : api_Head) (ha : a.Fields.length < 1000000000) : zb8 a b = some (zg9 a b) := by
  unfold zb8 zbu zdj z7 zg9
  rw [zfJ _ _ ha, Option.bind_some]
  cases a.Kind == b.Kind <;> cases a.Method == b.Method <;> cases a.Target == b.Target <;> cases a.Minor == b.Minor <;> cases a.Code == b.Code <;> cases a.Reason == b.Reason <;> rfl
end Go.Dm
end
section
namespace Go.Dm
theorem zfa : zcN = some true := by decide +kernel
theorem zfb (s : Str) : zbE s = some true := by
  unfold zbE
  rw [zfa, Option.bind_some, Bool.not_true, if_neg Bool.false_ne_true]
  show ((zb8 zeroH zeroH).bind _) = _
  rw [zfL _ _ (by decide), Option.bind_some, zgY]
end Go.Dm
end
