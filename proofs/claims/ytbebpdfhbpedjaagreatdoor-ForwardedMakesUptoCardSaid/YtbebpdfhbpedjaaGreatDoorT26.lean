/-
  The models' words: partial operations as functions into Option. No program in sight.
  The models of the functions: written by a program (wip/gen) off the translation. No program in sight.
  The library's functions as the models say them, and as the library's contracts say them. No program in sight.
  Plain tools for the laws: the partial operations at natural numbers, loops over lists. No program in sight.
  Layer 1 (bytes): what the program's and the reference's models come to.
  Layer 3 (numbers): reading and writing: the program's and the document's come to the same. No program in sight.
-/
import Derived.Lib.ItoaNum
import Derived.Lib.SplitLaws
import Derived.Lib.SlTrimSet
import Derived.Lib.Join
import Derived.Lib.IndexMore
import Derived.Lib.Bytealg
import Derived.Lib.Index
import Derived.Lib.IndexAny
section
namespace Go.Dm
abbrev Str := List UInt8

def inI (n : Int) : Bool := decide (-9223372036854775808 ≤ n) && decide (n ≤ 9223372036854775807)
theorem zdI {n : Int} : inI n = true ↔ -9223372036854775808 ≤ n ∧ n ≤ 9223372036854775807 := by simp [inI]

def zX (m n : Int) : Option Int := if inI (m + n) then some (m + n) else none
def zgo (m n : Int) : Option Int := if inI (m - n) then some (m - n) else none
def ziQ (m n : Int) : Option Int := if inI (m * n) then some (m * n) else none
def ziR (m n : Int) : Option Int := if 0 ≤ m ∧ 1 ≤ n ∧ inI (m / n) = true then some (m / n) else none
def zka (m n : Int) : Option Int := if 0 ≤ m ∧ 1 ≤ n ∧ inI (m % n) = true then some (m % n) else none
def sAt (l : Str) (i : Int) : Option UInt8 := if 0 ≤ i then l[i.toNat]? else none
def sTo (l : Str) (h : Int) : Option Str := if 0 ≤ h ∧ h ≤ l.length then some (l.take h.toNat) else none
def zfM (l : Str) (i : Int) : Option Str := if 0 ≤ i ∧ i ≤ l.length then some (l.drop i.toNat) else none
def zgU (l : Str) (i h : Int) : Option Str := if 0 ≤ i ∧ i ≤ h ∧ h ≤ l.length then some ((l.take h.toNat).drop i.toNat) else none
def zc4 (l m : Str) : Option Str := if l.length + m.length ≤ 9223372036854775807 then some (l ++ m) else none
def lAt {α : Type} (l : List α) (i : Int) : Option α := if 0 ≤ i then l[i.toNat]? else none
def lTo {α : Type} (l : List α) (h : Int) : Option (List α) := if 0 ≤ h ∧ h ≤ l.length then some (l.take h.toNat) else none
def zgV {α : Type} (l : List α) (i : Int) (x : α) : Option (List α) := if 0 ≤ i ∧ i < l.length then some (l.set i.toNat x) else none

def zQ (n m bytes : Nat) : Bool := decide (n + m ≤ 9223372036854775807) && decide ((n + m) * bytes ≤ 140737488355328)
theorem og {α : Type} {b : Bool} {x : Option α} {r : α} (h : (if b = true then x else none) = some r) : b = true ∧ x = some r := by
  cases b with
  | false => cases h
  | true => exact ⟨rfl, h⟩
theorem zdt (b : Bool) : b = true ∨ b = false := by cases b <;> simp
theorem ob {α β : Type} {m : Option α} {f : α → Option β} {r : β} (h : m.bind f = some r) : ∃ x, m = some x ∧ f x = some r := by
  cases m with
  | none => cases h
  | some x => exact ⟨x, rfl, h⟩
theorem it {α : Type} {b : Bool} {x y : Option α} {r : α} (hb : b = true) (h : (if b = true then x else y) = some r) : x = some r := by rwa [if_pos hb] at h
theorem ie {α : Type} {b : Bool} {x y : Option α} {r : α} (hb : b = false) (h : (if b = true then x else y) = some r) : y = some r := by rwa [if_neg (by simp [hb])] at h

def zgK : Str → Str → Bool
  | _, [] => false
  | [], _ :: _ => true
  | a :: x, b :: y => a < b || (a == b && zgK x y)
def fuel : Nat := 1000000000000000000
def zjv {α : Type} : List α → Option (α × α × α × α)
  | [a, b, c, d] => some (a, b, c, d)
  | _ => none
theorem zkN {α : Type} {o : Option (List α)} {r : α × α × α × α} (h : o.bind zjv = some r) : o = some [r.1, r.2.1, r.2.2.1, r.2.2.2] := by
  cases o with
  | none => cases h
  | some l =>
    have h : zjv l = some r := h
    unfold zjv at h
    split at h
    · cases h; rfl
    · cases h
end Go.Dm
end
section
set_option linter.unusedVariables false
set_option maxRecDepth 10000
namespace Go.Dm
structure scan_Scanner where
  f_s : Str
  f_at : Int
deriving DecidableEq
structure quoted_reader where
  Scanner : scan_Scanner
  f_out : List UInt8
deriving DecidableEq
structure api_Field where
  Name : Str
  Value : Str
deriving DecidableEq
structure bag_Bag where
  f_l : List api_Field
deriving DecidableEq
structure api_Param where
  Name : Str
  Value : Str
deriving DecidableEq
structure api_Swap where
  From : Str
  To : Str
deriving DecidableEq
structure api_Env where
  Client : Str
  Host : Str
  Scheme : Str
  By : Str
  Domains : List api_Swap
  Locations : List api_Swap
deriving DecidableEq
structure params_reader where
  Scanner : scan_Scanner
deriving DecidableEq
def zgh : Str → UInt8 → Nat → Int
  | [], _, _ => -1
  | x :: l, c, k => if x == c then (k : Int) else zgh l c (k + 1)
def strings_IndexByte (s : Str) (c : UInt8) : Option Int := some (zgh s c 0)
def zfE : Str → Str → Bool
  | _, [] => true
  | [], _ :: _ => false
  | x :: s, y :: t => x == y && zfE s t
def zdB : Str → Str → Nat → Int
  | s, t, k => if zfE s t then (k : Int) else match s with
    | [] => -1
    | _ :: s => zdB s t (k + 1)
def strings_Index (s t : Str) : Option Int := if s.length < 4294967281 then some (zdB s t 0) else none
def strings_Cut (s t : Str) : Option (Str × Str × Bool) := if s.length < 4294967281 then some (Go.Lib.cut s t) else none
def strings_Split (s sep : Str) : Option (List Str) := if s.length < 4294967281 ∧ 1 ≤ sep.length then some (Go.Lib.splitK sep 0 (Go.Lib.countB ⟨s.toArray⟩ ⟨sep.toArray⟩) s) else none
def zj (c : UInt8) : Str → List Str
  | [] => [[]]
  | x :: s => if x = c then [] :: zj c s else match zj c s with
    | [] => [[x]]
    | h :: t => (x :: h) :: t
def zbH (n b : Int) : Option Str := if inI n = true ∧ b = 10 then some (Go.Lib.itoa n) else none
def zem (s cs : Str) : Option Str := if s.length < 4294967281 ∧ cs.length < 4294967281 ∧ cs.all (fun c => c.toNat < 128) then some (Go.Lib.trimS s cs) else none
def zcD (s cs : Str) : Option Str := if s.length < 4294967281 ∧ cs.length < 4294967281 ∧ cs.all (fun c => c.toNat < 128) then some (Go.Lib.trimRightS s cs) else none
def strings_Join (l : List Str) (sep : Str) : Option Str := if l.length ≤ 140737488355328 ∧ (Go.Lib.join l sep).length ≤ 140737488355328 then some (Go.Lib.join l sep) else none
def zgi (x_s : Str) : Option scan_Scanner :=
  some (⟨x_s, 0⟩ : scan_Scanner)

def za3 (x_c : scan_Scanner) : Option Str :=
  (zfM x_c.f_s x_c.f_at).bind fun s4 =>
  some s4

def zal (x_c : scan_Scanner) : Option Bool :=
  (za3 x_c).bind fun r2 =>
  some (r2 == [])

def zaW (x_c : scan_Scanner) : Option Int :=
  some x_c.f_at

def zH (x_c : scan_Scanner) : Option (UInt8 × Bool) :=
  (zal x_c).bind fun r2 =>
  if r2 then (some (0, false)) else ((sAt x_c.f_s x_c.f_at).bind fun b7 =>
  some (b7, true))

def zas (x_c : scan_Scanner) (t5 : Bool) : Option (Bool × scan_Scanner) :=
  if t5 then (some (false, x_c)) else ((zX x_c.f_at 1).bind fun i9 =>
  some ((true, (⟨x_c.f_s, i9⟩ : scan_Scanner))))

def zq (x_c : scan_Scanner) (x_b : UInt8) : Option (Bool × scan_Scanner) :=
  (zH x_c).bind fun r2 =>
  if (!r2.2) then (zas x_c true) else (zas x_c (!(r2.1 == x_b)))

def zbu (t3 : Bool) : Option Bool :=
  some t3

def zdh (x_b : UInt8) : Option Bool :=
  if (decide (32 < x_b)) then (zbu (decide (x_b < 127))) else (zbu false)

def zbX (t3 : Bool) : Option Bool :=
  some t3

def zbc (x_b : UInt8) : Option Bool :=
  if (x_b == 32) then (zbX true) else (zbX (x_b == 9))

def zbi (t6 : Bool) : Option Bool :=
  some t6

def zbd (x_b : UInt8) : Option Bool :=
  (zdh x_b).bind fun r2 =>
  if r2 then (zbi true) else ((zbc x_b).bind fun r4 =>
  if r4 then (zbi true) else (zbi (decide (127 < x_b))))

def zaj (x_r : quoted_reader) (r2 : Bool × scan_Scanner) (r5 : UInt8 × Bool) (t9 : Bool) : Option (Bool × quoted_reader) :=
  if t9 then (some ((false, (⟨r2.2, x_r.f_out⟩ : quoted_reader)))) else (if zQ x_r.f_out.length 1 1 then ((zq r2.2 r5.1).bind fun r18 =>
  some ((r18.1, (⟨r18.2, x_r.f_out ++ [r5.1]⟩ : quoted_reader)))) else none)

def zam (x_r : quoted_reader) : Option (Bool × quoted_reader) :=
  (zq x_r.Scanner 92).bind fun r2 =>
  (zH r2.2).bind fun r5 =>
  if (!r5.2) then (zaj x_r r2 r5 true) else ((zbd r5.1).bind fun r8 =>
  zaj x_r r2 r5 (!r8))

def zat (x_c : scan_Scanner) (x_at : Int) (t4 : Bool) : Option (Bool × scan_Scanner) :=
  if t4 then (some (false, x_c)) else (some ((true, (⟨x_c.f_s, x_at⟩ : scan_Scanner))))

def za4 (x_c : scan_Scanner) (x_at : Int) : Option (Bool × scan_Scanner) :=
  if (decide (x_at < 0)) then (zat x_c x_at true) else ((zaW x_c).bind fun r3 =>
  zat x_c x_at (decide (r3 < x_at)))

def zbK (r2 : Int) (t27 : Bool) (s28 : Str) (i29 : Int) (l32 : List UInt8) : Option (Str × Bool × scan_Scanner) :=
  if (!t27) then ((za4 (⟨s28, i29⟩ : scan_Scanner) r2).bind fun r35 =>
  some ([], false, r35.2)) else (some ((l32, true, (⟨s28, i29⟩ : scan_Scanner))))

def zbj (rec1 : Str → Int → (List UInt8) → Bool → Option (Str × Bool × scan_Scanner)) (r2 : Int) (l13 : List UInt8) (t14 : Bool) (t18 : Bool) (s19 : Str) (i20 : Int) : Option (Str × Bool × scan_Scanner) :=
  if t18 then ((zam ((⟨(⟨s19, i20⟩ : scan_Scanner), l13⟩ : quoted_reader))).bind fun r23 =>
  rec1 r23.2.Scanner.f_s r23.2.Scanner.f_at r23.2.f_out r23.1) else (zbK r2 t14 s19 i20 l13)

def zO (r2 : Int) : Nat → Str → Int → (List UInt8) → Bool → Option (Str × Bool × scan_Scanner)
  | 0, _, _, _, _ => none
  | n + 1, s9, i10, l13, t14 =>
  if t14 then ((zq (⟨s9, i10⟩ : scan_Scanner) 34).bind fun r16 =>
  zbj (zO r2 n) r2 l13 t14 (!r16.1) r16.2.f_s r16.2.f_at) else (zbj (zO r2 n) r2 l13 t14 false s9 i10)

def zcl (x_c : scan_Scanner) : Option (Str × Bool × scan_Scanner) :=
  (zaW x_c).bind fun r2 =>
  (zq x_c 34).bind fun r6 =>
  zO r2 fuel r6.2.f_s r6.2.f_at [] r6.1

def zak (r2 : Int) (s14 : Str) (i15 : Int) : Option (Str × scan_Scanner) :=
  (zgU s14 r2 i15).bind fun s18 =>
  some ((s18, (⟨s14, i15⟩ : scan_Scanner)))

def zR (rec1 : Str → Int → Option (Str × scan_Scanner)) (r2 : Int) (s4 : Str) (i5 : Int) (t10 : Bool) : Option (Str × scan_Scanner) :=
  if t10 then (zak r2 s4 i5) else ((zX i5 1).bind fun i13 =>
  rec1 s4 i13)

def zz (x_is : UInt8 → Option Bool) (r2 : Int) : Nat → Str → Int → Option (Str × scan_Scanner)
  | 0, _, _ => none
  | n + 1, s4, i5 =>
  (zH (⟨s4, i5⟩ : scan_Scanner)).bind fun r6 =>
  if (!r6.2) then (zR (zz x_is r2 n) r2 s4 i5 true) else ((x_is r6.1).bind fun r9 =>
  zR (zz x_is r2 n) r2 s4 i5 (!r9))

def zY (x_c : scan_Scanner) (x_is : UInt8 → Option Bool) : Option (Str × scan_Scanner) :=
  (zaW x_c).bind fun r2 =>
  zz x_is r2 fuel x_c.f_s x_c.f_at

def zcE (x_b : UInt8) (t3 : Bool) : Option UInt8 :=
  if t3 then (some (x_b + 32)) else (some x_b)

def zae (x_b : UInt8) : Option UInt8 :=
  if (decide (65 ≤ x_b)) then (zcE x_b (decide (x_b ≤ 90))) else (zcE x_b false)

def zbY (t5 : Bool) : Option Bool :=
  some t5

def zdU (x_b : UInt8) : Option Bool :=
  (zae x_b).bind fun r2 =>
  if (decide (97 ≤ r2)) then ((zae x_b).bind fun r4 =>
  zbY (decide (r4 ≤ 122))) else (zbY false)

def zbZ (t3 : Bool) : Option Bool :=
  some t3

def z8 (x_b : UInt8) : Option Bool :=
  if (decide (48 ≤ x_b)) then (zbZ (decide (x_b ≤ 57))) else (zbZ false)

def zgH (x_b : UInt8) (x_l : Str) : Option Bool :=
  (strings_IndexByte x_l x_b).bind fun r2 =>
  some (decide (0 ≤ r2))

def zbk (t7 : Bool) : Option Bool :=
  some t7

def zaK (x_b : UInt8) : Option Bool :=
  (zdU x_b).bind fun r2 =>
  if r2 then (zbk true) else ((z8 x_b).bind fun r4 =>
  if r4 then (zbk true) else ((zgH x_b [33, 35, 36, 37, 38, 39, 42, 43, 45, 46, 94, 95, 96, 124, 126]).bind fun r6 =>
  zbk r6))

def zan (x_c : scan_Scanner) : Option (Str × Bool × scan_Scanner) :=
  (zY x_c zaK).bind fun r2 =>
  some ((r2.1, !(r2.1 == []), r2.2))

def zaF (rec1 : Int → Option Bool) (x_is : UInt8 → Option Bool) (i3 : Int) (x7 : Str) : Nat → Int → Option Bool
  | 0, _ => none
  | n + 1, i12 =>
  if (decide (i12 < (x7.length : Int))) then ((sAt x7 i12).bind fun b17 =>
  (x_is b17).bind fun r18 =>
  if (!r18) then (some false) else ((zX i12 1).bind fun i23 =>
  (zaF rec1 x_is i3 x7 n) i23)) else ((zX i3 1).bind fun i25 =>
  rec1 i25)

def zaG (x_is : UInt8 → Option Bool) (x_l : List Str) : Nat → Int → Option Bool
  | 0, _ => none
  | n + 1, i3 =>
  if (decide (i3 < (x_l.length : Int))) then ((lAt x_l i3).bind fun x7 =>
  zaF (zaG x_is x_l n) x_is i3 x7 fuel 0) else (some true)

def zcm (x_is : UInt8 → Option Bool) (x_l : List Str) : Option Bool :=
  zaG x_is x_l fuel 0

def zb8 (x_b : UInt8) : Option Int :=
  (z8 x_b).bind fun r2 =>
  if r2 then (some (((x_b - 48).toNat : Int))) else ((zae x_b).bind fun r7 =>
  (zX (((r7 - 97).toNat : Int)) 10).bind fun i8 =>
  some i8)

def zaX (rec2 : Int → Int → Option (Int × Int)) (x_base : Int) (i11 : Int) (i12 : Int) (r18 : Int) (t23 : Bool) : Option (Int × Int) :=
  if t23 then (some (0, 7)) else ((ziQ i11 x_base).bind fun i27 =>
  (zX i27 r18).bind fun i28 =>
  (zX i12 1).bind fun i30 =>
  rec2 i28 i30)

def zP (x_s : Str) (x_base : Int) (x_most : Int) : Nat → Int → Int → Option (Int × Int)
  | 0, _, _ => none
  | n + 1, i11, i12 =>
  if (decide (i12 < (x_s.length : Int))) then ((sAt x_s i12).bind fun b17 =>
  (zb8 b17).bind fun r18 =>
  if (decide (x_most < r18)) then (zaX (zP x_s x_base x_most n) x_base i11 i12 r18 true) else ((zgo x_most r18).bind fun i21 =>
  (ziR i21 x_base).bind fun i22 =>
  zaX (zP x_s x_base x_most n) x_base i11 i12 r18 (decide (i22 < i11)))) else (some (i11, 0))

def zaY (x_s : Str) (x_base : Int) (x_most : Int) (t5 : Bool) : Option (Int × Int) :=
  if t5 then (some (0, 2)) else (zP x_s x_base x_most fuel 0 0)

def zcF (x_s : Str) (x_base : Int) (x_most : Int) (x_is : UInt8 → Option Bool) : Option (Int × Int) :=
  if (x_s == []) then (zaY x_s x_base x_most true) else ((zcm x_is ([x_s] : List Str)).bind fun r4 =>
  zaY x_s x_base x_most (!r4))

def zbz (x_s : Str) (x_most : Int) : Option (Int × Int) :=
  (zcF x_s 10 x_most z8).bind fun r2 =>
  some (r2.1, r2.2)

def zdm (x_n : Int) (x_base : Int) : Option Str :=
  if (decide (x_n < 0)) then (some []) else ((zbH x_n x_base).bind fun r6 =>
  some r6)

def zcG (x_n : Int) : Option Str :=
  (zdm x_n 10).bind fun r2 =>
  some r2

def zaz (t6 : Bool) : Option Bool :=
  some t6

def zbl (x_s : Str) (x_most : Int) : Option Bool :=
  (zbz x_s x_most).bind fun r2 =>
  if (r2.2 == 0) then ((zcG r2.1).bind fun r5 =>
  zaz (r5 == x_s)) else (zaz false)

def zbC (s : Str) : Option Bool := if s.length < 1000000000 then ((zj 46 s).mapM (fun x => zbl x 255)).bind fun bs => some (bs.all id && decide ((bs.length : Int) = 4)) else none

def zbL (t7 : Bool) : Option Bool :=
  some t7

def zcn (x_b : UInt8) : Option Bool :=
  (z8 x_b).bind fun r2 =>
  if r2 then (zbL true) else ((zae x_b).bind fun r4 =>
  if (decide (97 ≤ r4)) then ((zae x_b).bind fun r6 =>
  zbL (decide (r6 ≤ 102))) else (zbL false))

def zao (rec1 : Int → Int → Option Int) (i13 : Int) (i36 : Int) : Option Int :=
  (zX i13 1).bind fun i37 =>
  rec1 i36 i37

def zZ (rec1 : Int → Int → Option Int) (i12 : Int) (i13 : Int) (t32 : Bool) : Option Int :=
  if t32 then ((zX i12 1).bind fun i34 =>
  zao rec1 i13 i34) else (some (-1))

def z6 (rec1 : Int → Int → Option Int) (i12 : Int) (i13 : Int) (x17 : Str) (t25 : Bool) : Option Int :=
  if t25 then ((zX i12 2).bind fun i27 =>
  zao rec1 i13 i27) else (if (decide (1 ≤ (x17.length : Int))) then (if (decide ((x17.length : Int) ≤ 4)) then ((zcm zcn ([x17] : List Str)).bind fun r31 =>
  zZ rec1 i12 i13 r31) else (zZ rec1 i12 i13 false)) else (zZ rec1 i12 i13 false))

def zv (x_last : Bool) (r6 : List Str) : Nat → Int → Int → Option Int
  | 0, _, _ => none
  | n + 1, i12, i13 =>
  if (decide (i13 < (r6.length : Int))) then ((lAt r6 i13).bind fun x17 =>
  if x_last then ((zgo (r6.length : Int) 1).bind fun i22 =>
  if (i13 == i22) then ((zbC x17).bind fun r24 =>
  z6 (zv x_last r6 n) i12 i13 x17 r24) else (z6 (zv x_last r6 n) i12 i13 x17 false)) else (z6 (zv x_last r6 n) i12 i13 x17 false)) else (some i12)

def zaB (x_s : Str) (x_last : Bool) : Option Int :=
  if (x_s == []) then (some 0) else ((strings_Split x_s [58]).bind fun r6 =>
  zv x_last r6 fuel 0 0)

def zaf (t15 : Bool) : Option Bool :=
  some t15

def zcH (x_s : Str) : Option Bool :=
  (strings_Cut x_s [58, 58]).bind fun r2 =>
  if (!r2.2.2) then ((zaB x_s true).bind fun r6 =>
  some (r6 == 8)) else ((zaB r2.1 false).bind fun r9 =>
  (zaB r2.2.1 true).bind fun r10 =>
  if (decide (0 ≤ r9)) then (if (decide (0 ≤ r10)) then ((zX r9 r10).bind fun i14 =>
  zaf (decide (i14 ≤ 7))) else (zaf false)) else (zaf false))

def zcI (t5 : Bool) : Option Bool :=
  some t5

def zdO (x_s : Str) : Option Bool :=
  if (!(x_s == [])) then ((zcm zaK ([x_s] : List Str)).bind fun r4 =>
  zcI r4) else (zcI false)

def zen (x_sep : Str) (x_l : List Str) : Option Str :=
  (strings_Join x_l x_sep).bind fun r2 =>
  some r2

def zJ (x_s : List api_Field) : Option (List api_Field) :=
  if zQ 0 x_s.length 32 then (some x_s) else none

def zjq (x_l : List api_Field) : Option bag_Bag :=
  (zJ x_l).bind fun r2 =>
  some (⟨r2⟩ : bag_Bag)

def zeo (s : Str) : Option Str := if s.length < 4294967281 then s.mapM zae else none

def zbv (x_a : Str) (x_b : Str) : Option Bool :=
  (zeo x_a).bind fun r2 =>
  (zeo x_b).bind fun r3 =>
  some (r2 == r3)

def zdP (x_l : List Str) : Option Str :=
  (zen [44, 32] x_l).bind fun r2 =>
  some r2

def zdV (x_s : Str) (x_l : List Str) : Option Str :=
  if ((x_l.length : Int) == 0) then (some x_s) else ((zem x_s [32, 9, 44]).bind fun r5 =>
  if (r5 == []) then ((zdP x_l).bind fun r8 =>
  some r8) else ((zcD x_s [32, 9]).bind fun r11 =>
  if zQ (([r11] : List Str).length) x_l.length 16 then ((zdP (([r11] : List Str) ++ x_l)).bind fun r16 =>
  some r16) else none))

def zeY (x_b : bag_Bag) (x_l : List api_Field) : Option bag_Bag :=
  if zQ x_b.f_l.length x_l.length 32 then (some (⟨x_b.f_l ++ x_l⟩ : bag_Bag)) else none

def za5 (x_b : bag_Bag) (x_name : Str) (x_element : Str) : Nat → Int → Option bag_Bag
  | 0, _ => none
  | n + 1, i5 =>
  if (decide (0 ≤ i5)) then ((lAt x_b.f_l i5).bind fun x9 =>
  (zbv x9.Name x_name).bind fun r12 =>
  if r12 then ((lAt x_b.f_l i5).bind fun x15 =>
  (zdV x15.Value ([x_element] : List Str)).bind fun r19 =>
  (lAt x_b.f_l i5).bind fun x20 =>
  (zgV x_b.f_l i5 (⟨x20.Name, r19⟩ : api_Field)).bind fun l23 =>
  some (⟨l23⟩ : bag_Bag)) else ((zgo i5 1).bind fun i26 =>
  (za5 x_b x_name x_element n) i26)) else ((zeY x_b ([(⟨x_name, x_element⟩ : api_Field)])).bind fun r29 =>
  some r29)

def zdC (x_b : bag_Bag) (x_name : Str) (x_element : Str) : Option bag_Bag :=
  (zgo (x_b.f_l.length : Int) 1).bind fun i3 =>
  za5 x_b x_name x_element fuel i3

def zep (x_b : bag_Bag) : Option (List api_Field) :=
  (zJ x_b.f_l).bind fun r4 =>
  some r4

def zbM (rec1 : (List Str) → Int → Int → Option (List Str)) (i9 : Int) (l25 : List Str) (i26 : Int) : Option (List Str) :=
  (zX i9 1).bind fun i27 =>
  rec1 l25 i26 i27

def zaa (x_s : Str) (x_c : UInt8) : Nat → (List Str) → Int → Int → Option (List Str)
  | 0, _, _, _ => none
  | n + 1, l7, i8, i9 =>
  if (decide (i9 < (x_s.length : Int))) then ((sAt x_s i9).bind fun b13 =>
  if (b13 == x_c) then ((zgU x_s i8 i9).bind fun s16 =>
  if zQ l7.length 1 16 then ((zX i9 1).bind fun i22 =>
  zbM (zaa x_s x_c n) i9 (l7 ++ ([s16] : List Str)) i22) else none) else (zbM (zaa x_s x_c n) i9 l7 i8)) else ((zfM x_s i8).bind fun s29 =>
  if zQ l7.length 1 16 then (some (l7 ++ ([s29] : List Str))) else none)

def zco (x_s : Str) (x_c : UInt8) : Option (List Str) :=
  zaa x_s x_c fuel [] 0 0

def zbN (rec1 : Int → Option Int) (i5 : Int) (t12 : Bool) : Option Int :=
  if t12 then (some i5) else ((zX i5 1).bind fun i16 =>
  rec1 i16)

def zu (x_b : UInt8) (x_base : Int) : Nat → Int → Option Int
  | 0, _ => none
  | n + 1, i5 =>
  if (decide (i5 < x_base)) then ((sAt [48, 49, 50, 51, 52, 53, 54, 55, 56, 57, 97, 98, 99, 100, 101, 102] i5).bind fun b9 =>
  if (b9 == x_b) then (zbN (zu x_b x_base n) i5 true) else ((sAt [48, 49, 50, 51, 52, 53, 54, 55, 56, 57, 65, 66, 67, 68, 69, 70] i5).bind fun b11 =>
  zbN (zu x_b x_base n) i5 (b11 == x_b))) else (some (-1))

def za6 (x_b : UInt8) (x_base : Int) : Option Int :=
  zu x_b x_base fuel 0

def zau : Nat → Int → Int → Option Str
  | 0, _, _ => none
  | n + 1, x_n, x_base =>
  if (decide (x_n < x_base)) then ((zX x_n 1).bind fun i5 =>
  (zgU [48, 49, 50, 51, 52, 53, 54, 55, 56, 57, 97, 98, 99, 100, 101, 102] x_n i5).bind fun s6 =>
  some s6) else ((ziR x_n x_base).bind fun i9 =>
  ((zau n) i9 x_base).bind fun r10 =>
  (zka x_n x_base).bind fun i11 =>
  (zka x_n x_base).bind fun i12 =>
  (zX i12 1).bind fun i13 =>
  (zgU [48, 49, 50, 51, 52, 53, 54, 55, 56, 57, 97, 98, 99, 100, 101, 102] i11 i13).bind fun s14 =>
  (zc4 r10 s14).bind fun s15 =>
  some s15)

def zbw (x_n : Int) (x_base : Int) : Option Str := zau fuel x_n x_base

def zbO (rec1 : Str → Int → Option (Str × Bool)) (i5 : Int) (s21 : Str) : Option (Str × Bool) :=
  (zX i5 1).bind fun i22 =>
  rec1 s21 i22

def zbP (rec1 : Str → Int → Option (Str × Bool)) (x_base : Int) (s4 : Str) (i5 : Int) (r10 : Int) (t17 : Bool) : Option (Str × Bool) :=
  if t17 then ((zbw r10 x_base).bind fun r19 =>
  (zc4 s4 r19).bind fun s20 =>
  zbO rec1 i5 s20) else (zbO rec1 i5 s4)

def zbQ (x_s : Str) (s26 : Str) : Option (Str × Bool) :=
  some ((s26, !(x_s == [])))

def zT (x_s : Str) (x_base : Int) : Nat → Str → Int → Option (Str × Bool)
  | 0, _, _ => none
  | n + 1, s4, i5 =>
  if (decide (i5 < (x_s.length : Int))) then ((sAt x_s i5).bind fun b9 =>
  (za6 b9 x_base).bind fun r10 =>
  if (decide (r10 < 0)) then (some ([], false)) else (if (!(s4 == [])) then (zbP (zT x_s x_base n) x_base s4 i5 r10 true) else (zbP (zT x_s x_base n) x_base s4 i5 r10 (decide (0 < r10))))) else (if (s4 == []) then (zbQ x_s [48]) else (zbQ x_s s4))

def zdb (x_s : Str) (x_base : Int) : Option (Str × Bool) :=
  zT x_s x_base fuel [] 0

def zaL (t4 : Bool) : Option Bool :=
  some t4

def zdD (x_a : Str) (x_b : Str) : Option Bool :=
  if (decide ((x_a.length : Int) < (x_b.length : Int))) then (zaL true) else (if ((x_a.length : Int) == (x_b.length : Int)) then (zaL (zgK x_a x_b)) else (zaL false))

def zaM (x_base : Int) (r2 : Str × Bool) : Nat → Int → Int → Option (Int × Int)
  | 0, _, _ => none
  | n + 1, i17, i18 =>
  if (decide (i18 < (r2.1.length : Int))) then ((ziQ i17 x_base).bind fun i22 =>
  (sAt r2.1 i18).bind fun b23 =>
  (za6 b23 x_base).bind fun r24 =>
  (zX i22 r24).bind fun i25 =>
  (zX i18 1).bind fun i27 =>
  (zaM x_base r2 n) i25 i27) else (some (i17, 0))

def zbD (x_base : Int) (r2 : Str × Bool) (t11 : Bool) : Option (Int × Int) :=
  if t11 then (some (0, 7)) else (zaM x_base r2 fuel 0 0)

def zdE (x_s : Str) (x_base : Int) (x_most : Int) : Option (Int × Int) :=
  (zdb x_s x_base).bind fun r2 =>
  if (!r2.2) then (some (0, 2)) else (if (decide (x_most < 0)) then (zbD x_base r2 true) else ((zbw x_most x_base).bind fun r9 =>
  (zdD r9 r2.1).bind fun r10 =>
  zbD x_base r2 r10))

def zdF (x_n : Int) (x_base : Int) : Option Str :=
  if (decide (x_n < 0)) then (some []) else ((zbw x_n x_base).bind fun r6 =>
  some r6)

def zbm (r6 : Int × Int) (t10 : Bool) : Option Int :=
  if t10 then (some (-1)) else (some r6.1)

def zdc (x_s : Str) (x_most : Int) : Option Int :=
  if (decide (5 < (x_s.length : Int))) then (some (-1)) else ((zdE x_s 10 x_most).bind fun r6 =>
  if (!(r6.2 == 0)) then (zbm r6 true) else ((zdF r6.1 10).bind fun r9 =>
  zbm r6 (!(r9 == x_s))))

def zaN (r2 : List Str) : Nat → Int → Option Bool
  | 0, _ => none
  | n + 1, i7 =>
  if (decide (i7 < (r2.length : Int))) then ((lAt r2 i7).bind fun x11 =>
  (zdc x11 255).bind fun r14 =>
  if (decide (r14 < 0)) then (some false) else ((zX i7 1).bind fun i19 =>
  (zaN r2 n) i19)) else (some ((r2.length : Int) == 4))

def zcZ (x_s : Str) : Option Bool :=
  (zco x_s 46).bind fun r2 =>
  zaN r2 fuel 0

def zdd (x_b : UInt8) (x_l : Str) : Nat → Int → Option Bool
  | 0, _ => none
  | n + 1, i3 =>
  if (decide (i3 < (x_l.length : Int))) then ((sAt x_l i3).bind fun b7 =>
  if (b7 == x_b) then (some true) else ((zX i3 1).bind fun i12 =>
  (zdd x_b x_l n) i12)) else (some false)

def zgj (x_b : UInt8) (x_l : Str) : Option Bool :=
  zdd x_b x_l fuel 0

def zd8 (x_b : UInt8) : Option Bool :=
  (zgj x_b [48, 49, 50, 51, 52, 53, 54, 55, 56, 57, 97, 98, 99, 100, 101, 102, 65, 66, 67, 68, 69, 70]).bind fun r2 =>
  some r2

def zbn (rec1 : Int → Int → Option Bool) (i9 : Int) (i55 : Int) : Option Bool :=
  (zX i9 1).bind fun i56 =>
  rec1 i55 i56

def zbR (rec1 : Int → Int → Option Bool) (i8 : Int) (i9 : Int) (t50 : Bool) : Option Bool :=
  if t50 then (some false) else ((zX i8 1).bind fun i54 =>
  zbn rec1 i9 i54)

def zav (rec1 : Int → Int → Option Bool) (r2 : List Str) (i8 : Int) (i9 : Int) : Nat → Int → Option Bool
  | 0, _ => none
  | n + 1, i25 =>
  (lAt r2 i9).bind fun x26 =>
  if (decide (i25 < (x26.length : Int))) then ((lAt r2 i9).bind fun x32 =>
  (sAt x32 i25).bind fun b35 =>
  (zd8 b35).bind fun r36 =>
  if (!r36) then (some false) else ((zX i25 1).bind fun i41 =>
  (zav rec1 r2 i8 i9 n) i41)) else ((lAt r2 i9).bind fun x43 =>
  if (decide ((x43.length : Int) < 1)) then (zbR rec1 i8 i9 true) else ((lAt r2 i9).bind fun x47 =>
  zbR rec1 i8 i9 (decide (4 < (x47.length : Int)))))

def zbo (rec1 : Int → Int → Option Bool) (r2 : List Str) (i8 : Int) (i9 : Int) (t19 : Bool) : Option Bool :=
  if t19 then ((zX i8 2).bind fun i21 =>
  zbn rec1 i9 i21) else (zav rec1 r2 i8 i9 fuel 0)

def zF (r2 : List Str) : Nat → Int → Int → Option Bool
  | 0, _, _ => none
  | n + 1, i8, i9 =>
  if (decide (i9 < (r2.length : Int))) then ((zgo (r2.length : Int) 1).bind fun i13 =>
  if (i9 == i13) then ((lAt r2 i9).bind fun x15 =>
  (zcZ x15).bind fun r18 =>
  zbo (zF r2 n) r2 i8 i9 r18) else (zbo (zF r2 n) r2 i8 i9 false)) else (some (i8 == 8))

def zcp (x_s : Str) : Option Bool :=
  (zco x_s 58).bind fun r2 =>
  zF r2 fuel 0 0

def zcJ (rec4 : Str → Int → Option Bool) (i24 : Int) (s31 : Str) : Option Bool :=
  (zc4 s31 [48]).bind fun s32 =>
  (zX i24 1).bind fun i34 =>
  rec4 s32 i34

def zb0 (rec3 : Int → Option Bool) (i16 : Int) (s44 : Str) : Option Bool :=
  (zcp s44).bind fun r45 =>
  if r45 then (some true) else ((zX i16 1).bind fun i50 =>
  rec3 i50)

def zaH (rec3 : Int → Option Bool) (x_s : Str) (i3 : Int) (i16 : Int) : Nat → Str → Int → Option Bool
  | 0, _, _ => none
  | n + 1, s23, i24 =>
  if (decide (i24 < i16)) then (if (!(s23 == [])) then ((zc4 s23 [58]).bind fun s30 =>
  zcJ (zaH rec3 x_s i3 i16 n) i24 s30) else (zcJ (zaH rec3 x_s i3 i16 n) i24 s23)) else ((zX i3 2).bind fun i36 =>
  (zfM x_s i36).bind fun s37 =>
  if (!(s37 == [])) then ((zc4 s23 [58]).bind fun s40 =>
  (zX i3 2).bind fun i41 =>
  (zfM x_s i41).bind fun s42 =>
  (zc4 s40 s42).bind fun s43 =>
  zb0 rec3 i16 s43) else (zb0 rec3 i16 s23))

def zW (x_s : Str) (i3 : Int) : Nat → Int → Option Bool
  | 0, _ => none
  | n + 1, i16 =>
  if (decide (i16 ≤ 8)) then ((sTo x_s i3).bind fun s20 =>
  zaH (zW x_s i3 n) x_s i3 i16 fuel s20 0) else (some false)

def zcK (rec1 : Int → Option Bool) (x_s : Str) (i3 : Int) (t12 : Bool) : Option Bool :=
  if t12 then ((zX i3 1).bind fun i54 =>
  rec1 i54) else (zW x_s i3 fuel 1)

def zaI (x_s : Str) : Nat → Int → Option Bool
  | 0, _ => none
  | n + 1, i3 =>
  (zX i3 1).bind fun i4 =>
  if (decide (i4 < (x_s.length : Int))) then ((sAt x_s i3).bind fun b8 =>
  if (!(b8 == 58)) then (zcK (zaI x_s n) x_s i3 true) else ((zX i3 1).bind fun i10 =>
  (sAt x_s i10).bind fun b11 =>
  zcK (zaI x_s n) x_s i3 (!(b11 == 58)))) else ((zcp x_s).bind fun r56 =>
  some r56)

def zd9 (x_s : Str) : Option Bool :=
  zaI x_s fuel 0

def zea (x_b : UInt8) : Option Bool :=
  (zgj x_b [97, 98, 99, 100, 101, 102, 103, 104, 105, 106, 107, 108, 109, 110, 111, 112, 113, 114, 115, 116, 117, 118, 119, 120, 121, 122, 65, 66, 67, 68, 69, 70, 71, 72, 73, 74, 75, 76, 77, 78, 79, 80, 81, 82, 83, 84, 85, 86, 87, 88, 89, 90, 48, 49, 50, 51, 52, 53, 54, 55, 56, 57, 33, 35, 36, 37, 38, 39, 42, 43, 45, 46, 94, 95, 96, 124, 126]).bind fun r2 =>
  some r2

def zaw (x_s : Str) : Nat → Int → Option Bool
  | 0, _ => none
  | n + 1, i3 =>
  if (decide (i3 < (x_s.length : Int))) then ((sAt x_s i3).bind fun b7 =>
  (zea b7).bind fun r8 =>
  if (!r8) then (some false) else ((zX i3 1).bind fun i13 =>
  (zaw x_s n) i13)) else (some (decide (0 < (x_s.length : Int))))

def zcq (x_s : Str) : Option Bool :=
  zaw x_s fuel 0

def zbS (t4 : Bool) : Option Bool :=
  some t4

def zde (x_b : UInt8) : Option Bool :=
  if (decide (32 ≤ x_b)) then (if (!(x_b == 127)) then (zbS true) else (zbS (x_b == 9))) else (zbS (x_b == 9))

def zb9 (x_a : List api_Field) (x_b : List api_Field) : Nat → Int → Option Bool
  | 0, _ => none
  | n + 1, i7 =>
  if (decide (i7 < (x_a.length : Int))) then ((lAt x_a i7).bind fun x11 =>
  (lAt x_b i7).bind fun x14 =>
  if (!(x11 == x14)) then (some false) else ((zX i7 1).bind fun i21 =>
  (zb9 x_a x_b n) i21)) else (some true)

def zfF (x_a : List api_Field) (x_b : List api_Field) : Option Bool :=
  if (!((x_a.length : Int) == (x_b.length : Int))) then (some false) else (zb9 x_a x_b fuel 0)

def zbp (x_client : Str) : Option Str :=
  (zbC x_client).bind fun r2 =>
  if r2 then (some x_client) else ((zcH x_client).bind fun r6 =>
  if r6 then ((zc4 [91] x_client).bind fun s9 =>
  (zc4 s9 [93]).bind fun s10 =>
  some s10) else (some [117, 110, 107, 110, 111, 119, 110]))

def za7 (l23 : List api_Param) : Option (List api_Param) :=
  some l23

def za8 (x_env : api_Env) (l14 : List api_Param) : Option (List api_Param) :=
  if (!(x_env.Scheme == [])) then (if zQ l14.length 1 32 then (za7 (l14 ++ [(⟨[112, 114, 111, 116, 111], x_env.Scheme⟩ : api_Param)])) else none) else (za7 l14)

def zbq (x_env : api_Env) : Option (List api_Param) :=
  (zbp x_env.Client).bind fun r3 =>
  if (!(x_env.Host == [])) then (if zQ (([(⟨[102, 111, 114], r3⟩ : api_Param)]).length) 1 32 then (za8 x_env (([(⟨[102, 111, 114], r3⟩ : api_Param)]) ++ [(⟨[104, 111, 115, 116], x_env.Host⟩ : api_Param)])) else none) else (za8 x_env ([(⟨[102, 111, 114], r3⟩ : api_Param)]))

def zcf (rec1 : (List UInt8) → Int → Option (Str × Int)) (x_s : Str) (i14 : Int) (l30 : List UInt8) : Option (Str × Int) :=
  (sAt x_s i14).bind fun b31 =>
  if zQ l30.length 1 1 then ((zX i14 1).bind fun i37 =>
  rec1 (l30 ++ [b31]) i37) else none

def zcg (rec1 : (List UInt8) → Int → Option (Str × Int)) (x_s : Str) (l13 : List UInt8) (i14 : Int) (t22 : Bool) : Option (Str × Int) :=
  if t22 then (if zQ l13.length 1 1 then (zcf rec1 x_s i14 (l13 ++ [92])) else none) else (zcf rec1 x_s i14 l13)

def zag (x_s : Str) : Nat → (List UInt8) → Int → Option (Str × Int)
  | 0, _, _ => none
  | n + 1, l13, i14 =>
  if (decide (i14 < (x_s.length : Int))) then ((sAt x_s i14).bind fun b19 =>
  if (b19 == 34) then (zcg (zag x_s n) x_s l13 i14 true) else ((sAt x_s i14).bind fun b21 =>
  zcg (zag x_s n) x_s l13 i14 (b21 == 92))) else (if zQ l13.length 1 1 then (some (l13 ++ [34], 0)) else none)

def zeq (x_s : Str) : Option (Str × Int) :=
  (zcm zbd ([x_s] : List Str)).bind fun r3 =>
  if (!r3) then (some ([], 2)) else (zag x_s fuel [34] 0)

def zdW (x_s : Str) : Option (Str × Int) :=
  (zdO x_s).bind fun r2 =>
  if r2 then (some (x_s, 0)) else ((zeq x_s).bind fun r7 =>
  some (r7.1, r7.2))

def zcL (rec1 : (List Str) → Int → Option (Str × Int)) (l6 : List Str) (i7 : Int) (x11 : api_Param) (r16 : Str × Int) (t20 : Bool) : Option (Str × Int) :=
  if t20 then (some ([], 2)) else ((zc4 x11.Name [61]).bind fun s24 =>
  (zc4 s24 r16.1).bind fun s25 =>
  if zQ l6.length 1 16 then ((zX i7 1).bind fun i31 =>
  rec1 (l6 ++ ([s25] : List Str)) i31) else none)

def zaQ (x_l : List api_Param) : Nat → (List Str) → Int → Option (Str × Int)
  | 0, _, _ => none
  | n + 1, l6, i7 =>
  if (decide (i7 < (x_l.length : Int))) then ((lAt x_l i7).bind fun x11 =>
  (zdW x11.Value).bind fun r16 =>
  if (!(r16.2 == 0)) then (zcL (zaQ x_l n) l6 i7 x11 r16 true) else ((zdO x11.Name).bind fun r19 =>
  zcL (zaQ x_l n) l6 i7 x11 r16 (!r19))) else (if ((l6.length : Int) == 0) then (some ([], 2)) else ((zen [59] l6).bind fun r37 =>
  some (r37, 0)))

def zeZ (x_l : List api_Param) : Option (Str × Int) :=
  zaQ x_l fuel [] 0

def zc0 (x_env : api_Env) (x_l : List api_Field) : Option (List api_Field × Int) :=
  (zbq x_env).bind fun r3 =>
  (zeZ r3).bind fun r6 =>
  if (!(r6.2 == 0)) then (some ([], r6.2)) else ((zjq x_l).bind fun r12 =>
  (zdC r12 [70, 111, 114, 119, 97, 114, 100, 101, 100] r6.1).bind fun r17 =>
  (zep r17).bind fun r22 =>
  some (r22, 0))

def zcM (t9 : Bool) : Option Bool :=
  some t9

def zdQ : Option Bool :=
  (zc0 (⟨[58, 58, 49], [97, 58, 56, 48], [104, 116, 116, 112], [], [], []⟩ : api_Env) []).bind fun r2 =>
  if (r2.2 == 0) then ((zfF r2.1 ([(⟨[70, 111, 114, 119, 97, 114, 100, 101, 100], [102, 111, 114, 61, 34, 91, 58, 58, 49, 93, 34, 59, 104, 111, 115, 116, 61, 34, 97, 58, 56, 48, 34, 59, 112, 114, 111, 116, 111, 61, 104, 116, 116, 112]⟩ : api_Field)])).bind fun r8 =>
  zcM r8) else (zcM false)

def zc1 (x_x : api_Swap) : Option api_Swap :=
  (sTo x_x.From (min (x_x.From.length : Int) 60)).bind fun s4 =>
  (sTo x_x.To (min (x_x.To.length : Int) 60)).bind fun s5 =>
  some (⟨s4, s5⟩ : api_Swap)

def zdn (s90 : Str) (s91 : Str) (s92 : Str) (s93 : Str) (l96 : List api_Swap) (l99 : List api_Swap) : Option api_Env :=
  some (⟨s90, s91, s92, s93, l96, l99⟩ : api_Env)

def zcN (rec6 : (List api_Swap) → Str → Str → Str → Str → (List api_Swap) → Int → Option api_Env) (x_a0 : api_Env) (l67 : List api_Swap) (s68 : Str) (s69 : Str) (s70 : Str) (s71 : Str) (l74 : List api_Swap) (i75 : Int) (t77 : Bool) : Option api_Env :=
  if t77 then ((lAt x_a0.Locations i75).bind fun x80 =>
  (zc1 x80).bind fun r83 =>
  if zQ l67.length 1 32 then ((zX i75 1).bind fun i89 =>
  rec6 (l67 ++ [r83]) s68 s69 s70 s71 l74 i89) else none) else (zdn s68 s69 s70 s71 l74 l67)

def zaq (x_a0 : api_Env) : Nat → (List api_Swap) → Str → Str → Str → Str → (List api_Swap) → Int → Option api_Env
  | 0, _, _, _, _, _, _, _ => none
  | n + 1, l67, s68, s69, s70, s71, l74, i75 =>
  if (decide (i75 < (x_a0.Locations.length : Int))) then (zcN (zaq x_a0 n) x_a0 l67 s68 s69 s70 s71 l74 i75 (decide (i75 < 6))) else (zcN (zaq x_a0 n) x_a0 l67 s68 s69 s70 s71 l74 i75 false)

def zdo (x_a0 : api_Env) (s54 : Str) (s55 : Str) (s56 : Str) (s57 : Str) (l60 : List api_Swap) (l63 : List api_Swap) : Option api_Env :=
  zaq x_a0 fuel l63 s54 s55 s56 s57 l60 0

def zcO (rec3 : (List api_Swap) → Str → Str → Str → Str → (List api_Swap) → Int → Option api_Env) (x_a0 : api_Env) (l31 : List api_Swap) (s32 : Str) (s33 : Str) (s34 : Str) (s35 : Str) (l38 : List api_Swap) (i39 : Int) (t41 : Bool) : Option api_Env :=
  if t41 then ((lAt x_a0.Domains i39).bind fun x44 =>
  (zc1 x44).bind fun r47 =>
  if zQ l31.length 1 32 then ((zX i39 1).bind fun i53 =>
  rec3 (l31 ++ [r47]) s32 s33 s34 s35 l38 i53) else none) else (zdo x_a0 s32 s33 s34 s35 l31 l38)

def zaJ (x_a0 : api_Env) : Nat → (List api_Swap) → Str → Str → Str → Str → (List api_Swap) → Int → Option api_Env
  | 0, _, _, _, _, _, _, _ => none
  | n + 1, l31, s32, s33, s34, s35, l38, i39 =>
  if (decide (i39 < (x_a0.Domains.length : Int))) then (zcO (zaJ x_a0 n) x_a0 l31 s32 s33 s34 s35 l38 i39 (decide (i39 < 6))) else (zcO (zaJ x_a0 n) x_a0 l31 s32 s33 s34 s35 l38 i39 false)

def zdp (x_a0 : api_Env) (s22 : Str) (s23 : Str) (s24 : Str) (s25 : Str) : Option api_Env :=
  zaJ x_a0 fuel [] s22 s23 s24 s25 [] 0

def zar (x_a0 : api_Env) : Nat → Str → Str → Str → Str → Int → Option api_Env
  | 0, _, _, _, _, _ => none
  | n + 1, s7, s8, s9, s10, i11 =>
  if (decide (i11 < 4)) then ((lAt [s7, s8, s9, s10] i11).bind fun x15 =>
  (lAt [s7, s8, s9, s10] i11).bind fun x16 =>
  (sTo x15 (min (x16.length : Int) 60)).bind fun s17 =>
  (lAt [s7, s8, s9, s10] i11).bind fun x18 =>
  ((zgV [s7, s8, s9, s10] i11 s17).bind zjv).bind fun r19 =>
  (zX i11 1).bind fun i21 =>
  (zar x_a0 n) r19.1 r19.2.1 r19.2.2.1 r19.2.2.2 i21) else (zdp x_a0 s7 s8 s9 s10)

def zeb (x_a0 : api_Env) : Option api_Env :=
  zar x_a0 fuel x_a0.Client x_a0.Host x_a0.Scheme x_a0.By 0

def zbr (rec1 : Str → Int → Option (Str × Int)) (x_s : Str) (i5 : Int) (s21 : Str) : Option (Str × Int) :=
  (zX i5 1).bind fun i22 =>
  (zgU x_s i5 i22).bind fun s23 =>
  (zc4 s21 s23).bind fun s24 =>
  (zX i5 1).bind fun i26 =>
  rec1 s24 i26

def zbs (rec1 : Str → Int → Option (Str × Int)) (x_s : Str) (s4 : Str) (i5 : Int) (t18 : Bool) : Option (Str × Int) :=
  if t18 then ((zc4 s4 [92]).bind fun s20 =>
  zbr rec1 x_s i5 s20) else (zbr rec1 x_s i5 s4)

def zG (x_s : Str) : Nat → Str → Int → Option (Str × Int)
  | 0, _, _ => none
  | n + 1, s4, i5 =>
  if (decide (i5 < (x_s.length : Int))) then ((sAt x_s i5).bind fun b9 =>
  (zde b9).bind fun r10 =>
  if (!r10) then (some ([], 2)) else ((sAt x_s i5).bind fun b15 =>
  if (b15 == 34) then (zbs (zG x_s n) x_s s4 i5 true) else ((sAt x_s i5).bind fun b17 =>
  zbs (zG x_s n) x_s s4 i5 (b17 == 92)))) else ((zc4 s4 [34]).bind fun s28 =>
  some (s28, 0))

def zdR (x_s : Str) : Option (Str × Int) :=
  zG x_s fuel [34] 0

def zcP (x_s : Str) : Option (Str × Int) :=
  (zcq x_s).bind fun r2 =>
  if r2 then (some (x_s, 0)) else ((zdR x_s).bind fun r7 =>
  some (r7.1, r7.2))

def zbE (rec1 : Str → Int → Option (Str × Int)) (x_l : List api_Param) (i5 : Int) (r12 : Str × Int) (s26 : Str) : Option (Str × Int) :=
  (lAt x_l i5).bind fun x27 =>
  (zc4 s26 x27.Name).bind fun s30 =>
  (zc4 s30 [61]).bind fun s31 =>
  (zc4 s31 r12.1).bind fun s32 =>
  (zX i5 1).bind fun i34 =>
  rec1 s32 i34

def zca (rec1 : Str → Int → Option (Str × Int)) (x_l : List api_Param) (s4 : Str) (i5 : Int) (r12 : Str × Int) (t19 : Bool) : Option (Str × Int) :=
  if t19 then (some ([], 2)) else (if (decide (0 < i5)) then ((zc4 s4 [59]).bind fun s25 =>
  zbE rec1 x_l i5 r12 s25) else (zbE rec1 x_l i5 r12 s4))

def zU (x_l : List api_Param) : Nat → Str → Int → Option (Str × Int)
  | 0, _, _ => none
  | n + 1, s4, i5 =>
  if (decide (i5 < (x_l.length : Int))) then ((lAt x_l i5).bind fun x9 =>
  (zcP x9.Value).bind fun r12 =>
  if (!(r12.2 == 0)) then (zca (zU x_l n) x_l s4 i5 r12 true) else ((lAt x_l i5).bind fun x15 =>
  (zcq x15.Name).bind fun r18 =>
  zca (zU x_l n) x_l s4 i5 r12 (!r18))) else (if ((x_l.length : Int) == 0) then (some ([], 2)) else (some (s4, 0)))

def zer (x_l : List api_Param) : Option (Str × Int) :=
  zU x_l fuel [] 0

def zcr (x_c : scan_Scanner) : Option (Str × Bool × scan_Scanner) :=
  (zan x_c).bind fun r2 =>
  if r2.2.1 then (some (r2.1, true, r2.2.2)) else ((zcl r2.2.2).bind fun r9 =>
  some (r9.1, r9.2.1, r9.2.2))

def zax (r4 : Str × Bool × scan_Scanner) (t10 : Bool) (s11 : Str) (i12 : Int) : Option (api_Param × Bool × scan_Scanner) :=
  if t10 then (some (((⟨[], []⟩ : api_Param), false, (⟨s11, i12⟩ : scan_Scanner)))) else ((zcr (⟨s11, i12⟩ : scan_Scanner)).bind fun r16 =>
  some (((⟨r4.1, r16.1⟩ : api_Param), r16.2.1, r16.2.2)))

def zab (x_r : params_reader) : Option (api_Param × Bool × scan_Scanner) :=
  (zan x_r.Scanner).bind fun r4 =>
  if (!r4.2.1) then (zax r4 true r4.2.2.f_s r4.2.2.f_at) else ((zq r4.2.2 61).bind fun r8 =>
  zax r4 (!r8.1) r8.2.f_s r8.2.f_at)

def zad (x_c : scan_Scanner) : Option (Str × scan_Scanner) :=
  (zY x_c zbc).bind fun r2 =>
  some (r2.1, r2.2)

def zaR (x_r : params_reader) : Option (Bool × scan_Scanner) :=
  (zad x_r.Scanner).bind fun r3 =>
  (zq r3.2 59).bind fun r6 =>
  if (!r6.1) then (some (false, r6.2)) else ((zad r6.2).bind fun r12 =>
  some (true, r12.2))

def zah : Nat → (List api_Param) → Str → Int → Option (List api_Param × Int)
  | 0, _, _, _ => none
  | n + 1, l9, s10, i11 =>
  (zab ((⟨(⟨s10, i11⟩ : scan_Scanner)⟩ : params_reader))).bind fun r12 =>
  if (!r12.2.1) then (some ([], 2)) else (if zQ l9.length 1 32 then ((zal r12.2.2).bind fun r25 =>
  if r25 then (some (l9 ++ [r12.1], 0)) else ((zaR (⟨r12.2.2⟩ : params_reader)).bind fun r30 =>
  if (!r30.1) then (some ([], 2)) else ((zah n) (l9 ++ [r12.1]) r30.2.f_s r30.2.f_at))) else none)

def zcQ (x_s : Str) : Option (List api_Param × Int) :=
  (zgi x_s).bind fun r2 =>
  zah fuel [] r2.f_s r2.f_at

def zbe (x_name : Str) (x_l : List api_Param) : Nat → Int → Option (Str × Bool)
  | 0, _ => none
  | n + 1, i3 =>
  if (decide (i3 < (x_l.length : Int))) then ((lAt x_l i3).bind fun x7 =>
  (zbv x7.Name x_name).bind fun r12 =>
  if r12 then (some (x7.Value, true)) else ((zX i3 1).bind fun i17 =>
  (zbe x_name x_l n) i17)) else (some ([], false))

def zes (x_name : Str) (x_l : List api_Param) : Option (Str × Bool) :=
  zbe x_name x_l fuel 0

def zK (r2 : List api_Param × Int) : Nat → Int → Option (List api_Param × Int)
  | 0, _ => none
  | n + 1, i11 =>
  if (decide (i11 < (r2.1.length : Int))) then ((lAt r2.1 i11).bind fun x15 =>
  (lTo r2.1 i11).bind fun l20 =>
  (zes x15.Name l20).bind fun r23 =>
  if r23.2 then (some ([], 2)) else ((zX i11 1).bind fun i29 =>
  (zK r2 n) i29)) else (some (r2.1, 0))

def zaZ (x_s : Str) : Option (List api_Param × Int) :=
  (zcQ x_s).bind fun r2 =>
  if (!(r2.2 == 0)) then (some ([], r2.2)) else (zK r2 fuel 0)

def zcb (l33 : List api_Param) : Option (List api_Param) :=
  some l33

def zcc (x_env : api_Env) (l24 : List api_Param) : Option (List api_Param) :=
  if (!(x_env.Scheme == [])) then (if zQ l24.length 1 32 then (zcb (l24 ++ [(⟨[112, 114, 111, 116, 111], x_env.Scheme⟩ : api_Param)])) else none) else (zcb l24)

def zbF (x_env : api_Env) (s13 : Str) : Option (List api_Param) :=
  if (!(x_env.Host == [])) then (if zQ (([(⟨[102, 111, 114], s13⟩ : api_Param)]).length) 1 32 then (zcc x_env (([(⟨[102, 111, 114], s13⟩ : api_Param)]) ++ [(⟨[104, 111, 115, 116], x_env.Host⟩ : api_Param)])) else none) else (zcc x_env ([(⟨[102, 111, 114], s13⟩ : api_Param)]))

def zbG (x_env : api_Env) (s9 : Str) : Option (List api_Param) :=
  (zcZ x_env.Client).bind fun r10 =>
  if r10 then (zbF x_env x_env.Client) else (zbF x_env s9)

def zdG (x_env : api_Env) : Option (List api_Param) :=
  (zd9 x_env.Client).bind fun r4 =>
  if r4 then ((zc4 [91] x_env.Client).bind fun s7 =>
  (zc4 s7 [93]).bind fun s8 =>
  zbG x_env s8) else (zbG x_env [117, 110, 107, 110, 111, 119, 110])

def zaO (x_a : List api_Param) (x_b : List api_Param) : Nat → Int → Option Bool
  | 0, _ => none
  | n + 1, i7 =>
  if (decide (i7 < (x_a.length : Int))) then ((lAt x_a i7).bind fun x11 =>
  (lAt x_b i7).bind fun x14 =>
  if (!(x11 == x14)) then (some false) else ((zX i7 1).bind fun i21 =>
  (zaO x_a x_b n) i21)) else (some true)

def zc2 (x_a : List api_Param) (x_b : List api_Param) : Option Bool :=
  if (!((x_a.length : Int) == (x_b.length : Int))) then (some false) else (zaO x_a x_b fuel 0)

def zB (t37 : Bool) : Option Bool :=
  some t37

def za9 (x_env : api_Env) : Option Bool :=
  (zdQ).bind fun r3 =>
  if (!r3) then (some false) else ((zeb x_env).bind fun r8 =>
  (zbq r8).bind fun r14 =>
  (zer r14).bind fun r18 =>
  (zaZ r18.1).bind fun r20 =>
  (zdG r8).bind fun r24 =>
  (zc2 r14 r24).bind fun r27 =>
  if r27 then ((zbp r8.Client).bind fun r29 =>
  (lAt r14 0).bind fun x30 =>
  if (r29 == x30.Value) then (if (!(r18.2 == 0)) then (zB true) else (if (r20.2 == 0) then ((zc2 r14 r20.1).bind fun r36 =>
  zB r36) else (zB false))) else (zB false)) else (zB false))

end Go.Dm
end
section
namespace Go.Dm
theorem zjw (b : Bool) (v : Int) (k : Nat) (h : -1 ≤ v) : (if b = true then (k : Int) else if v = -1 then -1 else v + ((k + 1 : Nat) : Int)) =
    if (if b = true then 0 else if (v == -1) = true then -1 else v + 1) = -1 then -1 else (if b = true then 0 else if (v == -1) = true then -1 else v + 1) + (k : Int) := by
  cases b with
  | true => simp
  | false =>
    by_cases hm : v = -1
    · subst hm; simp
    · have h2 : ¬ (v + 1 = -1) := by omega
      have h3 : (v == -1) = false := beq_eq_false_iff_ne.2 hm
      rw [h3]
      simp only [Bool.false_eq_true, if_false, if_neg hm, if_neg h2]
      omega
theorem zgL : ∀ (l : Str) (c : UInt8) (k : Nat), zgh l c k = if Go.Lib.indexByte l c = -1 then -1 else Go.Lib.indexByte l c + k
  | [], _, _ => rfl
  | x :: l, c, k => by
    rw [zgh, Go.Lib.indexByte, zgL l c (k + 1)]
    exact zjw _ _ k (Go.Lib.indexByte_ge l c)
theorem zhh (x y : UInt8) : (x == y) = (y == x) := by
  by_cases h : x = y
  · subst h; rfl
  · rw [beq_eq_false_iff_ne.2 h, beq_eq_false_iff_ne.2 (Ne.symm h)]
theorem zhi : ∀ (s t : Str), zfE s t = t.isPrefixOf s
  | s, [] => by cases s <;> rfl
  | [], y :: t => rfl
  | x :: s, y :: t => by
    rw [zfE, List.isPrefixOf, zhi s t, zhh x y]
theorem zhj : ∀ (l t : Str) (k : Nat), zdB l t k = if Go.Lib.index l t = -1 then -1 else Go.Lib.index l t + k
  | [], t, k => by
    rw [zdB, Go.Lib.index]
    cases t <;> simp [zfE]
  | x :: l, t, k => by
    rw [zdB, Go.Lib.index, zhi]
    simp only [zhj l t (k + 1)]
    exact zjw _ _ k (Go.Lib.index_ge l t)
theorem zjx (l : Str) (c : UInt8) : zgh l c 0 = Go.Lib.indexByte l c := by
  rw [zgL]; have := Go.Lib.indexByte_ge l c; split <;> omega
theorem zkb (l t : Str) : zdB l t 0 = Go.Lib.index l t := by
  rw [zhj]; have := Go.Lib.index_ge l t; split <;> omega
end Go.Dm
end
section
namespace Go.Dm
@[simp] theorem zc3 (l : Str) (i : Nat) : sAt l (i : Int) = l[i]? := by simp [sAt]
@[simp] theorem sAt_zero (l : Str) : sAt l 0 = l[0]? := by simp [sAt]
@[simp] theorem sAt_one (l : Str) : sAt l 1 = l[1]? := by simp [sAt]
@[simp] theorem sAt_two (l : Str) : sAt l 2 = l[2]? := by simp [sAt]
@[simp] theorem zcd {α : Type} (l : List α) (i : Nat) : lAt l (i : Int) = l[i]? := by simp [lAt]
@[simp] theorem lAt_zero {α : Type} (l : List α) : lAt l 0 = l[0]? := by simp [lAt]
theorem zdL {m n : Int} (h1 : -9223372036854775808 ≤ m + n) (h2 : m + n ≤ 9223372036854775807) : zX m n = some (m + n) := by simp [zX, inI, h1, h2]
theorem zi4 {m n : Int} (h1 : -9223372036854775808 ≤ m - n) (h2 : m - n ≤ 9223372036854775807) : zgo m n = some (m - n) := by simp [zgo, inI, h1, h2]
theorem zkB {m n : Int} (h1 : -9223372036854775808 ≤ m * n) (h2 : m * n ≤ 9223372036854775807) : ziQ m n = some (m * n) := by simp [ziQ, inI, h1, h2]
theorem zE {i : Nat} (h : i < 4611686018427387904) : zX (i : Int) 1 = some ((i + 1 : Nat) : Int) := by
  rw [zdL (by omega) (by omega)]; simp
theorem zlN {i k : Nat} (h : i + k < 4611686018427387904) : zX (i : Int) (k : Int) = some ((i + k : Nat) : Int) := by
  rw [zdL (by omega) (by omega)]; simp
theorem zkC {l : Str} {h : Nat} (hh : h ≤ l.length) : sTo l (h : Int) = some (l.take h) := by simp [sTo, hh]
theorem ze2 {l : Str} {i : Nat} (hh : i ≤ l.length) : zfM l (i : Int) = some (l.drop i) := by simp [zfM, hh]
theorem zfZ {l : Str} {i h : Nat} (h1 : i ≤ h) (h2 : h ≤ l.length) : zgU l (i : Int) (h : Int) = some ((l.take h).drop i) := by simp [zgU, h1, h2]
theorem zaT {l m : Str} (h : l.length + m.length ≤ 9223372036854775807) : zc4 l m = some (l ++ m) := by simp [zc4, h]
theorem zmr {n : Nat} (h : n < 1000000000000000000) : n < fuel := h

theorem ziG {α β : Type} (l : List α) (L : Nat → Int → Option β) (F : α → Option β → Option β) (E : Option β)
    (hE : ∀ n, L (n + 1) (l.length : Int) = E) (hL : ∀ n (i : Nat) x, i < l.length → l[i]? = some x → L (n + 1) (i : Int) = F x (L n ((i + 1 : Nat) : Int))) :
    ∀ (n i : Nat), i ≤ l.length → l.length - i < n → L n (i : Int) = (l.drop i).foldr F E
  | 0, _, _, h => by omega
  | n + 1, i, hi, h => by
    by_cases hlt : i < l.length
    · rw [hL n i _ hlt (List.getElem?_eq_getElem hlt), ziG l L F E hE hL n (i + 1) (by omega) (by omega), List.drop_eq_getElem_cons hlt]
      rfl
    · have : i = l.length := by omega
      subst this
      rw [hE, List.drop_length]
      rfl
theorem zel {α β : Type} (l : List α) (L : Nat → Int → Option β) (F : α → Option β → Option β) (E : Option β) (hl : l.length < 1000000000000000000)
    (hE : ∀ n, L (n + 1) (l.length : Int) = E) (hL : ∀ n (i : Nat) x, i < l.length → l[i]? = some x → L (n + 1) (i : Int) = F x (L n ((i + 1 : Nat) : Int))) : L fuel 0 = l.foldr F E := by
  have := ziG l L F E hE hL fuel 0 (Nat.zero_le _) (zmr (by omega))
  simpa using this
theorem zdl {n m b : Nat} (h : (n + m) * b ≤ 140737488355328) (h2 : n + m ≤ 140737488355328) : zQ n m b = true := by
  simp only [zQ, Bool.and_eq_true, decide_eq_true_eq]; exact ⟨by omega, h⟩

theorem zaP (p : UInt8 → Bool) (h : (List.range 256).all (fun n => p (UInt8.ofNat n)) = true) (b : UInt8) : p b = true := by
  have := List.all_eq_true.1 h b.toNat (by simpa using b.toNat_lt)
  simpa using this
theorem zk3 {α : Type} (p : α → Bool) (l : List α) : l.foldr (fun x r => if p x = true then r else some false) (some true) = some (l.all p) := by
  induction l with
  | nil => rfl
  | cons x l ih => simp only [List.foldr_cons, ih, List.all_cons]; cases p x <;> simp
theorem zi5 (s : Str) (k : Nat) : sTo s (min (s.length : Int) (k : Int)) = some (s.take k) := by
  have e : min (s.length : Int) (k : Int) = ((min s.length k : Nat) : Int) := by omega
  rw [e, zkC (Nat.min_le_left _ _)]
  congr 1
  rcases Nat.le_total s.length k with h | h
  · rw [Nat.min_eq_left h, List.take_length, List.take_of_length_le h]
  · rw [Nat.min_eq_right h]
end Go.Dm
end
section
namespace Go.Dm
def zcW (b : UInt8) : Bool := decide (48 ≤ b) && decide (b ≤ 57)
def zgx (b : UInt8) : UInt8 := if 65 ≤ b ∧ b ≤ 90 then b + 32 else b
def zlO (b : UInt8) : Bool := decide (97 ≤ zgx b) && decide (zgx b ≤ 122)
def zeB (b : UInt8) : Bool := zcW b || decide (97 ≤ zgx b) && decide (zgx b ≤ 102)
def cUnres (b : UInt8) : Bool := zlO b || zcW b || ([45, 46, 95, 126] : Str).contains b
def cSub (b : UInt8) : Bool := ([33, 36, 38, 39, 40, 41, 42, 43, 44, 59, 61] : Str).contains b
theorem zgy (b : UInt8) : z8 b = some (zcW b) :=
  of_decide_eq_true (zaP (fun b => decide (z8 b = some (zcW b))) (by decide +kernel) b)
theorem zhG (b : UInt8) : zcn b = some (zeB b) :=
  of_decide_eq_true (zaP (fun b => decide (zcn b = some (zeB b))) (by decide +kernel) b)
theorem zi6 (b : UInt8) : zd8 b = some (zeB b) :=
  of_decide_eq_true (zaP (fun b => decide (zd8 b = some (zeB b))) (by decide +kernel) b)
theorem zfi {p : UInt8 → Bool} {f : UInt8 → Option Bool} (hf : ∀ b, f b = some (p b)) (s : Str) (hs : s.length < 1000000000) : zcm f [s] = some (s.all p) := by
  unfold zcm
  have h2 : ∀ (rec1 : Int → Option Bool) (i : Int), zaF rec1 f i s fuel 0 = s.foldr (fun x r => if p x = true then r else some false) ((zX i 1).bind rec1) := by
    intro rec1 i
    refine zel s (zaF rec1 f i s) _ _ (by omega) ?_ ?_
    · intro n; rw [zaF]; simp only [Int.lt_irrefl, decide_false, Bool.false_eq_true, if_false]
    · intro n k x hk hx
      rw [zaF]
      simp only [Int.ofNat_lt, hk, decide_true, if_true, zc3, hx, Option.bind_some, hf, zE (show k < 4611686018427387904 by omega)]
      cases p x <;> rfl
  rw [zel [s] (zaG f [s]) (fun x r => x.foldr (fun x r => if p x = true then r else some false) r) (some true) (by simp)]
  · simp only [List.foldr_cons, List.foldr_nil]
    exact zk3 p s
  · intro n; rw [zaG]; simp only [Int.lt_irrefl, decide_false, Bool.false_eq_true, if_false]
  · intro n i x hi hx
    have hi0 : i = 0 := by simp at hi; exact hi
    subst hi0
    simp at hx; subst hx
    rw [zaG]
    simp [h2, zdL]
def zdx (b : UInt8) : Bool := zlO b || zcW b || ([33, 35, 36, 37, 38, 39, 42, 43, 45, 46, 94, 95, 96, 124, 126] : Str).contains b
def zd3 (b : UInt8) : Bool := decide (32 ≤ b) && !(b == 127) || b == 9
theorem zgz (b : UInt8) : zaK b = some (zdx b) :=
  of_decide_eq_true (zaP (fun b => decide (zaK b = some (zdx b))) (by decide +kernel) b)
theorem zgA (b : UInt8) : zbd b = some (zd3 b) :=
  of_decide_eq_true (zaP (fun b => decide (zbd b = some (zd3 b))) (by decide +kernel) b)
theorem zi7 (b : UInt8) : zea b = some (zdx b) :=
  of_decide_eq_true (zaP (fun b => decide (zea b = some (zdx b))) (by decide +kernel) b)
theorem zhH (b : UInt8) : zde b = some (zd3 b) :=
  of_decide_eq_true (zaP (fun b => decide (zde b = some (zd3 b))) (by decide +kernel) b)
theorem zfj {α : Type} (p : α → Bool) (l : List α) (e : Bool) : l.foldr (fun x r => if p x = true then r else some false) (some e) = some (l.all p && e) := by
  induction l with
  | nil => simp
  | cons x l ih => simp only [List.foldr_cons, ih, List.all_cons]; cases p x <;> simp
def zf0 (s : Str) : Bool := s.all zdx && !(s == [])
theorem zeR (s : Str) (hs : s.length < 1000000000) : zcq s = some (zf0 s) := by
  unfold zcq
  rw [zel s (zaw s) (fun x r => if zdx x = true then r else some false) (some (!(s == []))) (by omega)]
  · rw [zfj]; rfl
  · intro n; rw [zaw]; simp only [Int.lt_irrefl, decide_false, Bool.false_eq_true, if_false]
    cases s <;> simp
  · intro n i x hi hx
    rw [zaw]
    simp only [Int.ofNat_lt, hi, decide_true, if_true, zc3, hx, Option.bind_some, zi7, zE (show i < 4611686018427387904 by omega)]
    cases zdx x <;> rfl
end Go.Dm
end
section
namespace Go.Dm
def z7 (b : Nat) (l : List Nat) : Nat := l.foldl (fun n d => n * b + d) 0
theorem ziH (b : Nat) (l : List Nat) : ∀ n, l.foldl (fun n d => n * b + d) n = n * b ^ l.length + z7 b l := by
  unfold z7
  induction l with
  | nil => intro n; simp
  | cons x l ih =>
    intro n
    rw [List.foldl_cons, ih, List.foldl_cons, ih (0 * b + x), List.length_cons, Nat.pow_succ, Nat.add_mul, Nat.zero_mul, Nat.zero_add, Nat.mul_assoc, Nat.mul_comm b, Nat.add_assoc]
theorem zl4 (b : Nat) : z7 b [] = 0 := rfl
theorem zds (b x : Nat) (l : List Nat) : z7 b (x :: l) = x * b ^ l.length + z7 b l := by
  have := ziH b l (0 * b + x)
  rw [Nat.zero_mul, Nat.zero_add] at this
  rw [← this]; unfold z7; rw [List.foldl_cons, Nat.zero_mul, Nat.zero_add]
theorem zgB (b x : Nat) (l : List Nat) : z7 b (l ++ [x]) = z7 b l * b + x := by
  unfold z7; rw [List.foldl_append]; rfl
theorem zha {b : Nat} (hb : 0 < b) : ∀ {l : List Nat}, (∀ d ∈ l, d < b) → z7 b l < b ^ l.length
  | [], _ => by simp [z7]
  | x :: l, h => by
    have h1 := h x (List.mem_cons_self ..)
    have h2 := zha hb (l := l) fun d hd => h d (List.mem_cons_of_mem _ hd)
    rw [zds, List.length_cons, Nat.pow_succ]
    have : (x + 1) * b ^ l.length ≤ b * b ^ l.length := Nat.mul_le_mul_right _ h1
    rw [Nat.add_mul, Nat.one_mul] at this
    rw [Nat.mul_comm (b ^ l.length) b]; omega
def zdN (b : Nat) : Nat → Nat → List Nat
  | 0, n => [n % b]
  | k + 1, n => if n < b then [n] else zdN b k (n / b) ++ [n % b]
def zcR (b n : Nat) : List Nat := zdN b 70 n
theorem zfw {b n k : Nat} (hb : 2 ≤ b) (h : n < 2 ^ (k + 1)) : n / b < 2 ^ k := by
  rw [Nat.div_lt_iff_lt_mul (by omega)]
  calc n < 2 ^ (k + 1) := h
    _ = 2 ^ k * 2 := Nat.pow_succ ..
    _ ≤ 2 ^ k * b := Nat.mul_le_mul_left _ hb
theorem zfx {b : Nat} (hb : 2 ≤ b) : ∀ (k m n : Nat), k ≤ m → n < 2 ^ (k + 1) → zdN b m n = zdN b k n
  | 0, 0, n, _, _ => rfl
  | 0, m + 1, n, _, h => by
    have hn : n < b := by have : n < 2 := by simpa using h
                          omega
    show zdN b (m + 1) n = [n % b]
    rw [zdN, if_pos hn, Nat.mod_eq_of_lt hn]
  | k + 1, 0, n, h, _ => by omega
  | k + 1, m + 1, n, hm, h => by
    rw [zdN, zdN]
    split
    · rfl
    · rw [zfx hb k m (n / b) (by omega) (zfw hb h)]
theorem zd4 {b n : Nat} (hb : 2 ≤ b) (hn : b ≤ n) (h : n < 2 ^ 64) : zcR b n = zcR b (n / b) ++ [n % b] := by
  have h1 := zfx hb 64 70 n (by decide) (Nat.lt_of_lt_of_le h (Nat.pow_le_pow_right (by decide) (by decide)))
  have h2 := zfx hb 63 70 (n / b) (by decide) (zfw hb (Nat.lt_of_lt_of_le h (Nat.pow_le_pow_right (by decide) (by decide))))
  unfold zcR
  rw [h1, h2, zdN, if_neg (by omega)]
theorem zbt {b n : Nat} (hn : n < b) : zcR b n = [n] := by unfold zcR; rw [zdN, if_pos hn]
theorem zf7 {b : Nat} (hb : 2 ≤ b) {P : Nat → Prop} (h0 : ∀ n, n < b → P n) (h1 : ∀ n, b ≤ n → n < 2 ^ 64 → P (n / b) → P n) : ∀ n, n < 2 ^ 64 → P n := by
  intro n
  induction n using Nat.strongRecOn with
  | _ n ih =>
    intro hn
    by_cases h : n < b
    · exact h0 n h
    · have : n / b < n := Nat.div_lt_self (by omega) (by omega)
      exact h1 n (by omega) hn (ih _ this (by omega))
theorem zjP {b : Nat} (hb : 2 ≤ b) : ∀ n, n < 2 ^ 64 → z7 b (zcR b n) = n :=
  zf7 hb (fun n h => by rw [zbt h]; simp [z7]) fun n h hn ih => by
    rw [zd4 hb h hn, zgB, ih, Nat.mul_comm]; exact Nat.div_add_mod n b
theorem zmJ {b : Nat} (hb : 2 ≤ b) : ∀ n, n < 2 ^ 64 → ∀ d ∈ zcR b n, d < b :=
  zf7 hb (fun n h d hd => by rw [zbt h] at hd; simp at hd; omega) fun n h hn ih d hd => by
    rw [zd4 hb h hn] at hd
    rcases List.mem_append.1 hd with hd | hd
    · exact ih d hd
    · simp at hd; subst hd; exact Nat.mod_lt _ (by omega)
theorem zjc {b n : Nat} : zcR b n ≠ [] := by
  unfold zcR; rw [zdN]; split <;> simp
theorem ziI {b : Nat} (hb : 2 ≤ b) : ∀ n, n < 2 ^ 64 → n = 0 ∨ (zcR b n).head? ≠ some 0 :=
  zf7 hb (fun n h => by
    rw [zbt h]; by_cases e : n = 0
    · exact .inl e
    · exact .inr (by simpa using e)) fun n h hn ih => by
    right
    rw [zd4 hb h hn]
    rcases ih with h0 | h0
    · have : b ≤ n := h
      have : 0 < n / b := Nat.div_pos h (by omega)
      omega
    · cases hd : zcR b (n / b) with
      | nil => exact absurd hd zjc
      | cons x l => rw [hd] at h0; simpa using h0
theorem zl5 {b : Nat} (hb : 2 ≤ b) : ∀ n, n < 2 ^ 64 → (zcR b n).length ≤ 71 := by
  have : ∀ k n, (zdN b k n).length ≤ k + 1 := by
    intro k
    induction k with
    | zero => intro n; simp [zdN]
    | succ k ih => intro n; rw [zdN]; split
                   · simp
                   · simp; exact ih _
  intro n _; exact this 70 n
def zhJ : List Nat → List Nat → Bool
  | _, [] => false
  | [], _ :: _ => true
  | x :: l, y :: m => decide (x < y) || (x == y && zhJ l m)
theorem zkI {b : Nat} (hb : 0 < b) : ∀ (l m : List Nat), l.length = m.length → (∀ d ∈ l, d < b) → (∀ d ∈ m, d < b) → zhJ l m = decide (z7 b l < z7 b m)
  | [], [], _, _, _ => by simp [zhJ]
  | [], _ :: _, h, _, _ => by simp at h
  | _ :: _, [], h, _, _ => by simp at h
  | x :: l, y :: m, h, hl, hm => by
    have e : l.length = m.length := by simpa using h
    have h1 := zha hb (l := l) fun d hd => hl d (List.mem_cons_of_mem _ hd)
    have h2 := zha hb (l := m) fun d hd => hm d (List.mem_cons_of_mem _ hd)
    rw [zhJ, zkI hb l m e (fun d hd => hl d (List.mem_cons_of_mem _ hd)) (fun d hd => hm d (List.mem_cons_of_mem _ hd)), zds, zds, e]
    rw [e] at h1
    rcases Nat.lt_trichotomy x y with hxy | hxy | hxy
    · have : (x + 1) * b ^ m.length ≤ y * b ^ m.length := Nat.mul_le_mul_right _ hxy
      rw [Nat.add_mul, Nat.one_mul] at this
      have h3 : x * b ^ m.length + z7 b l < y * b ^ m.length + z7 b m := by omega
      simp [hxy, h3]
    · subst hxy; simp
    · have : (y + 1) * b ^ m.length ≤ x * b ^ m.length := Nat.mul_le_mul_right _ hxy
      rw [Nat.add_mul, Nat.one_mul] at this
      have h3 : ¬ x * b ^ m.length + z7 b l < y * b ^ m.length + z7 b m := by omega
      have h4 : ¬ x < y := by omega
      have h5 : (x == y) = false := beq_eq_false_iff_ne.2 (by omega)
      simp [h3, h4, h5]
def dch (d : Nat) : UInt8 := if d < 10 then UInt8.ofNat (48 + d) else UInt8.ofNat (87 + d)
def zap (l : List Nat) : Str := l.map dch
def wor (c : UInt8) : Nat := if zcW c then (c - 48).toNat else (zgx c - 97).toNat + 10
def zev (b : Nat) (c : UInt8) : Bool := if b = 10 then zcW c else zeB c
theorem zk6 : ∀ d : Nat, d < 16 → (wor (dch d) = d ∧ zeB (dch d) = true ∧ (d < 10 → zcW (dch d) = true)) := by decide
theorem dch_lt : ∀ d : Nat, d < 16 → ∀ e : Nat, e < 16 → (decide (dch d < dch e) = decide (d < e) ∧ (dch d == dch e) = (d == e)) := by decide
theorem zgQ : ∀ (l m : List Nat), (∀ d ∈ l, d < 16) → (∀ d ∈ m, d < 16) → zgK (zap l) (zap m) = zhJ l m
  | [], [], _, _ => rfl
  | [], _ :: _, _, _ => rfl
  | _ :: _, [], _, _ => rfl
  | x :: l, y :: m, hl, hm => by
    have ih := zgQ l m (fun d hd => hl d (List.mem_cons_of_mem _ hd)) (fun d hd => hm d (List.mem_cons_of_mem _ hd))
    obtain ⟨h1, h2⟩ := dch_lt x (hl x (List.mem_cons_self ..)) y (hm y (List.mem_cons_self ..))
    show (decide (dch x < dch y) || (dch x == dch y && zgK (zap l) (zap m))) = _
    rw [h1, h2, ih, zhJ]
theorem zgC (b : UInt8) : zb8 b = some (wor b : Int) :=
  of_decide_eq_true (zaP (fun b => decide (zb8 b = some (wor b : Int))) (by decide +kernel) b)
theorem zl6 (c : UInt8) : (zcW c = true → wor c < 10) ∧ (zeB c = true → wor c < 16) :=
  of_decide_eq_true (zaP (fun c => decide ((zcW c = true → wor c < 10) ∧ (zeB c = true → wor c < 16))) (by decide +kernel) c)
theorem zhK (c : UInt8) (b : Int) (n : Nat) {i : Int} (hn : n ≤ fuel) (h : (zu c b n i).isSome = true) : zu c b fuel i = zu c b n i := by
  obtain ⟨k, hk⟩ : ∃ k, fuel = n + k := ⟨fuel - n, by omega⟩
  rw [hk]
  clear hk hn
  induction n generalizing i with
  | zero => simp [zu] at h
  | succ n ih =>
    rw [Nat.add_right_comm, zu, zu]
    rw [zu] at h
    split
    · rename_i hlt
      rw [if_pos hlt] at h
      cases hs : sAt [48, 49, 50, 51, 52, 53, 54, 55, 56, 57, 97, 98, 99, 100, 101, 102] i with
      | none => rfl
      | some x =>
        rw [hs] at h
        simp only [Option.bind_some] at h ⊢
        split
        · rfl
        · rename_i hne
          rw [if_neg hne] at h
          cases hs2 : sAt [48, 49, 50, 51, 52, 53, 54, 55, 56, 57, 65, 66, 67, 68, 69, 70] i with
          | none => rfl
          | some y =>
            rw [hs2] at h
            simp only [Option.bind_some, zbN] at h ⊢
            split
            · rfl
            · rename_i hne2
              rw [if_neg hne2] at h
              cases hi : zX i 1 with
              | none => rfl
              | some j => rw [hi] at h; exact ih h
    · rfl
theorem zhL (c : UInt8) : za6 c 10 = some (if zcW c then (wor c : Int) else -1) := by
  have h1 : zu c 10 20 0 = some (if zcW c then (wor c : Int) else -1) := of_decide_eq_true (zaP (fun c => decide (zu c 10 20 0 = some (if zcW c then (wor c : Int) else -1))) (by decide +kernel) c)
  unfold za6
  rw [← h1]
  exact zhK c 10 20 (by decide) (by rw [h1]; rfl)
theorem zhM (c : UInt8) : za6 c 16 = some (if zeB c then (wor c : Int) else -1) := by
  have h1 : zu c 16 20 0 = some (if zeB c then (wor c : Int) else -1) := of_decide_eq_true (zaP (fun c => decide (zu c 16 20 0 = some (if zeB c then (wor c : Int) else -1))) (by decide +kernel) c)
  unfold za6
  rw [← h1]
  exact zhK c 16 20 (by decide) (by rw [h1]; rfl)
def zcX (b : Nat) : Prop := b = 10 ∨ b = 16
theorem zcX.two {b : Nat} (h : zcX b) : 2 ≤ b ∧ b ≤ 16 := by rcases h with rfl | rfl <;> omega
theorem zeT {b : Nat} (hb : zcX b) (c : UInt8) : za6 c (b : Int) = some (if zev b c then (wor c : Int) else -1) := by
  rcases hb with rfl | rfl
  · exact zhL c
  · exact zhM c
theorem zhN {b : Nat} (hb : zcX b) {c : UInt8} (h : zev b c = true) : wor c < b := by
  rcases hb with rfl | rfl
  · exact (zl6 c).1 h
  · exact (zl6 c).2 h
theorem zhO : ∀ d : Nat, d < 16 → zgU [48, 49, 50, 51, 52, 53, 54, 55, 56, 57, 97, 98, 99, 100, 101, 102] (d : Int) ((d + 1 : Nat) : Int) = some [dch d] := by decide
theorem zjQ {b : Nat} (hb : zcX b) : ∀ (k m n : Nat), k ≤ m → n < 2 ^ (k + 1) → k < 63 → zau (m + 1) (n : Int) (b : Int) = some (zap (zcR b n)) := by
  obtain ⟨h2, h16⟩ := hb.two
  intro k
  induction k with
  | zero =>
    intro m n _ h _
    have hn : n < b := by have : n < 2 := by simpa using h
                          omega
    rw [zau, zbt hn]
    simp only [Int.ofNat_lt, hn, decide_true, if_true, zE (show n < 4611686018427387904 by omega), Option.bind_some, zhO n (by omega)]
    rfl
  | succ k ih =>
    intro m n hm h hk
    obtain ⟨m, rfl⟩ : ∃ j, m = j + 1 := ⟨m - 1, by omega⟩
    have hbig : n < 2 ^ 64 := Nat.lt_of_lt_of_le h (Nat.pow_le_pow_right (by decide) (by omega))
    have hq : ∀ q : Nat, q ≤ n → inI (q : Int) = true := fun q hq => zdI.2 (by
      have : n < 2 ^ 63 := Nat.lt_of_lt_of_le h (Nat.pow_le_pow_right (by decide) (by omega))
      omega)
    rw [zau]
    by_cases hn : n < b
    · rw [zbt hn]
      simp only [Int.ofNat_lt, hn, decide_true, if_true, zE (show n < 4611686018427387904 by omega), Option.bind_some, zhO n (by omega)]
      rfl
    · have e1 : ziR (n : Int) (b : Int) = some ((n / b : Nat) : Int) := by
        unfold ziR
        rw [if_pos ⟨by omega, by omega, by rw [← Int.natCast_ediv]; exact hq _ (Nat.div_le_self n b)⟩, Int.natCast_ediv]
      have e2 : zka (n : Int) (b : Int) = some ((n % b : Nat) : Int) := by
        unfold zka
        rw [if_pos ⟨by omega, by omega, by rw [← Int.natCast_emod]; exact hq _ (Nat.mod_le n b)⟩, Int.natCast_emod]
      have hlt : n % b < b := Nat.mod_lt _ (by omega)
      have hlen := zl5 h2 (n / b) (by have := Nat.div_le_self n b; omega)
      have hn' : ¬ decide ((n : Int) < (b : Int)) = true := by simp; omega
      have e3 := ih m (n / b) (by omega) (zfw h2 h) (by omega)
      have e4 := zhO (n % b) (by omega)
      have e5 := zE (i := n % b) (by omega)
      have e6 := zd4 h2 (show b ≤ n by omega) hbig
      generalize n / b = q at *
      generalize n % b = r at *
      have e7 : zc4 (zap (zcR b q)) [dch r] = some (zap (zcR b q) ++ [dch r]) := zaT (by simp [zap]; omega)
      rw [if_neg hn', e1, Option.bind_some, e3, Option.bind_some, e2, Option.bind_some, Option.bind_some, e5, Option.bind_some, e4, Option.bind_some, e7, Option.bind_some, e6]
      simp [zap]
theorem zdf {b : Nat} (hb : zcX b) (n : Nat) (hn : n < 2 ^ 63) : zbw (n : Int) (b : Int) = some (zap (zcR b n)) := by
  unfold zbw
  obtain ⟨m, hm⟩ : ∃ m, fuel = m + 1 := ⟨999999999999999999, rfl⟩
  rw [hm]
  exact zjQ hb 62 m n (by unfold fuel at hm; omega) (by omega) (by omega)
def zhP (b : Nat) (n : Int) : Str := if n < 0 then [] else zap (zcR b n.toNat)
theorem zib {b : Nat} (hb : zcX b) (n : Int) (hn : inI n = true) : zdF n (b : Int) = some (zhP b n) := by
  obtain ⟨h1, h2⟩ := zdI.1 hn
  unfold zdF zhP
  by_cases h : n < 0
  · simp [h]
  · obtain ⟨k, rfl⟩ : ∃ k : Nat, n = k := ⟨n.toNat, by omega⟩
    simp [h, zdf hb k (by omega)]
theorem dec_eq : ∀ n, n < 2 ^ 64 → Go.Lib.decDigits n = zap (zcR 10 n) :=
  zf7 (b := 10) (by decide) (fun n h => by rw [Go.Lib.decDigits, dif_pos h, zbt h]; simp [zap, dch, h]) fun n h hn ih => by
    rw [Go.Lib.decDigits, dif_neg (by omega), ih, zd4 (by decide) h hn]
    have : n % 10 < 10 := Nat.mod_lt _ (by decide)
    simp [zap, dch, this]
theorem zgZ (n : Int) (hn : inI n = true) : zcG n = some (zhP 10 n) := by
  obtain ⟨h1, h2⟩ := zdI.1 hn
  unfold zcG zdm zhP
  by_cases h : n < 0
  · simp [h]
  · obtain ⟨k, rfl⟩ : ∃ k : Nat, n = k := ⟨n.toNat, by omega⟩
    have hk : ¬ ((k : Int) < 0) := by omega
    simp [hk, zbH, hn, Go.Lib.itoa, dec_eq k (by omega)]
def vals (s : Str) : List Nat := s.map wor
def zcj (b : Nat) (s : Str) (most : Int) : Int × Int :=
  if (s == [] || !s.all (zev b)) = true then (0, 2) else if most < (z7 b (vals s) : Int) then (0, 7) else (((z7 b (vals s) : Nat) : Int), 0)
theorem zmK {b : Nat} (hb : zcX b) {s : Str} (h : s.all (zev b) = true) : ∀ d ∈ vals s, d < b := by
  intro d hd
  obtain ⟨c, hc, rfl⟩ := List.mem_map.1 hd
  exact zhN hb (List.all_eq_true.1 h c hc)
theorem ziJ {b : Nat} (hb : 1 ≤ b) (l m : List Nat) : z7 b l ≤ z7 b (l ++ m) := by
  unfold z7
  rw [List.foldl_append]
  generalize l.foldl (fun n d => n * b + d) 0 = n
  rw [ziH]
  have : 1 ≤ b ^ m.length := Nat.one_le_pow _ _ hb
  have := Nat.le_mul_of_pos_right n this
  omega
theorem zkr {b : Nat} (hb : zcX b) (s : Str) (most : Int) (hs : s.length < 1000000000) (hd : s.all (zev b) = true) (hm : most < 4611686018427387904) (hm0 : -4611686018427387904 < most) (hne : s ≠ []) :
    zP s (b : Int) most fuel 0 0 = some (if most < (z7 b (vals s) : Int) then (0, 7) else (((z7 b (vals s) : Nat) : Int), 0)) := by
  obtain ⟨h2, h16⟩ := hb.two
  have key : ∀ (n i v : Nat), i ≤ s.length → s.length - i < n → v = z7 b (vals (s.take i)) → (i = 0 ∨ (v : Int) ≤ most) → (i < s.length ∨ (v : Int) ≤ most) →
      zP s (b : Int) most n (v : Int) (i : Int) = some (if most < (z7 b (vals s) : Int) then (0, 7) else (((z7 b (vals s) : Nat) : Int), 0)) := by
    intro n
    induction n with
    | zero => intro i v _ h; omega
    | succ n ih =>
      intro i v hi h hv h0 h1
      rw [zP]
      by_cases hlt : i < s.length
      · have hx : s[i]? = some s[i] := List.getElem?_eq_getElem hlt
        have hw : wor s[i] < b := zhN hb (List.all_eq_true.1 hd _ (List.getElem_mem hlt))
        have htk : vals (s.take (i + 1)) = vals (s.take i) ++ [wor s[i]] := by
          unfold vals
          rw [List.take_succ_eq_append_getElem hlt, List.map_append]; rfl
        have hv' : z7 b (vals (s.take (i + 1))) = v * b + wor s[i] := by rw [htk, zgB, ← hv]
        have hle : z7 b (vals (s.take (i + 1))) ≤ z7 b (vals s) := by
          have := ziJ (b := b) (by omega) (vals (s.take (i + 1))) (vals (s.drop (i + 1)))
          unfold vals at this ⊢
          rwa [← List.map_append, List.take_append_drop] at this
        simp only [Int.ofNat_lt, hlt, decide_true, if_true, zc3, hx, Option.bind_some, zgC]
        by_cases hov : most < (wor s[i] : Int)
        · have : most < (z7 b (vals s) : Int) := by
            have := Nat.zero_le (v * b); omega
          simp [hov, zaX, this]
        · have hsub : zgo most (wor s[i] : Int) = some (most - (wor s[i] : Int)) := zi4 (by omega) (by omega)
          have hdv : ziR (most - (wor s[i] : Int)) (b : Int) = some ((most - (wor s[i] : Int)) / (b : Int)) := by
            unfold ziR
            have h5 : 0 ≤ (most - (wor s[i] : Int)) / (b : Int) := Int.ediv_nonneg (by omega) (by omega)
            have h6 : (most - (wor s[i] : Int)) / (b : Int) ≤ most - (wor s[i] : Int) := Int.ediv_le_self _ (by omega)
            rw [if_pos ⟨by omega, by omega, by rw [zdI]; omega⟩]
          have hiff : (most - (wor s[i] : Int)) / (b : Int) < (v : Int) ↔ most < ((v * b + wor s[i] : Nat) : Int) := by
            rw [Int.ediv_lt_iff_lt_mul (by omega)]
            push_cast
            omega
          simp only [hov, decide_false, Bool.false_eq_true, if_false, hsub, hdv, Option.bind_some, zaX]
          by_cases hov2 : (most - (wor s[i] : Int)) / (b : Int) < (v : Int)
          · have h7 : most < (z7 b (vals s) : Int) := by have := hiff.1 hov2; omega
            simp [hov2, h7]
          · have h7 : ((v * b + wor s[i] : Nat) : Int) ≤ most := by have := (not_congr hiff).1 hov2; omega
            have hmul : ziQ (v : Int) (b : Int) = some ((v * b : Nat) : Int) := by
              rw [zkB (by rw [← Int.natCast_mul]; omega) (by rw [← Int.natCast_mul]; omega), Int.natCast_mul]
            have hadd : zX ((v * b : Nat) : Int) (wor s[i] : Int) = some ((v * b + wor s[i] : Nat) : Int) := by
              rw [zdL (by omega) (by omega)]; simp
            simp only [hov2, decide_false, Bool.false_eq_true, if_false, hmul, hadd, Option.bind_some, zE (show i < 4611686018427387904 by omega)]
            exact ih (i + 1) (v * b + wor s[i]) (by omega) (by omega) hv'.symm (.inr h7) (.inr h7)
      · have : i = s.length := by omega
        subst this
        rw [List.take_length] at hv
        have h8 : ¬ most < (z7 b (vals s) : Int) := by rw [← hv]; rcases h1 with h1 | h1 <;> omega
        simp [h8, hv]
  have := key fuel 0 0 (Nat.zero_le _) (by unfold fuel; omega) (by simp [vals, z7]) (.inl rfl) (.inl (by cases s with | nil => exact absurd rfl hne | cons _ _ => simp))
  simpa using this
theorem zg0 {b : Nat} (hb : zcX b) (s : Str) (most : Int) (hs : s.length < 1000000000) (hm : most < 4611686018427387904) (hm0 : -4611686018427387904 < most) {f : UInt8 → Option Bool} (hf : ∀ c, f c = some (zev b c)) :
    zcF s (b : Int) most f = some (zcj b s most) := by
  unfold zcF zcj
  rcases zdt (s == []) with h | h
  · rw [h]; simp [zaY]
  · rw [h]
    rw [zfi hf s hs]
    simp only [Bool.false_eq_true, if_false, Option.bind_some, zaY, Bool.false_or]
    rcases zdt (s.all (zev b)) with h2 | h2
    · rw [h2]
      simp only [Bool.not_true, Bool.false_eq_true, if_false]
      exact zkr hb s most hs h2 hm hm0 (by simpa using h)
    · rw [h2]; simp
theorem zfy (s : Str) (most : Int) (hs : s.length < 1000000000) (hm : most < 4611686018427387904) (hm0 : -4611686018427387904 < most) : zbz s most = some (zcj 10 s most) := by
  unfold zbz
  have := zg0 (.inl rfl) s most hs hm hm0 (f := z8) zgy
  rw [show ((10 : Nat) : Int) = 10 from rfl] at this
  rw [this]; rfl
def zc5 : List Nat → List Nat
  | 0 :: l => zc5 l
  | l => l
theorem zgD (b : Nat) : ∀ l, z7 b (zc5 l) = z7 b l
  | [] => rfl
  | 0 :: l => by rw [zc5, zgD b l, zds, Nat.zero_mul, Nat.zero_add]
  | (n + 1) :: l => rfl
theorem zhQ : ∀ l, (zc5 l).head? ≠ some 0
  | [] => by simp [zc5]
  | 0 :: l => by rw [zc5]; exact zhQ l
  | (n + 1) :: l => by simp [zc5]
theorem ziK : ∀ {l : List Nat} {d : Nat}, d ∈ zc5 l → d ∈ l
  | [], _, h => h
  | 0 :: l, d, h => by rw [zc5] at h; exact List.mem_cons_of_mem _ (ziK h)
  | (n + 1) :: l, _, h => h
theorem ziL : ∀ l, (zc5 l).length ≤ l.length
  | [] => Nat.le_refl _
  | 0 :: l => by rw [zc5]; have := ziL l; simp; omega
  | (n + 1) :: l => Nat.le_refl _
def zc6 (l : List Nat) : List Nat := if zc5 l = [] then [0] else zc5 l
theorem zl7 {b : Nat} (hb : zcX b) (s : Str) (hs : s.length < 1000000000) :
    zdb s (b : Int) = some (if s.all (zev b) then (zap (zc6 (vals s)), !(s == [])) else ([], false)) := by
  obtain ⟨h2, h16⟩ := hb.two
  unfold zdb
  have key : ∀ (n i : Nat) (acc : List Nat), i ≤ s.length → s.length - i < n → acc.length ≤ i → (acc = [] ∨ acc.head? ≠ some 0) →
      zT s (b : Int) n (zap acc) (i : Int) = some (if (s.drop i).all (zev b) then (zap (if acc = [] then zc6 (vals (s.drop i)) else acc ++ vals (s.drop i)), !(s == [])) else ([], false)) := by
    intro n
    induction n with
    | zero => intro i acc _ h; omega
    | succ n ih =>
      intro i acc hi h ha h0
      rw [zT]
      by_cases hlt : i < s.length
      · have hx : s[i]? = some s[i] := List.getElem?_eq_getElem hlt
        rw [List.drop_eq_getElem_cons hlt]
        generalize hc : s[i] = c at hx ⊢
        simp only [Int.ofNat_lt, hlt, decide_true, if_true, zc3, hx, Option.bind_some, zeT hb, List.all_cons]
        rcases zdt (zev b c) with hdg | hdg
        · have hw := zhN hb hdg
          have hw0 : ¬ ((wor c : Int) < 0) := by omega
          have hdig : zbw (wor c : Int) (b : Int) = some [dch (wor c)] := by
            rw [zdf hb _ (by omega), zbt hw]; rfl
          have hcat : zc4 (zap acc) [dch (wor c)] = some (zap (acc ++ [wor c])) := by
            rw [zaT (by simp [zap]; omega)]; simp [zap]
          simp only [hdg, if_true, hw0, decide_false, Bool.false_eq_true, if_false, zbP, zbO, hdig, hcat, Option.bind_some, zE (show i < 4611686018427387904 by omega), Bool.true_and]
          have hvc : vals (c :: s.drop (i + 1)) = wor c :: vals (s.drop (i + 1)) := rfl
          cases acc with
          | nil =>
            by_cases hz : wor c = 0
            · have hz' : ¬ (0 < (wor c : Int)) := by omega
              simp only [show (zap [] == ([] : Str)) = true from rfl, Bool.not_true, Bool.false_eq_true, if_false, hz', decide_false]
              have := ih (i + 1) [] (by omega) (by omega) (by simp) (.inl rfl)
              rw [show zap [] = ([] : Str) from rfl] at this ⊢
              rw [this]
              simp only [if_true, hvc, hz, zc6, zc5]
            · have hz' : 0 < (wor c : Int) := by omega
              simp only [show (zap [] == ([] : Str)) = true from rfl, Bool.not_true, Bool.false_eq_true, if_false, hz', decide_true, if_true]
              rw [ih (i + 1) ([] ++ [wor c]) (by omega) (by omega) (by simp) (.inr (by simpa using hz))]
              obtain ⟨m, hm⟩ : ∃ m, wor c = m + 1 := ⟨wor c - 1, by omega⟩
              simp [hvc, zc6, hm, zc5]
          | cons y acc =>
            simp only [show (zap (y :: acc) == ([] : Str)) = false from rfl, Bool.not_false, if_true]
            have hy : (y :: acc ++ [wor c]) = [] ∨ (y :: acc ++ [wor c]).head? ≠ some 0 := by
              right
              rcases h0 with h0 | h0
              · cases h0
              · simpa using h0
            rw [ih (i + 1) (y :: acc ++ [wor c]) (by omega) (by omega) (by simp at ha ⊢; omega) hy]
            simp [hvc]
        · simp [hdg]
      · have : i = s.length := by omega
        subst this
        simp only [Int.lt_irrefl, decide_false, Bool.false_eq_true, if_false, List.drop_length, List.all_nil, if_true, zbQ]
        cases acc with
        | nil => simp [zap, zc6, vals, zc5, dch]
        | cons y acc => simp [zap, vals]
  have := key fuel 0 [] (Nat.zero_le _) (by unfold fuel; omega) (by simp) (.inl rfl)
  simpa [zap] using this
theorem zjR {b : Nat} (hb : 0 < b) {l : List Nat} (h : ∀ d ∈ l, d < b) : zc6 l ≠ [] ∧ (∀ d ∈ zc6 l, d < b) ∧ (zc6 l = [0] ∨ (zc6 l).head? ≠ some 0) ∧ z7 b (zc6 l) = z7 b l ∧ (zc6 l).length ≤ l.length + 1 := by
  unfold zc6
  by_cases e : zc5 l = []
  · rw [if_pos e]
    have := zgD b l
    rw [e, zl4] at this
    refine ⟨by simp, fun d hd => by simp at hd; omega, .inl rfl, by simp [z7] at this ⊢; exact this, by simp⟩
  · rw [if_neg e]
    exact ⟨e, fun d hd => h d (ziK hd), .inr (zhQ l), zgD b l, by have := ziL l; omega⟩
theorem zl8 {b : Nat} (hb : 2 ≤ b) (l m : List Nat) (hl0 : l ≠ []) (hm0 : m ≠ []) (hl : ∀ d ∈ l, d < b) (hm : ∀ d ∈ m, d < b) (zl : l = [0] ∨ l.head? ≠ some 0) (zm : m = [0] ∨ m.head? ≠ some 0) :
    (decide (l.length < m.length) || (l.length == m.length && zhJ l m)) = decide (z7 b l < z7 b m) := by
  have low : ∀ x : List Nat, x ≠ [] → x.head? ≠ some 0 → b ^ (x.length - 1) ≤ z7 b x := by
    intro x hx h0
    cases x with
    | nil => exact absurd rfl hx
    | cons y t =>
      have hy : 1 ≤ y := by
        rcases Nat.eq_zero_or_pos y with e | e
        · subst e; simp at h0
        · exact e
      rw [zds, List.length_cons, Nat.add_sub_cancel]
      have := Nat.mul_le_mul_right (b ^ t.length) hy
      rw [Nat.one_mul] at this; omega
  have cmp : ∀ x y : List Nat, x ≠ [] → y ≠ [] → (∀ d ∈ x, d < b) → (y = [0] ∨ y.head? ≠ some 0) → x.length < y.length → z7 b x < z7 b y := by
    intro x y hx hy hxd zy h
    have hyh : y.head? ≠ some 0 := by
      rcases zy with e | e
      · have : 1 ≤ x.length := by cases x with | nil => exact absurd rfl hx | cons _ _ => simp
        rw [e] at h
        have h' : x.length < 1 := h
        omega
      · exact e
    have h1 := zha (b := b) (by omega) hxd
    have h2 := low y hy hyh
    have h3 : b ^ x.length ≤ b ^ (y.length - 1) := Nat.pow_le_pow_right (by omega) (by omega)
    omega
  rcases Nat.lt_trichotomy l.length m.length with h | h | h
  · have := cmp l m hl0 hm0 hl zm h
    simp [h, this]
  · rw [h, zkI (b := b) (by omega) l m h hl hm]; simp
  · have h1 := cmp m l hm0 hl0 hm zl h
    have h2 : ¬ l.length < m.length := by omega
    have h3 : (l.length == m.length) = false := beq_eq_false_iff_ne.2 (by omega)
    have h4 : ¬ z7 b l < z7 b m := by omega
    simp [h2, h3, h4]
theorem zd5 (l : List Nat) : (zap l).length = l.length := by simp [zap]
theorem zgE {b : Nat} (hb : zcX b) (l : List Nat) (q : Bool) (hl : ∀ d ∈ l, d < b) (hlen : l.length < 2000000000) (hv : z7 b l < 4611686018427387904) :
    zaM (b : Int) (zap l, q) fuel 0 0 = some (((z7 b l : Nat) : Int), 0) := by
  obtain ⟨h2, h16⟩ := hb.two
  have key : ∀ (n i v : Nat), i ≤ l.length → l.length - i < n → v = z7 b (l.take i) → zaM (b : Int) (zap l, q) n (v : Int) (i : Int) = some (((z7 b l : Nat) : Int), 0) := by
    intro n
    induction n with
    | zero => intro i v _ h; omega
    | succ n ih =>
      intro i v hi h hvv
      rw [zaM]
      by_cases hlt : i < l.length
      · have hx : (zap l)[i]? = some (dch l[i]) := by simp [zap, hlt]
        have hd : l[i] < b := hl _ (List.getElem_mem hlt)
        obtain ⟨w1, w2, w3⟩ := zk6 l[i] (by omega)
        have hdg : zev b (dch l[i]) = true := by
          rcases hb with rfl | rfl
          · exact w3 hd
          · exact w2
        have hv' : z7 b (l.take (i + 1)) = v * b + l[i] := by
          rw [List.take_succ_eq_append_getElem hlt, zgB, ← hvv]
        have hle : z7 b (l.take (i + 1)) ≤ z7 b l := by
          have := ziJ (b := b) (by omega) (l.take (i + 1)) (l.drop (i + 1))
          rwa [List.take_append_drop] at this
        have hmul : ziQ (v : Int) (b : Int) = some ((v * b : Nat) : Int) := by
          rw [zkB (by rw [← Int.natCast_mul]; omega) (by rw [← Int.natCast_mul]; omega), Int.natCast_mul]
        have hadd : zX ((v * b : Nat) : Int) (l[i] : Int) = some ((v * b + l[i] : Nat) : Int) := by
          rw [zdL (by omega) (by omega)]; simp
        simp only [zd5, Int.ofNat_lt, hlt, decide_true, if_true, hmul, Option.bind_some, zc3, hx, zeT hb, hdg, w1, hadd, zE (show i < 4611686018427387904 by omega)]
        exact ih (i + 1) _ (by omega) (by omega) hv'.symm
      · have : i = l.length := by omega
        subst this
        rw [List.take_length] at hvv
        simp [zd5, hvv]
  have := key fuel 0 0 (Nat.zero_le _) (by unfold fuel; omega) (by simp [z7])
  simpa using this
theorem zic {b : Nat} (hb : zcX b) (s : Str) (most : Int) (hs : s.length < 1000000000) (hm : most < 4611686018427387904) (hm0 : -4611686018427387904 < most) : zdE s (b : Int) most = some (zcj b s most) := by
  obtain ⟨h2, h16⟩ := hb.two
  unfold zdE zcj
  rw [zl7 hb s hs, Option.bind_some]
  rcases zdt (s.all (zev b)) with hd | hd
  · rw [hd]
    simp only [if_true, Bool.not_true, Bool.or_false]
    rcases zdt (s == []) with he | he
    · rw [he]; simp
    · rw [he]
      have hv := zmK hb hd
      obtain ⟨c1, c2, c3, c4, c5⟩ := zjR (b := b) (by omega) hv
      have hlen : (vals s).length = s.length := by simp [vals]
      simp only [Bool.not_false, Bool.not_true, Bool.false_eq_true, if_false]
      by_cases hneg : most < 0
      · have h7 : most < (z7 b (vals s) : Int) := by omega
        simp [hneg, h7, zbD]
      · obtain ⟨k, rfl⟩ : ∃ k : Nat, most = k := ⟨most.toNat, by omega⟩
        have hk : k < 2 ^ 64 := by omega
        have hless : zdD (zap (zcR b k)) (zap (zc6 (vals s))) = some (decide (k < z7 b (vals s))) := by
          unfold zdD
          have d1 := zmJ h2 k hk
          have d3 : zcR b k = [0] ∨ (zcR b k).head? ≠ some 0 := by
            rcases ziI h2 k hk with e | e
            · left; subst e; exact zbt (by omega)
            · exact .inr e
          have := zl8 h2 (zcR b k) (zc6 (vals s)) zjc c1 d1 c2 d3 c3
          rw [zjP h2 k hk, c4] at this
          rw [← this, zd5, zd5, zgQ _ _ (fun d hd => by have := d1 d hd; omega) (fun d hd => by have := c2 d hd; omega)]
          by_cases h1 : (zcR b k).length < (zc6 (vals s)).length
          · simp [h1, zaL]
          · by_cases h3 : (zcR b k).length = (zc6 (vals s)).length
            · simp [h3, zaL]
            · have h4 : (((zcR b k).length : Int) == ((zc6 (vals s)).length : Int)) = false := beq_eq_false_iff_ne.2 (by omega)
              simp [h1, h3, h4, zaL]
        simp only [hneg, decide_false, Bool.false_eq_true, if_false, zdf hb k (by omega), Option.bind_some, hless, zbD]
        by_cases h7 : k < z7 b (vals s)
        · have h8 : (k : Int) < (z7 b (vals s) : Int) := by omega
          simp [h7, h8]
        · have h8 : ¬ ((k : Int) < (z7 b (vals s) : Int)) := by omega
          simp only [h7, decide_false, Bool.false_eq_true, if_false, h8]
          rw [zgE hb _ _ c2 (by omega) (by rw [c4]; omega), c4]
  · rw [hd]; simp
end Go.Dm
end
section
namespace Go.Dm
def low (s : Str) : Str := s.map zgx
end Go.Dm
end
section
namespace Go.Dm
def upto (cs s : Str) : Str := s.takeWhile (fun c => !cs.contains c)
end Go.Dm
end
section
namespace Go.Dm
def scn (s : Str) (k : Nat) : scan_Scanner := ⟨s, (k : Int)⟩
theorem zj6 (s : Str) : zgi s = some (scn s 0) := rfl
theorem zfD (s : Str) (k : Nat) : zaW (scn s k) = some (k : Int) := rfl
theorem zjm {s : Str} {k : Nat} (h : k ≤ s.length) : za3 (scn s k) = some (s.drop k) := by
  unfold za3 scn
  rw [ze2 h]; rfl
theorem zeW {s : Str} {k : Nat} (h : k ≤ s.length) : zal (scn s k) = some (s.drop k == []) := by
  unfold zal
  rw [zjm h]; rfl
theorem zdT {s : Str} {k : Nat} (h : k ≤ s.length) (hd : s.drop k = []) : zH (scn s k) = some (0, false) := by
  unfold zH
  rw [zeW h, hd]; rfl
theorem zdz {s : Str} {k : Nat} {x : UInt8} {r : Str} (h : k ≤ s.length) (hd : s.drop k = x :: r) : zH (scn s k) = some (x, true) := by
  unfold zH
  rw [zeW h, hd]
  have hx : s[k]? = some x := by
    have := congrArg (·[0]?) hd
    simpa using this
  simp [scn, hx]
theorem zim {s : Str} {k : Nat} (b : UInt8) (h : k ≤ s.length) (hd : s.drop k = []) : zq (scn s k) b = some (false, scn s k) := by
  unfold zq
  rw [zdT h hd]; rfl
theorem zh5 {s : Str} {k : Nat} {x : UInt8} {r : Str} (b : UInt8) (h : k ≤ s.length) (hs : s.length < 1000000000) (hd : s.drop k = x :: r) : zq (scn s k) b = some (x == b, if x == b then scn s (k + 1) else scn s k) := by
  unfold zq
  rw [zdz h hd]
  simp only [Option.bind_some, Bool.not_true, Bool.false_eq_true, if_false, zas]
  rcases zdt (x == b) with hb | hb
  · rw [hb]; simp [scn, zE (show k < 4611686018427387904 by omega)]
  · rw [hb]; simp
theorem zjn {s : Str} {k : Nat} {x : UInt8} {r : Str} (hd : s.drop k = x :: r) : k < s.length ∧ s.drop (k + 1) = r := by
  have hl : k < s.length := by
    rcases Nat.lt_or_ge k s.length with h | h
    · exact h
    · rw [List.drop_eq_nil_of_le h] at hd; cases hd
  refine ⟨hl, ?_⟩
  rw [List.drop_eq_getElem_cons hl] at hd
  exact (List.cons.inj hd).2
theorem zin {f : UInt8 → Option Bool} {p : UInt8 → Bool} (hf : ∀ b, f b = some (p b)) {s : Str} {k : Nat} (hs : s.length < 1000000000) (hk : k ≤ s.length) :
    zY (scn s k) f = some ((s.drop k).takeWhile p, scn s (k + ((s.drop k).takeWhile p).length)) := by
  unfold zY
  rw [zfD, Option.bind_some]
  show zz f k fuel s k = _
  have key : ∀ (n i : Nat), k ≤ i → i ≤ s.length → s.length - i < n → zz f k n s i = some ((s.take (i + ((s.drop i).takeWhile p).length)).drop k, scn s (i + ((s.drop i).takeWhile p).length)) := by
    intro n
    induction n with
    | zero => intro i _ _ h; omega
    | succ n ih =>
      intro i hki hi h
      rw [zz]
      have e : (⟨s, (i : Int)⟩ : scan_Scanner) = scn s i := rfl
      rw [e]
      cases hd : s.drop i with
      | nil =>
        rw [zdT hi hd]
        simp [zR, zak, zfZ hki hi, scn]
      | cons x r =>
        obtain ⟨hlt, hr⟩ := zjn hd
        rw [zdz hi hd]
        simp only [Option.bind_some, Bool.not_true, Bool.false_eq_true, if_false, hf, zR, zE (show i < 4611686018427387904 by omega), ih (i + 1) (by omega) (by omega) (by omega), hr, List.takeWhile_cons]
        rcases zdt (p x) with hp | hp
        · rw [hp]; simp [Nat.add_assoc, Nat.add_comm 1]
        · rw [hp]; simp [zak, zfZ hki hi, scn]
  rw [key fuel k (Nat.le_refl _) hk (by unfold fuel; omega)]
  congr 2
  rw [List.drop_take, Nat.add_sub_cancel_left]
  have := List.takeWhile_prefix (l := s.drop k) p
  exact (List.prefix_iff_eq_take.1 this).symm
theorem zjo (p : UInt8 → Bool) (s : Str) : (s.takeWhile p).length ≤ s.length := (List.takeWhile_prefix p).length_le
theorem zlc (p : UInt8 → Bool) (s : Str) (k : Nat) (hk : k ≤ s.length) : s.drop (k + ((s.drop k).takeWhile p).length) = (s.drop k).dropWhile p ∧ k + ((s.drop k).takeWhile p).length ≤ s.length := by
  refine ⟨?_, ?_⟩
  · rw [← List.drop_drop]
    generalize s.drop k = t
    have h := List.takeWhile_append_dropWhile (p := p) (l := t)
    conv => lhs; arg 2; rw [← h]
    exact List.drop_left
  · have := zjo p (s.drop k)
    rw [List.length_drop] at this; omega
end Go.Dm
end
section
namespace Go.Dm
structure At (s : Str) (k : Nat) (r : Str) : Prop where
  le : k ≤ s.length
  drop : s.drop k = r
theorem At.zero (s : Str) : At s 0 s := ⟨Nat.zero_le _, rfl⟩
theorem At.len {s : Str} {k : Nat} {r : Str} (h : At s k r) : k + r.length = s.length := by
  have := congrArg List.length h.drop
  rw [List.length_drop] at this
  have := h.le
  omega
theorem At.next {s : Str} {k : Nat} {r : Str} (h : At s k r) (n : Nat) (hn : n ≤ r.length) : At s (k + n) (r.drop n) :=
  ⟨by have := h.len; omega, by rw [← List.drop_drop, h.drop]⟩
def peekR : Str → UInt8 × Bool
  | [] => (0, false)
  | x :: _ => (x, true)
def zga (b : UInt8) (r : Str) : Bool := r.head? == some b
def zdy (b : UInt8) (r : Str) : Str := if zga b r then r.drop 1 else r
theorem zbb (b x : UInt8) (r : Str) : zga b (x :: r) = (x == b) := Option.some_beq_some ..
theorem zcY (b : UInt8) (r : Str) : zdy b (b :: r) = r := by unfold zdy; rw [zbb, beq_self_eq_true, if_pos rfl]; rfl
theorem zfA {b : UInt8} {r : Str} (h : zga b r = false) : zdy b r = r := by unfold zdy; rw [h]; rfl
theorem zhV {b : UInt8} {r : Str} (h : zga b r = true) : r = b :: zdy b r := by
  cases r with
  | nil => cases h
  | cons x r =>
    rw [zbb] at h
    have : x = b := by simpa using h
    subst this
    rw [zcY]
section
variable {s r : Str} {k : Nat}
theorem zl9 (h : At s k r) : zal (scn s k) = some (r == []) := by rw [zeW h.le, h.drop]
theorem zmO (h : At s k r) : zH (scn s k) = some (peekR r) := by
  cases r with
  | nil => exact zdT h.le h.drop
  | cons x r => exact zdz h.le h.drop
theorem ze3 (hs : s.length < 1000000000) (b : UInt8) (h : At s k r) : ∃ k', At s k' (zdy b r) ∧ zq (scn s k) b = some (zga b r, scn s k') := by
  cases r with
  | nil => exact ⟨k, h, zim b h.le h.drop⟩
  | cons x r =>
    rw [zh5 b h.le hs h.drop, zbb]
    unfold zdy
    rw [zbb]
    cases x == b with
    | true => exact ⟨k + 1, h.next 1 (by simp), rfl⟩
    | false => exact ⟨k, h, rfl⟩
theorem zj0 {f : UInt8 → Option Bool} {p : UInt8 → Bool} (hf : ∀ b, f b = some (p b)) (hs : s.length < 1000000000) (h : At s k r) : ∃ k', At s k' (r.dropWhile p) ∧ zY (scn s k) f = some (r.takeWhile p, scn s k') := by
  have e := zin hf hs h.le
  rw [h.drop] at e
  have hd := zlc p s k h.le
  rw [h.drop] at hd
  exact ⟨_, ⟨hd.2, hd.1⟩, e⟩
theorem zj1 (hs : s.length < 1000000000) (h : At s k r) : ∃ k', At s k' (r.dropWhile zdx) ∧ zan (scn s k) = some (r.takeWhile zdx, !(r.takeWhile zdx == []), scn s k') := by
  obtain ⟨k', h1, h2⟩ := zj0 zgz hs h
  refine ⟨k', h1, ?_⟩
  unfold zan
  rw [h2]; rfl
end
end Go.Dm
end
section
namespace Go.Dm
theorem zbI (c : UInt8) (s : Str) : zj c s ≠ [] := by
  cases s with
  | nil => simp [zj]
  | cons x s =>
    unfold zj
    split
    · simp
    · split <;> simp
theorem zih {b c : UInt8} {l : Str} (h : b ≠ c) : Go.Lib.index (b :: l) [c] = if Go.Lib.index l [c] = -1 then -1 else Go.Lib.index l [c] + 1 := by
  have hp : ([c] : List UInt8).isPrefixOf (b :: l) = false := by simp [List.isPrefixOf, Ne.symm h]
  rw [Go.Lib.index, hp]; simp
theorem zii (c : UInt8) (l : Str) : Go.Lib.index (c :: l) [c] = 0 := by
  rw [Go.Lib.index]; simp [List.isPrefixOf]
theorem zfB (c : UInt8) : ∀ (s : Str) (k : Nat), Go.Lib.count s [c] = k → Go.Lib.splitK [c] 0 k s = zj c s
  | [], k, h => by
    rw [Go.Lib.count_one] at h
    simp at h; subst h; rfl
  | b :: l, k, h => by
    by_cases hb : b = c
    · subst hb
      rw [Go.Lib.count_cons_eq] at h
      obtain ⟨m, rfl⟩ : ∃ m, k = m + 1 := ⟨k - 1, by omega⟩
      have ih := zfB b l m (by omega)
      unfold Go.Lib.splitK
      rw [zii]
      simp [zj, ih]
    · rw [Go.Lib.count_cons_ne b c l hb] at h
      have ih := zfB c l k h
      unfold zj
      rw [if_neg hb, ← ih]
      cases k with
      | zero => simp [Go.Lib.splitK]
      | succ k =>
        unfold Go.Lib.splitK
        rw [zih hb]
        have hge := Go.Lib.index_ge l [c]
        by_cases hm : Go.Lib.index l [c] = -1
        · rw [Go.Lib.count_miss hm] at h; omega
        · obtain ⟨j, hj⟩ : ∃ j : Nat, Go.Lib.index l [c] = j := ⟨(Go.Lib.index l [c]).toNat, by omega⟩
          have e1 : ¬ ((j : Int) + 1 = -1) := by omega
          have e2 : ¬ ((j : Int) = -1) := by omega
          have e3 : ((j : Int) + 1).toNat = j + 1 := by omega
          rw [hj]
          simp [e1, e2, e3, Nat.add_right_comm j 1 1]
theorem zgF (s : Str) (c : UInt8) (hs : s.length < 1000000000) : strings_Split s [c] = some (zj c s) := by
  unfold strings_Split
  rw [if_pos ⟨by omega, by simp⟩]
  rw [zfB c s _ rfl]
def zch (p : Str) : List Str → List Str
  | [] => [p]
  | h :: t => (p ++ h) :: t
theorem za2 (c x : UInt8) (s : Str) : zj c (x :: s) = if x = c then [] :: zj c s else zch [x] (zj c s) := by
  rw [zj]
  split
  · rfl
  · cases h : zj c s <;> rfl
theorem zfC (l : List Str) (h : l ≠ []) : zch [] l = l := by
  cases l with
  | nil => exact absurd rfl h
  | cons a t => rfl
theorem zfm (p q : Str) (l : List Str) (h : l ≠ []) : zch p (zch q l) = zch (p ++ q) l := by
  cases l with
  | nil => exact absurd rfl h
  | cons a t => simp [zch]
theorem zeU (c : UInt8) : ∀ (a s : Str), c ∉ a → zj c (a ++ s) = zch a (zj c s)
  | [], s, _ => (zfC _ (zbI c s)).symm
  | x :: a, s, h => by
    have hx : ¬ x = c := fun e => h (by simp [e])
    rw [List.cons_append, za2, if_neg hx, zeU c a s (fun e => h (List.mem_cons_of_mem _ e)), zfm _ _ _ (zbI c s)]
    rfl
theorem zjh {c : UInt8} {a : Str} (h : c ∉ a) : zj c a = [a] := by
  have := zeU c a [] h
  simpa [zj, zch] using this
theorem zkt {c : UInt8} {a : Str} (s : Str) (h : c ∉ a) : zj c (a ++ c :: s) = a :: zj c s := by
  rw [zeU c a _ h, za2, if_pos rfl]
  simp [zch]
theorem zbJ {c : UInt8} : ∀ {s p : Str}, p ∈ zj c s → c ∉ p ∧ p.length ≤ s.length ∧ ∀ x ∈ p, x ∈ s
  | [], p, h => by
    simp [zj] at h; subst h; simp
  | x :: s, p, h => by
    rw [za2] at h
    split at h
    · rcases List.mem_cons.1 h with rfl | h
      · simp
      · obtain ⟨h1, h2, h3⟩ := zbJ h
        exact ⟨h1, by simp; omega, fun y hy => List.mem_cons_of_mem _ (h3 y hy)⟩
    · rename_i hx
      cases hl : zj c s with
      | nil => exact absurd hl (zbI c s)
      | cons a t =>
        rw [hl] at h
        rcases List.mem_cons.1 h with rfl | h
        · obtain ⟨h1, h2, h3⟩ := zbJ (c := c) (s := s) (p := a) (by rw [hl]; simp)
          refine ⟨?_, by simp; omega, ?_⟩
          · simp only [List.singleton_append, List.mem_cons, not_or]; exact ⟨fun e => hx e.symm, h1⟩
          · intro y hy
            simp only [List.singleton_append, List.mem_cons] at hy ⊢
            rcases hy with hy | hy
            · exact .inl hy
            · exact .inr (h3 y hy)
        · obtain ⟨h1, h2, h3⟩ := zbJ (c := c) (s := s) (p := p) (by rw [hl]; exact List.mem_cons_of_mem _ h)
          exact ⟨h1, by simp; omega, fun y hy => List.mem_cons_of_mem _ (h3 y hy)⟩
theorem zck (c : UInt8) : ∀ s : Str, (zj c s).length ≤ s.length + 1
  | [] => by simp [zj]
  | x :: s => by
    have ih := zck c s
    rw [za2]
    split
    · simp; omega
    · cases hl : zj c s with
      | nil => exact absurd hl (zbI c s)
      | cons a t => rw [hl] at ih; simp [zch] at ih ⊢; omega
theorem zeV (s : Str) (c : UInt8) (hs : s.length < 1000000000) : zco s c = some (zj c s) := by
  unfold zco
  have key : ∀ (n i k : Nat) (acc : List Str), k ≤ i → i ≤ s.length → acc.length ≤ i → s.length - i < n → zaa s c n acc (k : Int) (i : Int) = some (acc ++ zch ((s.take i).drop k) (zj c (s.drop i))) := by
    intro n
    induction n with
    | zero => intro i k acc _ _ _ h; omega
    | succ n ih =>
      intro i k acc hk hi ha h
      rw [zaa]
      by_cases hlt : i < s.length
      · have hx : s[i]? = some s[i] := List.getElem?_eq_getElem hlt
        have ht : (s.take (i + 1)).drop k = (s.take i).drop k ++ [s[i]] := by
          rw [List.take_succ_eq_append_getElem hlt, List.drop_append_of_le_length (by simp; omega)]
        simp only [Int.ofNat_lt, hlt, decide_true, if_true, zc3, hx, Option.bind_some, zbM, zE (show i < 4611686018427387904 by omega), zfZ hk hi]
        rw [List.drop_eq_getElem_cons hlt, za2]
        by_cases he : s[i] = c
        · simp only [he, beq_self_eq_true, if_true, zdl (n := acc.length) (m := 1) (b := 16) (by omega) (by omega)]
          rw [ih (i + 1) (i + 1) _ (by omega) (by omega) (by simp; omega) (by omega)]
          have e0 : (s.take (i + 1)).drop (i + 1) = [] := by simp
          rw [e0, zfC _ (zbI _ _)]
          simp [zch]
        · have hb : (s[i] == c) = false := beq_eq_false_iff_ne.2 he
          simp only [hb, Bool.false_eq_true, if_false, he]
          rw [ih (i + 1) k _ (by omega) (by omega) (by omega) (by omega), ht, zfm _ _ _ (zbI _ _)]
      · have : i = s.length := by omega
        subst this
        simp only [Int.lt_irrefl, decide_false, Bool.false_eq_true, if_false, ze2 hk, Option.bind_some, zdl (n := acc.length) (m := 1) (b := 16) (by omega) (by omega), if_true]
        simp [zj, zch]
  have := key fuel 0 0 [] (Nat.le_refl _) (Nat.zero_le _) (Nat.le_refl _) (by unfold fuel; omega)
  simp only [Int.natCast_zero, List.nil_append, List.take_zero, List.drop_nil, List.drop_zero] at this
  rw [this, zfC _ (zbI _ _)]
end Go.Dm
end
section
namespace Go.Dm
theorem zlj {b : Nat} : ∀ {x : List Nat}, x ≠ [] → x.head? ≠ some 0 → b ^ (x.length - 1) ≤ z7 b x
  | [], h, _ => absurd rfl h
  | y :: t, _, h0 => by
    have hy : 1 ≤ y := by
      rcases Nat.eq_zero_or_pos y with e | e
      · subst e; simp at h0
      · exact e
    rw [zds, List.length_cons, Nat.add_sub_cancel]
    have := Nat.mul_le_mul_right (b ^ t.length) hy
    rw [Nat.one_mul] at this; omega
theorem zj8 {k n : Nat} (hk : 1 ≤ k) (h64 : n < 2 ^ 64) (hn : n < 10 ^ k) : (zcR 10 n).length ≤ k := by
  rcases ziI (b := 10) (by decide) n h64 with e | e
  · subst e; rw [zbt (by decide)]; exact hk
  · have h1 := zlj (b := 10) zjc e
    rw [zjP (by decide) n h64] at h1
    rcases Nat.lt_or_ge k (zcR 10 n).length with h | h
    · have : 10 ^ k ≤ 10 ^ ((zcR 10 n).length - 1) := Nat.pow_le_pow_right (by decide) (by omega)
      omega
    · exact h
def zcs (s : Str) (most : Int) : Bool := (zcj 10 s most).2 == 0 && zhP 10 (zcj 10 s most).1 == s
theorem zfK {b : Nat} {s : Str} {most : Int} (h : (zcj b s most).2 = 0) (hm : most < 4611686018427387904) : 0 ≤ (zcj b s most).1 ∧ (zcj b s most).1 ≤ most ∧ inI (zcj b s most).1 = true := by
  unfold zcj at *
  split at h
  · cases h
  · rename_i h1
    rw [if_neg h1]
    split at h
    · cases h
    · rename_i h2
      rw [if_neg h2]
      refine ⟨by simp only; omega, by simp only; omega, by rw [zdI]; simp only; omega⟩
theorem zfL (s : Str) (most : Int) (hs : s.length < 1000000000) (hm : most < 4611686018427387904) (hm0 : -4611686018427387904 < most) : zbl s most = some (zcs s most) := by
  unfold zbl zcs
  rw [zfy s most hs hm hm0, Option.bind_some]
  by_cases h : (zcj 10 s most).2 = 0
  · have hi := (zfK h hm).2.2
    simp [h, zgZ _ hi, zaz]
  · simp [h, zaz]
theorem zhe (s : Str) (most : Int) (hs : s.length < 1000000000) (hm : most < 100000) (hm0 : -4611686018427387904 < most) : zdc s most = some (if zcs s most then (zcj 10 s most).1 else -1) := by
  unfold zdc
  have hR := zic (b := 10) (.inl rfl) s most hs (by omega) hm0
  rw [show ((10 : Nat) : Int) = 10 from rfl] at hR
  by_cases hl : 5 < (s.length : Int)
  · have : zcs s most = false := by
      rw [Bool.eq_false_iff]
      intro h
      unfold zcs at h
      simp only [Bool.and_eq_true, beq_iff_eq] at h
      obtain ⟨h1, h2⟩ := h
      obtain ⟨g1, g2, g3⟩ := zfK (b := 10) h1 (by omega)
      have hlen := congrArg List.length h2
      unfold zhP at hlen
      rw [if_neg (by omega), zd5] at hlen
      have := zj8 (k := 5) (n := (zcj 10 s most).1.toNat) (by decide) (by omega) (by omega)
      omega
    simp [hl, this]
  · simp only [hl, decide_false, Bool.false_eq_true, if_false, hR, Option.bind_some]
    unfold zcs
    by_cases h : (zcj 10 s most).2 = 0
    · have hi := (zfK h (by omega)).2.2
      have hT := zib (b := 10) (.inl rfl) _ hi
      rw [show ((10 : Nat) : Int) = 10 from rfl] at hT
      simp only [h, beq_self_eq_true, Bool.not_true, Bool.false_eq_true, if_false, hT, Option.bind_some, zbm, Bool.true_and]
      rcases zdt (zhP 10 (zcj 10 s most).1 == s) with h2 | h2 <;> rw [h2] <;> simp
    · have h' : ((zcj 10 s most).2 == 0) = false := beq_eq_false_iff_ne.2 h
      simp [h', zbm]
def zb3 (s : Str) : Bool := (zj 46 s).all (fun x => zcs x 255) && decide (((zj 46 s).length : Int) = 4)
theorem zit {α β : Type} {f : α → Option β} {g : α → β} : ∀ {l : List α}, (∀ x ∈ l, f x = some (g x)) → l.mapM f = some (l.map g)
  | [], _ => rfl
  | x :: l, h => by
    rw [List.mapM_cons, h x (List.mem_cons_self ..), zit fun y hy => h y (List.mem_cons_of_mem _ hy)]; rfl
theorem zdZ (s : Str) (hs : s.length < 1000000000) : zbC s = some (zb3 s) := by
  unfold zbC zb3
  rw [if_pos hs, zit (g := fun x => zcs x 255) fun x hx => zfL x 255 (by have := (zbJ hx).2.1; omega) (by decide) (by decide)]
  simp only [Option.bind_some, List.length_map, List.all_map]
  rfl
theorem zff (s : Str) (hs : s.length < 1000000000) : zcZ s = some (zb3 s) := by
  unfold zcZ zb3
  rw [zeV s 46 hs, Option.bind_some]
  have hlen := zck 46 s
  have hm := fun x (h : x ∈ zj 46 s) => (zbJ h).2.1
  generalize zj 46 s = l at *
  rw [zel l (zaN l) (fun x r => if zcs x 255 = true then r else some false) (some (decide ((l.length : Int) = 4))) (by omega)]
  · exact zfj _ _ _
  · intro n; rw [zaN]; simp only [Int.lt_irrefl, decide_false, Bool.false_eq_true, if_false]
    rw [show ((l.length : Int) == 4) = decide ((l.length : Int) = 4) from rfl]
  · intro n i x hi hx
    have hxl := hm x (List.mem_of_getElem? hx)
    rw [zaN]
    simp only [Int.ofNat_lt, hi, decide_true, if_true, zcd, hx, Option.bind_some, zhe x 255 (by omega) (by decide) (by decide), zE (show i < 4611686018427387904 by omega)]
    rcases zdt (zcs x 255) with h | h
    · have h2 : (zcj 10 x 255).2 = 0 := by unfold zcs at h; simp at h; exact h.1
      have h3 := (zfK h2 (by decide)).1
      have h4 : ¬ (zcj 10 x 255).1 < 0 := by omega
      rw [h]; simp [h4]
    · rw [h]; simp
def zlk : Str → Bool
  | [] => true
  | c :: s => if c == 37 then (match s with
    | a :: b :: r => zeB a && zeB b && zlk r
    | _ => false) else (cUnres c || cSub c) && zlk s
def zll (s : Str) : Bool := !(s == []) && zlk s
def under (a b : Str) : Bool := zll a && zll b && !zb3 a && !zb3 b && (low a == low b || ((46 :: low b) : Str).isSuffixOf (low a))
end Go.Dm
end
section
namespace Go.Dm
def zci (t : Str) : Str → Option (Str × Str)
  | [] => none
  | x :: s => if t.isPrefixOf (x :: s) then some ([], (x :: s).drop t.length) else (zci t s).map fun p => (x :: p.1, p.2)
theorem zeh {t : Str} : ∀ {s a b : Str}, zci t s = some (a, b) → s = a ++ t ++ b
  | [], _, _, h => by cases h
  | x :: s, a, b, h => by
    rw [zci] at h
    split at h
    · rename_i hp
      obtain ⟨r, hr⟩ := List.isPrefixOf_iff_prefix.1 hp
      simp only [Option.some.injEq, Prod.mk.injEq] at h
      obtain ⟨rfl, rfl⟩ := h
      rw [← hr]; simp
    · cases hc : zci t s with
      | none => rw [hc] at h; cases h
      | some p =>
        rw [hc] at h
        simp only [Option.map_some, Option.some.injEq, Prod.mk.injEq] at h
        obtain ⟨rfl, rfl⟩ := h
        have := zeh (a := p.1) (b := p.2) hc
        rw [List.cons_append, List.cons_append, ← this]
theorem ziC {t : Str} (ht : t ≠ []) : ∀ s : Str, Go.Lib.index s t = match zci t s with | none => -1 | some p => (p.1.length : Int)
  | [] => by
    cases t with
    | nil => exact absurd rfl ht
    | cons y t => rfl
  | x :: s => by
    rw [Go.Lib.index, zci, ziC ht s]
    cases t.isPrefixOf (x :: s) with
    | true => rfl
    | false =>
      cases zci t s with
      | none => rfl
      | some p =>
        simp only [Bool.false_eq_true, if_false, Option.map_some, List.length_cons]
        have : ((p.1.length : Int) == -1) = false := beq_eq_false_iff_ne.2 (by omega)
        rw [this]
        simp
theorem zhx (s t : Str) (hs : s.length < 1000000000) (ht : t ≠ []) : strings_Cut s t = some (match zci t s with | none => (s, [], false) | some p => (p.1, p.2, true)) := by
  unfold strings_Cut Go.Lib.cut
  rw [if_pos (by omega), ziC ht]
  congr 1
  cases hc : zci t s with
  | none => rfl
  | some p =>
    have e := zeh (a := p.1) (b := p.2) hc
    have h0 : (0 : Int) ≤ (p.1.length : Int) := by omega
    simp only [h0, if_true, Int.toNat_natCast]
    have e1 : s.take p.1.length = p.1 := by rw [e, List.append_assoc, List.take_left']; rfl
    have e2 : s.drop (p.1.length + t.length) = p.2 := by rw [e, List.drop_left']; simp
    rw [e1, e2]
def grp (x : Str) : Bool := decide (1 ≤ x.length) && decide (x.length ≤ 4) && x.all zeB
def zx (last : Bool) : List Str → Option Nat
  | [] => some 0
  | [x] => if last && zb3 x then some 2 else if grp x then some 1 else none
  | x :: y :: l => if grp x then (zx last (y :: l)).map (· + 1) else none
theorem zfv (last : Bool) : ∀ (l m : List Str), m ≠ [] → zx last (l ++ m) = (zx false l).bind fun a => (zx last m).map (· + a)
  | [], m, _ => by simp [zx]
  | [x], m, hm => by
    cases m with
    | nil => exact absurd rfl hm
    | cons y m =>
      show zx last (x :: y :: m) = _
      rw [zx, zx]
      cases grp x <;> simp
  | x :: y :: l, m, hm => by
    show zx last (x :: y :: (l ++ m)) = _
    have ih := zfv last (y :: l) m hm
    rw [zx, zx]
    rw [List.cons_append] at ih
    rw [ih]
    cases grp x with
    | false => rfl
    | true =>
      simp only [if_true]
      cases zx false (y :: l) with
      | none => rfl
      | some a =>
        cases zx last m with
        | none => rfl
        | some b => simp; omega
def zhy (a : Nat) : Option Nat → Int
  | none => -1
  | some k => ((a + k : Nat) : Int)
theorem zfU (rec1 : Int → Int → Option Int) (a i : Nat) (hi : i < 4000000000) : zao rec1 (i : Int) (a : Int) = rec1 (a : Int) ((i + 1 : Nat) : Int) := by
  unfold zao; rw [zE (by omega), Option.bind_some]
theorem zfV (rec1 : Int → Int → Option Int) (a i : Nat) (t : Bool) (hi : i < 4000000000) (ha : a < 4000000000) : zZ rec1 (a : Int) (i : Int) t = if t = true then rec1 ((a + 1 : Nat) : Int) ((i + 1 : Nat) : Int) else some (-1) := by
  unfold zZ
  rw [zE (by omega), Option.bind_some, zfU rec1 (a + 1) i hi]
theorem zi2 (rec1 : Int → Int → Option Int) (a i : Nat) (x : Str) (t : Bool) (hi : i < 4000000000) (ha : a < 4000000000) (hx : x.length < 1000000000) :
    z6 rec1 (a : Int) (i : Int) x t = if t = true then rec1 ((a + 2 : Nat) : Int) ((i + 1 : Nat) : Int) else if grp x = true then rec1 ((a + 1 : Nat) : Int) ((i + 1 : Nat) : Int) else some (-1) := by
  unfold z6 grp
  have i2 : zX (a : Int) 2 = some ((a + 2 : Nat) : Int) := by rw [zdL (by omega) (by omega)]; simp
  have e1 : decide ((1 : Int) ≤ (x.length : Int)) = decide (1 ≤ x.length) := decide_eq_decide.2 (by omega)
  have e2 : decide ((x.length : Int) ≤ 4) = decide (x.length ≤ 4) := decide_eq_decide.2 (by omega)
  rw [i2, Option.bind_some, zfU rec1 (a + 2) i hi, zfi zhG x hx, Option.bind_some, zfV rec1 a i _ hi ha, zfV rec1 a i _ hi ha, e1, e2]
  generalize rec1 _ _ = r1
  generalize rec1 _ _ = r2
  generalize decide (1 ≤ x.length) = d1
  generalize decide (x.length ≤ 4) = d2
  generalize x.all zeB = d3
  cases t <;> cases d1 <;> cases d2 <;> cases d3 <;> rfl
theorem zei (last : Bool) (x : Str) : zx last [x] = if last && zb3 x then some 2 else if grp x then some 1 else none := rfl
theorem zdJ (last : Bool) (x y : Str) (l : List Str) : zx last (x :: y :: l) = if grp x then (zx last (y :: l)).map (· + 1) else none := rfl
theorem zk1 (a : Nat) (o : Option Nat) : zhy a (o.map (· + 1)) = zhy (a + 1) o := by
  cases o with
  | none => rfl
  | some k => simp only [Option.map_some, zhy]; congr 1; omega
theorem zej (last : Bool) (l : List Str) (hl : l.length < 1000000000) (hx : ∀ x ∈ l, x.length < 1000000000) : ∀ (n i a : Nat), i ≤ l.length → l.length - i < n → a ≤ 2 * i → zv last l n (a : Int) (i : Int) = some (zhy a (zx last (l.drop i)))
  | 0, _, _, _, h, _ => by omega
  | n + 1, i, a, hi, h, ha => by
    rw [zv]
    cases hd : l.drop i with
    | nil =>
      have : i = l.length := by have := congrArg List.length hd; simp at this; omega
      subst this
      simp [zx, zhy]
    | cons x t =>
      have hlt : i < l.length := by have := congrArg List.length hd; simp at this; omega
      have hxx : l[i]? = some x := by have := congrArg (·[0]?) hd; simpa using this
      have ht : l.drop (i + 1) = t := by rw [← List.drop_drop, hd]; rfl
      have htl : t.length = l.length - (i + 1) := by rw [← ht]; simp
      have hxl := hx x (List.mem_of_getElem? hxx)
      have hsub : zgo (l.length : Int) 1 = some ((l.length - 1 : Nat) : Int) := by rw [zi4 (by omega) (by omega)]; congr 1; omega
      have ih1 := zej last l hl hx n (i + 1) (a + 1) (by omega) (by omega) (by omega)
      have ih2 := zej last l hl hx n (i + 1) (a + 2) (by omega) (by omega) (by omega)
      rw [ht] at ih1 ih2
      have j2 := fun t => zi2 (zv last l n) a i x t (by omega) (by omega) hxl
      simp only [Int.ofNat_lt, hlt, decide_true, if_true, zcd, hxx, Option.bind_some, hsub, zdZ x hxl, j2, ih1, ih2]
      cases t with
      | nil =>
        have hei : ((i : Int) == ((l.length - 1 : Nat) : Int)) = true := by simp at htl; simp; omega
        rw [hei, zei]
        have en : ∀ b, zx b [] = some 0 := fun _ => rfl
        rw [en]
        cases last <;> cases zb3 x <;> cases grp x <;> rfl
      | cons y t =>
        have hei : ((i : Int) == ((l.length - 1 : Nat) : Int)) = false := by simp at htl; simp; omega
        rw [hei, zdJ]
        have := zk1 a (zx last (y :: t))
        have hn : zhy a none = -1 := rfl
        cases last <;> cases grp x <;> simp only [if_true, Bool.false_eq_true, if_false, this, hn]
def zS (s : Str) : List Str := if s = [] then [] else zj 58 s
theorem zgu (s : Str) (last : Bool) (hs : s.length < 900000000) : zaB s last = some (zhy 0 (zx last (zS s))) := by
  unfold zaB zS
  by_cases h0 : s = []
  · subst h0; rfl
  · have h1 : (s == []) = false := beq_eq_false_iff_ne.2 h0
    rw [h1, if_neg h0]
    have hl := zck 58 s
    simp only [Bool.false_eq_true, if_false, zgF s 58 (by omega), Option.bind_some]
    have := zej last (zj 58 s) (by omega) (fun x hx => by have := (zbJ hx).2.1; omega) fuel 0 0 (by omega) (by unfold fuel; omega) (by omega)
    simpa using this
theorem ziD (last : Bool) : ∀ (l : List Str) (k : Nat), zx last l = some k → k ≤ l.length + 1
  | [], k, h => by cases h; omega
  | [x], k, h => by
    rw [zei] at h
    split at h
    · cases h; simp
    · split at h
      · cases h; simp
      · cases h
  | x :: y :: l, k, h => by
    rw [zdJ] at h
    split at h
    · obtain ⟨j, hj, rfl⟩ := Option.map_eq_some_iff.1 h
      have := ziD last (y :: l) j hj
      simp only [List.length_cons] at this ⊢
      omega
    · cases h
theorem zfW (s : Str) (last : Bool) (hs : s.length < 900000000) (k : Nat) (h : zx last (zS s) = some k) : k < 1000000000 := by
  have h1 := ziD last _ k h
  have h2 := zck 58 s
  unfold zS at h1
  split at h1
  · simp at h1; omega
  · omega
def zcy (s : Str) : Bool := zx true (zj 58 s) == some 8
def zhz (s : Str) : Bool := match zci [58, 58] s with
  | none => zcy s
  | some p => match zx false (zS p.1), zx true (zS p.2) with
    | some a, some b => decide (a + b ≤ 7)
    | _, _ => false
theorem Six_eq (s : Str) (hs : s.length < 900000000) : zcH s = some (zhz s) := by
  unfold zcH zhz
  rw [zhx s [58, 58] (by omega) (by simp), Option.bind_some]
  cases hc : zci [58, 58] s with
  | none =>
    simp only [Bool.not_false, if_true, zgu s true hs, Option.bind_some, zcy]
    unfold zS
    split
    · rename_i h; subst h; rfl
    · cases zx true (zj 58 s) with
      | none => rfl
      | some k =>
        simp only [zhy, Nat.zero_add, Option.some.injEq]
        by_cases h : k = 8
        · subst h; rfl
        · have h1 : ((k : Int) == 8) = false := beq_eq_false_iff_ne.2 (by omega)
          rw [h1]; simp [h]
  | some p =>
    have e := congrArg List.length (zeh (a := p.1) (b := p.2) hc)
    simp only [List.length_append] at e
    simp only [Bool.not_true, Bool.false_eq_true, if_false, zgu p.1 false (by omega), zgu p.2 true (by omega), Option.bind_some]
    cases ha : zx false (zS p.1) with
    | none => simp [zhy, zaf]
    | some a =>
      cases hb : zx true (zS p.2) with
      | none => simp [zhy, zaf]
      | some b =>
        have hb' := (zfW p.1 false (by omega) a ha)
        have hb2 := (zfW p.2 true (by omega) b hb)
        simp only [zhy, Nat.zero_add]
        have e0 : decide ((0 : Int) ≤ (a : Int)) = true := by simp
        have e1 : decide ((0 : Int) ≤ (b : Int)) = true := by simp
        rw [e0, e1, if_pos rfl, if_pos rfl, zlN (by omega), Option.bind_some]
        unfold zaf
        congr 1
        exact decide_eq_decide.2 (by omega)
theorem zjI (rec1 : Int → Int → Option Bool) (l : List Str) (a i : Nat) (x : Str) (hx : l[i]? = some x) (hxl : x.length < 1000000000) (hi : i < 2000000000) (ha : a < 4000000000) :
    zav rec1 l (a : Int) (i : Int) fuel 0 = if grp x = true then rec1 ((a + 1 : Nat) : Int) ((i + 1 : Nat) : Int) else some false := by
  have key : ∀ (n j : Nat), j ≤ x.length → x.length - j < n → zav rec1 l (a : Int) (i : Int) n (j : Int) = if (x.drop j).all zeB = true then (if (decide (1 ≤ x.length) && decide (x.length ≤ 4)) = true then rec1 ((a + 1 : Nat) : Int) ((i + 1 : Nat) : Int) else some false) else some false := by
    intro n
    induction n with
    | zero => intro j _ h; omega
    | succ n ih =>
      intro j hj h
      rw [zav]
      rw [zcd, hx]
      simp only [Option.bind_some]
      by_cases hlt : j < x.length
      · have e : decide ((j : Int) < (x.length : Int)) = true := decide_eq_true (by omega)
        have hc : x[j]? = some x[j] := List.getElem?_eq_getElem hlt
        rw [e, if_pos rfl, zc3, hc, Option.bind_some, zi6, Option.bind_some, zE (by omega), Option.bind_some, ih (j + 1) (by omega) (by omega), List.drop_eq_getElem_cons hlt, List.all_cons]
        cases zeB x[j] <;> rfl
      · have hjl : j = x.length := by omega
        subst hjl
        have e : decide ((x.length : Int) < (x.length : Int)) = false := decide_eq_false (by omega)
        have e1 : decide ((x.length : Int) < 1) = !decide (1 ≤ x.length) := by rw [← decide_not]; exact decide_eq_decide.2 (by omega)
        have e2 : decide (4 < (x.length : Int)) = !decide (x.length ≤ 4) := by rw [← decide_not]; exact decide_eq_decide.2 (by omega)
        rw [e, if_neg (by decide), List.drop_length, e1, e2]
        unfold zbR zbn
        rw [zE (by omega), Option.bind_some, zE (by omega), Option.bind_some]
        generalize rec1 _ _ = r1
        generalize decide (1 ≤ x.length) = d1
        generalize decide (x.length ≤ 4) = d2
        cases d1 <;> cases d2 <;> rfl
  have := key fuel 0 (Nat.zero_le _) (by unfold fuel; omega)
  rw [show (0 : Int) = ((0 : Nat) : Int) from rfl, this, List.drop_zero]
  unfold grp
  generalize rec1 _ _ = r1
  generalize decide (1 ≤ x.length) = d1
  generalize decide (x.length ≤ 4) = d2
  generalize x.all zeB = d3
  cases d1 <;> cases d2 <;> cases d3 <;> rfl
def isW (a : Nat) : Option Nat → Bool
  | none => false
  | some k => a + k == 8
theorem zlK (a : Nat) (o : Option Nat) : isW a (o.map (· + 1)) = isW (a + 1) o := by
  cases o with
  | none => rfl
  | some k => simp only [Option.map_some, isW]; congr 1; omega
theorem zeO (l : List Str) (hl : l.length < 1000000000) (hx : ∀ x ∈ l, x.length < 1000000000) : ∀ (n i a : Nat), i ≤ l.length → l.length - i < n → a ≤ 2 * i → zF l n (a : Int) (i : Int) = some (isW a (zx true (l.drop i)))
  | 0, _, _, _, h, _ => by omega
  | n + 1, i, a, hi, h, ha => by
    rw [zF]
    cases hd : l.drop i with
    | nil =>
      have : i = l.length := by have := congrArg List.length hd; simp at this; omega
      subst this
      have e : decide ((l.length : Int) < (l.length : Int)) = false := decide_eq_false (by omega)
      rw [e, if_neg (by decide)]
      show some ((a : Int) == 8) = some (a + 0 == 8)
      congr 1
      by_cases h8 : a = 8
      · subst h8; rfl
      · rw [beq_eq_false_iff_ne.2 (show (a : Int) ≠ 8 by omega), beq_eq_false_iff_ne.2 (show a + 0 ≠ 8 by omega)]
    | cons x t =>
      have hlt : i < l.length := by have := congrArg List.length hd; simp at this; omega
      have hxx : l[i]? = some x := by have := congrArg (·[0]?) hd; simpa using this
      have ht : l.drop (i + 1) = t := by rw [← List.drop_drop, hd]; rfl
      have htl : t.length = l.length - (i + 1) := by rw [← ht]; simp
      have hxl := hx x (List.mem_of_getElem? hxx)
      have hsub : zgo (l.length : Int) 1 = some ((l.length - 1 : Nat) : Int) := by rw [zi4 (by omega) (by omega)]; congr 1; omega
      have ih1 := zeO l hl hx n (i + 1) (a + 1) (by omega) (by omega) (by omega)
      have ih2 := zeO l hl hx n (i + 1) (a + 2) (by omega) (by omega) (by omega)
      rw [ht] at ih1 ih2
      have e : decide ((i : Int) < (l.length : Int)) = true := decide_eq_true (by omega)
      have i2 : zX (a : Int) 2 = some ((a + 2 : Nat) : Int) := by rw [zdL (by omega) (by omega)]; simp
      have j2 : ∀ t, zbo (zF l n) l (a : Int) (i : Int) t = if t = true then some (isW (a + 2) (zx true (l.drop (i + 1)))) else if grp x = true then some (isW (a + 1) (zx true (l.drop (i + 1)))) else some false := by
        intro t
        unfold zbo zbn
        rw [i2, Option.bind_some, zE (by omega), Option.bind_some, zjI _ l a i x hxx hxl (by omega) (by omega), ht, ih1, ih2]
      rw [e, if_pos rfl, hsub, Option.bind_some, zcd, hxx, Option.bind_some, zff x hxl, Option.bind_some, j2, j2, ht]
      cases t with
      | nil =>
        have hei : ((i : Int) == ((l.length - 1 : Nat) : Int)) = true := by simp at htl; simp; omega
        rw [hei, zei]
        have en : ∀ b, zx b [] = some 0 := fun _ => rfl
        rw [en]
        cases zb3 x <;> cases grp x <;> rfl
      | cons y t =>
        have hei : ((i : Int) == ((l.length - 1 : Nat) : Int)) = false := by simp at htl; simp; omega
        rw [hei, zdJ]
        have := zlK a (zx true (y :: t))
        have hn : isW a none = false := rfl
        cases grp x <;> simp only [if_true, Bool.false_eq_true, if_false, this, hn]
theorem zjJ (s : Str) (hs : s.length < 900000000) : zcp s = some (zcy s) := by
  unfold zcp zcy
  have hl := zck 58 s
  rw [zeV s 58 (by omega), Option.bind_some]
  have := zeO (zj 58 s) (by omega) (fun x hx => by have := (zbJ hx).2.1; omega) fuel 0 0 (by omega) (by unfold fuel; omega) (by omega)
  rw [List.drop_zero] at this
  rw [show (0 : Int) = ((0 : Nat) : Int) from rfl, this]
  congr 1
  cases zx true (zj 58 s) with
  | none => rfl
  | some k => simp only [isW, Nat.zero_add]; exact (Option.some_beq_some ..).symm
def zhA : Nat → Str → Str
  | 0, s => s
  | k + 1, s => zhA k (if s = [] then [48] else s ++ [58, 48])
def zjK (s b : Str) : Str := if b = [] then s else s ++ 58 :: b
theorem zkp (p : Str) (l m : List Str) (h : l ≠ []) : zch p (l ++ m) = zch p l ++ m := by
  cases l with
  | nil => exact absurd rfl h
  | cons x l => rfl
theorem zeP (c : UInt8) : ∀ x y : Str, zj c (x ++ c :: y) = zj c x ++ zj c y
  | [], y => by rw [List.nil_append, za2, if_pos rfl]; rfl
  | z :: x, y => by
    rw [List.cons_append, za2, za2, zeP c x y]
    split
    · rfl
    · rw [zkp _ _ _ (zbI c x)]
theorem zek : ∀ (k : Nat) (s : Str), s ≠ [] → zj 58 (zhA k s) = zj 58 s ++ List.replicate k [48]
  | 0, s, _ => by simp [zhA]
  | k + 1, s, h => by
    rw [zhA, if_neg h, zek k _ (by simp), show s ++ [58, 48] = s ++ (58 : UInt8) :: [48] from rfl, zeP, List.append_assoc]
    rfl
theorem zhB (k : Nat) (s : Str) : zj 58 (zhA (k + 1) s) = zS s ++ List.replicate (k + 1) [48] := by
  unfold zS
  split
  · rename_i h
    subst h
    rw [zhA, if_pos rfl, zek k _ (by simp)]
    rfl
  · rename_i h
    rw [zek _ _ h]
theorem zk2 : zb3 [48] = false := by simp [zb3, zj]
theorem zjL : grp [48] = true := by decide
theorem zeQ (last : Bool) : ∀ k : Nat, zx last (List.replicate (k + 1) [48]) = some (k + 1)
  | 0 => by rw [show List.replicate (0 + 1) ([48] : Str) = [[48]] from rfl, zei, zk2, zjL]; cases last <;> rfl
  | k + 1 => by
    have ih := zeQ last k
    rw [List.replicate_succ] at ih
    rw [List.replicate_succ, List.replicate_succ, zdJ, zjL, ih]
    rfl
def zfX (k : Nat) (a b : Str) : Bool := match zx false (zS a), zx true (zS b) with
  | some x, some y => decide (x + y + k ≤ 8)
  | _, _ => false
def sixE (k : Nat) (a b : Str) : Bool := match zx false (zS a), zx true (zS b) with
  | some x, some y => x + y + k == 8
  | _, _ => false
theorem zkq (k : Nat) (a b : Str) : zcy (zjK (zhA (k + 1) a) b) = sixE (k + 1) a b := by
  unfold zcy sixE
  have e : zj 58 (zjK (zhA (k + 1) a) b) = zS a ++ (List.replicate (k + 1) [48] ++ zS b) := by
    unfold zjK
    split
    · rename_i h; subst h; rw [zhB]; simp [zS]
    · rename_i h
      rw [zeP, zhB, List.append_assoc]
      congr 2
      unfold zS; rw [if_neg h]
  rw [e, zfv _ _ _ (by simp [List.replicate_succ])]
  have e2 : zx true (List.replicate (k + 1) [48] ++ zS b) = (zx true (zS b)).map (· + (k + 1)) := by
    by_cases hb : zS b = []
    · rw [hb, List.append_nil, zeQ]
      simp [zx]
    · rw [zfv _ _ _ hb, zeQ]; rfl
  rw [e2]
  cases zx false (zS a) with
  | none => rfl
  | some x =>
    cases zx true (zS b) with
    | none => rfl
    | some y =>
      simp only [Option.bind_some, Option.map_some]
      have : y + (k + 1) + x = x + y + (k + 1) := by omega
      rw [this]
      exact Option.some_beq_some ..
theorem ziE (rec3 : Int → Option Bool) (k : Nat) (t : Str) (ht : t.length < 900000000) (hk : k < 100) : zb0 rec3 (k : Int) t = if zcy t = true then some true else rec3 ((k + 1 : Nat) : Int) := by
  unfold zb0
  rw [zjJ t ht, Option.bind_some, zE (by omega), Option.bind_some]
theorem zgv (rec3 : Int → Option Bool) (s b : Str) (i k : Nat) (hi : i + 2 ≤ s.length) (hs : s.length < 400000000) (hb : s.drop (i + 2) = b) (hk : k < 100) : ∀ (n j : Nat) (t : Str), j ≤ k → k - j < n → t.length ≤ s.length + 2 * j →
    zaH rec3 s (i : Int) (k : Int) n t (j : Int) = if zcy (zjK (zhA (k - j) t) b) = true then some true else rec3 ((k + 1 : Nat) : Int)
  | 0, _, _, _, h, _ => by omega
  | n + 1, j, t, hj, h, ht => by
    rw [zaH]
    by_cases hlt : j < k
    · have e : decide ((j : Int) < (k : Int)) = true := decide_eq_true (by omega)
      have hkj : k - j = (k - (j + 1)) + 1 := by omega
      rw [e, if_pos rfl, hkj, zhA]
      unfold zcJ
      rw [zE (by omega)]
      simp only [Option.bind_some]
      by_cases h0 : t = []
      · subst h0
        have hn : (!(([] : Str) == [])) = false := rfl
        have := zgv rec3 s b i k hi hs hb hk n (j + 1) [48] (by omega) (by omega) (by simp; omega)
        rw [hn, if_neg (by decide), zaT (by simp), Option.bind_some, if_pos rfl]
        exact this
      · have hn : (!(t == [])) = true := by simp [h0]
        have := zgv rec3 s b i k hi hs hb hk n (j + 1) (t ++ [58, 48]) (by omega) (by omega) (by simp; omega)
        rw [hn, if_pos rfl, zaT (by simp; omega), Option.bind_some, zaT (by simp; omega), Option.bind_some, if_neg h0, List.append_assoc]
        exact this
    · have hjk : j = k := by omega
      subst hjk
      have e : decide ((j : Int) < (j : Int)) = false := decide_eq_false (by omega)
      have i2 : zX (i : Int) 2 = some ((i + 2 : Nat) : Int) := by rw [zdL (by omega) (by omega)]; simp
      have hbl : b.length ≤ s.length := by rw [← hb]; simp
      rw [e, if_neg (by decide), Nat.sub_self, zhA, i2, Option.bind_some, ze2 hi, Option.bind_some, hb]
      unfold zjK
      by_cases h0 : b = []
      · subst h0
        have hn : (!(([] : Str) == [])) = false := rfl
        rw [hn, if_neg (by decide), if_pos rfl, ziE rec3 j t (by omega) hk]
      · have hn : (!(b == [])) = true := by simp [h0]
        rw [hn, if_pos rfl, zaT (by simp; omega), Option.bind_some, Option.bind_some, ze2 hi, Option.bind_some, hb, zaT (by simp; omega), Option.bind_some, if_neg h0, List.append_assoc]
        exact ziE rec3 j (t ++ 58 :: b) (by simp; omega) hk
theorem zlM (k : Nat) (a b : Str) : zfX k a b = (sixE k a b || zfX (k + 1) a b) := by
  unfold zfX sixE
  cases zx false (zS a) with
  | none => rfl
  | some x =>
    cases zx true (zS b) with
    | none => rfl
    | some y =>
      show decide (x + y + k ≤ 8) = (x + y + k == 8 || decide (x + y + (k + 1) ≤ 8))
      rw [Bool.eq_iff_iff]
      simp only [decide_eq_true_eq, Bool.or_eq_true, beq_iff_eq]
      omega
theorem ziF (s b : Str) (i : Nat) (hi : i + 2 ≤ s.length) (hs : s.length < 400000000) (hb : s.drop (i + 2) = b) : ∀ (n k : Nat), k ≤ 8 → 8 - k + 1 < n → zW s (i : Int) n ((k + 1 : Nat) : Int) = some (zfX (k + 1) (s.take i) b)
  | 0, _, _, h => by omega
  | n + 1, k, hk, h => by
    rw [zW]
    by_cases hlt : k < 8
    · have e : decide (((k + 1 : Nat) : Int) ≤ 8) = true := decide_eq_true (by omega)
      have ih := ziF s b i hi hs hb n (k + 1) (by omega) (by omega)
      rw [e, if_pos rfl, zkC (by omega), Option.bind_some]
      have := zgv (zW s (i : Int) n) s b i (k + 1) hi hs hb (by omega) fuel 0 (s.take i) (by omega) (by unfold fuel; omega) (by simp; omega)
      rw [Nat.sub_zero] at this
      rw [show (0 : Int) = ((0 : Nat) : Int) from rfl, this, ih, zkq, zlM (k + 1)]
      cases sixE (k + 1) (s.take i) b <;> rfl
    · have : k = 8 := by omega
      subst this
      have e : decide (((8 + 1 : Nat) : Int) ≤ 8) = false := by decide
      rw [e, if_neg (by decide)]
      congr 1
      unfold zfX
      cases zx false (zS (s.take i)) with
      | none => rfl
      | some x =>
        cases zx true (zS b) with
        | none => rfl
        | some y => exact (decide_eq_false (by omega)).symm
theorem zmq (a b : Str) : zfX 1 a b = (match zx false (zS a), zx true (zS b) with | some a, some b => decide (a + b ≤ 7) | _, _ => false) := by
  unfold zfX
  cases zx false (zS a) with
  | none => rfl
  | some x =>
    cases zx true (zS b) with
    | none => rfl
    | some y => exact decide_eq_decide.2 (by omega)
theorem zi3 (s : Str) (hs : s.length < 400000000) : zd9 s = some (zhz s) := by
  unfold zd9
  have key : ∀ (n i : Nat), i ≤ s.length → s.length - i < n → zaI s n (i : Int) = some (match zci [58, 58] (s.drop i) with | none => zcy s | some p => zfX 1 (s.take (i + p.1.length)) p.2) := by
    intro n
    induction n with
    | zero => intro i _ h; omega
    | succ n ih =>
      intro i hi h
      rw [zaI, zE (by omega), Option.bind_some]
      by_cases hlt : i + 1 < s.length
      · have e : decide (((i + 1 : Nat) : Int) < (s.length : Int)) = true := decide_eq_true (by omega)
        have hd : s.drop i = s[i] :: s[i + 1] :: s.drop (i + 2) := by rw [List.drop_eq_getElem_cons (by omega), List.drop_eq_getElem_cons hlt]
        have hd1 : s.drop (i + 1) = s[i + 1] :: s.drop (i + 2) := List.drop_eq_getElem_cons hlt
        have g0 : s[i]? = some s[i] := List.getElem?_eq_getElem (by omega)
        have g1 : s[i + 1]? = some s[i + 1] := List.getElem?_eq_getElem hlt
        have ih1 := ih (i + 1) (by omega) (by omega)
        have hL3 := ziF s (s.drop (i + 2)) i (by omega) hs rfl fuel 0 (by omega) (by unfold fuel; omega)
        have next : (match zci [58, 58] (s[i] :: s.drop (i + 1)) with | none => zcy s | some p => zfX 1 (s.take (i + p.1.length)) p.2) = if ([58, 58] : Str).isPrefixOf (s[i] :: s.drop (i + 1)) = true then zfX 1 (s.take i) (s.drop (i + 2)) else (match zci [58, 58] (s.drop (i + 1)) with | none => zcy s | some p => zfX 1 (s.take (i + 1 + p.1.length)) p.2) := by
          rw [zci]
          cases ([58, 58] : Str).isPrefixOf (s[i] :: s.drop (i + 1)) with
          | true =>
            rw [if_pos rfl, if_pos rfl]
            show zfX 1 (s.take (i + 0)) (List.drop (1 + 1) (s[i] :: s.drop (i + 1))) = _
            rw [hd1]; rfl
          | false =>
            rw [if_neg (by decide), if_neg (by decide)]
            cases zci [58, 58] (s.drop (i + 1)) with
            | none => rfl
            | some p =>
              show zfX 1 (s.take (i + (p.1.length + 1))) p.2 = _
              rw [show i + (p.1.length + 1) = i + 1 + p.1.length from by omega]
        rw [e, if_pos rfl, zc3, g0, Option.bind_some, Option.bind_some, zc3, g1, Option.bind_some, List.drop_eq_getElem_cons (show i < s.length by omega), next]
        unfold zcK
        rw [zE (by omega), Option.bind_some, ih1]
        have hp : ([58, 58] : Str).isPrefixOf (s[i] :: s.drop (i + 1)) = (s[i] == 58 && s[i + 1] == 58) := by
          rw [hd1]
          simp only [List.isPrefixOf_cons_cons, List.isPrefixOf_nil_left, Bool.and_true]
          rw [zhh 58, zhh 58]
        rw [hp]
        have hL3' : zW s (i : Int) fuel 1 = some (zfX 1 (s.take i) (s.drop (i + 2))) := hL3
        rw [hL3']
        cases s[i] == 58 <;> cases s[i + 1] == 58 <;> rfl
      · have e : decide (((i + 1 : Nat) : Int) < (s.length : Int)) = false := decide_eq_false (by omega)
        rw [e, if_neg (by decide), zjJ s (by omega), Option.bind_some]
        have : zci [58, 58] (s.drop i) = none := by
          cases hd : s.drop i with
          | nil => rfl
          | cons x t =>
            have : t = [] := by have := congrArg List.length hd; simp at this; exact List.eq_nil_of_length_eq_zero (by omega)
            subst this
            rw [zci]
            simp [List.isPrefixOf, zci]
        rw [this]
  have := key fuel 0 (Nat.zero_le _) (by unfold fuel; omega)
  rw [List.drop_zero] at this
  rw [show (0 : Int) = ((0 : Nat) : Int) from rfl, this]
  unfold zhz
  congr 1
  cases hc : zci [58, 58] s with
  | none => rfl
  | some p =>
    have e := zeh (a := p.1) (b := p.2) hc
    have e1 : s.take (0 + p.1.length) = p.1 := by rw [Nat.zero_add, e, List.append_assoc, List.take_left']; rfl
    simp only [e1]
    exact zmq p.1 p.2
end Go.Dm
end
section
namespace Go.Dm
def zjp (b : UInt8) : Bool := b == 32 || b == 9
def triml (s : Str) : Str := s.dropWhile zjp
def trimr (s : Str) : Str := (s.reverse.dropWhile zjp).reverse
def trim (s : Str) : Str := triml (trimr s)
end Go.Dm
end
section
namespace Go.Dm
def zct : Str → Option (Str × Nat)
  | [] => none
  | c :: r => if c == 34 then some ([], 1) else if c == 92 then (match r with
      | [] => none
      | d :: t => if zd3 d then (zct t).map (fun p => (d :: p.1, p.2 + 2)) else none)
    else if zd3 c then (zct r).map (fun p => (c :: p.1, p.2 + 1)) else none
theorem ziu (r : Str) : zct (34 :: r) = some ([], 1) := by rw [zct.eq_def]; rfl
theorem zj9 : zct [92] = none := by rw [zct.eq_def]; rfl
theorem ziv (d : UInt8) (t : Str) : zct (92 :: d :: t) = if zd3 d then (zct t).map (fun p => (d :: p.1, p.2 + 2)) else none := by rw [zct.eq_def]; rfl
theorem ziw {c : UInt8} (r : Str) (h1 : (c == 34) = false) (h2 : (c == 92) = false) : zct (c :: r) = if zd3 c then (zct r).map (fun p => (c :: p.1, p.2 + 1)) else none := by
  rw [zct.eq_def]; simp only [h1, h2, Bool.false_eq_true, if_false]
def elems (l : List Str) : List Str := (l.map trim).filter (fun x => !(x == []))
end Go.Dm
end
section
namespace Go.Dm
section
variable {s r : Str} {k : Nat}
theorem zjd (s : Str) (k : Nat) : (⟨s, (k : Int)⟩ : scan_Scanner) = scn s k := rfl
theorem zjV (b : UInt8) (r : Str) : (zdy b r).length ≤ r.length := by unfold zdy; split <;> simp
def zgR (r : Str) : Option (UInt8 × Str) := match zdy 92 r with
  | [] => none
  | c :: t => if zd3 c then some (c, t) else none
theorem zk7 {c : UInt8} {t : Str} (h : zgR r = some (c, t)) : t.length < r.length := by
  unfold zgR at h
  have := zjV 92 r
  cases hb : zdy 92 r with
  | nil => rw [hb] at h; cases h
  | cons d u =>
    rw [hb] at h this
    simp only at h
    split at h
    · cases h; simp only [List.length_cons] at this; omega
    · cases h
theorem zmL (hs : s.length < 1000000000) (out : Str) (ho : out.length < 1000000000) (h : At s k r) :
    (∀ c t, zgR r = some (c, t) → ∃ k', At s k' t ∧ k ≤ k' ∧ zam ⟨scn s k, out⟩ = some (true, ⟨scn s k', out ++ [c]⟩)) ∧
    (zgR r = none → ∃ k', k' ≤ s.length ∧ k ≤ k' ∧ zam ⟨scn s k, out⟩ = some (false, ⟨scn s k', out⟩)) := by
  unfold zam zgR
  obtain ⟨k1, h1, e1⟩ := ze3 hs 92 h
  have hk : k ≤ k1 := by have := h.len; have := h1.len; have := zjV 92 r; omega
  show (∀ c t, _ → ∃ k', _ ∧ _ ∧ (zq (scn s k) 92).bind _ = _) ∧ (_ → ∃ k', _ ∧ _ ∧ (zq (scn s k) 92).bind _ = _)
  rw [e1]
  simp only [Option.bind_some]
  rw [zmO h1]
  cases hb : zdy 92 r with
  | nil =>
    rw [hb] at h1
    refine ⟨fun c t h => (by cases h), fun _ => ⟨k1, h1.le, hk, rfl⟩⟩
  | cons d u =>
    rw [hb] at h1
    simp only [peekR, Option.bind_some, Bool.not_true, Bool.false_eq_true, if_false, zgA]
    unfold zaj
    obtain ⟨k2, h2, e2⟩ := ze3 hs d h1
    rw [zcY, zbb] at *
    cases hv : zd3 d with
    | false => exact ⟨fun c t h => by simp at h, fun _ => ⟨k1, h1.le, hk, by simp⟩⟩
    | true =>
      refine ⟨fun c t h => ?_, fun h => by simp at h⟩
      simp at h
      obtain ⟨rfl, rfl⟩ := h
      refine ⟨k2, h2, by have := h1.len; have := h2.len; simp only [List.length_cons] at *; omega, ?_⟩
      rw [if_neg (by decide), if_pos (zdl (n := out.length) (m := 1) (by omega) (by omega)), e2]
      simp
theorem zks (r : Str) : zct r = if zga 34 r then some ([], 1) else match zgR r with
    | none => none
    | some (c, t) => (zct t).map (fun p => (c :: p.1, p.2 + (r.length - t.length))) := by
  cases r with
  | nil => rfl
  | cons c r =>
    rw [zbb]
    cases h34 : c == 34 with
    | true => have : c = 34 := by simpa using h34
              subst this; rw [ziu]; rfl
    | false =>
      rw [if_neg (by decide)]
      unfold zgR
      cases h92 : c == 92 with
      | true =>
        have : c = 92 := by simpa using h92
        subst this
        rw [zcY]
        cases r with
        | nil => exact zj9
        | cons d t =>
          rw [ziv]
          dsimp only
          cases zd3 d with
          | false => rfl
          | true =>
            rw [if_pos rfl, if_pos rfl]
            dsimp only
            congr 1
            funext p
            congr 2
            simp only [List.length_cons]; omega
      | false =>
        rw [zfA (by rw [zbb]; exact h92), ziw r h34 h92]
        dsimp only
        cases zd3 c with
        | false => rfl
        | true =>
          rw [if_pos rfl, if_pos rfl]
          dsimp only
          congr 1
          funext p
          congr 2
          simp only [List.length_cons]; omega
theorem zje {s : Str} {k k0 : Nat} (h : k0 ≤ k) : za4 (scn s k) (k0 : Int) = some (true, scn s k0) := by
  unfold za4
  rw [decide_eq_false (show ¬ ((k0 : Int) < 0) by omega), if_neg (by decide), zfD, Option.bind_some]
  unfold zat
  rw [decide_eq_false (show ¬ ((k : Int) < (k0 : Int)) by omega), if_neg (by decide)]
  rfl
theorem zew (k0 n : Nat) (hk : k0 ≤ k) (out : Str) : zO (k0 : Int) (n + 1) s (k : Int) out false = some ([], false, scn s k0) := by
  rw [zO, if_neg (by decide)]
  unfold zbj zbK
  rw [if_neg (by decide), Bool.not_false, if_pos rfl, zjd, zje hk, Option.bind_some]
theorem zf8 (hs : s.length < 1000000000) (k0 : Nat) : ∀ (n : Nat) (r : Str) (k : Nat) (out : Str), r.length + 1 < n → At s k r → k0 ≤ k → out.length ≤ k →
    zO (k0 : Int) n s (k : Int) out true = some (match zct r with | some p => (out ++ p.1, true, scn s (k + p.2)) | none => ([], false, scn s k0))
  | 0, _, _, _, h, _, _, _ => by omega
  | n + 1, r, k, out, hn, h, hk, ho => by
    rw [zO, if_pos rfl, zjd]
    obtain ⟨k1, h1, e1⟩ := ze3 hs 34 h
    have hkl := h.le
    rw [e1, Option.bind_some]
    unfold zbj
    rw [zks]
    cases hb : zga 34 r with
    | true =>
      rw [Bool.not_true, if_neg (by decide), if_pos rfl]
      have hr := zhV hb
      have hk1 : k1 = k + 1 := by
        have := h.len; have := h1.len
        have := congrArg List.length hr
        simp only [List.length_cons] at this; omega
      subst hk1
      unfold zbK
      rw [Bool.not_true, if_neg (by decide)]
      simp [scn]
    | false =>
      rw [zfA hb] at h1
      have hk1 : k1 = k := by have := h.len; have := h1.len; omega
      subst hk1
      rw [Bool.not_false, if_pos rfl, if_neg (by decide)]
      dsimp only [scn]
      rw [zjd]
      have hx := zmL hs out (by omega) h
      cases hq : zgR r with
      | none =>
        obtain ⟨k2, g1, g2, e2⟩ := hx.2 hq
        rw [e2, Option.bind_some]
        obtain ⟨m, rfl⟩ : ∃ m, n = m + 1 := ⟨n - 1, by omega⟩
        exact zew k0 m (by omega) out
      | some ct =>
        obtain ⟨c, t⟩ := ct
        obtain ⟨k2, g1, g2, e2⟩ := hx.1 c t hq
        have hl := zk7 hq
        have l1 := h.len
        have l2 := g1.len
        rw [e2, Option.bind_some]
        have ih := zf8 hs k0 n t k2 (out ++ [c]) (by omega) g1 (by omega) (by simp; omega)
        dsimp only [scn]
        rw [ih]
        cases zct t with
        | none => rfl
        | some p =>
          simp only [Option.map_some, List.append_assoc, List.singleton_append]
          have : k2 + p.2 = k1 + (p.2 + (r.length - t.length)) := by omega
          exact congrArg (fun k => some (out ++ c :: p.1, true, scn s k)) this
def zkJ (r : Str) : Option (Str × Nat) := if zga 34 r then (zct (zdy 34 r)).map (fun p => (p.1, p.2 + 1)) else none
theorem zhR (hs : s.length < 1000000000) (h : At s k r) : zcl (scn s k) = some (match zkJ r with | some p => (p.1, true, scn s (k + p.2)) | none => ([], false, scn s k)) := by
  unfold zcl zkJ
  rw [zfD, Option.bind_some]
  obtain ⟨k1, h1, e1⟩ := ze3 hs 34 h
  rw [e1, Option.bind_some]
  have l0 := h.len
  have l1 := h1.len
  cases hb : zga 34 r with
  | false =>
    rw [zfA hb] at h1
    have hk1 : k1 = k := by have := h1.len; omega
    subst hk1
    exact zew k1 999999999999999999 (Nat.le_refl _) []
  | true =>
    have hr := congrArg List.length (zhV hb)
    simp only [List.length_cons] at hr
    have hk1 : k1 = k + 1 := by omega
    subst hk1
    have := zf8 hs k fuel (zdy 34 r) (k + 1) [] (by unfold fuel; omega) h1 (by omega) (by simp)
    dsimp only [scn] at this ⊢
    rw [this, if_pos rfl]
    cases zct (zdy 34 r) with
    | none => rfl
    | some p => simp only [Option.map_some, List.nil_append]; rw [show k + 1 + p.2 = k + (p.2 + 1) by omega]
end
end Go.Dm
end
section
namespace Go.Dm
theorem zk0 {α : Type} [BEq α] [LawfulBEq α] (a b : List α) (L : Nat → Int → Option Bool) (hl : a.length = b.length) (ha : a.length < 1000000000)
    (hE : ∀ n, L (n + 1) (a.length : Int) = some true) (hL : ∀ n (i : Nat) x y, i < a.length → a[i]? = some x → b[i]? = some y → L (n + 1) (i : Int) = if (x == y) = true then L n ((i + 1 : Nat) : Int) else some false) : L fuel 0 = some (a == b) := by
  have key : ∀ (n i : Nat), i ≤ a.length → a.length - i < n → L n (i : Int) = some (a.drop i == b.drop i) := by
    intro n
    induction n with
    | zero => intro i _ h; omega
    | succ n ih =>
      intro i hi h
      by_cases hlt : i < a.length
      · have g1 : a[i]? = some a[i] := List.getElem?_eq_getElem hlt
        have g2 : b[i]? = some (b[i]'(by omega)) := List.getElem?_eq_getElem (by omega)
        rw [hL n i _ _ hlt g1 g2, ih (i + 1) (by omega) (by omega), List.drop_eq_getElem_cons hlt, List.drop_eq_getElem_cons (show i < b.length by omega), List.cons_beq_cons]
        cases a[i] == b[i]'(by omega) <;> rfl
      · have : i = a.length := by omega
        subst this
        rw [hE, List.drop_length, List.drop_of_length_le (by omega)]
        rfl
  have := key fuel 0 (Nat.zero_le _) (by unfold fuel; omega)
  rw [List.drop_zero, List.drop_zero] at this
  exact this
end Go.Dm
end
section
namespace Go.Dm
def zeC : Str → Str
  | [] => []
  | c :: r => if c == 34 || c == 92 then 92 :: c :: zeC r else c :: zeC r
def zdg (s : Str) : Str := 34 :: (zeC s ++ [34])
def zbW (s : Str) : Str := if zf0 s then s else zdg s
def okW (s : Str) : Bool := zf0 s || s.all zd3
theorem zj3 : ∀ s : Str, (zeC s).length ≤ 2 * s.length
  | [] => Nat.le_refl _
  | c :: r => by
    have := zj3 r
    rw [zeC]
    split <;> simp only [List.length_cons] <;> omega
theorem zgS (s : Str) : (zbW s).length ≤ 2 * s.length + 2 := by
  unfold zbW zdg
  have := zj3 s
  split <;> simp <;> omega
theorem zmc {s : Str} {i : Nat} {c : UInt8} (h : s[i]? = some c) : zgU s (i : Int) ((i + 1 : Nat) : Int) = some [c] := by
  have hlt : i < s.length := (List.getElem?_eq_some_iff.1 h).1
  rw [zfZ (by omega) (by omega), List.take_add_one, h]
  congr 1
  rw [List.drop_append_of_le_length (by simp; omega), List.drop_eq_nil_of_le (by simp; omega)]
  rfl
theorem zhY (s : Str) (hs : s.length < 100000000) : zdR s = some (if s.all zd3 then (zdg s, 0) else ([], 2)) := by
  have key : ∀ (n i : Nat) (out : Str), i ≤ s.length → s.length - i < n → out.length ≤ 1 + 2 * i → zG s n out (i : Int) = some (if (s.drop i).all zd3 then (out ++ (zeC (s.drop i) ++ [34]), 0) else ([], 2)) := by
    intro n
    induction n with
    | zero => intro i _ _ h; omega
    | succ n ih =>
      intro i out hi h ho
      rw [zG]
      by_cases hlt : i < s.length
      · have g : s[i]? = some s[i] := List.getElem?_eq_getElem hlt
        rw [decide_eq_true (show (i : Int) < (s.length : Int) by omega), if_pos rfl, zc3, g, Option.bind_some, zhH, Option.bind_some, List.drop_eq_getElem_cons hlt, List.all_cons]
        generalize s[i] = c at g
        cases hv : zd3 c with
        | false => rfl
        | true =>
          have j3 : ∀ u : Str, u.length ≤ 2 + 2 * i → zbr (zG s n) s (i : Int) u = zG s n (u ++ [c]) ((i + 1 : Nat) : Int) := fun u hu => by
            unfold zbr
            rw [zE (by omega), Option.bind_some, zmc g, Option.bind_some, zaT (by simp; omega), Option.bind_some, Option.bind_some]
          rw [Bool.not_true, if_neg Bool.false_ne_true, Option.bind_some, Bool.true_and, zeC]
          have j2 : ∀ t, zbs (zG s n) s out (i : Int) t = some (if (s.drop (i + 1)).all zd3 then (out ++ ((if t then 92 :: c :: zeC (s.drop (i + 1)) else c :: zeC (s.drop (i + 1))) ++ [34]), 0) else ([], 2)) := fun t => by
            unfold zbs
            cases t with
            | true =>
              rw [if_pos rfl, if_pos rfl, zaT (by simp; omega), Option.bind_some, j3 _ (by simp; omega), ih (i + 1) _ (by omega) (by omega) (by simp; omega)]
              simp
            | false =>
              rw [if_neg Bool.false_ne_true, if_neg Bool.false_ne_true, j3 _ (by omega), ih (i + 1) _ (by omega) (by omega) (by simp; omega)]
              simp
          cases h34 : c == 34 with
          | true => rw [if_pos rfl, j2, Bool.true_or]
          | false => rw [if_neg Bool.false_ne_true, Option.bind_some, j2, Bool.false_or]
      · obtain rfl : i = s.length := by omega
        rw [decide_eq_false (by omega), if_neg Bool.false_ne_true, zaT (by simp; omega), Option.bind_some, List.drop_length]
        rfl
  have := key fuel 0 [34] (Nat.zero_le _) (by unfold fuel; omega) (by simp)
  rw [List.drop_zero] at this
  exact this
theorem zg3 (s : Str) (hs : s.length < 100000000) : zcP s = some (if okW s then (zbW s, 0) else ([], 2)) := by
  unfold zcP okW zbW
  rw [zeR s (by omega), Option.bind_some, zhY s hs, Option.bind_some]
  cases zf0 s with
  | true => rfl
  | false =>
    rw [if_neg Bool.false_ne_true, Bool.false_or]
    cases s.all zd3 <;> rfl

theorem zji {n : Str} (h : zf0 n = true) : n.all zdx = true ∧ n ≠ [] := by
  unfold zf0 at h
  rw [Bool.and_eq_true] at h
  refine ⟨h.1, fun e => ?_⟩
  rw [e] at h
  exact absurd h.2 (by decide)
theorem zhZ : ∀ {n x : Str}, n.all zdx = true → (∀ c, x.head? = some c → zdx c = false) → (n ++ x).takeWhile zdx = n ∧ (n ++ x).dropWhile zdx = x
  | [], [], _, _ => ⟨rfl, rfl⟩
  | [], c :: x, _, h => by
    have := h c rfl
    rw [List.nil_append, List.takeWhile_cons, List.dropWhile_cons, this]
    exact ⟨rfl, rfl⟩
  | c :: n, x, hn, h => by
    rw [List.all_cons, Bool.and_eq_true] at hn
    obtain ⟨h1, h2⟩ := zhZ hn.2 h
    rw [List.cons_append, List.takeWhile_cons, List.dropWhile_cons, hn.1, if_pos rfl, if_pos rfl, h1, h2]
    exact ⟨rfl, rfl⟩
theorem zh0 : ∀ (v rest : Str), v.all zd3 = true → zct (zeC v ++ 34 :: rest) = some (v, (zeC v).length + 1)
  | [], rest, _ => ziu rest
  | c :: v, rest, h => by
    rw [List.all_cons, Bool.and_eq_true] at h
    have ih := zh0 v rest h.2
    rw [zeC]
    cases hc : c == 34 || c == 92 with
    | true =>
      rw [if_pos rfl, List.cons_append, List.cons_append, ziv, h.1, if_pos rfl, ih]
      rfl
    | false =>
      rw [Bool.or_eq_false_iff] at hc
      rw [if_neg Bool.false_ne_true, List.cons_append, ziw _ hc.1 hc.2, h.1, if_pos rfl, ih]
      rfl
section
variable {s r : Str} {k : Nat}
theorem zjj (hs : s.length < 1000000000) {v rest : Str} (hv : okW v = true) (hr : ∀ c, rest.head? = some c → zdx c = false) (h : At s k (zbW v ++ rest)) : ∃ k', At s k' rest ∧ zcr (scn s k) = some (v, true, scn s k') := by
  obtain ⟨k1, h1, e1⟩ := zj1 hs h
  unfold zcr
  rw [e1, Option.bind_some]
  dsimp only
  unfold zbW at h h1 ⊢
  cases ht : zf0 v with
  | true =>
    rw [ht, if_pos rfl] at h1
    rw [if_pos rfl]
    obtain ⟨t1, t2⟩ := zji ht
    obtain ⟨w1, w2⟩ := zhZ t1 hr
    rw [w2] at h1
    have : (v == []) = false := beq_eq_false_iff_ne.2 t2
    rw [w1, this]
    exact ⟨k1, h1, rfl⟩
  | false =>
    have hva : v.all zd3 = true := by unfold okW at hv; rw [ht, Bool.false_or] at hv; exact hv
    rw [ht, if_neg Bool.false_ne_true] at h h1
    rw [if_neg Bool.false_ne_true]
    have w : (zdg v ++ rest).takeWhile zdx = [] ∧ (zdg v ++ rest).dropWhile zdx = zdg v ++ rest := by
      unfold zdg
      rw [List.cons_append, List.takeWhile_cons, List.dropWhile_cons, show zdx 34 = false by decide]
      exact ⟨rfl, rfl⟩
    rw [w.2] at h1
    rw [w.1]
    show ∃ k', _ ∧ (zcl (scn s k1)).bind _ = _
    have hq : zkJ (zdg v ++ rest) = some (v, (zeC v).length + 2) := by
      unfold zkJ zdg
      rw [List.cons_append, zbb, beq_self_eq_true, if_pos rfl, zcY, List.append_assoc, List.singleton_append, zh0 v rest hva]
      rfl
    rw [zhR hs h1, hq, Option.bind_some]
    refine ⟨k1 + ((zeC v).length + 2), ?_, rfl⟩
    have := h1.next ((zeC v).length + 2) (by unfold zdg; simp)
    rwa [show (zdg v ++ rest).drop ((zeC v).length + 2) = rest from by
      unfold zdg
      rw [List.cons_append, List.drop_succ_cons, List.append_assoc, List.drop_append, List.drop_eq_nil_of_le (by omega), show (zeC v).length + 1 - (zeC v).length = 1 by omega]
      rfl] at this
def ze8 (p : api_Param) : Str := p.Name ++ 61 :: zbW p.Value
def okP (p : api_Param) : Bool := okW p.Value && zf0 p.Name
theorem zgT (hs : s.length < 1000000000) {p : api_Param} {rest : Str} (hp : okP p = true) (hr : ∀ c, rest.head? = some c → zdx c = false) (h : At s k (ze8 p ++ rest)) :
    ∃ k', At s k' rest ∧ zab ⟨scn s k⟩ = some (p, true, scn s k') := by
  unfold okP at hp
  rw [Bool.and_eq_true] at hp
  obtain ⟨t1, t2⟩ := zji hp.2
  unfold ze8 at h
  rw [List.append_assoc, List.cons_append] at h
  obtain ⟨k1, h1, e1⟩ := zj1 hs h
  obtain ⟨w1, w2⟩ := zhZ (x := 61 :: (zbW p.Value ++ rest)) t1 (fun c hc => by cases hc; decide)
  rw [w2] at h1
  obtain ⟨k2, h2, e2⟩ := ze3 hs 61 h1
  rw [zcY] at h2
  rw [zbb, beq_self_eq_true] at e2
  obtain ⟨k3, h3, e3⟩ := zjj hs hp.1 hr h2
  refine ⟨k3, h3, ?_⟩
  unfold zab
  have hne : (p.Name == []) = false := beq_eq_false_iff_ne.2 t2
  rw [e1, Option.bind_some, w1, hne]
  dsimp only
  rw [Bool.not_false, Bool.not_true, if_neg Bool.false_ne_true, e2, Option.bind_some]
  unfold zax
  rw [Bool.not_true, if_neg Bool.false_ne_true]
  show (zcr (scn s k2)).bind _ = _
  rw [e3, Option.bind_some]
def zcU (l : List api_Param) : Str := l.flatMap fun p => 59 :: ze8 p
def zgb : List api_Param → Str
  | [] => []
  | p :: l => ze8 p ++ zcU l
theorem tok_bl (b : UInt8) (h : zdx b = true) : zjp b = false := by
  have := of_decide_eq_true (zaP (fun b => decide (zdx b = true → zjp b = false)) (by decide +kernel) b)
  exact this h
theorem zmd (b : UInt8) : zbc b = some (zjp b) :=
  of_decide_eq_true (zaP (fun b => decide (zbc b = some (zjp b))) (by decide +kernel) b)
theorem zh1 (hs : s.length < 1000000000) (hb : ∀ c, r.head? = some c → zjp c = false) (h : At s k r) : ∃ x k', At s k' r ∧ zad (scn s k) = some (x, scn s k') := by
  obtain ⟨k1, h1, e1⟩ := zj0 zmd hs h
  have : r.dropWhile zjp = r := by
    cases r with
    | nil => rfl
    | cons c r => rw [List.dropWhile_cons, hb c rfl]; rfl
  rw [this] at h1
  exact ⟨_, k1, h1, by unfold zad; rw [e1, Option.bind_some]⟩
theorem zk9 {p : api_Param} (hp : okP p = true) (x : Str) : ∀ c, (ze8 p ++ x).head? = some c → zjp c = false := by
  unfold okP at hp
  rw [Bool.and_eq_true] at hp
  obtain ⟨t1, t2⟩ := zji hp.2
  intro c hc
  unfold ze8 at hc
  cases hn : p.Name with
  | nil => exact absurd hn t2
  | cons d n =>
    rw [hn] at hc t1
    rw [List.all_cons, Bool.and_eq_true] at t1
    cases hc
    exact tok_bl _ t1.1
theorem zh2 (l : List api_Param) : ∀ c, (zcU l).head? = some c → zdx c = false := by
  intro c hc
  cases l with
  | nil => cases hc
  | cons q l => cases hc; decide
theorem zik (hs : s.length < 1000000000) : ∀ (l : List api_Param) (p : api_Param) (n k : Nat) (out : List api_Param), At s k (ze8 p ++ zcU l) → okP p = true → (∀ q ∈ l, okP q = true) → out.length + l.length < 1000 → l.length < n →
    zah n out s (k : Int) = some (out ++ p :: l, 0) := by
  intro l
  induction l with
  | nil =>
    intro p n k out h hp _ hl hn
    obtain ⟨n, rfl⟩ : ∃ m, n = m + 1 := ⟨n - 1, by simp at hn; omega⟩
    obtain ⟨k1, h1, e1⟩ := zgT hs hp (zh2 []) h
    rw [zah]
    show (zab ⟨scn s k⟩).bind _ = _
    rw [e1, Option.bind_some]
    dsimp only
    rw [Bool.not_true, if_neg Bool.false_ne_true, if_pos (zdl (by omega) (by omega)), zl9 h1, Option.bind_some]
    rfl
  | cons q l ih =>
    intro p n k out h hp hq hl hn
    have hn' : l.length + 1 < n := by simpa using hn
    have hl' : out.length + (l.length + 1) < 1000 := by simpa using hl
    obtain ⟨n, rfl⟩ : ∃ m, n = m + 1 := ⟨n - 1, by omega⟩
    obtain ⟨k1, h1, e1⟩ := zgT hs hp (zh2 (q :: l)) h
    have hq0 := hq q (List.mem_cons_self ..)
    rw [zah]
    show (zab ⟨scn s k⟩).bind _ = _
    rw [e1, Option.bind_some]
    dsimp only
    have ht : zcU (q :: l) = 59 :: (ze8 q ++ zcU l) := by simp [zcU]
    rw [ht] at h1
    rw [Bool.not_true, if_neg Bool.false_ne_true, if_pos (zdl (by omega) (by omega)), zl9 h1, Option.bind_some]
    obtain ⟨x2, k2, h2, e2⟩ := zh1 hs (fun c hc => by cases hc; decide) h1
    obtain ⟨k3, h3, e3⟩ := ze3 hs 59 h2
    rw [zcY] at h3
    rw [zbb, beq_self_eq_true] at e3
    obtain ⟨x4, k4, h4, e4⟩ := zh1 hs (zk9 hq0 _) h3
    have hm : zaR ⟨scn s k1⟩ = some (true, scn s k4) := by
      unfold zaR
      rw [e2, Option.bind_some, e3, Option.bind_some, Bool.not_true, if_neg Bool.false_ne_true, e4, Option.bind_some]
    have hnb : ((59 :: (ze8 q ++ zcU l) : Str) == []) = false := rfl
    rw [hnb, if_neg Bool.false_ne_true, hm, Option.bind_some, Bool.not_true, if_neg Bool.false_ne_true]
    have := ih q n k4 (out ++ [p]) h4 hq0 (fun q hq' => hq q (List.mem_cons_of_mem _ hq')) (by simp; omega) (by omega)
    rw [List.append_assoc, List.singleton_append] at this
    exact this
end
theorem zj4 {l : List api_Param} (hl : l ≠ []) (h : l.all okP = true) (hn : l.length < 1000) (hs : (zgb l).length < 1000000000) : zcQ (zgb l) = some (l, 0) := by
  cases l with
  | nil => exact absurd rfl hl
  | cons p l =>
    rw [List.all_cons, Bool.and_eq_true] at h
    unfold zcQ
    rw [zj6, Option.bind_some]
    have := zik hs l p fuel 0 [] (At.zero _) h.1 (fun q hq => List.all_eq_true.1 h.2 q hq) (by simp at hn ⊢; omega) (by unfold fuel; simp at hn; omega)
    exact this

def sepP (i : Nat) (l : List api_Param) : Str := if i = 0 then zgb l else zcU l
theorem zil (l : List api_Param) (hn : l.length < 1000) (hv : ∀ p ∈ l, p.Name.length < 100000 ∧ p.Value.length < 100000) : zer l = some (if l.all okP && !(l == []) then (zgb l, 0) else ([], 2)) := by
  have key : ∀ (n i : Nat) (out : Str), i ≤ l.length → l.length - i < n → out.length ≤ i * 1000000 → zU l n out (i : Int) = some (if (l.drop i).all okP && !(l == []) then (out ++ sepP i (l.drop i), 0) else ([], 2)) := by
    intro n
    induction n with
    | zero => intro i _ _ h; omega
    | succ n ih =>
      intro i out hi h ho
      rw [zU]
      by_cases hlt : i < l.length
      · have g : l[i]? = some l[i] := List.getElem?_eq_getElem hlt
        obtain ⟨b1, b2⟩ := hv l[i] (List.getElem_mem _)
        have hne : (l == []) = false := by cases l with
          | nil => simp at hlt
          | cons _ _ => rfl
        rw [decide_eq_true (show (i : Int) < (l.length : Int) by omega), if_pos rfl, zcd, g, Option.bind_some, zg3 _ (by omega), Option.bind_some, List.drop_eq_getElem_cons hlt, List.all_cons]
        generalize l[i] = p at g b1 b2
        unfold okP
        cases hw : okW p.Value with
        | false =>
          rw [if_neg Bool.false_ne_true, Bool.false_and, Bool.false_and, Bool.false_and, if_neg Bool.false_ne_true]
          rfl
        | true =>
          rw [if_pos rfl, Option.bind_some, zeR _ (by omega), Option.bind_some, Bool.true_and]
          dsimp only
          rw [beq_self_eq_true, Bool.not_true, if_neg Bool.false_ne_true]
          unfold zca
          cases ht : zf0 p.Name with
          | false => rw [Bool.not_false, if_pos rfl, Bool.false_and, Bool.false_and, if_neg Bool.false_ne_true]
          | true =>
            have he := zgS p.Value
            have j3 : ∀ u : Str, u.length ≤ i * 1000000 + 1 → zbE (zU l n) l (i : Int) (zbW p.Value, 0) u = some (if (l.drop (i + 1)).all okP && !(l == []) then (u ++ ze8 p ++ zcU (l.drop (i + 1)), 0) else ([], 2)) := fun u hu => by
              unfold zbE
              have le : (u ++ p.Name ++ [61] ++ zbW p.Value).length = u.length + p.Name.length + 1 + (zbW p.Value).length := by simp only [List.length_append, List.length_cons, List.length_nil]
              rw [zcd, g, Option.bind_some, zaT (by omega), Option.bind_some, zaT (by simp only [List.length_append, List.length_cons, List.length_nil]; omega), Option.bind_some, zaT (by simp only [List.length_append, List.length_cons, List.length_nil]; omega), Option.bind_some, zE (by omega), Option.bind_some, ih (i + 1) _ (by omega) (by omega) (by rw [le]; omega)]
              unfold sepP ze8
              rw [if_neg (show ¬ i + 1 = 0 by omega), show u ++ p.Name ++ [61] ++ zbW p.Value = u ++ (p.Name ++ 61 :: zbW p.Value) by simp]
            rw [Bool.not_true, if_neg Bool.false_ne_true, Bool.true_and]
            show _ = some (if (l.drop (i + 1)).all okP && !(l == []) then _ else _)
            by_cases h0 : 0 < i
            · rw [decide_eq_true (show (0 : Int) < (i : Int) by omega), if_pos rfl, zaT (by simp only [List.length_cons, List.length_nil]; omega), Option.bind_some, j3 _ (by simp only [List.length_append, List.length_cons, List.length_nil]; omega)]
              unfold sepP
              rw [if_neg (show ¬ i = 0 by omega), show out ++ [59] ++ ze8 p ++ zcU (l.drop (i + 1)) = out ++ zcU (p :: l.drop (i + 1)) by simp [zcU]]
            · obtain rfl : i = 0 := by omega
              rw [decide_eq_false (by omega), if_neg Bool.false_ne_true, j3 _ (by omega)]
              unfold sepP
              rw [if_pos rfl, zgb, List.append_assoc]
      · obtain rfl : i = l.length := by omega
        rw [decide_eq_false (by omega), if_neg Bool.false_ne_true, List.drop_length, List.all_nil, Bool.true_and]
        cases l with
        | nil => rfl
        | cons p l =>
          have : ((((p :: l).length : Nat) : Int) == 0) = false := beq_eq_false_iff_ne.2 (by simp only [List.length_cons]; omega)
          rw [this, if_neg Bool.false_ne_true]
          show _ = some (out ++ sepP (l.length + 1) [], 0)
          unfold sepP
          rw [if_neg (show ¬ l.length + 1 = 0 by omega)]
          simp [zcU]
  have := key fuel 0 [] (Nat.zero_le _) (by unfold fuel; omega) (by simp)
  rw [List.drop_zero] at this
  exact this

def zh3 (c : Str) : Str := if zb3 c then c else if zhz c then 91 :: (c ++ [93]) else [117, 110, 107, 110, 111, 119, 110]
def zc8 (e : api_Env) : List api_Param := ⟨[102, 111, 114], zh3 e.Client⟩ :: ((if e.Host == [] then [] else [⟨[104, 111, 115, 116], e.Host⟩]) ++ (if e.Scheme == [] then [] else [⟨[112, 114, 111, 116, 111], e.Scheme⟩]))
theorem zcB (c : Str) (hc : c.length < 100000) : zbp c = some (zh3 c) := by
  unfold zbp zh3
  rw [zdZ c (by omega), Option.bind_some]
  cases zb3 c with
  | true => rfl
  | false =>
    rw [if_neg Bool.false_ne_true, if_neg Bool.false_ne_true, Six_eq c (by omega), Option.bind_some]
    cases zhz c with
    | true => rw [if_pos rfl, if_pos rfl, zaT (by simp; omega), Option.bind_some, zaT (by simp; omega), Option.bind_some]; simp
    | false => rfl
theorem zgc (e : api_Env) (hc : e.Client.length < 100000) : zbq e = some (zc8 e) := by
  unfold zbq zc8
  rw [zcB _ hc, Option.bind_some]
  unfold za8 za7
  rw [if_pos (zdl (by simp) (by simp))]
  cases e.Host == [] <;> cases e.Scheme == [] <;> rfl
theorem zfn (e : api_Env) (hc : e.Client.length < 100000) : zdG e = some (zc8 e) := by
  unfold zdG zc8 zh3
  rw [zi3 _ (by omega), Option.bind_some]
  have j2 : ∀ t : Str, zbF e t = some (⟨[102, 111, 114], t⟩ :: ((if e.Host == [] then [] else [⟨[104, 111, 115, 116], e.Host⟩]) ++ (if e.Scheme == [] then [] else [⟨[112, 114, 111, 116, 111], e.Scheme⟩]))) := fun t => by
    unfold zbF zcc zcb
    rw [if_pos (zdl (by simp) (by simp))]
    cases e.Host == [] <;> cases e.Scheme == [] <;> rfl
  have j1 : ∀ t : Str, zbG e t = some (⟨[102, 111, 114], if zb3 e.Client then e.Client else t⟩ :: ((if e.Host == [] then [] else [⟨[104, 111, 115, 116], e.Host⟩]) ++ (if e.Scheme == [] then [] else [⟨[112, 114, 111, 116, 111], e.Scheme⟩]))) := fun t => by
    unfold zbG
    rw [zff _ (by omega), Option.bind_some]
    cases zb3 e.Client with
    | true => rw [if_pos rfl, if_pos rfl, j2]
    | false => rw [if_neg Bool.false_ne_true, if_neg Bool.false_ne_true, j2]
  cases zhz e.Client with
  | true => rw [if_pos rfl, if_pos rfl, zaT (by simp; omega), Option.bind_some, zaT (by simp; omega), Option.bind_some, j1]; simp
  | false => rw [if_neg Bool.false_ne_true, if_neg Bool.false_ne_true, j1]
theorem zfo (a b : List api_Param) (ha : a.length < 1000000000) : zc2 a b = some (a == b) := by
  unfold zc2
  by_cases hl : a.length = b.length
  · rw [hl, beq_self_eq_true, Bool.not_true, if_neg (by decide)]
    refine zk0 a b (zaO a b) hl ha (fun n => ?_) (fun n i x y hi hx hy => ?_)
    · rw [zaO, decide_eq_false (by omega), if_neg (by decide)]
    · rw [zaO, decide_eq_true (by omega), if_pos rfl, zcd, hx, Option.bind_some, zcd, hy, Option.bind_some, zE (by omega), Option.bind_some]
      cases x == y <;> rfl
  · have : (((a.length : Int) == (b.length : Int))) = false := beq_eq_false_iff_ne.2 (by omega)
    have h2 : (a == b) = false := beq_eq_false_iff_ne.2 (fun e => hl (by rw [e]))
    rw [this, h2]; rfl

theorem zme (name : Str) (l : List api_Param) (hl : l.length < 1000) (h : ∀ p ∈ l, zbv p.Name name = some false) : zes name l = some ([], false) := by
  have key : ∀ (n i : Nat), i ≤ l.length → l.length - i < n → zbe name l n (i : Int) = some ([], false) := by
    intro n
    induction n with
    | zero => intro i _ h; omega
    | succ n ih =>
      intro i hi hn
      rw [zbe]
      by_cases hlt : i < l.length
      · have g : l[i]? = some l[i] := List.getElem?_eq_getElem hlt
        rw [decide_eq_true (show (i : Int) < (l.length : Int) by omega), if_pos rfl, zcd, g, Option.bind_some, h l[i] (List.getElem_mem _), Option.bind_some, if_neg Bool.false_ne_true, zE (by omega), Option.bind_some]
        exact ih (i + 1) (by omega) (by omega)
      · obtain rfl : i = l.length := by omega
        rw [decide_eq_false (by omega), if_neg Bool.false_ne_true]
  exact key fuel 0 (Nat.zero_le _) (by unfold fuel; omega)
theorem zjk (l : List api_Param) (hl : l.length < 1000) (h : ∀ (i : Nat) x, l[i]? = some x → ∀ p ∈ l.take i, zbv p.Name x.Name = some false) : zK (l, 0) fuel 0 = some (l, 0) := by
  have key : ∀ (n i : Nat), i ≤ l.length → l.length - i < n → zK (l, 0) n (i : Int) = some (l, 0) := by
    intro n
    induction n with
    | zero => intro i _ h; omega
    | succ n ih =>
      intro i hi hn
      rw [zK]
      by_cases hlt : i < l.length
      · have g : l[i]? = some l[i] := List.getElem?_eq_getElem hlt
        have e2 : lTo l (i : Int) = some (l.take i) := by
          unfold lTo
          rw [if_pos (by omega)]
          rfl
        dsimp only
        rw [decide_eq_true (show (i : Int) < (l.length : Int) by omega), if_pos rfl, zcd, g, Option.bind_some, e2, Option.bind_some, zme _ _ (by simp; omega) (h i _ g), Option.bind_some, if_neg Bool.false_ne_true, zE (by omega), Option.bind_some]
        exact ih (i + 1) (by omega) (by omega)
      · obtain rfl : i = l.length := by omega
        dsimp only
        rw [decide_eq_false (by omega), if_neg Bool.false_ne_true]
  exact key fuel 0 (Nat.zero_le _) (by unfold fuel; omega)
theorem zmf (e : api_Env) : zK (zc8 e, 0) fuel 0 = some (zc8 e, 0) := by
  have a1 : zbv [102, 111, 114] [104, 111, 115, 116] = some false := by decide +kernel
  have a2 : zbv [102, 111, 114] [112, 114, 111, 116, 111] = some false := by decide +kernel
  have a3 : zbv [104, 111, 115, 116] [112, 114, 111, 116, 111] = some false := by decide +kernel
  refine zjk _ ?_ ?_
  · unfold zc8
    cases e.Host == [] <;> cases e.Scheme == [] <;> simp
  · unfold zc8
    intro i x hx p hp
    cases hh : e.Host == [] <;> cases hsc : e.Scheme == [] <;> rw [hh, hsc] at hx hp
    · match i, hx, hp with
      | 0, hx, hp => simp at hp
      | 1, hx, hp => cases hx; simp at hp; subst hp; exact a1
      | 2, hx, hp =>
        cases hx; simp at hp
        rcases hp with rfl | rfl
        · exact a2
        · exact a3
      | i + 3, hx, hp => simp at hx
    · match i, hx, hp with
      | 0, hx, hp => simp at hp
      | 1, hx, hp => cases hx; simp at hp; subst hp; exact a1
      | i + 2, hx, hp => simp at hx
    · match i, hx, hp with
      | 0, hx, hp => simp at hp
      | 1, hx, hp => cases hx; simp at hp; subst hp; exact a2
      | i + 2, hx, hp => simp at hx
    · match i, hx, hp with
      | 0, hx, hp => simp at hp
      | i + 1, hx, hp => simp at hx

theorem zh4 : zdQ = some true := by decide +kernel
theorem ziM (x : api_Swap) : zc1 x = some ⟨x.From.take 60, x.To.take 60⟩ := by
  unfold zc1
  have a := zi5 x.From 60
  have b := zi5 x.To 60
  rw [show ((60 : Nat) : Int) = 60 from rfl] at a b
  rw [a, Option.bind_some, b, Option.bind_some]
theorem few26 (x : api_Env) : ∃ e, zeb x = some e ∧ e.Client.length ≤ 60 ∧ e.Host.length ≤ 60 ∧ e.Scheme.length ≤ 60 := by
  have k6 : ∀ (n i : Nat) (out dom : List api_Swap) (c h s b : Str), i ≤ x.Locations.length → i ≤ 6 → 6 - i < n → out.length = i → ∃ l, zaq x n out c h s b dom (i : Int) = some ⟨c, h, s, b, dom, l⟩ := by
    intro n
    induction n with
    | zero => intro i _ _ _ _ _ _ _ _ h; omega
    | succ n ih =>
      intro i out dom c h s b hi h6 hn ho
      rw [zaq]
      unfold zcN zdn
      by_cases hlt : i < x.Locations.length
      · have g : x.Locations[i]? = some x.Locations[i] := List.getElem?_eq_getElem hlt
        rw [decide_eq_true (show (i : Int) < (x.Locations.length : Int) by omega), if_pos rfl]
        by_cases h7 : i < 6
        · rw [decide_eq_true (show (i : Int) < 6 by omega), if_pos rfl, zcd, g, Option.bind_some, ziM, Option.bind_some, if_pos (zdl (by omega) (by omega)), zE (by omega), Option.bind_some]
          exact ih (i + 1) _ _ _ _ _ _ (by omega) (by omega) (by omega) (by simp; omega)
        · rw [decide_eq_false (show ¬ (i : Int) < 6 by omega), if_neg Bool.false_ne_true]
          exact ⟨_, rfl⟩
      · rw [decide_eq_false (show ¬ (i : Int) < (x.Locations.length : Int) by omega), if_neg Bool.false_ne_true, if_neg Bool.false_ne_true]
        exact ⟨_, rfl⟩
  have k3 : ∀ (n i : Nat) (out : List api_Swap) (c h s b : Str), i ≤ x.Domains.length → i ≤ 6 → 6 - i < n → out.length = i → ∃ d l, zaJ x n out c h s b [] (i : Int) = some ⟨c, h, s, b, d, l⟩ := by
    intro n
    induction n with
    | zero => intro i _ _ _ _ _ _ _ h; omega
    | succ n ih =>
      intro i out c h s b hi h6 hn ho
      rw [zaJ]
      unfold zcO zdo
      have fin : ∀ out : List api_Swap, ∃ d l, zaq x fuel [] c h s b out 0 = some ⟨c, h, s, b, d, l⟩ := fun out => by
        obtain ⟨l, e⟩ := k6 fuel 0 [] out c h s b (Nat.zero_le _) (by omega) (by unfold fuel; omega) rfl
        exact ⟨out, l, e⟩
      by_cases hlt : i < x.Domains.length
      · have g : x.Domains[i]? = some x.Domains[i] := List.getElem?_eq_getElem hlt
        rw [decide_eq_true (show (i : Int) < (x.Domains.length : Int) by omega), if_pos rfl]
        by_cases h7 : i < 6
        · rw [decide_eq_true (show (i : Int) < 6 by omega), if_pos rfl, zcd, g, Option.bind_some, ziM, Option.bind_some, if_pos (zdl (by omega) (by omega)), zE (by omega), Option.bind_some]
          exact ih (i + 1) _ _ _ _ _ (by omega) (by omega) (by omega) (by simp; omega)
        · rw [decide_eq_false (show ¬ (i : Int) < 6 by omega), if_neg Bool.false_ne_true]
          exact fin out
      · rw [decide_eq_false (show ¬ (i : Int) < (x.Domains.length : Int) by omega), if_neg Bool.false_ne_true, if_neg Bool.false_ne_true]
        exact fin out
  unfold zeb
  have t60 : ∀ u : Str, sTo u (min (u.length : Int) 60) = some (u.take 60) := fun u => by
    have := zi5 u 60
    rwa [show ((60 : Nat) : Int) = 60 from rfl] at this
  rw [show fuel = 999999999999999995 + 1 + 1 + 1 + 1 + 1 from rfl, zar]
  rw [show decide ((0 : Int) < 4) = true from rfl, if_pos rfl, show lAt [x.Client, x.Host, x.Scheme, x.By] 0 = some x.Client from rfl, Option.bind_some, Option.bind_some, t60, Option.bind_some, Option.bind_some, show (zgV [x.Client, x.Host, x.Scheme, x.By] 0 (x.Client.take 60)).bind zjv = some (x.Client.take 60, x.Host, x.Scheme, x.By) from rfl, Option.bind_some, show zX 0 1 = some 1 from rfl, Option.bind_some]
  rw [zar]
  rw [show decide ((1 : Int) < 4) = true from rfl, if_pos rfl, show lAt [x.Client.take 60, x.Host, x.Scheme, x.By] 1 = some x.Host from rfl, Option.bind_some, Option.bind_some, t60, Option.bind_some, Option.bind_some, show (zgV [x.Client.take 60, x.Host, x.Scheme, x.By] 1 (x.Host.take 60)).bind zjv = some (x.Client.take 60, x.Host.take 60, x.Scheme, x.By) from rfl, Option.bind_some, show zX 1 1 = some 2 from rfl, Option.bind_some]
  rw [zar]
  rw [show decide ((2 : Int) < 4) = true from rfl, if_pos rfl, show lAt [x.Client.take 60, x.Host.take 60, x.Scheme, x.By] 2 = some x.Scheme from rfl, Option.bind_some, Option.bind_some, t60, Option.bind_some, Option.bind_some, show (zgV [x.Client.take 60, x.Host.take 60, x.Scheme, x.By] 2 (x.Scheme.take 60)).bind zjv = some (x.Client.take 60, x.Host.take 60, x.Scheme.take 60, x.By) from rfl, Option.bind_some, show zX 2 1 = some 3 from rfl, Option.bind_some]
  rw [zar]
  rw [show decide ((3 : Int) < 4) = true from rfl, if_pos rfl, show lAt [x.Client.take 60, x.Host.take 60, x.Scheme.take 60, x.By] 3 = some x.By from rfl, Option.bind_some, Option.bind_some, t60, Option.bind_some, Option.bind_some, show (zgV [x.Client.take 60, x.Host.take 60, x.Scheme.take 60, x.By] 3 (x.By.take 60)).bind zjv = some (x.Client.take 60, x.Host.take 60, x.Scheme.take 60, x.By.take 60) from rfl, Option.bind_some, show zX 3 1 = some 4 from rfl, Option.bind_some]
  rw [zar]
  rw [show decide ((4 : Int) < 4) = false from rfl, if_neg Bool.false_ne_true]
  unfold zdp
  obtain ⟨d, l, e⟩ := k3 fuel 0 [] (x.Client.take 60) (x.Host.take 60) (x.Scheme.take 60) (x.By.take 60) (Nat.zero_le _) (by omega) (by unfold fuel; omega) rfl
  exact ⟨_, e, by simp; omega, by simp; omega, by simp; omega⟩
theorem zj5 {e : api_Env} (h1 : e.Client.length ≤ 60) (h2 : e.Host.length ≤ 60) (h3 : e.Scheme.length ≤ 60) : (zc8 e).length < 100 ∧ (∀ p ∈ zc8 e, p.Name.length < 100 ∧ p.Value.length < 100) := by
  have hn : (zh3 e.Client).length < 100 := by
    unfold zh3
    split
    · omega
    · split
      · simp; omega
      · decide
  unfold zc8
  cases e.Host == [] <;> cases e.Scheme == [] <;> simp <;> omega
theorem zlb (l : List api_Param) (hl : l.length < 100) (hv : ∀ p ∈ l, p.Name.length < 100 ∧ p.Value.length < 100) : (zgb l).length < 1000000 := by
  have one : ∀ p ∈ l, (ze8 p).length < 400 := fun p hp => by
    have h1 := hv p hp
    have h2 := zgS p.Value
    unfold ze8
    simp; omega
  have tl : ∀ m : List api_Param, (∀ p ∈ m, (ze8 p).length < 400) → (zcU m).length ≤ 401 * m.length := by
    intro m
    induction m with
    | nil => intro _; simp [zcU]
    | cons q m ih =>
      intro h
      have h1 := h q (List.mem_cons_self ..)
      have h2 := ih (fun p hp => h p (List.mem_cons_of_mem _ hp))
      have : zcU (q :: m) = 59 :: (ze8 q ++ zcU m) := by simp [zcU]
      rw [this]
      simp; omega
  cases l with
  | nil => simp [zgb]
  | cons p m =>
    rw [zgb]
    have h1 := one p (List.mem_cons_self ..)
    have h2 := tl m (fun q hq => one q (List.mem_cons_of_mem _ hq))
    simp at hl ⊢; omega
theorem ze9 (env : api_Env) (_ : env.Domains.length < 1000000000) (_ : env.Locations.length < 1000000000) : za9 env = some true := by
  unfold za9 zB
  obtain ⟨e, he, h1, h2, h3⟩ := few26 env
  obtain ⟨b1, b2⟩ := zj5 h1 h2 h3
  rw [zh4, Option.bind_some, Bool.not_true, if_neg Bool.false_ne_true, he, Option.bind_some, zgc e (by omega), Option.bind_some, zil _ (by omega) (fun p hp => by have := b2 p hp; omega), Option.bind_some]
  have hne : (zc8 e == []) = false := rfl
  have hx : lAt (zc8 e) 0 = some ⟨[102, 111, 114], zh3 e.Client⟩ := rfl
  rw [hne, Bool.not_false, Bool.and_true]
  have e0 : zaZ [] = some ([], 2) := by decide +kernel
  cases hok : (zc8 e).all okP with
  | false =>
    rw [if_neg Bool.false_ne_true, e0, Option.bind_some, zfn e (by omega), Option.bind_some, zfo _ _ (by omega), Option.bind_some, beq_self_eq_true, if_pos rfl, zcB _ (by omega), Option.bind_some, hx, Option.bind_some, beq_self_eq_true, if_pos rfl]
    rfl
  | true =>
    have hp := zj4 (l := zc8 e) (by intro h; rw [h] at hne; cases hne) hok (by omega) (by have := zlb _ b1 b2; omega)
    have hf : zaZ (zgb (zc8 e)) = some (zc8 e, 0) := by
      unfold zaZ
      rw [hp, Option.bind_some, beq_self_eq_true, Bool.not_true, if_neg Bool.false_ne_true]
      exact zmf e
    rw [if_pos rfl, hf, Option.bind_some, zfn e (by omega), Option.bind_some, zfo _ _ (by omega), Option.bind_some, beq_self_eq_true, if_pos rfl, zcB _ (by omega), Option.bind_some, hx, Option.bind_some, beq_self_eq_true, if_pos rfl]
    dsimp only
    rw [beq_self_eq_true, Bool.not_true, if_neg Bool.false_ne_true, if_pos rfl, Option.bind_some]
end Go.Dm
end
