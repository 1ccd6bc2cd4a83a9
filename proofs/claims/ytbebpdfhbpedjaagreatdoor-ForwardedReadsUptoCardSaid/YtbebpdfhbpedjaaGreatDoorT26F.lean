/-
  The models' words: partial operations as functions into Option. No program in sight.
  The models of the functions: written by a program (wip/gen) off the translation. No program in sight.
  The library's functions as the models say them, and as the library's contracts say them. No program in sight.
  Plain tools for the laws: the partial operations at natural numbers, loops over lists. No program in sight.
  Layer 1 (bytes): what the program's and the reference's models come to.
  Layer 3 (numbers): reading and writing: the program's and the document's come to the same. No program in sight.
-/
import Derived.Lib.ItoaNum
import Derived.Lib.SplitLaws
import Derived.Lib.SlTrimSet
import Derived.Lib.Join
import Derived.Lib.IndexMore
import Derived.Lib.Bytealg
import Derived.Lib.Index
import Derived.Lib.IndexAny
section
namespace Go.Dm
abbrev Str := List UInt8

def inI (n : Int) : Bool := decide (-9223372036854775808 ≤ n) && decide (n ≤ 9223372036854775807)
theorem zhT {n : Int} : inI n = true ↔ -9223372036854775808 ≤ n ∧ n ≤ 9223372036854775807 := by simp [inI]

def zV (m n : Int) : Option Int := if inI (m + n) then some (m + n) else none
def zeZ (m n : Int) : Option Int := if inI (m - n) then some (m - n) else none
def iMul (m n : Int) : Option Int := if inI (m * n) then some (m * n) else none
def iDiv (m n : Int) : Option Int := if 0 ≤ m ∧ 1 ≤ n ∧ inI (m / n) = true then some (m / n) else none
def iMod (m n : Int) : Option Int := if 0 ≤ m ∧ 1 ≤ n ∧ inI (m % n) = true then some (m % n) else none
def sAt (l : Str) (i : Int) : Option UInt8 := if 0 ≤ i then l[i.toNat]? else none
def sTo (l : Str) (h : Int) : Option Str := if 0 ≤ h ∧ h ≤ l.length then some (l.take h.toNat) else none
def zcT (l : Str) (i : Int) : Option Str := if 0 ≤ i ∧ i ≤ l.length then some (l.drop i.toNat) else none
def zfe (l : Str) (i h : Int) : Option Str := if 0 ≤ i ∧ i ≤ h ∧ h ≤ l.length then some ((l.take h.toNat).drop i.toNat) else none
def zgl (l m : Str) : Option Str := if l.length + m.length ≤ 9223372036854775807 then some (l ++ m) else none
def lAt {α : Type} (l : List α) (i : Int) : Option α := if 0 ≤ i then l[i.toNat]? else none
def lTo {α : Type} (l : List α) (h : Int) : Option (List α) := if 0 ≤ h ∧ h ≤ l.length then some (l.take h.toNat) else none
def lSet {α : Type} (l : List α) (i : Int) (x : α) : Option (List α) := if 0 ≤ i ∧ i < l.length then some (l.set i.toNat x) else none

def zI (n m bytes : Nat) : Bool := decide (n + m ≤ 9223372036854775807) && decide ((n + m) * bytes ≤ 140737488355328)
theorem og {α : Type} {b : Bool} {x : Option α} {r : α} (h : (if b = true then x else none) = some r) : b = true ∧ x = some r := by
  cases b with
  | false => cases h
  | true => exact ⟨rfl, h⟩
theorem zgJ (b : Bool) : b = true ∨ b = false := by cases b <;> simp
theorem ob {α β : Type} {m : Option α} {f : α → Option β} {r : β} (h : m.bind f = some r) : ∃ x, m = some x ∧ f x = some r := by
  cases m with
  | none => cases h
  | some x => exact ⟨x, rfl, h⟩
theorem it {α : Type} {b : Bool} {x y : Option α} {r : α} (hb : b = true) (h : (if b = true then x else y) = some r) : x = some r := by rwa [if_pos hb] at h
def fuel : Nat := 1000000000000000000
end Go.Dm
end
section
set_option linter.unusedVariables false
set_option maxRecDepth 10000
namespace Go.Dm
structure scan_Scanner where
  f_s : Str
  f_at : Int
deriving DecidableEq
structure commas_splitter where
  Scanner : scan_Scanner
  f_out : List Str
  f_from : Int
  f_s : Str
deriving DecidableEq
structure quoted_reader where
  Scanner : scan_Scanner
  f_out : List UInt8
deriving DecidableEq
structure api_Field where
  Name : Str
  Value : Str
deriving DecidableEq
structure bag_Bag where
  f_l : List api_Field
deriving DecidableEq
structure api_Param where
  Name : Str
  Value : Str
deriving DecidableEq
structure api_Swap where
  From : Str
  To : Str
deriving DecidableEq
structure api_Env where
  Client : Str
  Host : Str
  Scheme : Str
  By : Str
  Domains : List api_Swap
  Locations : List api_Swap
deriving DecidableEq
structure params_reader where
  Scanner : scan_Scanner
deriving DecidableEq
def zfE : Str → UInt8 → Nat → Int
  | [], _, _ => -1
  | x :: l, c, k => if x == c then (k : Int) else zfE l c (k + 1)
def strings_IndexByte (s : Str) (c : UInt8) : Option Int := some (zfE s c 0)
def ze7 : Str → Str → Bool
  | _, [] => true
  | [], _ :: _ => false
  | x :: s, y :: t => x == y && ze7 s t
def zc9 : Str → Str → Nat → Int
  | s, t, k => if ze7 s t then (k : Int) else match s with
    | [] => -1
    | _ :: s => zc9 s t (k + 1)
def strings_Index (s t : Str) : Option Int := if s.length < 4294967281 then some (zc9 s t 0) else none
def strings_Cut (s t : Str) : Option (Str × Str × Bool) := if s.length < 4294967281 then some (Go.Lib.cut s t) else none
def strings_Split (s sep : Str) : Option (List Str) := if s.length < 4294967281 ∧ 1 ≤ sep.length then some (Go.Lib.splitK sep 0 (Go.Lib.countB ⟨s.toArray⟩ ⟨sep.toArray⟩) s) else none
def zw (c : UInt8) : Str → List Str
  | [] => [[]]
  | x :: s => if x = c then [] :: zw c s else match zw c s with
    | [] => [[x]]
    | h :: t => (x :: h) :: t
def zci (n b : Int) : Option Str := if inI n = true ∧ b = 10 then some (Go.Lib.itoa n) else none
def zbk (s cs : Str) : Option Str := if s.length < 4294967281 ∧ cs.length < 4294967281 ∧ cs.all (fun c => c.toNat < 128) then some (Go.Lib.trimS s cs) else none
def zcj (s cs : Str) : Option Str := if s.length < 4294967281 ∧ cs.length < 4294967281 ∧ cs.all (fun c => c.toNat < 128) then some (Go.Lib.trimRightS s cs) else none
def strings_Join (l : List Str) (sep : Str) : Option Str := if l.length ≤ 140737488355328 ∧ (Go.Lib.join l sep).length ≤ 140737488355328 then some (Go.Lib.join l sep) else none
def zey (x_s : Str) : Option scan_Scanner :=
  some (⟨x_s, 0⟩ : scan_Scanner)

def zaV (x_c : scan_Scanner) : Option Str :=
  (zcT x_c.f_s x_c.f_at).bind fun s4 =>
  some s4

def zT (x_c : scan_Scanner) : Option Bool :=
  (zaV x_c).bind fun r2 =>
  some (r2 == [])

def zae (x_c : scan_Scanner) : Option Int :=
  some x_c.f_at

def zn (x_c : scan_Scanner) : Option (UInt8 × Bool) :=
  (zT x_c).bind fun r2 =>
  if r2 then (some (0, false)) else ((sAt x_c.f_s x_c.f_at).bind fun b7 =>
  some (b7, true))

def zar (x_c : scan_Scanner) (t5 : Bool) : Option (Bool × scan_Scanner) :=
  if t5 then (some (false, x_c)) else ((zV x_c.f_at 1).bind fun i9 =>
  some ((true, (⟨x_c.f_s, i9⟩ : scan_Scanner))))

def zf (x_c : scan_Scanner) (x_b : UInt8) : Option (Bool × scan_Scanner) :=
  (zn x_c).bind fun r2 =>
  if (!r2.2) then (zar x_c true) else (zar x_c (!(r2.1 == x_b)))

def z6 (x_p : commas_splitter) (l12 : List Str) : Option commas_splitter :=
  (zae x_p.Scanner).bind fun r13 =>
  some (⟨x_p.Scanner, l12, r13, x_p.f_s⟩ : commas_splitter)

def zac (x_p : commas_splitter) (x_at : Int) : Option commas_splitter :=
  (zfe x_p.f_s x_p.f_from x_at).bind fun s1 =>
  (zbk s1 [32, 9]).bind fun r2 =>
  if (!(r2 == [])) then (if zI x_p.f_out.length 1 16 then (z6 x_p (x_p.f_out ++ ([r2] : List Str))) else none) else (z6 x_p x_p.f_out)

def zaG (x_p : commas_splitter) (s33 : Str) (i34 : Int) : Option (Bool × commas_splitter) :=
  some ((true, (⟨(⟨s33, i34⟩ : scan_Scanner), x_p.f_out, x_p.f_from, x_p.f_s⟩ : commas_splitter)))

def zg (x_p : commas_splitter) : Nat → Str → Int → Int → Option (Bool × commas_splitter)
  | 0, _, _, _ => none
  | n + 1, s3, i4, i5 =>
  if (decide (0 < i5)) then ((zn (⟨s3, i4⟩ : scan_Scanner)).bind fun r9 =>
  if (!r9.2) then (some ((false, (⟨(⟨s3, i4⟩ : scan_Scanner), x_p.f_out, x_p.f_from, x_p.f_s⟩ : commas_splitter)))) else ((zf (⟨s3, i4⟩ : scan_Scanner) r9.1).bind fun r15 =>
  if (r9.1 == 40) then ((zV i5 1).bind fun i21 =>
  (zg x_p n) r15.2.f_s r15.2.f_at i21) else (if (r9.1 == 41) then ((zeZ i5 1).bind fun i24 =>
  (zg x_p n) r15.2.f_s r15.2.f_at i24) else (if (r9.1 == 92) then ((zn r15.2).bind fun r27 =>
  if r27.2 then ((zf r15.2 r27.1).bind fun r31 =>
  (zg x_p n) r31.2.f_s r31.2.f_at i5) else ((zg x_p n) r15.2.f_s r15.2.f_at i5)) else ((zg x_p n) r15.2.f_s r15.2.f_at i5))))) else (zaG x_p s3 i4)

def zU (x_p : commas_splitter) : Option (Bool × commas_splitter) :=
  zg x_p fuel x_p.Scanner.f_s x_p.Scanner.f_at 1

def zbl (t3 : Bool) : Option Bool :=
  some t3

def zcQ (x_b : UInt8) : Option Bool :=
  if (decide (32 < x_b)) then (zbl (decide (x_b < 127))) else (zbl false)

def zbM (t3 : Bool) : Option Bool :=
  some t3

def za1 (x_b : UInt8) : Option Bool :=
  if (x_b == 32) then (zbM true) else (zbM (x_b == 9))

def zbb (t6 : Bool) : Option Bool :=
  some t6

def za2 (x_b : UInt8) : Option Bool :=
  (zcQ x_b).bind fun r2 =>
  if r2 then (zbb true) else ((za1 x_b).bind fun r4 =>
  if r4 then (zbb true) else (zbb (decide (127 < x_b))))

def zai (x_r : quoted_reader) (r2 : Bool × scan_Scanner) (r5 : UInt8 × Bool) (t9 : Bool) : Option (Bool × quoted_reader) :=
  if t9 then (some ((false, (⟨r2.2, x_r.f_out⟩ : quoted_reader)))) else (if zI x_r.f_out.length 1 1 then ((zf r2.2 r5.1).bind fun r18 =>
  some ((r18.1, (⟨r18.2, x_r.f_out ++ [r5.1]⟩ : quoted_reader)))) else none)

def zal (x_r : quoted_reader) : Option (Bool × quoted_reader) :=
  (zf x_r.Scanner 92).bind fun r2 =>
  (zn r2.2).bind fun r5 =>
  if (!r5.2) then (zai x_r r2 r5 true) else ((za2 r5.1).bind fun r8 =>
  zai x_r r2 r5 (!r8))

def zas (x_c : scan_Scanner) (x_at : Int) (t4 : Bool) : Option (Bool × scan_Scanner) :=
  if t4 then (some (false, x_c)) else (some ((true, (⟨x_c.f_s, x_at⟩ : scan_Scanner))))

def zaW (x_c : scan_Scanner) (x_at : Int) : Option (Bool × scan_Scanner) :=
  if (decide (x_at < 0)) then (zas x_c x_at true) else ((zae x_c).bind fun r3 =>
  zas x_c x_at (decide (r3 < x_at)))

def zbB (r2 : Int) (t27 : Bool) (s28 : Str) (i29 : Int) (l32 : List UInt8) : Option (Str × Bool × scan_Scanner) :=
  if (!t27) then ((zaW (⟨s28, i29⟩ : scan_Scanner) r2).bind fun r35 =>
  some ([], false, r35.2)) else (some ((l32, true, (⟨s28, i29⟩ : scan_Scanner))))

def zbc (rec1 : Str → Int → (List UInt8) → Bool → Option (Str × Bool × scan_Scanner)) (r2 : Int) (l13 : List UInt8) (t14 : Bool) (t18 : Bool) (s19 : Str) (i20 : Int) : Option (Str × Bool × scan_Scanner) :=
  if t18 then ((zal ((⟨(⟨s19, i20⟩ : scan_Scanner), l13⟩ : quoted_reader))).bind fun r23 =>
  rec1 r23.2.Scanner.f_s r23.2.Scanner.f_at r23.2.f_out r23.1) else (zbB r2 t14 s19 i20 l13)

def zL (r2 : Int) : Nat → Str → Int → (List UInt8) → Bool → Option (Str × Bool × scan_Scanner)
  | 0, _, _, _, _ => none
  | n + 1, s9, i10, l13, t14 =>
  if t14 then ((zf (⟨s9, i10⟩ : scan_Scanner) 34).bind fun r16 =>
  zbc (zL r2 n) r2 l13 t14 (!r16.1) r16.2.f_s r16.2.f_at) else (zbc (zL r2 n) r2 l13 t14 false s9 i10)

def zca (x_c : scan_Scanner) : Option (Str × Bool × scan_Scanner) :=
  (zae x_c).bind fun r2 =>
  (zf x_c 34).bind fun r6 =>
  zL r2 fuel r6.2.f_s r6.2.f_at [] r6.1

def zay (l34 : List Str) (i35 : Int) (s36 : Str) (s37 : Str) (i38 : Int) : Option (Bool × commas_splitter) :=
  some ((true, (⟨(⟨s37, i38⟩ : scan_Scanner), l34, i35, s36⟩ : commas_splitter)))

def zD (x_p : commas_splitter) : Option (Bool × commas_splitter) :=
  (zae x_p.Scanner).bind fun r2 =>
  (zf x_p.Scanner 44).bind fun r4 =>
  if r4.1 then ((zac (⟨r4.2, x_p.f_out, x_p.f_from, x_p.f_s⟩ : commas_splitter) r2).bind fun r8 =>
  zay r8.f_out r8.f_from r8.f_s r8.Scanner.f_s r8.Scanner.f_at) else ((zf r4.2 40).bind fun r12 =>
  if r12.1 then ((zU (⟨r12.2, x_p.f_out, x_p.f_from, x_p.f_s⟩ : commas_splitter)).bind fun r16 =>
  some (r16.1, r16.2)) else ((zn r12.2).bind fun r21 =>
  if (r21.1 == 34) then ((zca r12.2).bind fun r25 =>
  some ((r25.2.1, (⟨r25.2.2, x_p.f_out, x_p.f_from, x_p.f_s⟩ : commas_splitter)))) else ((zf r12.2 r21.1).bind fun r30 =>
  zay x_p.f_out x_p.f_from x_p.f_s r30.2.f_s r30.2.f_at)))

def zb2 (x_s : Str) (l26 : List Str) (i27 : Int) (s28 : Str) (s29 : Str) (i30 : Int) : Option (List Str × Int) :=
  (zac ((⟨(⟨s29, i30⟩ : scan_Scanner), l26, i27, s28⟩ : commas_splitter)) (x_s.length : Int)).bind fun r31 =>
  some (r31.f_out, 0)

def zaf (x_s : Str) : Nat → (List Str) → Int → Str → Str → Int → Option (List Str × Int)
  | 0, _, _, _, _, _ => none
  | n + 1, l8, i9, s10, s11, i12 =>
  (zT (⟨s11, i12⟩ : scan_Scanner)).bind fun r13 =>
  if (!r13) then ((zD ((⟨(⟨s11, i12⟩ : scan_Scanner), l8, i9, s10⟩ : commas_splitter))).bind fun r17 =>
  if (!r17.1) then (some ([], 2)) else ((zaf x_s n) r17.2.f_out r17.2.f_from r17.2.f_s r17.2.Scanner.f_s r17.2.Scanner.f_at)) else (zb2 x_s l8 i9 s10 s11 i12)

def zck (x_s : Str) : Option (List Str × Int) :=
  (zey x_s).bind fun r2 =>
  zaf x_s fuel [] 0 x_s r2.f_s r2.f_at

def zaj (r2 : Int) (s14 : Str) (i15 : Int) : Option (Str × scan_Scanner) :=
  (zfe s14 r2 i15).bind fun s18 =>
  some ((s18, (⟨s14, i15⟩ : scan_Scanner)))

def zP (rec1 : Str → Int → Option (Str × scan_Scanner)) (r2 : Int) (s4 : Str) (i5 : Int) (t10 : Bool) : Option (Str × scan_Scanner) :=
  if t10 then (zaj r2 s4 i5) else ((zV i5 1).bind fun i13 =>
  rec1 s4 i13)

def zp (x_is : UInt8 → Option Bool) (r2 : Int) : Nat → Str → Int → Option (Str × scan_Scanner)
  | 0, _, _ => none
  | n + 1, s4, i5 =>
  (zn (⟨s4, i5⟩ : scan_Scanner)).bind fun r6 =>
  if (!r6.2) then (zP (zp x_is r2 n) r2 s4 i5 true) else ((x_is r6.1).bind fun r9 =>
  zP (zp x_is r2 n) r2 s4 i5 (!r9))

def zS (x_c : scan_Scanner) (x_is : UInt8 → Option Bool) : Option (Str × scan_Scanner) :=
  (zae x_c).bind fun r2 =>
  zp x_is r2 fuel x_c.f_s x_c.f_at

def zcl (x_b : UInt8) (t3 : Bool) : Option UInt8 :=
  if t3 then (some (x_b + 32)) else (some x_b)

def zO (x_b : UInt8) : Option UInt8 :=
  if (decide (65 ≤ x_b)) then (zcl x_b (decide (x_b ≤ 90))) else (zcl x_b false)

def zbN (t5 : Bool) : Option Bool :=
  some t5

def zdx (x_b : UInt8) : Option Bool :=
  (zO x_b).bind fun r2 =>
  if (decide (97 ≤ r2)) then ((zO x_b).bind fun r4 =>
  zbN (decide (r4 ≤ 122))) else (zbN false)

def zbO (t3 : Bool) : Option Bool :=
  some t3

def za3 (x_b : UInt8) : Option Bool :=
  if (decide (48 ≤ x_b)) then (zbO (decide (x_b ≤ 57))) else (zbO false)

def zf3 (x_b : UInt8) (x_l : Str) : Option Bool :=
  (strings_IndexByte x_l x_b).bind fun r2 =>
  some (decide (0 ≤ r2))

def zbd (t7 : Bool) : Option Bool :=
  some t7

def zaD (x_b : UInt8) : Option Bool :=
  (zdx x_b).bind fun r2 =>
  if r2 then (zbd true) else ((za3 x_b).bind fun r4 =>
  if r4 then (zbd true) else ((zf3 x_b [33, 35, 36, 37, 38, 39, 42, 43, 45, 46, 94, 95, 96, 124, 126]).bind fun r6 =>
  zbd r6))

def zam (x_c : scan_Scanner) : Option (Str × Bool × scan_Scanner) :=
  (zS x_c zaD).bind fun r2 =>
  some ((r2.1, !(r2.1 == []), r2.2))

def zcm (rec1 : Int → Option Bool) (x_is : UInt8 → Option Bool) (i3 : Int) (x7 : Str) : Nat → Int → Option Bool
  | 0, _ => none
  | n + 1, i12 =>
  if (decide (i12 < (x7.length : Int))) then ((sAt x7 i12).bind fun b17 =>
  (x_is b17).bind fun r18 =>
  if (!r18) then (some false) else ((zV i12 1).bind fun i23 =>
  (zcm rec1 x_is i3 x7 n) i23)) else ((zV i3 1).bind fun i25 =>
  rec1 i25)

def zbP (x_is : UInt8 → Option Bool) (x_l : List Str) : Nat → Int → Option Bool
  | 0, _ => none
  | n + 1, i3 =>
  if (decide (i3 < (x_l.length : Int))) then ((lAt x_l i3).bind fun x7 =>
  zcm (zbP x_is x_l n) x_is i3 x7 fuel 0) else (some true)

def zc0 (x_is : UInt8 → Option Bool) (x_l : List Str) : Option Bool :=
  zbP x_is x_l fuel 0

def zdy (x_b : UInt8) : Option Int :=
  (za3 x_b).bind fun r2 =>
  if r2 then (some (((x_b - 48).toNat : Int))) else ((zO x_b).bind fun r7 =>
  (zV (((r7 - 97).toNat : Int)) 10).bind fun i8 =>
  some i8)

def zb3 (rec2 : Int → Int → Option (Int × Int)) (x_base : Int) (i11 : Int) (i12 : Int) (r18 : Int) (t23 : Bool) : Option (Int × Int) :=
  if t23 then (some (0, 7)) else ((iMul i11 x_base).bind fun i27 =>
  (zV i27 r18).bind fun i28 =>
  (zV i12 1).bind fun i30 =>
  rec2 i28 i30)

def zaA (x_s : Str) (x_base : Int) (x_most : Int) : Nat → Int → Int → Option (Int × Int)
  | 0, _, _ => none
  | n + 1, i11, i12 =>
  if (decide (i12 < (x_s.length : Int))) then ((sAt x_s i12).bind fun b17 =>
  (zdy b17).bind fun r18 =>
  if (decide (x_most < r18)) then (zb3 (zaA x_s x_base x_most n) x_base i11 i12 r18 true) else ((zeZ x_most r18).bind fun i21 =>
  (iDiv i21 x_base).bind fun i22 =>
  zb3 (zaA x_s x_base x_most n) x_base i11 i12 r18 (decide (i22 < i11)))) else (some (i11, 0))

def zb4 (x_s : Str) (x_base : Int) (x_most : Int) (t5 : Bool) : Option (Int × Int) :=
  if t5 then (some (0, 2)) else (zaA x_s x_base x_most fuel 0 0)

def zdW (x_s : Str) (x_base : Int) (x_most : Int) (x_is : UInt8 → Option Bool) : Option (Int × Int) :=
  if (x_s == []) then (zb4 x_s x_base x_most true) else ((zc0 x_is ([x_s] : List Str)).bind fun r4 =>
  zb4 x_s x_base x_most (!r4))

def zcR (x_s : Str) (x_most : Int) : Option (Int × Int) :=
  (zdW x_s 10 x_most za3).bind fun r2 =>
  some (r2.1, r2.2)

def zdX (x_n : Int) (x_base : Int) : Option Str :=
  if (decide (x_n < 0)) then (some []) else ((zci x_n x_base).bind fun r6 =>
  some r6)

def zdY (x_n : Int) : Option Str :=
  (zdX x_n 10).bind fun r2 =>
  some r2

def zbw (t6 : Bool) : Option Bool :=
  some t6

def zcn (x_s : Str) (x_most : Int) : Option Bool :=
  (zcR x_s x_most).bind fun r2 =>
  if (r2.2 == 0) then ((zdY r2.1).bind fun r5 =>
  zbw (r5 == x_s)) else (zbw false)

def zcF (s : Str) : Option Bool := if s.length < 1000000000 then ((zw 46 s).mapM (fun x => zcn x 255)).bind fun bs => some (bs.all id && decide ((bs.length : Int) = 4)) else none

def zbC (t7 : Bool) : Option Bool :=
  some t7

def zdp (x_b : UInt8) : Option Bool :=
  (za3 x_b).bind fun r2 =>
  if r2 then (zbC true) else ((zO x_b).bind fun r4 =>
  if (decide (97 ≤ r4)) then ((zO x_b).bind fun r6 =>
  zbC (decide (r6 ≤ 102))) else (zbC false))

def zbm (rec1 : Int → Int → Option Int) (i13 : Int) (i36 : Int) : Option Int :=
  (zV i13 1).bind fun i37 =>
  rec1 i36 i37

def zaH (rec1 : Int → Int → Option Int) (i12 : Int) (i13 : Int) (t32 : Bool) : Option Int :=
  if t32 then ((zV i12 1).bind fun i34 =>
  zbm rec1 i13 i34) else (some (-1))

def zaI (rec1 : Int → Int → Option Int) (i12 : Int) (i13 : Int) (x17 : Str) (t25 : Bool) : Option Int :=
  if t25 then ((zV i12 2).bind fun i27 =>
  zbm rec1 i13 i27) else (if (decide (1 ≤ (x17.length : Int))) then (if (decide ((x17.length : Int) ≤ 4)) then ((zc0 zdp ([x17] : List Str)).bind fun r31 =>
  zaH rec1 i12 i13 r31) else (zaH rec1 i12 i13 false)) else (zaH rec1 i12 i13 false))

def zy (x_last : Bool) (r6 : List Str) : Nat → Int → Int → Option Int
  | 0, _, _ => none
  | n + 1, i12, i13 =>
  if (decide (i13 < (r6.length : Int))) then ((lAt r6 i13).bind fun x17 =>
  if x_last then ((zeZ (r6.length : Int) 1).bind fun i22 =>
  if (i13 == i22) then ((zcF x17).bind fun r24 =>
  zaI (zy x_last r6 n) i12 i13 x17 r24) else (zaI (zy x_last r6 n) i12 i13 x17 false)) else (zaI (zy x_last r6 n) i12 i13 x17 false)) else (some i12)

def zbo (x_s : Str) (x_last : Bool) : Option Int :=
  if (x_s == []) then (some 0) else ((strings_Split x_s [58]).bind fun r6 =>
  zy x_last r6 fuel 0 0)

def zbp (t15 : Bool) : Option Bool :=
  some t15

def zdZ (x_s : Str) : Option Bool :=
  (strings_Cut x_s [58, 58]).bind fun r2 =>
  if (!r2.2.2) then ((zbo x_s true).bind fun r6 =>
  some (r6 == 8)) else ((zbo r2.1 false).bind fun r9 =>
  (zbo r2.2.1 true).bind fun r10 =>
  if (decide (0 ≤ r9)) then (if (decide (0 ≤ r10)) then ((zV r9 r10).bind fun i14 =>
  zbp (decide (i14 ≤ 7))) else (zbp false)) else (zbp false))

def zco (t5 : Bool) : Option Bool :=
  some t5

def zdq (x_s : Str) : Option Bool :=
  if (!(x_s == [])) then ((zc0 zaD ([x_s] : List Str)).bind fun r4 =>
  zco r4) else (zco false)

def zd0 (x_sep : Str) (x_l : List Str) : Option Str :=
  (strings_Join x_l x_sep).bind fun r2 =>
  some r2

def zE (x_s : List api_Field) : Option (List api_Field) :=
  if zI 0 x_s.length 32 then (some x_s) else none

def zic (x_l : List api_Field) : Option bag_Bag :=
  (zE x_l).bind fun r2 =>
  some (⟨r2⟩ : bag_Bag)

def zcz (s : Str) : Option Str := if s.length < 4294967281 then s.mapM zO else none

def zcA (x_a : Str) (x_b : Str) : Option Bool :=
  (zcz x_a).bind fun r2 =>
  (zcz x_b).bind fun r3 =>
  some (r2 == r3)

def zdr (x_l : List Str) : Option Str :=
  (zd0 [44, 32] x_l).bind fun r2 =>
  some r2

def zdz (x_s : Str) (x_l : List Str) : Option Str :=
  if ((x_l.length : Int) == 0) then (some x_s) else ((zbk x_s [32, 9, 44]).bind fun r5 =>
  if (r5 == []) then ((zdr x_l).bind fun r8 =>
  some r8) else ((zcj x_s [32, 9]).bind fun r11 =>
  if zI (([r11] : List Str).length) x_l.length 16 then ((zdr (([r11] : List Str) ++ x_l)).bind fun r16 =>
  some r16) else none))

def zez (x_b : bag_Bag) (x_l : List api_Field) : Option bag_Bag :=
  if zI x_b.f_l.length x_l.length 32 then (some (⟨x_b.f_l ++ x_l⟩ : bag_Bag)) else none

def zaX (x_b : bag_Bag) (x_name : Str) (x_element : Str) : Nat → Int → Option bag_Bag
  | 0, _ => none
  | n + 1, i5 =>
  if (decide (0 ≤ i5)) then ((lAt x_b.f_l i5).bind fun x9 =>
  (zcA x9.Name x_name).bind fun r12 =>
  if r12 then ((lAt x_b.f_l i5).bind fun x15 =>
  (zdz x15.Value ([x_element] : List Str)).bind fun r19 =>
  (lAt x_b.f_l i5).bind fun x20 =>
  (lSet x_b.f_l i5 (⟨x20.Name, r19⟩ : api_Field)).bind fun l23 =>
  some (⟨l23⟩ : bag_Bag)) else ((zeZ i5 1).bind fun i26 =>
  (zaX x_b x_name x_element n) i26)) else ((zez x_b ([(⟨x_name, x_element⟩ : api_Field)])).bind fun r29 =>
  some r29)

def zda (x_b : bag_Bag) (x_name : Str) (x_element : Str) : Option bag_Bag :=
  (zeZ (x_b.f_l.length : Int) 1).bind fun i3 =>
  zaX x_b x_name x_element fuel i3

def zd1 (x_b : bag_Bag) : Option (List api_Field) :=
  (zE x_b.f_l).bind fun r4 =>
  some r4

def zcK (x_b : UInt8) (x_l : Str) : Nat → Int → Option Bool
  | 0, _ => none
  | n + 1, i3 =>
  if (decide (i3 < (x_l.length : Int))) then ((sAt x_l i3).bind fun b7 =>
  if (b7 == x_b) then (some true) else ((zV i3 1).bind fun i12 =>
  (zcK x_b x_l n) i12)) else (some false)

def zhi (x_b : UInt8) (x_l : Str) : Option Bool :=
  zcK x_b x_l fuel 0

def zc1 (x_b : UInt8) : Option Bool :=
  (zhi x_b [97, 98, 99, 100, 101, 102, 103, 104, 105, 106, 107, 108, 109, 110, 111, 112, 113, 114, 115, 116, 117, 118, 119, 120, 121, 122, 65, 66, 67, 68, 69, 70, 71, 72, 73, 74, 75, 76, 77, 78, 79, 80, 81, 82, 83, 84, 85, 86, 87, 88, 89, 90, 48, 49, 50, 51, 52, 53, 54, 55, 56, 57, 33, 35, 36, 37, 38, 39, 42, 43, 45, 46, 94, 95, 96, 124, 126]).bind fun r2 =>
  some r2

def zbD (t4 : Bool) : Option Bool :=
  some t4

def zcL (x_b : UInt8) : Option Bool :=
  if (decide (32 ≤ x_b)) then (if (!(x_b == 127)) then (zbD true) else (zbD (x_b == 9))) else (zbD (x_b == 9))

def zbW (rec2 : Str → Int → Option Str) (i14 : Int) (s24 : Str) : Option Str :=
  (zV i14 1).bind fun i25 =>
  rec2 s24 i25

def zW (rec1 : Str → Int → Option Str) (x_s : Str) (s4 : Str) (i5 : Int) : Nat → Str → Int → Option Str
  | 0, _, _ => none
  | n + 1, s13, i14 =>
  if (decide (i14 < 26)) then ((sAt [65, 66, 67, 68, 69, 70, 71, 72, 73, 74, 75, 76, 77, 78, 79, 80, 81, 82, 83, 84, 85, 86, 87, 88, 89, 90] i14).bind fun b18 =>
  (sAt x_s i5).bind fun b19 =>
  if (b18 == b19) then ((zV i14 1).bind fun i22 =>
  (zfe [97, 98, 99, 100, 101, 102, 103, 104, 105, 106, 107, 108, 109, 110, 111, 112, 113, 114, 115, 116, 117, 118, 119, 120, 121, 122] i14 i22).bind fun s23 =>
  zbW (zW rec1 x_s s4 i5 n) i14 s23) else (zbW (zW rec1 x_s s4 i5 n) i14 s13)) else ((zgl s4 s13).bind fun s27 =>
  (zV i5 1).bind fun i29 =>
  rec1 s27 i29)

def zX (x_s : Str) : Nat → Str → Int → Option Str
  | 0, _, _ => none
  | n + 1, s4, i5 =>
  if (decide (i5 < (x_s.length : Int))) then ((zV i5 1).bind fun i9 =>
  (zfe x_s i5 i9).bind fun s10 =>
  zW (zX x_s n) x_s s4 i5 fuel s10 0) else (some s4)

def zcB (x_s : Str) : Option Str :=
  zX x_s fuel [] 0

def zcp (t3 : Bool) : Option Bool :=
  some t3

def zbE (x_b : UInt8) : Option Bool :=
  if (x_b == 32) then (zcp true) else (zcp (x_b == 9))

def zbX (x_a : List api_Field) (x_b : List api_Field) : Nat → Int → Option Bool
  | 0, _ => none
  | n + 1, i7 =>
  if (decide (i7 < (x_a.length : Int))) then ((lAt x_a i7).bind fun x11 =>
  (lAt x_b i7).bind fun x14 =>
  if (!(x11 == x14)) then (some false) else ((zV i7 1).bind fun i21 =>
  (zbX x_a x_b n) i21)) else (some true)

def ze8 (x_a : List api_Field) (x_b : List api_Field) : Option Bool :=
  if (!((x_a.length : Int) == (x_b.length : Int))) then (some false) else (zbX x_a x_b fuel 0)

def zdb (x_client : Str) : Option Str :=
  (zcF x_client).bind fun r2 =>
  if r2 then (some x_client) else ((zdZ x_client).bind fun r6 =>
  if r6 then ((zgl [91] x_client).bind fun s9 =>
  (zgl s9 [93]).bind fun s10 =>
  some s10) else (some [117, 110, 107, 110, 111, 119, 110]))

def zbx (l23 : List api_Param) : Option (List api_Param) :=
  some l23

def zby (x_env : api_Env) (l14 : List api_Param) : Option (List api_Param) :=
  if (!(x_env.Scheme == [])) then (if zI l14.length 1 32 then (zbx (l14 ++ [(⟨[112, 114, 111, 116, 111], x_env.Scheme⟩ : api_Param)])) else none) else (zbx l14)

def zdc (x_env : api_Env) : Option (List api_Param) :=
  (zdb x_env.Client).bind fun r3 =>
  if (!(x_env.Host == [])) then (if zI (([(⟨[102, 111, 114], r3⟩ : api_Param)]).length) 1 32 then (zby x_env (([(⟨[102, 111, 114], r3⟩ : api_Param)]) ++ [(⟨[104, 111, 115, 116], x_env.Host⟩ : api_Param)])) else none) else (zby x_env ([(⟨[102, 111, 114], r3⟩ : api_Param)]))

def zb5 (rec1 : (List UInt8) → Int → Option (Str × Int)) (x_s : Str) (i14 : Int) (l30 : List UInt8) : Option (Str × Int) :=
  (sAt x_s i14).bind fun b31 =>
  if zI l30.length 1 1 then ((zV i14 1).bind fun i37 =>
  rec1 (l30 ++ [b31]) i37) else none

def zb6 (rec1 : (List UInt8) → Int → Option (Str × Int)) (x_s : Str) (l13 : List UInt8) (i14 : Int) (t22 : Bool) : Option (Str × Int) :=
  if t22 then (if zI l13.length 1 1 then (zb5 rec1 x_s i14 (l13 ++ [92])) else none) else (zb5 rec1 x_s i14 l13)

def zag (x_s : Str) : Nat → (List UInt8) → Int → Option (Str × Int)
  | 0, _, _ => none
  | n + 1, l13, i14 =>
  if (decide (i14 < (x_s.length : Int))) then ((sAt x_s i14).bind fun b19 =>
  if (b19 == 34) then (zb6 (zag x_s n) x_s l13 i14 true) else ((sAt x_s i14).bind fun b21 =>
  zb6 (zag x_s n) x_s l13 i14 (b21 == 92))) else (if zI l13.length 1 1 then (some (l13 ++ [34], 0)) else none)

def zd2 (x_s : Str) : Option (Str × Int) :=
  (zc0 za2 ([x_s] : List Str)).bind fun r3 =>
  if (!r3) then (some ([], 2)) else (zag x_s fuel [34] 0)

def zdA (x_s : Str) : Option (Str × Int) :=
  (zdq x_s).bind fun r2 =>
  if r2 then (some (x_s, 0)) else ((zd2 x_s).bind fun r7 =>
  some (r7.1, r7.2))

def zcq (rec1 : (List Str) → Int → Option (Str × Int)) (l6 : List Str) (i7 : Int) (x11 : api_Param) (r16 : Str × Int) (t20 : Bool) : Option (Str × Int) :=
  if t20 then (some ([], 2)) else ((zgl x11.Name [61]).bind fun s24 =>
  (zgl s24 r16.1).bind fun s25 =>
  if zI l6.length 1 16 then ((zV i7 1).bind fun i31 =>
  rec1 (l6 ++ ([s25] : List Str)) i31) else none)

def zaJ (x_l : List api_Param) : Nat → (List Str) → Int → Option (Str × Int)
  | 0, _, _ => none
  | n + 1, l6, i7 =>
  if (decide (i7 < (x_l.length : Int))) then ((lAt x_l i7).bind fun x11 =>
  (zdA x11.Value).bind fun r16 =>
  if (!(r16.2 == 0)) then (zcq (zaJ x_l n) l6 i7 x11 r16 true) else ((zdq x11.Name).bind fun r19 =>
  zcq (zaJ x_l n) l6 i7 x11 r16 (!r19))) else (if ((l6.length : Int) == 0) then (some ([], 2)) else ((zd0 [59] l6).bind fun r37 =>
  some (r37, 0)))

def zeA (x_l : List api_Param) : Option (Str × Int) :=
  zaJ x_l fuel [] 0

def zcC (x_env : api_Env) (x_l : List api_Field) : Option (List api_Field × Int) :=
  (zdc x_env).bind fun r3 =>
  (zeA r3).bind fun r6 =>
  if (!(r6.2 == 0)) then (some ([], r6.2)) else ((zic x_l).bind fun r12 =>
  (zda r12 [70, 111, 114, 119, 97, 114, 100, 101, 100] r6.1).bind fun r17 =>
  (zd1 r17).bind fun r22 =>
  some (r22, 0))

def zcr (t9 : Bool) : Option Bool :=
  some t9

def zds : Option Bool :=
  (zcC (⟨[58, 58, 49], [97, 58, 56, 48], [104, 116, 116, 112], [], [], []⟩ : api_Env) []).bind fun r2 =>
  if (r2.2 == 0) then ((ze8 r2.1 ([(⟨[70, 111, 114, 119, 97, 114, 100, 101, 100], [102, 111, 114, 61, 34, 91, 58, 58, 49, 93, 34, 59, 104, 111, 115, 116, 61, 34, 97, 58, 56, 48, 34, 59, 112, 114, 111, 116, 111, 61, 104, 116, 116, 112]⟩ : api_Field)])).bind fun r8 =>
  zcr r8) else (zcr false)

def zbf (x_c : scan_Scanner) : Option (Str × Bool × scan_Scanner) :=
  (zam x_c).bind fun r2 =>
  if r2.2.1 then (some (r2.1, true, r2.2.2)) else ((zca r2.2.2).bind fun r9 =>
  some (r9.1, r9.2.1, r9.2.2))

def zat (r4 : Str × Bool × scan_Scanner) (t10 : Bool) (s11 : Str) (i12 : Int) : Option (api_Param × Bool × scan_Scanner) :=
  if t10 then (some (((⟨[], []⟩ : api_Param), false, (⟨s11, i12⟩ : scan_Scanner)))) else ((zbf (⟨s11, i12⟩ : scan_Scanner)).bind fun r16 =>
  some (((⟨r4.1, r16.1⟩ : api_Param), r16.2.1, r16.2.2)))

def z7 (x_r : params_reader) : Option (api_Param × Bool × scan_Scanner) :=
  (zam x_r.Scanner).bind fun r4 =>
  if (!r4.2.1) then (zat r4 true r4.2.2.f_s r4.2.2.f_at) else ((zf r4.2.2 61).bind fun r8 =>
  zat r4 (!r8.1) r8.2.f_s r8.2.f_at)

def zad (x_c : scan_Scanner) : Option (Str × scan_Scanner) :=
  (zS x_c za1).bind fun r2 =>
  some (r2.1, r2.2)

def zaK (x_r : params_reader) : Option (Bool × scan_Scanner) :=
  (zad x_r.Scanner).bind fun r3 =>
  (zf r3.2 59).bind fun r6 =>
  if (!r6.1) then (some (false, r6.2)) else ((zad r6.2).bind fun r12 =>
  some (true, r12.2))

def zaB : Nat → (List api_Param) → Str → Int → Option (List api_Param × Int)
  | 0, _, _, _ => none
  | n + 1, l9, s10, i11 =>
  (z7 ((⟨(⟨s10, i11⟩ : scan_Scanner)⟩ : params_reader))).bind fun r12 =>
  if (!r12.2.1) then (some ([], 2)) else (if zI l9.length 1 32 then ((zT r12.2.2).bind fun r25 =>
  if r25 then (some (l9 ++ [r12.1], 0)) else ((zaK (⟨r12.2.2⟩ : params_reader)).bind fun r30 =>
  if (!r30.1) then (some ([], 2)) else ((zaB n) (l9 ++ [r12.1]) r30.2.f_s r30.2.f_at))) else none)

def zcs (x_s : Str) : Option (List api_Param × Int) :=
  (zey x_s).bind fun r2 =>
  zaB fuel [] r2.f_s r2.f_at

def za4 (x_name : Str) (x_l : List api_Param) : Nat → Int → Option (Str × Bool)
  | 0, _ => none
  | n + 1, i3 =>
  if (decide (i3 < (x_l.length : Int))) then ((lAt x_l i3).bind fun x7 =>
  (zcA x7.Name x_name).bind fun r12 =>
  if r12 then (some (x7.Value, true)) else ((zV i3 1).bind fun i17 =>
  (za4 x_name x_l n) i17)) else (some ([], false))

def zd3 (x_name : Str) (x_l : List api_Param) : Option (Str × Bool) :=
  za4 x_name x_l fuel 0

def zM (r2 : List api_Param × Int) : Nat → Int → Option (List api_Param × Int)
  | 0, _ => none
  | n + 1, i11 =>
  if (decide (i11 < (r2.1.length : Int))) then ((lAt r2.1 i11).bind fun x15 =>
  (lTo r2.1 i11).bind fun l20 =>
  (zd3 x15.Name l20).bind fun r23 =>
  if r23.2 then (some ([], 2)) else ((zV i11 1).bind fun i29 =>
  (zM r2 n) i29)) else (some (r2.1, 0))

def zaP (x_s : Str) : Option (List api_Param × Int) :=
  (zcs x_s).bind fun r2 =>
  if (!(r2.2 == 0)) then (some ([], r2.2)) else (zM r2 fuel 0)

def zaE (x_a : List api_Param) (x_b : List api_Param) : Nat → Int → Option Bool
  | 0, _ => none
  | n + 1, i7 =>
  if (decide (i7 < (x_a.length : Int))) then ((lAt x_a i7).bind fun x11 =>
  (lAt x_b i7).bind fun x14 =>
  if (!(x11 == x14)) then (some false) else ((zV i7 1).bind fun i21 =>
  (zaE x_a x_b n) i21)) else (some true)

def zcD (x_a : List api_Param) (x_b : List api_Param) : Option Bool :=
  if (!((x_a.length : Int) == (x_b.length : Int))) then (some false) else (zaE x_a x_b fuel 0)

def zaL (rec2 : Str → Int → Option (Str × Int)) (x_s : Str) (s10 : Str) (i25 : Int) (t29 : Bool) : Option (Str × Int) :=
  if t29 then (some ([], 0)) else ((zV i25 1).bind fun i33 =>
  (zfe x_s i25 i33).bind fun s34 =>
  (zgl s10 s34).bind fun s35 =>
  (zV i25 1).bind fun i37 =>
  rec2 s35 i37)

def zbF (rec2 : Str → Int → Option (Str × Int)) (x_s : Str) (s10 : Str) (i25 : Int) : Option (Str × Int) :=
  if (i25 == (x_s.length : Int)) then (zaL rec2 x_s s10 i25 true) else ((sAt x_s i25).bind fun b27 =>
  (zcL b27).bind fun r28 =>
  zaL rec2 x_s s10 i25 (!r28))

def zN (x_s : Str) : Nat → Str → Int → Option (Str × Int)
  | 0, _, _ => none
  | n + 1, s10, i11 =>
  if (decide (i11 < (x_s.length : Int))) then ((sAt x_s i11).bind fun b15 =>
  if (b15 == 34) then ((zV i11 1).bind fun i18 =>
  some (s10, i18)) else ((sAt x_s i11).bind fun b21 =>
  if (b21 == 92) then ((zV i11 1).bind fun i24 =>
  zbF (zN x_s n) x_s s10 i24) else (zbF (zN x_s n) x_s s10 i11))) else (some ([], 0))

def zbe (x_s : Str) (t4 : Bool) : Option (Str × Int) :=
  if t4 then (some ([], 0)) else (zN x_s fuel [] 1)

def zbg (x_s : Str) : Option (Str × Int) :=
  if ((x_s.length : Int) == 0) then (zbe x_s true) else ((sAt x_s 0).bind fun b3 =>
  zbe x_s (!(b3 == 34)))

def zbY (rec1 : Int → Option (Str × Int)) (x_s : Str) (i3 : Int) (t7 : Bool) : Option (Str × Int) :=
  if t7 then ((zV i3 1).bind fun i10 =>
  rec1 i10) else (if (decide (0 < i3)) then ((sTo x_s i3).bind fun s14 =>
  some (s14, i3)) else ((zbg x_s).bind fun r17 =>
  some (r17.1, r17.2)))

def zan (x_s : Str) : Nat → Int → Option (Str × Int)
  | 0, _ => none
  | n + 1, i3 =>
  if (decide (i3 < (x_s.length : Int))) then ((sAt x_s i3).bind fun b5 =>
  (zc1 b5).bind fun r6 =>
  zbY (zan x_s n) x_s i3 r6) else (zbY (zan x_s n) x_s i3 false)

def zdd (x_s : Str) : Option (Str × Int) :=
  zan x_s fuel 0

def zbZ (rec1 : Str → Option Str) (s2 : Str) (t6 : Bool) : Option Str :=
  if t6 then ((zcT s2 1).bind fun s9 =>
  rec1 s9) else (some s2)

def zao : Nat → Str → Option Str
  | 0, _ => none
  | n + 1, s2 =>
  if (decide (0 < (s2.length : Int))) then ((sAt s2 0).bind fun b4 =>
  (zbE b4).bind fun r5 =>
  zbZ (zao n) s2 r5) else (zbZ (zao n) s2 false)

def zde (x_s : Str) : Option Str :=
  zao fuel x_s

def zbG (rec1 : Str → (List api_Param) → Option (List api_Param × Int)) (l6 : List api_Param) (r26 : Str × Int) (s32 : Str) (r46 : Str) (t50 : Bool) : Option (List api_Param × Int) :=
  if t50 then (some ([], 2)) else ((zcT r46 1).bind fun s54 =>
  (zde s54).bind fun r55 =>
  rec1 r55 (l6 ++ [(⟨s32, r26.1⟩ : api_Param)]))

def zaM (rec1 : Str → (List api_Param) → Option (List api_Param × Int)) (s3 : Str) (l6 : List api_Param) (i8 : Int) (t20 : Bool) : Option (List api_Param × Int) :=
  if t20 then (some ([], 2)) else ((zV i8 1).bind fun i24 =>
  (zcT s3 i24).bind fun s25 =>
  (zdd s25).bind fun r26 =>
  if (r26.2 == 0) then (some ([], 2)) else ((sTo s3 i8).bind fun s32 =>
  if zI l6.length 1 32 then ((zV i8 1).bind fun i38 =>
  (zV i38 r26.2).bind fun i39 =>
  (zcT s3 i39).bind fun s40 =>
  if (s40 == []) then (some ((l6 ++ [(⟨s32, r26.1⟩ : api_Param)], 0))) else ((zde s40).bind fun r46 =>
  if (r46 == []) then (zbG rec1 l6 r26 s32 r46 true) else ((sAt r46 0).bind fun b49 =>
  zbG rec1 l6 r26 s32 r46 (!(b49 == 59))))) else none))

def zbH (rec1 : Str → (List api_Param) → Option (List api_Param × Int)) (rec2 : Int → Option (List api_Param × Int)) (s3 : Str) (l6 : List api_Param) (i8 : Int) (t12 : Bool) : Option (List api_Param × Int) :=
  if t12 then ((zV i8 1).bind fun i15 =>
  rec2 i15) else (if (i8 == 0) then (zaM rec1 s3 l6 i8 true) else (if (i8 == (s3.length : Int)) then (zaM rec1 s3 l6 i8 true) else ((sAt s3 i8).bind fun b19 =>
  zaM rec1 s3 l6 i8 (!(b19 == 61)))))

def z8 (rec1 : Str → (List api_Param) → Option (List api_Param × Int)) (s3 : Str) (l6 : List api_Param) : Nat → Int → Option (List api_Param × Int)
  | 0, _ => none
  | n + 1, i8 =>
  if (decide (i8 < (s3.length : Int))) then ((sAt s3 i8).bind fun b10 =>
  (zc1 b10).bind fun r11 =>
  zbH rec1 (z8 rec1 s3 l6 n) s3 l6 i8 r11) else (zbH rec1 (z8 rec1 s3 l6 n) s3 l6 i8 false)

def zx : Nat → Str → (List api_Param) → Option (List api_Param × Int)
  | 0, _, _ => none
  | n + 1, s3, l6 =>
  z8 (zx n) s3 l6 fuel 0

def zcM (x_a0 : Str) : Option (List api_Param × Int) :=
  zx fuel x_a0 []

def zaN (x_l : List api_Param) (x_name : Str) : Nat → Int → Option Int
  | 0, _ => none
  | n + 1, i3 =>
  if (decide (i3 < (x_l.length : Int))) then ((lAt x_l i3).bind fun x7 =>
  (zcB x7.Name).bind fun r10 =>
  (zcB x_name).bind fun r11 =>
  if (r10 == r11) then (some i3) else ((zV i3 1).bind fun i16 =>
  (zaN x_l x_name n) i16)) else (some (-1))

def zdt (x_l : List api_Param) (x_name : Str) (x_from : Int) : Option Int :=
  zaN x_l x_name fuel x_from

def zau (r2 : List api_Param × Int) : Nat → Int → Option (List api_Param × Int)
  | 0, _ => none
  | n + 1, i11 =>
  if (decide (i11 < (r2.1.length : Int))) then ((lAt r2.1 i11).bind fun x15 =>
  (zV i11 1).bind fun i18 =>
  (zdt r2.1 x15.Name i18).bind fun r19 =>
  if (decide (0 ≤ r19)) then (some ([], 2)) else ((zV i11 1).bind fun i24 =>
  (zau r2 n) i24)) else (some (r2.1, 0))

def zcb (x_s : Str) : Option (List api_Param × Int) :=
  (zcM x_s).bind fun r2 =>
  if (!(r2.2 == 0)) then (some ([], r2.2)) else (zau r2 fuel 0)

def zaa (rec1 : (List (List api_Param)) → Int → Option (List (List api_Param) × Int)) (i8 : Int) (r16 : List Str × Int) : Nat → (List (List api_Param)) → Int → Option (List (List api_Param) × Int)
  | 0, _, _ => none
  | n + 1, l27, i29 =>
  if (decide (i29 < (r16.1.length : Int))) then ((lAt r16.1 i29).bind fun x33 =>
  (zaP x33).bind fun r37 =>
  if (!(r37.2 == 0)) then (some ([], r37.2)) else (if zI l27.length 1 24 then ((zV i29 1).bind fun i50 =>
  (zaa rec1 i8 r16 n) (l27 ++ [r37.1]) i50) else none)) else ((zV i8 1).bind fun i52 =>
  rec1 l27 i52)

def zG (x_values : List Str) : Nat → (List (List api_Param)) → Int → Option (List (List api_Param) × Int)
  | 0, _, _ => none
  | n + 1, l6, i8 =>
  if (decide (i8 < (x_values.length : Int))) then ((lAt x_values i8).bind fun x12 =>
  (zck x12).bind fun r16 =>
  if (!(r16.2 == 0)) then (some ([], r16.2)) else (zaa (zG x_values n) i8 r16 fuel l6 0)) else (some (l6, 0))

def zct (x_values : List Str) : Option (List (List api_Param) × Int) :=
  zG x_values fuel [] 0

def zQ (rec1 : Int → Int → Option Int) (i27 : Int) (i28 : Int) : Option Int :=
  if (i27 == 0) then ((zV i28 1).bind fun i31 =>
  some i31) else ((zV i28 1).bind fun i34 =>
  rec1 i27 i34)

def zu (x_s : Str) : Nat → Int → Int → Option Int
  | 0, _, _ => none
  | n + 1, i11, i12 =>
  if (decide (i12 < (x_s.length : Int))) then ((sAt x_s i12).bind fun b16 =>
  if (b16 == 40) then ((zV i11 1).bind fun i20 =>
  zQ (zu x_s n) i20 i12) else (if (b16 == 41) then ((zeZ i11 1).bind fun i23 =>
  zQ (zu x_s n) i23 i12) else (if (b16 == 92) then ((zV i12 1).bind fun i26 =>
  zQ (zu x_s n) i11 i26) else (zQ (zu x_s n) i11 i12)))) else (some 0)

def zcN (x_s : Str) : Option Int :=
  (sAt x_s 0).bind fun b2 =>
  if (b2 == 34) then ((zbg x_s).bind fun r5 =>
  some r5.2) else (zu x_s fuel 0 0)

def zbt (rec3 : Str → Option Str) (s11 : Str) (t16 : Bool) : Option Str :=
  if t16 then ((zeZ (s11.length : Int) 1).bind fun i19 =>
  (sTo s11 i19).bind fun s20 =>
  rec3 s20) else (some s11)

def zY : Nat → Str → Option Str
  | 0, _ => none
  | n + 1, s11 =>
  if (decide (0 < (s11.length : Int))) then ((zeZ (s11.length : Int) 1).bind fun i13 =>
  (sAt s11 i13).bind fun b14 =>
  (zbE b14).bind fun r15 =>
  zbt (zY n) s11 r15) else (zbt (zY n) s11 false)

def zbu (rec1 : Str → Option Str) (s2 : Str) (t6 : Bool) : Option Str :=
  if t6 then ((zcT s2 1).bind fun s9 =>
  rec1 s9) else (zY fuel s2)

def zZ : Nat → Str → Option Str
  | 0, _ => none
  | n + 1, s2 =>
  if (decide (0 < (s2.length : Int))) then ((sAt s2 0).bind fun b4 =>
  (zbE b4).bind fun r5 =>
  zbu (zZ n) s2 r5) else (zbu (zZ n) s2 false)

def zcE (x_s : Str) : Option Str :=
  zZ fuel x_s

def zbI (rec1 : (List Str) → Int → Int → Option (List Str × Int)) (i9 : Int) (l41 : List Str) (i42 : Int) : Option (List Str × Int) :=
  (zV i9 1).bind fun i43 =>
  rec1 l41 i42 i43

def zav (rec1 : (List Str) → Int → Int → Option (List Str × Int)) (x_a0 : Str) (l7 : List Str) (i8 : Int) (i9 : Int) (t16 : Bool) : Option (List Str × Int) :=
  if t16 then ((zcT x_a0 i9).bind fun s18 =>
  (zcN s18).bind fun r19 =>
  if (r19 == 0) then (some ([], 2)) else ((zV i9 r19).bind fun i25 =>
  rec1 l7 i8 i25)) else ((sAt x_a0 i9).bind fun b28 =>
  if (b28 == 44) then ((zfe x_a0 i8 i9).bind fun s31 =>
  (zcE s31).bind fun r32 =>
  if zI l7.length 1 16 then ((zV i9 1).bind fun i38 =>
  zbI rec1 i9 (l7 ++ ([r32] : List Str)) i38) else none) else (zbI rec1 i9 l7 i8))

def zbJ (rec4 : (List Str) → Int → Option (List Str × Int)) (i57 : Int) (l75 : List Str) : Option (List Str × Int) :=
  (zV i57 1).bind fun i76 =>
  rec4 l75 i76

def zR (l7 : List Str) (r46 : Str) : Nat → (List Str) → Int → Option (List Str × Int)
  | 0, _, _ => none
  | n + 1, l56, i57 =>
  if (decide (i57 < (((l7 ++ ([r46] : List Str)).length : Int)))) then ((lAt (l7 ++ ([r46] : List Str)) i57).bind fun x61 =>
  if (!(x61 == [])) then ((lAt (l7 ++ ([r46] : List Str)) i57).bind fun x66 =>
  if zI l56.length 1 16 then (zbJ (zR l7 r46 n) i57 (l56 ++ ([x66] : List Str))) else none) else (zbJ (zR l7 r46 n) i57 l56)) else (some (l56, 0))

def zz (x_a0 : Str) : Nat → (List Str) → Int → Int → Option (List Str × Int)
  | 0, _, _, _ => none
  | n + 1, l7, i8, i9 =>
  if (decide (i9 < (x_a0.length : Int))) then ((sAt x_a0 i9).bind fun b13 =>
  if (b13 == 34) then (zav (zz x_a0 n) x_a0 l7 i8 i9 true) else ((sAt x_a0 i9).bind fun b15 =>
  zav (zz x_a0 n) x_a0 l7 i8 i9 (b15 == 40))) else ((zcT x_a0 i8).bind fun s45 =>
  (zcE s45).bind fun r46 =>
  if zI l7.length 1 16 then (zR l7 r46 fuel [] 0) else none)

def zcO (x_a0 : Str) : Option (List Str × Int) :=
  zz x_a0 fuel [] 0 0

def za5 (rec1 : (List (List api_Param)) → Int → Option (List (List api_Param) × Int)) (i8 : Int) (r15 : List Str × Int) : Nat → (List (List api_Param)) → Int → Option (List (List api_Param) × Int)
  | 0, _, _ => none
  | n + 1, l26, i28 =>
  if (decide (i28 < (r15.1.length : Int))) then ((lAt r15.1 i28).bind fun x32 =>
  (zcb x32).bind fun r35 =>
  if (!(r35.2 == 0)) then (some ([], r35.2)) else (if zI l26.length 1 24 then ((zV i28 1).bind fun i48 =>
  (za5 rec1 i8 r15 n) (l26 ++ [r35.1]) i48) else none)) else ((zV i8 1).bind fun i50 =>
  rec1 l26 i50)

def zap (x_values : List Str) : Nat → (List (List api_Param)) → Int → Option (List (List api_Param) × Int)
  | 0, _, _ => none
  | n + 1, l6, i8 =>
  if (decide (i8 < (x_values.length : Int))) then ((lAt x_values i8).bind fun x12 =>
  (zcO x12).bind fun r15 =>
  if (!(r15.2 == 0)) then (some ([], r15.2)) else (za5 (zap x_values n) i8 r15 fuel l6 0)) else (some (l6, 0))

def zd4 (x_values : List Str) : Option (List (List api_Param) × Int) :=
  zap x_values fuel [] 0

def zaF (x_a : List (List api_Param)) (x_b : List (List api_Param)) : Nat → Int → Option Bool
  | 0, _ => none
  | n + 1, i7 =>
  if (decide (i7 < (x_a.length : Int))) then ((lAt x_a i7).bind fun x11 =>
  (lAt x_b i7).bind fun x16 =>
  (zcD x11 x16).bind fun r21 =>
  if (!r21) then (some false) else ((zV i7 1).bind fun i26 =>
  (zaF x_a x_b n) i26)) else (some true)

def zdf (x_a : List (List api_Param)) (x_b : List (List api_Param)) : Option Bool :=
  if (!((x_a.length : Int) == (x_b.length : Int))) then (some false) else (zaF x_a x_b fuel 0)

def zA (t35 : Bool) : Option Bool :=
  some t35

def zaY (x_a0 : Str) (x_a1 : Str) : Option Bool :=
  (zds).bind fun r2 =>
  if (!r2) then (some false) else ((sTo x_a0 (min (x_a0.length : Int) 200)).bind fun s7 =>
  (sTo x_a1 (min (x_a1.length : Int) 200)).bind fun s8 =>
  (zaP s7).bind fun r10 =>
  (zcb s7).bind fun r14 =>
  (zct ([s7, s8] : List Str)).bind fun r19 =>
  (zd4 ([s7, s8] : List Str)).bind fun r25 =>
  (zcD r10.1 r14.1).bind fun r30 =>
  if r30 then (if (r10.2 == r14.2) then ((zdf r19.1 r25.1).bind fun r33 =>
  if r33 then (zA (r19.2 == r25.2)) else (zA false)) else (zA false)) else (zA false))

end Go.Dm
end
section
namespace Go.Dm
theorem zih (b : Bool) (v : Int) (k : Nat) (h : -1 ≤ v) : (if b = true then (k : Int) else if v = -1 then -1 else v + ((k + 1 : Nat) : Int)) =
    if (if b = true then 0 else if (v == -1) = true then -1 else v + 1) = -1 then -1 else (if b = true then 0 else if (v == -1) = true then -1 else v + 1) + (k : Int) := by
  cases b with
  | true => simp
  | false =>
    by_cases hm : v = -1
    · subst hm; simp
    · have h2 : ¬ (v + 1 = -1) := by omega
      have h3 : (v == -1) = false := beq_eq_false_iff_ne.2 hm
      rw [h3]
      simp only [Bool.false_eq_true, if_false, if_neg hm, if_neg h2]
      omega
theorem zf9 : ∀ (l : Str) (c : UInt8) (k : Nat), zfE l c k = if Go.Lib.indexByte l c = -1 then -1 else Go.Lib.indexByte l c + k
  | [], _, _ => rfl
  | x :: l, c, k => by
    rw [zfE, Go.Lib.indexByte, zf9 l c (k + 1)]
    exact zih _ _ k (Go.Lib.indexByte_ge l c)
theorem zj3 (x y : UInt8) : (x == y) = (y == x) := by
  by_cases h : x = y
  · subst h; rfl
  · rw [beq_eq_false_iff_ne.2 h, beq_eq_false_iff_ne.2 (Ne.symm h)]
theorem zgK : ∀ (s t : Str), ze7 s t = t.isPrefixOf s
  | s, [] => by cases s <;> rfl
  | [], y :: t => rfl
  | x :: s, y :: t => by
    rw [ze7, List.isPrefixOf, zgK s t, zj3 x y]
theorem zgL : ∀ (l t : Str) (k : Nat), zc9 l t k = if Go.Lib.index l t = -1 then -1 else Go.Lib.index l t + k
  | [], t, k => by
    rw [zc9, Go.Lib.index]
    cases t <;> simp [ze7]
  | x :: l, t, k => by
    rw [zc9, Go.Lib.index, zgK]
    simp only [zgL l t (k + 1)]
    exact zih _ _ k (Go.Lib.index_ge l t)
theorem zii (l : Str) (c : UInt8) : zfE l c 0 = Go.Lib.indexByte l c := by
  rw [zf9]; have := Go.Lib.indexByte_ge l c; split <;> omega
theorem ziN (l t : Str) : zc9 l t 0 = Go.Lib.index l t := by
  rw [zgL]; have := Go.Lib.index_ge l t; split <;> omega
end Go.Dm
end
section
namespace Go.Dm
@[simp] theorem zb0 (l : Str) (i : Nat) : sAt l (i : Int) = l[i]? := by simp [sAt]
@[simp] theorem zfp (l : Str) : sAt l 0 = l[0]? := by simp [sAt]
@[simp] theorem sAt_one (l : Str) : sAt l 1 = l[1]? := by simp [sAt]
@[simp] theorem sAt_two (l : Str) : sAt l 2 = l[2]? := by simp [sAt]
@[simp] theorem zbK {α : Type} (l : List α) (i : Nat) : lAt l (i : Int) = l[i]? := by simp [lAt]
@[simp] theorem lAt_zero {α : Type} (l : List α) : lAt l 0 = l[0]? := by simp [lAt]
theorem zh1 {m n : Int} (h1 : -9223372036854775808 ≤ m + n) (h2 : m + n ≤ 9223372036854775807) : zV m n = some (m + n) := by simp [zV, inI, h1, h2]
theorem zgx {m n : Int} (h1 : -9223372036854775808 ≤ m - n) (h2 : m - n ≤ 9223372036854775807) : zeZ m n = some (m - n) := by simp [zeZ, inI, h1, h2]
theorem zB {i : Nat} (h : i < 4611686018427387904) : zV (i : Int) 1 = some ((i + 1 : Nat) : Int) := by
  rw [zh1 (by omega) (by omega)]; simp
theorem zgy {l : Str} {h : Nat} (hh : h ≤ l.length) : sTo l (h : Int) = some (l.take h) := by simp [sTo, hh]
theorem zb9 {l : Str} {i : Nat} (hh : i ≤ l.length) : zcT l (i : Int) = some (l.drop i) := by simp [zcT, hh]
theorem zdD {l : Str} {i h : Nat} (h1 : i ≤ h) (h2 : h ≤ l.length) : zfe l (i : Int) (h : Int) = some ((l.take h).drop i) := by simp [zfe, h1, h2]
theorem zjb {l m : Str} (h : l.length + m.length ≤ 9223372036854775807) : zgl l m = some (l ++ m) := by simp [zgl, h]
theorem zcX {n m b : Nat} (h : (n + m) * b ≤ 140737488355328) (h2 : n + m ≤ 140737488355328) : zI n m b = true := by
  simp only [zI, Bool.and_eq_true, decide_eq_true_eq]; exact ⟨by omega, h⟩

theorem zcw (p : UInt8 → Bool) (h : (List.range 256).all (fun n => p (UInt8.ofNat n)) = true) (b : UInt8) : p b = true := by
  have := List.all_eq_true.1 h b.toNat (by simpa using b.toNat_lt)
  simpa using this
theorem zjc (s : Str) (k : Nat) : sTo s (min (s.length : Int) (k : Int)) = some (s.take k) := by
  have e : min (s.length : Int) (k : Int) = ((min s.length k : Nat) : Int) := by omega
  rw [e, zgy (Nat.min_le_left _ _)]
  congr 1
  rcases Nat.le_total s.length k with h | h
  · rw [Nat.min_eq_left h, List.take_length, List.take_of_length_le h]
  · rw [Nat.min_eq_right h]
end Go.Dm
end
section
namespace Go.Dm
def zg6 (b : UInt8) : Bool := decide (48 ≤ b) && decide (b ≤ 57)
def zcx (b : UInt8) : UInt8 := if 65 ≤ b ∧ b ≤ 90 then b + 32 else b
def zks (b : UInt8) : Bool := decide (97 ≤ zcx b) && decide (zcx b ≤ 122)
def cHex (b : UInt8) : Bool := zg6 b || decide (97 ≤ zcx b) && decide (zcx b ≤ 102)
def cUnres (b : UInt8) : Bool := zks b || zg6 b || ([45, 46, 95, 126] : Str).contains b
def cSub (b : UInt8) : Bool := ([33, 36, 38, 39, 40, 41, 42, 43, 44, 59, 61] : Str).contains b
theorem zg7 (b : UInt8) : zO b = some (zcx b) :=
  of_decide_eq_true (zcw (fun b => decide (zO b = some (zcx b))) (by decide +kernel) b)
def zt (b : UInt8) : Bool := zks b || zg6 b || ([33, 35, 36, 37, 38, 39, 42, 43, 45, 46, 94, 95, 96, 124, 126] : Str).contains b
def zfq (b : UInt8) : Bool := decide (32 ≤ b) && !(b == 127) || b == 9
theorem zfX (b : UInt8) : zaD b = some (zt b) :=
  of_decide_eq_true (zcw (fun b => decide (zaD b = some (zt b))) (by decide +kernel) b)
theorem zfY (b : UInt8) : za2 b = some (zfq b) :=
  of_decide_eq_true (zcw (fun b => decide (za2 b = some (zfq b))) (by decide +kernel) b)
theorem zcY (b : UInt8) : zc1 b = some (zt b) :=
  of_decide_eq_true (zcw (fun b => decide (zc1 b = some (zt b))) (by decide +kernel) b)
theorem zet (b : UInt8) : zcL b = some (zfq b) :=
  of_decide_eq_true (zcw (fun b => decide (zcL b = some (zfq b))) (by decide +kernel) b)
end Go.Dm
end
section
namespace Go.Dm
def valB (b : Nat) (l : List Nat) : Nat := l.foldl (fun n d => n * b + d) 0
def digsF (b : Nat) : Nat → Nat → List Nat
  | 0, n => [n % b]
  | k + 1, n => if n < b then [n] else digsF b k (n / b) ++ [n % b]
def digs (b n : Nat) : List Nat := digsF b 70 n
def dch (d : Nat) : UInt8 := if d < 10 then UInt8.ofNat (48 + d) else UInt8.ofNat (87 + d)
def chars (l : List Nat) : Str := l.map dch
def wor (c : UInt8) : Nat := if zg6 c then (c - 48).toNat else (zcx c - 97).toNat + 10
def isDig (b : Nat) (c : UInt8) : Bool := if b = 10 then zg6 c else cHex c
def textN (b : Nat) (n : Int) : Str := if n < 0 then [] else chars (digs b n.toNat)
def vals (s : Str) : List Nat := s.map wor
def readN (b : Nat) (s : Str) (most : Int) : Int × Int :=
  if (s == [] || !s.all (isDig b)) = true then (0, 2) else if most < (valB b (vals s) : Int) then (0, 7) else (((valB b (vals s) : Nat) : Int), 0)
end Go.Dm
end
section
namespace Go.Dm
def low (s : Str) : Str := s.map zcx
theorem zeO (s : Str) (hs : s.length < 1000000000) : zcz s = some (low s) := by
  unfold zcz
  rw [if_pos (by omega)]
  unfold low
  clear hs
  induction s with
  | nil => rfl
  | cons x s ih => simp [List.mapM_cons, zg7, ih]
theorem upAt : ∀ j : Nat, j < 26 → (([65, 66, 67, 68, 69, 70, 71, 72, 73, 74, 75, 76, 77, 78, 79, 80, 81, 82, 83, 84, 85, 86, 87, 88, 89, 90] : Str)[j]? = some (UInt8.ofNat (65 + j)) ∧
    zfe [97, 98, 99, 100, 101, 102, 103, 104, 105, 106, 107, 108, 109, 110, 111, 112, 113, 114, 115, 116, 117, 118, 119, 120, 121, 122] (j : Int) ((j + 1 : Nat) : Int) = some [UInt8.ofNat (97 + j)]) := by decide
theorem zfV (rec1 : Str → Int → Option Str) (t : Str) (s4 : Str) (i : Nat) (x : UInt8) (hx : t[i]? = some x) : ∀ (k j n : Nat) (s : Str), j + k = 26 → k < n →
    zW rec1 t s4 (i : Int) n s (j : Int) = (zgl s4 (if 65 + j ≤ x.toNat ∧ x.toNat < 91 then [x + 32] else s)).bind fun s27 => (zV (i : Int) 1).bind fun i29 => rec1 s27 i29 := by
  intro k
  induction k with
  | zero =>
    intro j n s hj hn
    obtain ⟨n, rfl⟩ : ∃ m, n = m + 1 := ⟨n - 1, by omega⟩
    obtain rfl : j = 26 := by omega
    have h0 : ¬ (65 + 26 ≤ x.toNat ∧ x.toNat < 91) := by omega
    rw [zW, if_neg h0]
    rfl
  | succ k ih =>
    intro j n s hj hn
    obtain ⟨n, rfl⟩ : ∃ m, n = m + 1 := ⟨n - 1, by omega⟩
    obtain ⟨h1, h2⟩ := upAt j (by omega)
    have hj26 : (j : Int) < 26 := by omega
    rw [zW]
    simp only [hj26, decide_true, if_true, zb0, h1, hx, Option.bind_some, zB (show j < 4611686018427387904 by omega), h2, zbW]
    rw [ih (j + 1) n _ (by omega) (by omega), ih (j + 1) n _ (by omega) (by omega)]
    by_cases he : UInt8.ofNat (65 + j) = x
    · subst he
      have e1 : (UInt8.ofNat (65 + j)).toNat = 65 + j := by simp; omega
      have e2 : UInt8.ofNat (97 + j) = UInt8.ofNat (65 + j) + 32 := by
        apply UInt8.toNat_inj.1; simp; omega
      simp only [beq_self_eq_true, if_true, e1]
      rw [if_neg (by omega), if_pos (by omega), e2]
    · have hb : (UInt8.ofNat (65 + j) == x) = false := beq_eq_false_iff_ne.2 he
      have hne : x.toNat ≠ 65 + j := fun e => he (by apply UInt8.toNat_inj.1; simp; omega)
      simp only [hb, Bool.false_eq_true, if_false]
      have : (65 + (j + 1) ≤ x.toNat ∧ x.toNat < 91) ↔ (65 + j ≤ x.toNat ∧ x.toNat < 91) := by omega
      simp only [this]
theorem zjD (x : UInt8) : (if 65 ≤ x.toNat ∧ x.toNat < 91 then [x + 32] else [x]) = [zcx x] := by
  have hi : (65 ≤ x ∧ x ≤ 90) ↔ (65 ≤ x.toNat ∧ x.toNat < 91) := by
    have h1 : (65 ≤ x) ↔ (65 ≤ x.toNat) := Iff.rfl
    have h2 : (x ≤ 90) ↔ (x.toNat ≤ 90) := Iff.rfl
    rw [h1, h2]; omega
  unfold zcx
  by_cases h : 65 ≤ x.toNat ∧ x.toNat < 91
  · rw [if_pos h, if_pos (hi.2 h)]
  · rw [if_neg h, if_neg (fun e => h (hi.1 e))]
theorem zeP (s : Str) (hs : s.length < 1000000000) : zcB s = some (low s) := by
  unfold zcB
  have key : ∀ (n i : Nat) (acc : Str), acc.length = i → i ≤ s.length → s.length - i < n → zX s n acc (i : Int) = some (acc ++ low (s.drop i)) := by
    intro n
    induction n with
    | zero => intro i acc _ _ h; omega
    | succ n ih =>
      intro i acc ha hi h
      rw [zX]
      by_cases hlt : i < s.length
      · have hx : s[i]? = some s[i] := List.getElem?_eq_getElem hlt
        have e1 : (s.take (i + 1)).drop i = [s[i]] := by
          rw [List.drop_take, List.drop_eq_getElem_cons hlt, show i + 1 - i = 1 by omega]
          rfl
        have h2 := zfV (zX s n) s acc i s[i] hx 26 0 fuel [s[i]] rfl (by unfold fuel; omega)
        simp only [Int.natCast_zero, Nat.add_zero, zjD] at h2
        simp only [Int.ofNat_lt, hlt, decide_true, if_true, zB (show i < 4611686018427387904 by omega), Option.bind_some, zdD (show i ≤ i + 1 by omega) (show i + 1 ≤ s.length by omega), e1, h2, zjb (show acc.length + [zcx s[i]].length ≤ 9223372036854775807 by simp; omega)]
        rw [ih (i + 1) _ (by simp [ha]) (by omega) (by omega), List.drop_eq_getElem_cons hlt]
        show some ((acc ++ [zcx s[i]]) ++ low (s.drop (i + 1))) = some (acc ++ (zcx s[i] :: low (s.drop (i + 1))))
        rw [List.append_assoc]
        rfl
      · have : i = s.length := by omega
        subst this
        simp [low]
  have := key fuel 0 [] rfl (Nat.zero_le _) (by unfold fuel; omega)
  simpa using this
theorem zho (a b : Str) (ha : a.length < 1000000000) (hb : b.length < 1000000000) : zcA a b = some (low a == low b) := by
  unfold zcA
  rw [zeO a ha, zeO b hb]; rfl
end Go.Dm
end
section
namespace Go.Dm
def upto (cs s : Str) : Str := s.takeWhile (fun c => !cs.contains c)
end Go.Dm
end
section
namespace Go.Dm
def scn (s : Str) (k : Nat) : scan_Scanner := ⟨s, (k : Int)⟩
theorem zgk (s : Str) : zey s = some (scn s 0) := rfl
theorem zdT (s : Str) (k : Nat) : zae (scn s k) = some (k : Int) := rfl
theorem zia {s : Str} {k : Nat} (h : k ≤ s.length) : zaV (scn s k) = some (s.drop k) := by
  unfold zaV scn
  rw [zb9 h]; rfl
theorem zew {s : Str} {k : Nat} (h : k ≤ s.length) : zT (scn s k) = some (s.drop k == []) := by
  unfold zT
  rw [zia h]; rfl
theorem zdw {s : Str} {k : Nat} (h : k ≤ s.length) (hd : s.drop k = []) : zn (scn s k) = some (0, false) := by
  unfold zn
  rw [zew h, hd]; rfl
theorem zc7 {s : Str} {k : Nat} {x : UInt8} {r : Str} (h : k ≤ s.length) (hd : s.drop k = x :: r) : zn (scn s k) = some (x, true) := by
  unfold zn
  rw [zew h, hd]
  have hx : s[k]? = some x := by
    have := congrArg (·[0]?) hd
    simpa using this
  simp [scn, hx]
theorem zhA {s : Str} {k : Nat} (b : UInt8) (h : k ≤ s.length) (hd : s.drop k = []) : zf (scn s k) b = some (false, scn s k) := by
  unfold zf
  rw [zdw h hd]; rfl
theorem zcg {s : Str} {k : Nat} {x : UInt8} {r : Str} (b : UInt8) (h : k ≤ s.length) (hs : s.length < 1000000000) (hd : s.drop k = x :: r) : zf (scn s k) b = some (x == b, if x == b then scn s (k + 1) else scn s k) := by
  unfold zf
  rw [zc7 h hd]
  simp only [Option.bind_some, Bool.not_true, Bool.false_eq_true, if_false, zar]
  rcases zgJ (x == b) with hb | hb
  · rw [hb]; simp [scn, zB (show k < 4611686018427387904 by omega)]
  · rw [hb]; simp
theorem zch {s : Str} {k : Nat} {x : UInt8} {r : Str} (hd : s.drop k = x :: r) : k < s.length ∧ s.drop (k + 1) = r := by
  have hl : k < s.length := by
    rcases Nat.lt_or_ge k s.length with h | h
    · exact h
    · rw [List.drop_eq_nil_of_le h] at hd; cases hd
  refine ⟨hl, ?_⟩
  rw [List.drop_eq_getElem_cons hl] at hd
  exact (List.cons.inj hd).2
theorem zhB {f : UInt8 → Option Bool} {p : UInt8 → Bool} (hf : ∀ b, f b = some (p b)) {s : Str} {k : Nat} (hs : s.length < 1000000000) (hk : k ≤ s.length) :
    zS (scn s k) f = some ((s.drop k).takeWhile p, scn s (k + ((s.drop k).takeWhile p).length)) := by
  unfold zS
  rw [zdT, Option.bind_some]
  show zp f k fuel s k = _
  have key : ∀ (n i : Nat), k ≤ i → i ≤ s.length → s.length - i < n → zp f k n s i = some ((s.take (i + ((s.drop i).takeWhile p).length)).drop k, scn s (i + ((s.drop i).takeWhile p).length)) := by
    intro n
    induction n with
    | zero => intro i _ _ h; omega
    | succ n ih =>
      intro i hki hi h
      rw [zp]
      have e : (⟨s, (i : Int)⟩ : scan_Scanner) = scn s i := rfl
      rw [e]
      cases hd : s.drop i with
      | nil =>
        rw [zdw hi hd]
        simp [zP, zaj, zdD hki hi, scn]
      | cons x r =>
        obtain ⟨hlt, hr⟩ := zch hd
        rw [zc7 hi hd]
        simp only [Option.bind_some, Bool.not_true, Bool.false_eq_true, if_false, hf, zP, zB (show i < 4611686018427387904 by omega), ih (i + 1) (by omega) (by omega) (by omega), hr, List.takeWhile_cons]
        rcases zgJ (p x) with hp | hp
        · rw [hp]; simp [Nat.add_assoc, Nat.add_comm 1]
        · rw [hp]; simp [zaj, zdD hki hi, scn]
  rw [key fuel k (Nat.le_refl _) hk (by unfold fuel; omega)]
  congr 2
  rw [List.drop_take, Nat.add_sub_cancel_left]
  have := List.takeWhile_prefix (l := s.drop k) p
  exact (List.prefix_iff_eq_take.1 this).symm
theorem zib (p : UInt8 → Bool) (s : Str) : (s.takeWhile p).length ≤ s.length := (List.takeWhile_prefix p).length_le
theorem zjJ (p : UInt8 → Bool) (s : Str) (k : Nat) (hk : k ≤ s.length) : s.drop (k + ((s.drop k).takeWhile p).length) = (s.drop k).dropWhile p ∧ k + ((s.drop k).takeWhile p).length ≤ s.length := by
  refine ⟨?_, ?_⟩
  · rw [← List.drop_drop]
    generalize s.drop k = t
    have h := List.takeWhile_append_dropWhile (p := p) (l := t)
    conv => lhs; arg 2; rw [← h]
    exact List.drop_left
  · have := zib p (s.drop k)
    rw [List.length_drop] at this; omega
end Go.Dm
end
section
namespace Go.Dm
structure At (s : Str) (k : Nat) (r : Str) : Prop where
  le : k ≤ s.length
  drop : s.drop k = r
theorem At.zero (s : Str) : At s 0 s := ⟨Nat.zero_le _, rfl⟩
theorem At.len {s : Str} {k : Nat} {r : Str} (h : At s k r) : k + r.length = s.length := by
  have := congrArg List.length h.drop
  rw [List.length_drop] at this
  have := h.le
  omega
theorem At.next {s : Str} {k : Nat} {r : Str} (h : At s k r) (n : Nat) (hn : n ≤ r.length) : At s (k + n) (r.drop n) :=
  ⟨by have := h.len; omega, by rw [← List.drop_drop, h.drop]⟩
def zjj : Str → UInt8 × Bool
  | [] => (0, false)
  | x :: _ => (x, true)
def zbR (b : UInt8) (r : Str) : Bool := r.head? == some b
def zah (b : UInt8) (r : Str) : Str := if zbR b r then r.drop 1 else r
theorem zjI (b : UInt8) : zbR b [] = false := rfl
theorem zaz (b x : UInt8) (r : Str) : zbR b (x :: r) = (x == b) := Option.some_beq_some ..
theorem zbj (b : UInt8) (r : Str) : zah b (b :: r) = r := by unfold zah; rw [zaz, beq_self_eq_true, if_pos rfl]; rfl
theorem ze5 {b : UInt8} {r : Str} (h : zbR b r = false) : zah b r = r := by unfold zah; rw [h]; rfl
theorem zc6 {b : UInt8} {r : Str} (h : zbR b r = true) : r = b :: zah b r := by
  cases r with
  | nil => cases h
  | cons x r =>
    rw [zaz] at h
    have : x = b := by simpa using h
    subst this
    rw [zbj]
section
variable {s r : Str} {k : Nat}
theorem zkH (h : At s k r) : zT (scn s k) = some (r == []) := by rw [zew h.le, h.drop]
theorem zgz (h : At s k r) : zn (scn s k) = some (zjj r) := by
  cases r with
  | nil => exact zdw h.le h.drop
  | cons x r => exact zc7 h.le h.drop
theorem zdm (hs : s.length < 1000000000) (b : UInt8) (h : At s k r) : ∃ k', At s k' (zah b r) ∧ zf (scn s k) b = some (zbR b r, scn s k') := by
  cases r with
  | nil => exact ⟨k, h, zhA b h.le h.drop⟩
  | cons x r =>
    rw [zcg b h.le hs h.drop, zaz]
    unfold zah
    rw [zaz]
    cases x == b with
    | true => exact ⟨k + 1, h.next 1 (by simp), rfl⟩
    | false => exact ⟨k, h, rfl⟩
theorem ziG {f : UInt8 → Option Bool} {p : UInt8 → Bool} (hf : ∀ b, f b = some (p b)) (hs : s.length < 1000000000) (h : At s k r) : ∃ k', At s k' (r.dropWhile p) ∧ zS (scn s k) f = some (r.takeWhile p, scn s k') := by
  have e := zhB hf hs h.le
  rw [h.drop] at e
  have hd := zjJ p s k h.le
  rw [h.drop] at hd
  exact ⟨_, ⟨hd.2, hd.1⟩, e⟩
theorem ziH (hs : s.length < 1000000000) (h : At s k r) : ∃ k', At s k' (r.dropWhile zt) ∧ zam (scn s k) = some (r.takeWhile zt, !(r.takeWhile zt == []), scn s k') := by
  obtain ⟨k', h1, h2⟩ := ziG zfX hs h
  refine ⟨k', h1, ?_⟩
  unfold zam
  rw [h2]; rfl
end
end Go.Dm
end
section
namespace Go.Dm
theorem ze6 (c : UInt8) (s : Str) : zw c s ≠ [] := by
  cases s with
  | nil => simp [zw]
  | cons x s =>
    unfold zw
    split
    · simp
    · split <;> simp
def zdu (p : Str) : List Str → List Str
  | [] => [p]
  | h :: t => (p ++ h) :: t
theorem zdS (c x : UInt8) (s : Str) : zw c (x :: s) = if x = c then [] :: zw c s else zdu [x] (zw c s) := by
  rw [zw]
  split
  · rfl
  · cases h : zw c s <;> rfl
theorem zi3 (l : List Str) (h : l ≠ []) : zdu [] l = l := by
  cases l with
  | nil => exact absurd rfl h
  | cons a t => rfl
theorem zhy (p q : Str) (l : List Str) (h : l ≠ []) : zdu p (zdu q l) = zdu (p ++ q) l := by
  cases l with
  | nil => exact absurd rfl h
  | cons a t => simp [zdu]
theorem zeu (c : UInt8) : ∀ (a s : Str), c ∉ a → zw c (a ++ s) = zdu a (zw c s)
  | [], s, _ => (zi3 _ (ze6 c s)).symm
  | x :: a, s, h => by
    have hx : ¬ x = c := fun e => h (by simp [e])
    rw [List.cons_append, zdS, if_neg hx, zeu c a s (fun e => h (List.mem_cons_of_mem _ e)), zhy _ _ _ (ze6 c s)]
    rfl
theorem zh8 {c : UInt8} {a : Str} (h : c ∉ a) : zw c a = [a] := by
  have := zeu c a [] h
  simpa [zw, zdu] using this
theorem zi4 {c : UInt8} {a : Str} (s : Str) (h : c ∉ a) : zw c (a ++ c :: s) = a :: zw c s := by
  rw [zeu c a _ h, zdS, if_pos rfl]
  simp [zdu]
theorem zgj (c : UInt8) : ∀ s : Str, (zw c s).length ≤ s.length + 1
  | [] => by simp [zw]
  | x :: s => by
    have ih := zgj c s
    rw [zdS]
    split
    · simp; omega
    · cases hl : zw c s with
      | nil => exact absurd hl (ze6 c s)
      | cons a t => rw [hl] at ih; simp [zdu] at ih ⊢; omega
end Go.Dm
end
section
namespace Go.Dm
def zkR (s : Str) (most : Int) : Bool := (readN 10 s most).2 == 0 && textN 10 (readN 10 s most).1 == s
def zjW (s : Str) : Bool := (zw 46 s).all (fun x => zkR x 255) && decide (((zw 46 s).length : Int) = 4)
def zjX : Str → Bool
  | [] => true
  | c :: s => if c == 37 then (match s with
    | a :: b :: r => cHex a && cHex b && zjX r
    | _ => false) else (cUnres c || cSub c) && zjX s
def zjY (s : Str) : Bool := !(s == []) && zjX s
def under (a b : Str) : Bool := zjY a && zjY b && !zjW a && !zjW b && (low a == low b || ((46 :: low b) : Str).isSuffixOf (low a))
end Go.Dm
end
section
namespace Go.Dm
def zaw (b : UInt8) : Bool := b == 32 || b == 9
def zdn (s : Str) : Str := s.dropWhile zaw
def zdo (s : Str) : Str := (s.reverse.dropWhile zaw).reverse
def zed (s : Str) : Str := zdn (zdo s)
theorem ziK (b : UInt8) : ([32, 9] : Str).contains b = zaw b := by
  simp only [zaw, List.contains_cons, List.contains_nil, Bool.or_false]
theorem zjK : zdo [] = [] := rfl
theorem zdV (s : Str) (c : UInt8) : zdo (s ++ [c]) = if zaw c then zdo s else s ++ [c] := by
  unfold zdo
  rw [List.reverse_append]
  simp only [List.reverse_cons, List.reverse_nil, List.nil_append, List.singleton_append, List.dropWhile_cons]
  split <;> simp
theorem zkL (s : Str) : (zdo s).length ≤ s.length := by
  unfold zdo
  rw [List.length_reverse]
  have := (List.dropWhile_suffix (l := s.reverse) zaw).length_le
  simpa using this
theorem zkM (s : Str) : (zdn s).length ≤ s.length := (List.dropWhile_suffix zaw).length_le
theorem zlt (s : Str) : (zed s).length ≤ s.length := Nat.le_trans (zkM _) (zkL _)
theorem ziL (s : Str) : (s.all zaw = true ∧ zdo s = []) ∨ ∃ a c b, s = a ++ c :: b ∧ zaw c = false ∧ b.all zaw = true ∧ zdo s = a ++ [c] := by
  rw [← List.reverse_reverse s]
  generalize s.reverse = r
  induction r with
  | nil => left; exact ⟨rfl, rfl⟩
  | cons x r ih =>
    rw [List.reverse_cons, zdV]
    rcases zgJ (zaw x) with h | h
    · rw [h]
      rcases ih with ⟨h1, h2⟩ | ⟨a, c, b, h1, h2, h3, h4⟩
      · left; refine ⟨?_, by simpa using h2⟩
        rw [List.all_append, h1]; simp [h]
      · right; refine ⟨a, c, b ++ [x], by rw [h1]; simp, h2, by rw [List.all_append, h3]; simp [h], by simpa using h4⟩
    · right; exact ⟨r.reverse, x, [], rfl, h, rfl, by simp [h]⟩
theorem zjL {s : Str} (h : s.all zaw = true) : zdn s = [] := by
  unfold zdn
  induction s with
  | nil => rfl
  | cons x s ih =>
    simp only [List.all_cons, Bool.and_eq_true] at h
    rw [List.dropWhile_cons, h.1]
    exact ih h.2
theorem zjM {a : Str} {c : UInt8} {b : Str} (hc : zaw c = false) : zdn (a ++ c :: b) = zdn (a ++ [c]) ++ b := by
  unfold zdn
  induction a with
  | nil => simp [List.dropWhile_cons, hc]
  | cons x a ih =>
    simp only [List.cons_append, List.dropWhile_cons]
    split
    · exact ih
    · simp
theorem zkN {a : Str} {c : UInt8} (hc : zaw c = false) : ∃ d, zdn (a ++ [c]) = d ++ [c] := by
  unfold zdn
  induction a with
  | nil => exact ⟨[], by simp [List.dropWhile_cons, hc]⟩
  | cons x a ih =>
    simp only [List.cons_append, List.dropWhile_cons]
    split
    · exact ih
    · exact ⟨x :: a, rfl⟩
theorem zjN {d : Str} {c : UInt8} {b : Str} (hc : zaw c = false) (hb : b.all zaw = true) : zdo (d ++ c :: b) = d ++ [c] := by
  rw [← List.reverse_reverse b] at *
  generalize b.reverse = r at *
  induction r with
  | nil => rw [List.reverse_nil, zdV, hc]; rfl
  | cons x r ih =>
    rw [List.reverse_cons, List.all_append] at hb
    simp only [Bool.and_eq_true, List.all_cons, List.all_nil, Bool.and_true] at hb
    rw [List.reverse_cons, ← List.cons_append, ← List.append_assoc, zdV, hb.2]
    exact ih hb.1
theorem zjO (s : Str) : zdo (zdn s) = zed s := by
  unfold zed
  rcases ziL s with ⟨h1, h2⟩ | ⟨a, c, b, h1, h2, h3, h4⟩
  · rw [h2, zjL h1]; rfl
  · rw [h4, h1, zjM h2]
    obtain ⟨d, hd⟩ := zkN (a := a) h2
    rw [hd, List.append_assoc]
    exact zjN h2 h3
theorem zkO (s : Str) : Go.Lib.trimS s [32, 9] = zed s := by
  unfold Go.Lib.trimS Go.Lib.trimLeftS Go.Lib.trimRightS zed zdn zdo
  have : (fun x => ([32, 9] : List UInt8).contains x) = zaw := by funext b; exact ziK b
  rw [this]
theorem zgu (s : Str) (hs : s.length < 1000000000) : zbk s [32, 9] = some (zed s) := by
  unfold zbk
  rw [if_pos ⟨by omega, by simp, by decide⟩, zkO]
theorem zc8 (b : UInt8) : zbE b = some (zaw b) :=
  of_decide_eq_true (zcw (fun b => decide (zbE b = some (zaw b))) (by decide +kernel) b)
theorem zcy : ∀ (k n : Nat) (s : Str), s.length = k → k < n → k < 1000000000 → zY n s = some (zdo s)
  | k, 0, s, _, h, _ => by omega
  | 0, n + 1, s, hk, h, _ => by
    have : s = [] := List.length_eq_zero_iff.1 hk
    subst this; rw [zY]; simp [zbt, zjK]
  | k + 1, n + 1, s, hk, h, hb => by
    obtain ⟨a, c, rfl⟩ : ∃ a c, s = a ++ [c] := by
      rcases List.eq_nil_or_concat s with rfl | ⟨a, c, rfl⟩
      · simp at hk
      · exact ⟨a, c, by simp⟩
    have hl : a.length = k := by simpa using hk
    have e : ((a ++ [c]).length : Int) - 1 = (a.length : Int) := by simp
    have h0 : (0 : Int) < ((a ++ [c]).length : Int) := by simp
    have e2 : sTo (a ++ [c]) (a.length : Int) = some a := by rw [zgy (by simp)]; simp
    rw [zY, zdV]
    rw [zgx (by omega) (by omega), e]
    simp only [h0, decide_true, if_true, Option.bind_some, zb0, List.getElem?_concat_length, zc8, zbt]
    rcases zgJ (zaw c) with h1 | h1
    · rw [h1]
      simp only [if_true, zgx (show -9223372036854775808 ≤ ((a ++ [c]).length : Int) - 1 by omega) (show ((a ++ [c]).length : Int) - 1 ≤ 9223372036854775807 by simp; omega), e, Option.bind_some, e2]
      exact zcy k n a hl (by omega) (by omega)
    · rw [h1]; simp
theorem zdG : ∀ (n : Nat) (s : Str), s.length < n → s.length < 1000000000 → zZ n s = some (zdo (zdn s))
  | 0, s, h, _ => by omega
  | n + 1, [], h, hb => by
    rw [zZ]
    simp only [List.length_nil, Int.natCast_zero, Int.lt_irrefl, decide_false, Bool.false_eq_true, if_false, zbu]
    exact zcy 0 fuel [] rfl (by decide) (by decide)
  | n + 1, x :: s, h, hb => by
    rw [zZ]
    have h0 : (0 : Int) < ((x :: s).length : Int) := by simp
    have e : zcT (x :: s) 1 = some s := by
      have := zb9 (l := x :: s) (i := 1) (by simp); simpa using this
    simp only [h0, decide_true, if_true, zfp, List.getElem?_cons_zero, Option.bind_some, zc8, zbu]
    rcases zgJ (zaw x) with h1 | h1
    · rw [h1]
      simp only [if_true, e, Option.bind_some]
      rw [zdG n s (by simp at h; omega) (by simp at hb; omega)]
      unfold zdn; simp [List.dropWhile_cons, h1]
    · rw [h1]
      simp only [Bool.false_eq_true, if_false]
      rw [zcy _ fuel _ rfl (by unfold fuel; omega) hb]
      unfold zdn; simp [List.dropWhile_cons, h1]
theorem zeT (s : Str) (hs : s.length < 1000000000) : zcE s = some (zed s) := by
  unfold zcE
  rw [zdG fuel s (by unfold fuel; omega) hs, zjO]
end Go.Dm
end
section
namespace Go.Dm
def zax : Str → Option (Str × Nat)
  | [] => none
  | c :: r => if c == 34 then some ([], 1) else if c == 92 then (match r with
      | [] => none
      | d :: t => if zfq d then (zax t).map (fun p => (d :: p.1, p.2 + 2)) else none)
    else if zfq c then (zax r).map (fun p => (c :: p.1, p.2 + 1)) else none
theorem zfH (r : Str) : zax (34 :: r) = some ([], 1) := by rw [zax.eq_def]; rfl
theorem zeX : zax [92] = none := by rw [zax.eq_def]; rfl
theorem zfI (d : UInt8) (t : Str) : zax (92 :: d :: t) = if zfq d then (zax t).map (fun p => (d :: p.1, p.2 + 2)) else none := by rw [zax.eq_def]; rfl
theorem zfJ {c : UInt8} (r : Str) (h1 : (c == 34) = false) (h2 : (c == 92) = false) : zax (c :: r) = if zfq c then (zax r).map (fun p => (c :: p.1, p.2 + 1)) else none := by
  rw [zax.eq_def]; simp only [h1, h2, Bool.false_eq_true, if_false]
theorem zfK {P : Str → Prop} (h0 : P []) (h1 : ∀ r, P (34 :: r)) (h2 : P [92]) (h3 : ∀ d t, P t → P (92 :: d :: t)) (h4 : ∀ c r, (c == 34) = false → (c == 92) = false → P r → P (c :: r)) : ∀ (n : Nat) (s : Str), s.length < n → P s
  | 0, s, h => by omega
  | n + 1, [], _ => h0
  | n + 1, c :: r, h => by
    simp only [List.length_cons] at h
    cases h34 : c == 34 with
    | true => have : c = 34 := by simpa using h34
              subst this; exact h1 r
    | false =>
      cases h92 : c == 92 with
      | true =>
        have : c = 92 := by simpa using h92
        subst this
        cases r with
        | nil => exact h2
        | cons d t => simp only [List.length_cons] at h; exact h3 d t (zfK h0 h1 h2 h3 h4 n t (by omega))
      | false => exact h4 c r h34 h92 (zfK h0 h1 h2 h3 h4 n r (by omega))
theorem zgC (s : Str) : ∀ p, zax s = some p → 1 ≤ p.2 ∧ p.2 ≤ s.length ∧ p.1.length + 1 ≤ p.2 := by
  refine zfK (P := fun s => ∀ p, zax s = some p → 1 ≤ p.2 ∧ p.2 ≤ s.length ∧ p.1.length + 1 ≤ p.2) ?_ ?_ ?_ ?_ ?_ (s.length + 1) s (by omega)
  · intro p h; cases h
  · intro r p h; rw [zfH] at h; cases h; simp
  · intro p h; rw [zeX] at h; cases h
  · intro d t ih p h
    rw [zfI] at h
    split at h
    · obtain ⟨q, hq, rfl⟩ := Option.map_eq_some_iff.1 h
      have := ih q hq
      simp only [List.length_cons]; omega
    · cases h
  · intro c r h1 h2 ih p h
    rw [zfJ r h1 h2] at h
    split at h
    · obtain ⟨q, hq, rfl⟩ := Option.map_eq_some_iff.1 h
      have := ih q hq
      simp only [List.length_cons]; omega
    · cases h
def zbz : Nat → Str → Option Nat
  | 0, _ => some 0
  | _ + 1, [] => none
  | d + 1, c :: r => if c == 40 then (zbz (d + 2) r).map (· + 1) else if c == 41 then (zbz d r).map (· + 1) else if c == 92 then (match r with
      | [] => none
      | _ :: t => (zbz (d + 1) t).map (· + 2)) else (zbz (d + 1) r).map (· + 1)
theorem zfL (s : Str) : zbz 0 s = some 0 := by cases s <;> rfl
theorem zeB (d : Nat) (r : Str) : zbz (d + 1) (40 :: r) = (zbz (d + 2) r).map (· + 1) := by rw [zbz.eq_def]; rfl
theorem zdH (d : Nat) (r : Str) : zbz (d + 1) (41 :: r) = (zbz d r).map (· + 1) := by rw [zbz.eq_def]; rfl
theorem zfM (d : Nat) : zbz (d + 1) [92] = none := by rw [zbz.eq_def]; rfl
theorem zfc (d : Nat) (c : UInt8) (t : Str) : zbz (d + 1) (92 :: c :: t) = (zbz (d + 1) t).map (· + 2) := by rw [zbz.eq_def]; rfl
theorem zfd (d : Nat) {c : UInt8} (r : Str) (h1 : (c == 40) = false) (h2 : (c == 41) = false) (h3 : (c == 92) = false) : zbz (d + 1) (c :: r) = (zbz (d + 1) r).map (· + 1) := by
  rw [zbz.eq_def]; simp only [h1, h2, h3, Bool.false_eq_true, if_false]
theorem zid {P : Str → Prop} (h0 : P []) (h1 : ∀ r, P r → P (40 :: r)) (h2 : ∀ r, P r → P (41 :: r)) (h3 : P [92]) (h4 : ∀ d t, P t → P (92 :: d :: t)) (h5 : ∀ c r, (c == 40) = false → (c == 41) = false → (c == 92) = false → P r → P (c :: r)) : ∀ (n : Nat) (s : Str), s.length < n → P s
  | 0, s, h => by omega
  | n + 1, [], _ => h0
  | n + 1, c :: r, h => by
    simp only [List.length_cons] at h
    have ih := fun t ht => zid h0 h1 h2 h3 h4 h5 n t ht
    cases c40 : c == 40 with
    | true => have : c = 40 := by simpa using c40
              subst this; exact h1 r (ih r (by omega))
    | false =>
      cases c41 : c == 41 with
      | true => have : c = 41 := by simpa using c41
                subst this; exact h2 r (ih r (by omega))
      | false =>
        cases c92 : c == 92 with
        | true =>
          have : c = 92 := by simpa using c92
          subst this
          cases r with
          | nil => exact h3
          | cons d t => simp only [List.length_cons] at h; exact h4 d t (ih t (by omega))
        | false => exact h5 c r c40 c41 c92 (ih r (by omega))
theorem zkS (s : Str) : ∀ d n, zbz d s = some n → n ≤ s.length := by
  refine zid (P := fun s => ∀ d n, zbz d s = some n → n ≤ s.length) ?_ ?_ ?_ ?_ ?_ ?_ (s.length + 1) s (by omega)
  · intro d n h; cases d with
    | zero => cases h; simp
    | succ d => cases h
  · intro r ih d n h; cases d with
    | zero => cases h; simp
    | succ d => rw [zeB] at h; obtain ⟨m, hm, rfl⟩ := Option.map_eq_some_iff.1 h; have := ih _ _ hm; simp only [List.length_cons]; omega
  · intro r ih d n h; cases d with
    | zero => cases h; simp
    | succ d => rw [zdH] at h; obtain ⟨m, hm, rfl⟩ := Option.map_eq_some_iff.1 h; have := ih _ _ hm; simp only [List.length_cons]; omega
  · intro d n h; cases d with
    | zero => cases h; simp
    | succ d => rw [zfM] at h; cases h
  · intro c t ih d n h; cases d with
    | zero => cases h; simp
    | succ d => rw [zfc] at h; obtain ⟨m, hm, rfl⟩ := Option.map_eq_some_iff.1 h; have := ih _ _ hm; simp only [List.length_cons]; omega
  · intro c r h1 h2 h3 ih d n h; cases d with
    | zero => cases h; simp
    | succ d => rw [zfd d r h1 h2 h3] at h; obtain ⟨m, hm, rfl⟩ := Option.map_eq_some_iff.1 h; have := ih _ _ hm; simp only [List.length_cons]; omega
def za8 (c : UInt8) (r : Str) : Nat := if c == 34 then (match zax r with | some p => p.2 + 1 | none => 0) else (match zbz 1 r with | some n => n + 1 | none => 0)
theorem zie (c : UInt8) (r : Str) : za8 c r ≤ r.length + 1 := by
  unfold za8
  split
  · cases h : zax r with
    | none => simp
    | some p => have := zgC r p h; dsimp only; omega
  · cases h : zbz 1 r with
    | none => simp
    | some n => have := zkS r 1 n h; dsimp only; omega
def zcc : Nat → Str → Str → Option (List Str)
  | _, cur, [] => some [cur]
  | k + 1, cur, c :: r => zcc k (cur ++ [c]) r
  | 0, cur, c :: r => if c == 34 || c == 40 then (if za8 c r = 0 then none else zcc (za8 c r - 1) (cur ++ [c]) r) else if c == 44 then (zcc 0 [] r).map (cur :: ·) else zcc 0 (cur ++ [c]) r
theorem zgD (k : Nat) (cur : Str) : zcc k cur [] = some [cur] := by cases k <;> rfl
theorem zjn (k : Nat) (cur : Str) (c : UInt8) (r : Str) : zcc (k + 1) cur (c :: r) = zcc k (cur ++ [c]) r := rfl
theorem zhR (cur : Str) {c : UInt8} (r : Str) (h : (c == 34 || c == 40) = true) : zcc 0 cur (c :: r) = if za8 c r = 0 then none else zcc (za8 c r - 1) (cur ++ [c]) r := by
  rw [zcc, if_pos h]
theorem zeY (cur r : Str) : zcc 0 cur (44 :: r) = (zcc 0 [] r).map (cur :: ·) := by rw [zcc]; rfl
theorem zgE (cur : Str) {c : UInt8} (r : Str) (h : (c == 34 || c == 40) = false) (h2 : (c == 44) = false) : zcc 0 cur (c :: r) = zcc 0 (cur ++ [c]) r := by
  rw [zcc, if_neg (by rw [h]; decide), if_neg (by rw [h2]; decide)]
theorem zfN : ∀ (k : Nat) (cur s : Str), k ≤ s.length → zcc k cur s = zcc 0 (cur ++ s.take k) (s.drop k)
  | 0, cur, s, _ => by simp
  | k + 1, cur, [], h => by simp at h
  | k + 1, cur, c :: r, h => by
    rw [zjn, zfN k _ r (by simpa using h)]
    simp
def elems (l : List Str) : List Str := (l.map zed).filter (fun x => !(x == []))
def zfO (s : Str) : Option (List Str) := (zcc 0 [] s).map elems
theorem zjo (a b : List Str) : elems (a ++ b) = elems a ++ elems b := by simp [elems]
end Go.Dm
end
section
namespace Go.Dm
section
variable {s r : Str} {k : Nat}
theorem zdQ (s : Str) (k : Nat) : (⟨s, (k : Int)⟩ : scan_Scanner) = scn s k := rfl
theorem ziB (b : UInt8) (r : Str) : (zah b r).length ≤ r.length := by unfold zah; split <;> simp
def zgg (r : Str) : Option (UInt8 × Str) := match zah 92 r with
  | [] => none
  | c :: t => if zfq c then some (c, t) else none
theorem zjF {c : UInt8} {t : Str} (h : zgg r = some (c, t)) : t.length < r.length := by
  unfold zgg at h
  have := ziB 92 r
  cases hb : zah 92 r with
  | nil => rw [hb] at h; cases h
  | cons d u =>
    rw [hb] at h this
    simp only at h
    split at h
    · cases h; simp only [List.length_cons] at this; omega
    · cases h
theorem zlp (hs : s.length < 1000000000) (out : Str) (ho : out.length < 1000000000) (h : At s k r) :
    (∀ c t, zgg r = some (c, t) → ∃ k', At s k' t ∧ k ≤ k' ∧ zal ⟨scn s k, out⟩ = some (true, ⟨scn s k', out ++ [c]⟩)) ∧
    (zgg r = none → ∃ k', k' ≤ s.length ∧ k ≤ k' ∧ zal ⟨scn s k, out⟩ = some (false, ⟨scn s k', out⟩)) := by
  unfold zal zgg
  obtain ⟨k1, h1, e1⟩ := zdm hs 92 h
  have hk : k ≤ k1 := by have := h.len; have := h1.len; have := ziB 92 r; omega
  show (∀ c t, _ → ∃ k', _ ∧ _ ∧ (zf (scn s k) 92).bind _ = _) ∧ (_ → ∃ k', _ ∧ _ ∧ (zf (scn s k) 92).bind _ = _)
  rw [e1]
  simp only [Option.bind_some]
  rw [zgz h1]
  cases hb : zah 92 r with
  | nil =>
    rw [hb] at h1
    refine ⟨fun c t h => (by cases h), fun _ => ⟨k1, h1.le, hk, rfl⟩⟩
  | cons d u =>
    rw [hb] at h1
    simp only [zjj, Option.bind_some, Bool.not_true, Bool.false_eq_true, if_false, zfY]
    unfold zai
    obtain ⟨k2, h2, e2⟩ := zdm hs d h1
    rw [zbj, zaz] at *
    cases hv : zfq d with
    | false => exact ⟨fun c t h => by simp at h, fun _ => ⟨k1, h1.le, hk, by simp⟩⟩
    | true =>
      refine ⟨fun c t h => ?_, fun h => by simp at h⟩
      simp at h
      obtain ⟨rfl, rfl⟩ := h
      refine ⟨k2, h2, by have := h1.len; have := h2.len; simp only [List.length_cons] at *; omega, ?_⟩
      rw [if_neg (by decide), if_pos (zcX (n := out.length) (m := 1) (by omega) (by omega)), e2]
      simp
theorem zi1 (r : Str) : zax r = if zbR 34 r then some ([], 1) else match zgg r with
    | none => none
    | some (c, t) => (zax t).map (fun p => (c :: p.1, p.2 + (r.length - t.length))) := by
  cases r with
  | nil => rfl
  | cons c r =>
    rw [zaz]
    cases h34 : c == 34 with
    | true => have : c = 34 := by simpa using h34
              subst this; rw [zfH]; rfl
    | false =>
      rw [if_neg (by decide)]
      unfold zgg
      cases h92 : c == 92 with
      | true =>
        have : c = 92 := by simpa using h92
        subst this
        rw [zbj]
        cases r with
        | nil => exact zeX
        | cons d t =>
          rw [zfI]
          dsimp only
          cases zfq d with
          | false => rfl
          | true =>
            rw [if_pos rfl, if_pos rfl]
            dsimp only
            congr 1
            funext p
            congr 2
            simp only [List.length_cons]; omega
      | false =>
        rw [ze5 (by rw [zaz]; exact h92), zfJ r h34 h92]
        dsimp only
        cases zfq c with
        | false => rfl
        | true =>
          rw [if_pos rfl, if_pos rfl]
          dsimp only
          congr 1
          funext p
          congr 2
          simp only [List.length_cons]; omega
theorem zh4 {s : Str} {k k0 : Nat} (h : k0 ≤ k) : zaW (scn s k) (k0 : Int) = some (true, scn s k0) := by
  unfold zaW
  rw [decide_eq_false (show ¬ ((k0 : Int) < 0) by omega), if_neg (by decide), zdT, Option.bind_some]
  unfold zas
  rw [decide_eq_false (show ¬ ((k : Int) < (k0 : Int)) by omega), if_neg (by decide)]
  rfl
theorem zd7 (k0 n : Nat) (hk : k0 ≤ k) (out : Str) : zL (k0 : Int) (n + 1) s (k : Int) out false = some ([], false, scn s k0) := by
  rw [zL, if_neg (by decide)]
  unfold zbc zbB
  rw [if_neg (by decide), Bool.not_false, if_pos rfl, zdQ, zh4 hk, Option.bind_some]
theorem zfu (hs : s.length < 1000000000) (k0 : Nat) : ∀ (n : Nat) (r : Str) (k : Nat) (out : Str), r.length + 1 < n → At s k r → k0 ≤ k → out.length ≤ k →
    zL (k0 : Int) n s (k : Int) out true = some (match zax r with | some p => (out ++ p.1, true, scn s (k + p.2)) | none => ([], false, scn s k0))
  | 0, _, _, _, h, _, _, _ => by omega
  | n + 1, r, k, out, hn, h, hk, ho => by
    rw [zL, if_pos rfl, zdQ]
    obtain ⟨k1, h1, e1⟩ := zdm hs 34 h
    have hkl := h.le
    rw [e1, Option.bind_some]
    unfold zbc
    rw [zi1]
    cases hb : zbR 34 r with
    | true =>
      rw [Bool.not_true, if_neg (by decide), if_pos rfl]
      have hr := zc6 hb
      have hk1 : k1 = k + 1 := by
        have := h.len; have := h1.len
        have := congrArg List.length hr
        simp only [List.length_cons] at this; omega
      subst hk1
      unfold zbB
      rw [Bool.not_true, if_neg (by decide)]
      simp [scn]
    | false =>
      rw [ze5 hb] at h1
      have hk1 : k1 = k := by have := h.len; have := h1.len; omega
      subst hk1
      rw [Bool.not_false, if_pos rfl, if_neg (by decide)]
      dsimp only [scn]
      rw [zdQ]
      have hx := zlp hs out (by omega) h
      cases hq : zgg r with
      | none =>
        obtain ⟨k2, g1, g2, e2⟩ := hx.2 hq
        rw [e2, Option.bind_some]
        obtain ⟨m, rfl⟩ : ∃ m, n = m + 1 := ⟨n - 1, by omega⟩
        exact zd7 k0 m (by omega) out
      | some ct =>
        obtain ⟨c, t⟩ := ct
        obtain ⟨k2, g1, g2, e2⟩ := hx.1 c t hq
        have hl := zjF hq
        have l1 := h.len
        have l2 := g1.len
        rw [e2, Option.bind_some]
        have ih := zfu hs k0 n t k2 (out ++ [c]) (by omega) g1 (by omega) (by simp; omega)
        dsimp only [scn]
        rw [ih]
        cases zax t with
        | none => rfl
        | some p =>
          simp only [Option.map_some, List.append_assoc, List.singleton_append]
          have : k2 + p.2 = k1 + (p.2 + (r.length - t.length)) := by omega
          exact congrArg (fun k => some (out ++ c :: p.1, true, scn s k)) this
def zd8 (r : Str) : Option (Str × Nat) := if zbR 34 r then (zax (zah 34 r)).map (fun p => (p.1, p.2 + 1)) else none
theorem zc5 (hs : s.length < 1000000000) (h : At s k r) : zca (scn s k) = some (match zd8 r with | some p => (p.1, true, scn s (k + p.2)) | none => ([], false, scn s k)) := by
  unfold zca zd8
  rw [zdT, Option.bind_some]
  obtain ⟨k1, h1, e1⟩ := zdm hs 34 h
  rw [e1, Option.bind_some]
  have l0 := h.len
  have l1 := h1.len
  cases hb : zbR 34 r with
  | false =>
    rw [ze5 hb] at h1
    have hk1 : k1 = k := by have := h1.len; omega
    subst hk1
    exact zd7 k1 999999999999999999 (Nat.le_refl _) []
  | true =>
    have hr := congrArg List.length (zc6 hb)
    simp only [List.length_cons] at hr
    have hk1 : k1 = k + 1 := by omega
    subst hk1
    have := zfu hs k fuel (zah 34 r) (k + 1) [] (by unfold fuel; omega) h1 (by omega) (by simp)
    dsimp only [scn] at this ⊢
    rw [this, if_pos rfl]
    cases zax (zah 34 r) with
    | none => rfl
    | some p => simp only [Option.map_some, List.nil_append]; rw [show k + 1 + p.2 = k + (p.2 + 1) by omega]
theorem za0 (hs : s.length < 1000000000) (p : commas_splitter) : ∀ (n : Nat) (r : Str) (k d : Nat), r.length + 1 < n → At s k r → d ≤ k + 1 →
    ∃ k', (∀ m, zbz d r = some m → k' = k + m) ∧ k' ≤ s.length ∧ zg p n s (k : Int) (d : Int) = some ((zbz d r).isSome, ⟨scn s k', p.f_out, p.f_from, p.f_s⟩)
  | 0, _, _, _, h, _, _ => by omega
  | n + 1, r, k, 0, hn, h, hd => by
    refine ⟨k, fun m hm => (by rw [zfL] at hm; cases hm; rfl), h.le, ?_⟩
    rw [zg, zfL]
    rfl
  | n + 1, r, k, d + 1, hn, h, hd => by
    have hl := h.len
    rw [zg, decide_eq_true (show (0 : Int) < ((d + 1 : Nat) : Int) by omega), if_pos rfl, zdQ, zgz h, Option.bind_some]
    cases r with
    | nil => exact ⟨k, fun m hm => (by cases hm), h.le, rfl⟩
    | cons c t =>
      simp only [List.length_cons] at hn hl
      obtain ⟨k1, h1, e1⟩ := zdm hs c h
      rw [zbj] at h1
      have hk1 : k1 = k + 1 := by have := h1.len; omega
      subst hk1
      have i1 : zV ((d + 1 : Nat) : Int) 1 = some ((d + 2 : Nat) : Int) := zB (by omega)
      have i2 : zeZ ((d + 1 : Nat) : Int) 1 = some (d : Int) := by rw [zgx (by omega) (by omega)]; simp
      rw [show (zjj (c :: t)) = (c, true) from rfl]
      dsimp only
      rw [Bool.not_true, if_neg (by decide), e1, Option.bind_some, i1, Option.bind_some, i2, Option.bind_some]
      dsimp only [scn]
      rw [zdQ, zgz h1, Option.bind_some]
      cases c40 : c == 40 with
      | true =>
        have : c = 40 := by simpa using c40
        subst this
        obtain ⟨k', g1, g2, g3⟩ := za0 hs p n t (k + 1) (d + 2) (by omega) h1 (by omega)
        refine ⟨k', fun m hm => ?_, g2, ?_⟩
        · rw [zeB] at hm; obtain ⟨m', hm', rfl⟩ := Option.map_eq_some_iff.1 hm; rw [g1 m' hm']; omega
        · rw [if_pos rfl, g3, zeB]; simp [scn]
      | false =>
        rw [if_neg (by decide)]
        cases c41 : c == 41 with
        | true =>
          have : c = 41 := by simpa using c41
          subst this
          obtain ⟨k', g1, g2, g3⟩ := za0 hs p n t (k + 1) d (by omega) h1 (by omega)
          refine ⟨k', fun m hm => ?_, g2, ?_⟩
          · rw [zdH] at hm; obtain ⟨m', hm', rfl⟩ := Option.map_eq_some_iff.1 hm; rw [g1 m' hm']; omega
          · rw [if_pos rfl, g3, zdH]; simp [scn]
        | false =>
          rw [if_neg (by decide)]
          cases c92 : c == 92 with
          | true =>
            have : c = 92 := by simpa using c92
            subst this
            rw [if_pos rfl]
            cases t with
            | nil =>
              obtain ⟨k', g1, g2, g3⟩ := za0 hs p n [] (k + 1) (d + 1) (by simp; omega) h1 (by omega)
              exact ⟨k', fun m hm => (by rw [zfM] at hm; cases hm), g2, by rw [if_neg (by decide), g3]; rfl⟩
            | cons x u =>
              simp only [List.length_cons] at hn hl
              obtain ⟨k2, h2, e2⟩ := zdm hs x h1
              rw [zbj] at h2
              have hk2 : k2 = k + 2 := by have := h2.len; omega
              subst hk2
              obtain ⟨k', g1, g2, g3⟩ := za0 hs p n u (k + 2) (d + 1) (by omega) h2 (by omega)
              dsimp only [scn] at e2 g3 ⊢
              refine ⟨k', fun m hm => ?_, g2, ?_⟩
              · rw [zfc] at hm; obtain ⟨m', hm', rfl⟩ := Option.map_eq_some_iff.1 hm; rw [g1 m' hm']; omega
              · rw [show (zjj (x :: u)) = (x, true) from rfl]
                dsimp only
                rw [if_pos rfl, e2, Option.bind_some, g3, zfc]; simp
          | false =>
            obtain ⟨k', g1, g2, g3⟩ := za0 hs p n t (k + 1) (d + 1) (by omega) h1 (by omega)
            refine ⟨k', fun m hm => ?_, g2, ?_⟩
            · rw [zfd d t c40 c41 c92] at hm; obtain ⟨m', hm', rfl⟩ := Option.map_eq_some_iff.1 hm; rw [g1 m' hm']; omega
            · rw [if_neg (by decide), g3, zfd d t c40 c41 c92]; simp [scn]
def mid (s : Str) (a b : Nat) : Str := (s.take b).drop a
theorem zfv {a n : Nat} (h : At s k r) (ha : a ≤ k) (hn : n ≤ r.length) : mid s a (k + n) = mid s a k ++ r.take n := by
  unfold mid
  have hl := h.len
  rw [List.take_add, h.drop, List.drop_append_of_le_length (by simp; omega)]
theorem zfw (s : Str) (a : Nat) : mid s a a = [] := by unfold mid; simp
theorem zjh (s : Str) (a b : Nat) : (mid s a b).length ≤ s.length := by unfold mid; simp; omega
def zgh (out : List Str) (x : Str) : List Str := if zed x == [] then out else out ++ [zed x]
theorem ziC (out : List Str) (x : Str) : zgh out x = out ++ elems [x] := by
  unfold zgh elems
  rw [List.map_cons, List.map_nil, List.filter_cons]
  cases h : zed x == [] with
  | true => rw [if_pos rfl, Bool.not_true, if_neg (by decide), List.filter_nil, List.append_nil]
  | false => rw [if_neg (by decide), Bool.not_false, if_pos rfl, List.filter_nil]
theorem zjG (out : List Str) (x : Str) : (zgh out x).length ≤ out.length + 1 := by unfold zgh; split <;> simp
theorem zkG (hs : s.length < 1000000000) (out : List Str) (ho : out.length < 4000000000) (a b pos : Nat) (ha : a ≤ b) (hb : b ≤ s.length) : zac ⟨scn s pos, out, (a : Int), s⟩ (b : Int) = some ⟨scn s pos, zgh out (mid s a b), (pos : Int), s⟩ := by
  unfold zac
  have hl := zjh s a b
  rw [zdD ha hb, Option.bind_some]
  show (zbk (mid s a b) [32, 9]).bind _ = _
  rw [zgu _ (by omega), Option.bind_some]
  unfold z6 zgh
  show (if (!(zed (mid s a b) == [])) = true then _ else _) = _
  cases zed (mid s a b) == [] with
  | true => rfl
  | false => rw [Bool.not_false, if_pos rfl, if_pos (zcX (n := out.length) (m := 1) (by omega) (by omega))]; rfl
theorem zgi (t : Str) : za8 34 t = match zax t with | some p => p.2 + 1 | none => 0 := rfl
theorem zha (t : Str) : za8 40 t = match zbz 1 t with | some n => n + 1 | none => 0 := rfl
theorem zlq (hs : s.length < 1000000000) (out : List Str) (ho : out.length ≤ k) (a : Nat) (ha : a ≤ k) (c : UInt8) (t : Str) (h : At s k (c :: t)) :
    (c = 44 → zD ⟨scn s k, out, (a : Int), s⟩ = some (true, ⟨scn s (k + 1), zgh out (mid s a k), ((k + 1 : Nat) : Int), s⟩)) ∧
    ((c == 34 || c == 40) = true → za8 c t ≠ 0 → zD ⟨scn s k, out, (a : Int), s⟩ = some (true, ⟨scn s (k + za8 c t), out, (a : Int), s⟩)) ∧
    ((c == 34 || c == 40) = true → za8 c t = 0 → ∃ p, zD ⟨scn s k, out, (a : Int), s⟩ = some (false, p)) ∧
    ((c == 34 || c == 40) = false → (c == 44) = false → zD ⟨scn s k, out, (a : Int), s⟩ = some (true, ⟨scn s (k + 1), out, (a : Int), s⟩)) := by
  have hl := h.len
  simp only [List.length_cons] at hl
  have e44 := zcg 44 h.le hs h.drop
  have e40 := zcg 40 h.le hs h.drop
  have ec := zcg c h.le hs h.drop
  rw [beq_self_eq_true, if_pos rfl] at ec
  unfold zD
  rw [show (⟨scn s k, out, (a : Int), s⟩ : commas_splitter).Scanner = scn s k from rfl, zdT, Option.bind_some]
  have hno : (c == 34 || c == 40) = true → (c == 44) = false := fun hc => by
    cases h4 : c == 44 with
    | false => rfl
    | true => have : c = 44 := by simpa using h4
              subst this; exact absurd hc (by decide)
  have n44 : (c == 44) = false → zf (scn s k) 44 = some (false, scn s k) := fun h => by rw [e44, h]; rfl
  have n40 : (c == 40) = false → zf (scn s k) 40 = some (false, scn s k) := fun h => by rw [e40, h]; rfl
  have y40 : c = 40 → zf (scn s k) 40 = some (true, scn s (k + 1)) := fun h => by rw [e40, h]; rfl
  have pk : zn (scn s k) = some (c, true) := zgz h
  refine ⟨fun hc => ?_, fun hc hp => ?_, fun hc hp => ?_, fun hc h44 => ?_⟩
  · subst hc
    have y44 : zf (scn s k) 44 = some (true, scn s (k + 1)) := e44
    rw [y44, Option.bind_some]
    dsimp only
    rw [if_pos rfl, zkG hs out (by omega) a k (k + 1) ha h.le, Option.bind_some]
    rfl
  · rw [n44 (hno hc), Option.bind_some]
    dsimp only
    rw [if_neg (by decide)]
    cases h40 : c == 40 with
    | true =>
      have : c = 40 := by simpa using h40
      subst this
      have h1 := h.next 1 (by simp)
      obtain ⟨k', g1, _, g3⟩ := za0 hs ⟨scn s (k + 1), out, (a : Int), s⟩ fuel t (k + 1) 1 (by unfold fuel; omega) h1 (by omega)
      rw [zha] at hp ⊢
      rw [y40 rfl, Option.bind_some]
      dsimp only
      rw [if_pos rfl]
      unfold zU
      cases hm : zbz 1 t with
      | none => rw [hm] at hp; exact absurd rfl hp
      | some m =>
        rw [hm] at g3
        have hk' := g1 m hm
        subst hk'
        have g3 : zg ⟨scn s (k + 1), out, (a : Int), s⟩ fuel (scn s (k + 1)).f_s (scn s (k + 1)).f_at 1 = some (true, ⟨scn s (k + 1 + m), out, (a : Int), s⟩) := g3
        dsimp only
        rw [g3, Option.bind_some, show k + 1 + m = k + (m + 1) by omega]
    | false =>
      have h34 : c = 34 := by rw [h40, Bool.or_false] at hc; simpa using hc
      subst h34
      rw [zgi] at hp ⊢
      rw [n40 h40, Option.bind_some]
      dsimp only
      rw [if_neg (by decide), pk, Option.bind_some]
      dsimp only
      rw [if_pos (by decide), zc5 hs h, Option.bind_some]
      unfold zd8
      rw [zaz, zbj]
      cases hq : zax t with
      | none => rw [hq] at hp; exact absurd rfl hp
      | some p => rfl
  · rw [n44 (hno hc), Option.bind_some]
    dsimp only
    rw [if_neg (by decide)]
    cases h40 : c == 40 with
    | true =>
      have : c = 40 := by simpa using h40
      subst this
      have h1 := h.next 1 (by simp)
      obtain ⟨k', g1, _, g3⟩ := za0 hs ⟨scn s (k + 1), out, (a : Int), s⟩ fuel t (k + 1) 1 (by unfold fuel; omega) h1 (by omega)
      rw [zha] at hp
      rw [y40 rfl, Option.bind_some]
      dsimp only
      rw [if_pos rfl]
      unfold zU
      cases hm : zbz 1 t with
      | some m => rw [hm] at hp; exact absurd hp (by simp)
      | none =>
        rw [hm] at g3
        have g3 : zg ⟨scn s (k + 1), out, (a : Int), s⟩ fuel (scn s (k + 1)).f_s (scn s (k + 1)).f_at 1 = some (false, ⟨scn s k', out, (a : Int), s⟩) := g3
        dsimp only
        exact ⟨_, by rw [g3, Option.bind_some]⟩
    | false =>
      have h34 : c = 34 := by rw [h40, Bool.or_false] at hc; simpa using hc
      subst h34
      rw [zgi] at hp
      rw [n40 h40, Option.bind_some]
      dsimp only
      rw [if_neg (by decide), pk, Option.bind_some]
      dsimp only
      rw [if_pos (by decide), zc5 hs h, Option.bind_some]
      unfold zd8
      rw [zaz, zbj]
      cases hq : zax t with
      | some p => rw [hq] at hp; exact absurd hp (by simp)
      | none => exact ⟨_, rfl⟩
  · simp only [Bool.or_eq_false_iff] at hc
    rw [n44 h44, Option.bind_some]
    dsimp only
    rw [if_neg (by decide), n40 hc.2, Option.bind_some]
    dsimp only
    rw [if_neg (by decide), pk, Option.bind_some]
    dsimp only
    rw [hc.1, if_neg (by decide), ec, Option.bind_some]
    rfl
def zbi (s : Str) : List Str × Int := match zfO s with
  | some l => (l, 0)
  | none => ([], 2)
theorem zdl (hs : s.length < 1000000000) : ∀ (n : Nat) (r : Str) (k a : Nat) (out : List Str), r.length < n → At s k r → a ≤ k → out.length ≤ k →
    zaf s n out (a : Int) s s (k : Int) = some (match zcc 0 (mid s a k) r with | some l => (out ++ elems l, 0) | none => ([], 2))
  | 0, _, _, _, _, h, _, _, _ => by omega
  | n + 1, r, k, a, out, hn, h, ha, ho => by
    have hl := h.len
    rw [zaf, zdQ, zkH h, Option.bind_some]
    cases r with
    | nil =>
      have hk : k = s.length := by simpa using hl
      subst hk
      unfold zb2
      rw [zdQ, zkG hs out (by omega) a s.length s.length ha (Nat.le_refl _), Option.bind_some, zgD]
      dsimp only
      rw [ziC]
      rfl
    | cons c t =>
      simp only [List.length_cons] at hn hl
      obtain ⟨s1, s2, s3, s4⟩ := zlq hs out ho a ha c t h
      have hne : (!((c :: t : Str) == [])) = true := rfl
      have m1 := zfv (a := a) (n := 1) h ha (by simp)
      rw [hne, if_pos rfl]
      cases hc : (c == 34 || c == 40) with
      | true =>
        rw [zhR _ t hc]
        by_cases hp : za8 c t = 0
        · obtain ⟨p, e⟩ := s3 hc hp
          rw [if_pos hp, e, Option.bind_some]
          rfl
        · have hple := zie c t
          rw [if_neg hp, s2 hc hp, Option.bind_some]
          have hat := h.next (za8 c t) (by simp; omega)
          have ih := zdl hs n _ (k + za8 c t) a out (by simp; omega) hat (by omega) (by omega)
          rw [zfv h ha (by simp; omega)] at ih
          obtain ⟨q, hq⟩ : ∃ q, za8 c t = q + 1 := ⟨za8 c t - 1, by omega⟩
          rw [hq] at ih hple ⊢
          rw [Nat.add_sub_cancel, zfN q _ t (by omega)]
          dsimp only [scn]
          rw [Bool.not_true, if_neg (by decide), ih]
          simp
      | false =>
        cases h44 : c == 44 with
        | true =>
          have : c = 44 := by simpa using h44
          subst this
          rw [s1 rfl, Option.bind_some, zeY]
          have hat := h.next 1 (by simp)
          have hpl := zjG out (mid s a k)
          have ih := zdl hs n t (k + 1) (k + 1) (zgh out (mid s a k)) (by omega) hat (Nat.le_refl _) (by omega)
          rw [zfw] at ih
          dsimp only [scn]
          rw [Bool.not_true, if_neg (by decide), ih]
          cases zcc 0 [] t with
          | none => rfl
          | some l =>
            simp only [Option.map_some]
            rw [ziC, show mid s a k :: l = [mid s a k] ++ l from rfl, zjo, List.append_assoc]
        | false =>
          rw [s4 hc h44, Option.bind_some, zgE _ t hc h44]
          have hat := h.next 1 (by simp)
          have ih := zdl hs n t (k + 1) a out (by omega) hat (by omega) (by omega)
          rw [m1] at ih
          dsimp only [scn]
          rw [Bool.not_true, if_neg (by decide), ih]
          rfl
theorem zgq (s : Str) (hs : s.length < 1000000000) : zck s = some (zbi s) := by
  unfold zck zbi zfO
  rw [zgk, Option.bind_some]
  have := zdl hs fuel s 0 0 [] (by unfold fuel; omega) (At.zero s) (Nat.le_refl _) (by simp)
  rw [zfw] at this
  show zaf s fuel [] ((0 : Nat) : Int) s s ((0 : Nat) : Int) = _
  rw [this]
  cases zcc 0 [] s with
  | none => rfl
  | some l => rfl
end
end Go.Dm
end
section
namespace Go.Dm
theorem zjZ {s : Str} {i : Nat} {c : UInt8} (h : s[i]? = some c) : zfe s (i : Int) ((i + 1 : Nat) : Int) = some [c] := by
  have hlt := (List.getElem?_eq_some_iff.1 h).1
  rw [zdD (by omega) (by omega), List.drop_take, show i + 1 - i = 1 by omega, List.drop_eq_getElem_cons hlt, List.take_succ_cons, List.take_zero, (List.getElem?_eq_some_iff.1 h).2]
theorem zf6 (rec2 : Str → Int → Option (Str × Int)) (s out : Str) (i : Nat) (c : UInt8) (h : s[i]? = some c) (hs : s.length < 1000000000) (ho : out.length < 1000000000) (q : Bool) :
    zaL rec2 s out (i : Int) q = if q then some ([], 0) else rec2 (out ++ [c]) ((i + 1 : Nat) : Int) := by
  have hlt := (List.getElem?_eq_some_iff.1 h).1
  unfold zaL
  rw [zB (by omega), Option.bind_some, zjZ h, Option.bind_some, zjb (by simp; omega), Option.bind_some, Option.bind_some]
theorem zeh (s : Str) (hs : s.length < 1000000000) : ∀ (n i : Nat) (out : Str), i ≤ s.length → s.length - i < n → out.length ≤ i →
    zN s n out (i : Int) = some (match zax (s.drop i) with | some p => (out ++ p.1, ((i + p.2 : Nat) : Int)) | none => ([], 0))
  | 0, _, _, _, h, _ => by omega
  | n + 1, i, out, hi, h, ho => by
    rw [zN]
    cases hd : s.drop i with
    | nil =>
      have : i = s.length := by have := congrArg List.length hd; simp at this; omega
      rw [decide_eq_false (by omega), if_neg (by decide)]
      rfl
    | cons c r =>
      obtain ⟨hlt, hr⟩ := zch hd
      have hx : s[i]? = some c := by have := congrArg (·[0]?) hd; simpa using this
      have hrl : r.length = s.length - (i + 1) := by rw [← hr]; simp
      rw [decide_eq_true (show (i : Int) < (s.length : Int) by omega), if_pos rfl, zb0, hx, Option.bind_some, zB (by omega), Option.bind_some, Option.bind_some, Option.bind_some]
      cases h34 : c == 34 with
      | true =>
        have : c = 34 := by simpa using h34
        subst this
        rw [if_pos rfl, zfH]; simp
      | false =>
        rw [if_neg (by decide)]
        unfold zbF
        cases h92 : c == 92 with
        | true =>
          have : c = 92 := by simpa using h92
          subst this
          rw [if_pos rfl]
          cases r with
          | nil =>
            simp only [List.length_nil] at hrl
            have : (((i + 1 : Nat) : Int) == (s.length : Int)) = true := by simp; omega
            rw [this, if_pos rfl, zeX]
            unfold zaL
            rw [if_pos rfl]
          | cons d t =>
            obtain ⟨hlt2, hr2⟩ := zch hr
            have hx2 : s[i + 1]? = some d := by have := congrArg (·[0]?) hr; simpa using this
            have : (((i + 1 : Nat) : Int) == (s.length : Int)) = false := beq_eq_false_iff_ne.2 (by omega)
            have ih := zeh s hs n (i + 2) (out ++ [d]) (by omega) (by omega) (by simp; omega)
            rw [show i + 2 = i + 1 + 1 from rfl, hr2] at ih
            rw [this, if_neg (by decide), zb0, hx2, Option.bind_some, zet, Option.bind_some, zf6 _ _ _ _ d hx2 hs (by omega), zfI, ih]
            cases zfq d with
            | false => rfl
            | true =>
              rw [Bool.not_true, if_neg (by decide), if_pos rfl]
              cases zax t with
              | none => rfl
              | some p => simp only [Option.map_some, List.append_assoc, List.singleton_append]; rw [show i + 1 + 1 + p.2 = i + (p.2 + 2) by omega]
        | false =>
          have : ((i : Int) == (s.length : Int)) = false := beq_eq_false_iff_ne.2 (by omega)
          have ih := zeh s hs n (i + 1) (out ++ [c]) (by omega) (by omega) (by simp; omega)
          rw [hr] at ih
          rw [if_neg (by decide), this, if_neg (by decide), zb0, hx, Option.bind_some, zet, Option.bind_some, zf6 _ _ _ _ c hx hs (by omega), zfJ r h34 h92, ih]
          cases zfq c with
          | false => rfl
          | true =>
            rw [Bool.not_true, if_neg (by decide), if_pos rfl]
            cases zax r with
            | none => rfl
            | some p => simp only [Option.map_some, List.append_assoc, List.singleton_append]; rw [show i + 1 + p.2 = i + (p.2 + 1) by omega]
theorem zf7 (r : Str) (hs : r.length < 900000000) : zbg (34 :: r) = some (match zax r with | some p => (p.1, ((p.2 + 1 : Nat) : Int)) | none => ([], 0)) := by
  unfold zbg zbe
  have h0 : (((34 :: r : Str).length : Int) == 0) = false := beq_eq_false_iff_ne.2 (by simp only [List.length_cons]; omega)
  have := zeh (34 :: r) (by simp; omega) fuel 1 [] (by simp) (by simp only [List.length_cons]; unfold fuel; omega) (by simp)
  rw [h0, if_neg (by decide), zfp, List.getElem?_cons_zero, Option.bind_some]
  show zN (34 :: r) fuel [] ((1 : Nat) : Int) = _
  rw [this]
  show some (match zax r with | some p => (([] : Str) ++ p.1, ((1 + p.2 : Nat) : Int)) | none => ([], 0)) = _
  cases zax r with
  | none => rfl
  | some p => simp only [List.nil_append, Nat.add_comm]
theorem zf8 (s : Str) (hs : s.length < 900000000) : ∀ (n i d : Nat), i ≤ s.length + 1 → s.length + 1 - i < n → d ≤ i → zu s n ((d + 1 : Nat) : Int) (i : Int) = some (match zbz (d + 1) (s.drop i) with | some m => ((i + m : Nat) : Int) | none => 0)
  | 0, _, _, _, h, _ => by omega
  | n + 1, i, d, hi, h, hdi => by
    rw [zu]
    cases hd : s.drop i with
    | nil =>
      have : s.length ≤ i := by have := congrArg List.length hd; simp at this; omega
      rw [decide_eq_false (by omega), if_neg (by decide)]
      rfl
    | cons c r =>
      obtain ⟨hlt, hr⟩ := zch hd
      have hx : s[i]? = some c := by have := congrArg (·[0]?) hd; simpa using this
      have j2 : ∀ (d' i' : Nat), i' < 4000000000 → zQ (zu s n) ((d' + 1 : Nat) : Int) (i' : Int) = zu s n ((d' + 1 : Nat) : Int) ((i' + 1 : Nat) : Int) := fun d' i' h' => by
        unfold zQ
        have : (((d' + 1 : Nat) : Int) == 0) = false := beq_eq_false_iff_ne.2 (by omega)
        rw [this, if_neg (by decide), zB (by omega), Option.bind_some]
      have i1 : zV ((d + 1 : Nat) : Int) 1 = some ((d + 1 + 1 : Nat) : Int) := zB (by omega)
      have i2 : zeZ ((d + 1 : Nat) : Int) 1 = some (d : Int) := by rw [zgx (by omega) (by omega)]; simp
      rw [decide_eq_true (show (i : Int) < (s.length : Int) by omega), if_pos rfl, zb0, hx, Option.bind_some, i1, Option.bind_some, i2, Option.bind_some, zB (by omega), Option.bind_some, j2 _ _ (by omega), j2 _ _ (by omega), j2 _ _ (by omega)]
      have ih := fun i' d' h1 h2 h3 => zf8 s hs n i' d' h1 h2 h3
      cases c40 : c == 40 with
      | true =>
        have : c = 40 := by simpa using c40
        subst this
        rw [if_pos rfl, ih (i + 1) (d + 1) (by omega) (by omega) (by omega), hr, zeB]
        cases zbz (d + 2) r with
        | none => rfl
        | some m => simp only [Option.map_some]; rw [show i + 1 + m = i + (m + 1) by omega]
      | false =>
        rw [if_neg (by decide)]
        cases c41 : c == 41 with
        | true =>
          have : c = 41 := by simpa using c41
          subst this
          rw [if_pos rfl, zdH]
          cases d with
          | zero =>
            rw [zfL]
            unfold zQ
            rw [if_pos (by decide), zB (by omega)]
            rfl
          | succ d =>
            rw [j2 _ _ (by omega), ih (i + 1) d (by omega) (by omega) (by omega), hr]
            cases zbz (d + 1) r with
            | none => rfl
            | some m => simp only [Option.map_some]; rw [show i + 1 + m = i + (m + 1) by omega]
        | false =>
          rw [if_neg (by decide)]
          cases c92 : c == 92 with
          | true =>
            have : c = 92 := by simpa using c92
            subst this
            rw [if_pos rfl, ih (i + 1 + 1) d (by omega) (by omega) (by omega)]
            cases r with
            | nil =>
              have : s.drop (i + 1 + 1) = [] := by rw [← List.drop_drop, hr]; rfl
              rw [this, zfM]
              rfl
            | cons x t =>
              have : s.drop (i + 1 + 1) = t := by rw [← List.drop_drop, hr]; rfl
              rw [this, zfc]
              cases zbz (d + 1) t with
              | none => rfl
              | some m => simp only [Option.map_some]; rw [show i + 1 + 1 + m = i + (m + 2) by omega]
          | false =>
            rw [if_neg (by decide), ih (i + 1) d (by omega) (by omega) (by omega), hr, zfd d r c40 c41 c92]
            cases zbz (d + 1) r with
            | none => rfl
            | some m => simp only [Option.map_some]; rw [show i + 1 + m = i + (m + 1) by omega]
theorem zgF (c : UInt8) (r : Str) (hs : r.length < 800000000) (hc : (c == 34 || c == 40) = true) : zcN (c :: r) = some (za8 c r : Int) := by
  unfold zcN za8
  rw [zfp, List.getElem?_cons_zero, Option.bind_some]
  cases h34 : c == 34 with
  | true =>
    have : c = 34 := by simpa using h34
    subst this
    rw [if_pos rfl, if_pos rfl, zf7 r (by omega), Option.bind_some]
    cases zax r <;> rfl
  | false =>
    have h40 : c = 40 := by rw [h34, Bool.false_or] at hc; simpa using hc
    subst h40
    rw [if_neg (by decide), if_neg (by decide), show fuel = 999999999999999999 + 1 from rfl, zu]
    have h0 : decide ((0 : Int) < ((40 :: r : Str).length : Int)) = true := decide_eq_true (by simp only [List.length_cons]; omega)
    rw [h0, if_pos rfl, zfp, List.getElem?_cons_zero, Option.bind_some, if_pos (by decide), show zV 0 1 = some 1 from by decide, Option.bind_some]
    unfold zQ
    rw [if_neg (by decide), show zV 0 1 = some 1 from by decide, Option.bind_some]
    have := zf8 (40 :: r) (by simp; omega) 999999999999999999 1 0 (by simp) (by simp only [List.length_cons]; omega) (by omega)
    show zu (40 :: r) 999999999999999999 ((0 + 1 : Nat) : Int) ((1 : Nat) : Int) = _
    rw [this]
    show some (match zbz 1 r with | some m => ((1 + m : Nat) : Int) | none => 0) = _
    cases zbz 1 r with
    | none => rfl
    | some m => simp only [Nat.add_comm]
theorem zif (l : List Str) (x : Str) (hl : l.length < 900000000) : zR l x fuel [] 0 = some ((l ++ [x]).filter (fun x => !(x == [])), 0) := by
  have key : ∀ (n i : Nat) (out : List Str), i ≤ (l ++ [x]).length → (l ++ [x]).length - i < n → out.length ≤ i → zR l x n out (i : Int) = some (out ++ ((l ++ [x]).drop i).filter (fun x => !(x == [])), 0) := by
    have hll : (l ++ [x]).length = l.length + 1 := by simp
    intro n
    induction n with
    | zero => intro i _ _ h; omega
    | succ n ih =>
      intro i out hi h ho
      rw [zR]
      by_cases hlt : i < (l ++ [x]).length
      · have g : (l ++ [x])[i]? = some (l ++ [x])[i] := List.getElem?_eq_getElem hlt
        unfold zbJ
        rw [decide_eq_true (show (i : Int) < ((l ++ [x]).length : Int) by omega), if_pos rfl, zbK, g, Option.bind_some, Option.bind_some, if_pos (zcX (by omega) (by omega)), zB (by omega), Option.bind_some, Option.bind_some, ih (i + 1) _ (by omega) (by omega) (by simp; omega), ih (i + 1) _ (by omega) (by omega) (by omega), List.drop_eq_getElem_cons hlt, List.filter_cons]
        cases (l ++ [x])[i] == [] <;> simp
      · have : i = (l ++ [x]).length := by omega
        subst this
        rw [decide_eq_false (by omega), if_neg (by decide), List.drop_length]
        simp
  have := key fuel 0 [] (Nat.zero_le _) (by simp; unfold fuel; omega) (by simp)
  rw [List.drop_zero, List.nil_append] at this
  exact this
theorem zbv (s : Str) (hs : s.length < 800000000) : ∀ (n k a : Nat) (out : List Str), k ≤ s.length → s.length - k < n → a ≤ k → out.length ≤ k →
    zz s n out (a : Int) (k : Int) = some (match zcc 0 (mid s a k) (s.drop k) with | some l => ((out ++ l.map zed).filter (fun x => !(x == [])), 0) | none => ([], 2))
  | 0, _, _, _, _, h, _, _ => by omega
  | n + 1, k, a, out, hk, hn, ha, ho => by
    have hat : At s k (s.drop k) := ⟨hk, rfl⟩
    have hl := hat.len
    rw [zz]
    cases hd : s.drop k with
    | nil =>
      have : k = s.length := by have := congrArg List.length hd; simp at this; omega
      subst this
      have hm : mid s a s.length = s.drop a := by unfold mid; rw [List.take_length]
      have hdl : (s.drop a).length ≤ s.length := by simp
      rw [decide_eq_false (by omega), if_neg (by decide), zb9 ha, Option.bind_some, zeT _ (by omega), Option.bind_some, if_pos (zcX (by omega) (by omega)), zif _ _ (by omega), zgD, hm]
      rfl
    | cons c t =>
      obtain ⟨hlt, hr⟩ := zch hd
      have hx : s[k]? = some c := by have := congrArg (·[0]?) hd; simpa using this
      have htl : t.length = s.length - (k + 1) := by rw [← hr]; simp
      rw [hd] at hat
      have j2t : (c == 34 || c == 40) = true → zav (zz s n) s out (a : Int) (k : Int) true = some (match zcc 0 (mid s a k) (c :: t) with | some l => ((out ++ l.map zed).filter (fun x => !(x == [])), 0) | none => ([], 2)) := fun hc => by
        unfold zav
        rw [if_pos rfl, zb9 hk, Option.bind_some, hd, zgF c t (by omega) hc, Option.bind_some, zhR _ t hc]
        by_cases hp : za8 c t = 0
        · rw [hp, if_pos rfl]; rfl
        · have hple := zie c t
          have h0 : ((za8 c t : Int) == 0) = false := beq_eq_false_iff_ne.2 (by omega)
          have hadd : zV (k : Int) (za8 c t : Int) = some ((k + za8 c t : Nat) : Int) := by rw [zh1 (by omega) (by omega)]; simp
          have ih := zbv s hs n (k + za8 c t) a out (by omega) (by omega) (by omega) (by omega)
          have hdp : s.drop (k + za8 c t) = (c :: t).drop (za8 c t) := by rw [← List.drop_drop, hd]
          rw [zfv hat ha (by simp; omega), hdp] at ih
          obtain ⟨q, hq⟩ : ∃ q, za8 c t = q + 1 := ⟨za8 c t - 1, by omega⟩
          rw [h0, if_neg (by decide), if_neg hp, hadd, Option.bind_some, ih, hq, Nat.add_sub_cancel, zfN q _ t (by omega)]
          simp
      have j2f : (c == 34 || c == 40) = false → zav (zz s n) s out (a : Int) (k : Int) false = some (match zcc 0 (mid s a k) (c :: t) with | some l => ((out ++ l.map zed).filter (fun x => !(x == [])), 0) | none => ([], 2)) := fun hc => by
        unfold zav zbI
        have hml := zjh s a k
        have hsub : zfe s (a : Int) (k : Int) = some (mid s a k) := zdD ha hk
        rw [if_neg (by decide), zb0, hx, Option.bind_some, hsub, Option.bind_some, zeT _ (by omega), Option.bind_some, if_pos (zcX (by omega) (by omega)), zB (by omega), Option.bind_some, Option.bind_some]
        cases h44 : c == 44 with
        | true =>
          have : c = 44 := by simpa using h44
          subst this
          have ih := zbv s hs n (k + 1) (k + 1) (out ++ [zed (mid s a k)]) (by omega) (by omega) (Nat.le_refl _) (by simp; omega)
          rw [zfw, hr] at ih
          rw [if_pos rfl, ih, zeY]
          cases zcc 0 [] t with
          | none => rfl
          | some l => simp
        | false =>
          have ih := zbv s hs n (k + 1) a out (by omega) (by omega) (by omega) (by omega)
          have m1 := zfv (n := 1) hat ha (by simp)
          rw [m1, hr] at ih
          rw [if_neg (by decide), Option.bind_some, ih, zgE _ t hc h44]
          rfl
      rw [decide_eq_true (show (k : Int) < (s.length : Int) by omega), if_pos rfl, zb0, hx, Option.bind_some, Option.bind_some]
      cases h34 : c == 34 with
      | true => rw [if_pos rfl]; exact j2t (by rw [h34]; rfl)
      | false =>
        rw [if_neg (by decide)]
        cases h40 : c == 40 with
        | true => exact j2t (by rw [h40, Bool.or_true])
        | false => exact j2f (by rw [h34, h40]; rfl)
theorem zgG (s : Str) (hs : s.length < 800000000) : zcO s = some (zbi s) := by
  unfold zcO zbi zfO
  have := zbv s hs fuel 0 0 [] (Nat.zero_le _) (by unfold fuel; omega) (Nat.le_refl _) (by simp)
  rw [zfw, List.drop_zero] at this
  show zz s fuel [] ((0 : Nat) : Int) ((0 : Nat) : Int) = _
  rw [this]
  cases zcc 0 [] s with
  | none => rfl
  | some l => rfl
end Go.Dm
end
section
namespace Go.Dm
theorem zhO {α : Type} [BEq α] [LawfulBEq α] (a b : List α) (L : Nat → Int → Option Bool) (hl : a.length = b.length) (ha : a.length < 1000000000)
    (hE : ∀ n, L (n + 1) (a.length : Int) = some true) (hL : ∀ n (i : Nat) x y, i < a.length → a[i]? = some x → b[i]? = some y → L (n + 1) (i : Int) = if (x == y) = true then L n ((i + 1 : Nat) : Int) else some false) : L fuel 0 = some (a == b) := by
  have key : ∀ (n i : Nat), i ≤ a.length → a.length - i < n → L n (i : Int) = some (a.drop i == b.drop i) := by
    intro n
    induction n with
    | zero => intro i _ h; omega
    | succ n ih =>
      intro i hi h
      by_cases hlt : i < a.length
      · have g1 : a[i]? = some a[i] := List.getElem?_eq_getElem hlt
        have g2 : b[i]? = some (b[i]'(by omega)) := List.getElem?_eq_getElem (by omega)
        rw [hL n i _ _ hlt g1 g2, ih (i + 1) (by omega) (by omega), List.drop_eq_getElem_cons hlt, List.drop_eq_getElem_cons (show i < b.length by omega), List.cons_beq_cons]
        cases a[i] == b[i]'(by omega) <;> rfl
      · have : i = a.length := by omega
        subst this
        rw [hE, List.drop_length, List.drop_of_length_le (by omega)]
        rfl
  have := key fuel 0 (Nat.zero_le _) (by unfold fuel; omega)
  rw [List.drop_zero, List.drop_zero] at this
  exact this
end Go.Dm
end
section
namespace Go.Dm
section
variable {s r : Str} {k : Nat}
theorem zkK (b : UInt8) : za1 b = some (zaw b) :=
  of_decide_eq_true (zcw (fun b => decide (za1 b = some (zaw b))) (by decide +kernel) b)
end
theorem zeR (a b : List api_Param) (ha : a.length < 1000000000) : zcD a b = some (a == b) := by
  unfold zcD
  by_cases hl : a.length = b.length
  · rw [hl, beq_self_eq_true, Bool.not_true, if_neg (by decide)]
    refine zhO a b (zaE a b) hl ha (fun n => ?_) (fun n i x y hi hx hy => ?_)
    · rw [zaE, decide_eq_false (by omega), if_neg (by decide)]
    · rw [zaE, decide_eq_true (by omega), if_pos rfl, zbK, hx, Option.bind_some, zbK, hy, Option.bind_some, zB (by omega), Option.bind_some]
      cases x == y <;> rfl
  · have : (((a.length : Int) == (b.length : Int))) = false := beq_eq_false_iff_ne.2 (by omega)
    have h2 : (a == b) = false := beq_eq_false_iff_ne.2 (fun e => hl (by rw [e]))
    rw [this, h2]; rfl

theorem zhe : zds = some true := by decide +kernel
end Go.Dm
end
section
namespace Go.Dm
theorem zi2 {s : Str} {l : List Str} (h : zfO s = some l) : l.length ≤ s.length + 1 ∧ ∀ x ∈ l, x.length ≤ s.length := by
  unfold zfO at h
  obtain ⟨m, hm, rfl⟩ := Option.map_eq_some_iff.1 h
  have key : ∀ (s : Str) (k : Nat) (cur : Str) (m : List Str), zcc k cur s = some m → m.length ≤ s.length + 1 ∧ ∀ x ∈ m, x.length ≤ cur.length + s.length := by
    intro s
    induction s with
    | nil => intro k cur m h; rw [zgD] at h; cases h; simp
    | cons c r ih =>
      intro k cur m h
      have one : ∀ k, zcc k (cur ++ [c]) r = some m → m.length ≤ (c :: r).length + 1 ∧ ∀ x ∈ m, x.length ≤ cur.length + (c :: r).length := fun k h => by
        have := ih k _ m h
        simp only [List.length_cons, List.length_append, List.length_nil] at *
        exact ⟨by omega, fun x hx => by have := this.2 x hx; omega⟩
      cases k with
      | succ k => exact one k h
      | zero =>
        cases h1 : (c == 34 || c == 40) with
        | true =>
          rw [zhR cur r h1] at h
          split at h
          · cases h
          · exact one _ h
        | false =>
          cases h2 : c == 44 with
          | true =>
            have : c = 44 := by simpa using h2
            subst this
            rw [zeY] at h
            obtain ⟨m', hm', rfl⟩ := Option.map_eq_some_iff.1 h
            have := ih 0 [] m' hm'
            simp only [List.length_cons, List.length_nil] at *
            refine ⟨by omega, fun x hx => ?_⟩
            rcases List.mem_cons.1 hx with rfl | hx
            · omega
            · have := this.2 x hx; omega
          | false => rw [zgE cur r h1 h2] at h; exact one 0 h
  have := key s 0 [] m hm
  unfold elems
  refine ⟨?_, fun x hx => ?_⟩
  · have h1 := List.length_filter_le (fun x : Str => !(x == [])) (m.map zed)
    rw [List.length_map] at h1
    omega
  · have h1 := (List.mem_filter.1 hx).1
    obtain ⟨y, hy, rfl⟩ := List.mem_map.1 h1
    have := this.2 y hy
    have := zlt y
    simp at *
    omega
end Go.Dm
end
section
namespace Go.Dm
def zdi (r : Str) : Option (Str × Str) := if !(r.takeWhile zt == []) then some (r.takeWhile zt, r.dropWhile zt) else (zd8 r).map (fun p => (p.1, r.drop p.2))
def zgO (r : Str) : Option (api_Param × Str) := if r.takeWhile zt == [] then none else if !zbR 61 (r.dropWhile zt) then none else (zdi (zah 61 (r.dropWhile zt))).map (fun p => (⟨r.takeWhile zt, p.1⟩, p.2))
def zbh : Nat → List api_Param → Str → List api_Param × Int
  | 0, _, _ => ([], 2)
  | n + 1, out, r => match zgO r with
    | none => ([], 2)
    | some (p, r2) => if r2 == [] then (out ++ [p], 0) else if !zbR 59 (r2.dropWhile zaw) then ([], 2) else zbh n (out ++ [p]) ((zah 59 (r2.dropWhile zaw)).dropWhile zaw)
theorem zaO (p : UInt8 → Bool) (r : Str) : (r.dropWhile p).length + (r.takeWhile p).length = r.length := by
  have := congrArg List.length (List.takeWhile_append_dropWhile (p := p) (l := r))
  rw [List.length_append] at this
  omega
theorem zhG (b : UInt8) (r : Str) : (zah b r).length ≤ r.length := by unfold zah; split <;> simp
theorem zfQ {r : Str} {p : Str × Nat} (h : zd8 r = some p) : 1 ≤ p.2 ∧ p.2 ≤ r.length := by
  unfold zd8 at h
  split at h
  · rename_i hb
    have hr := zc6 hb
    cases hq : zax (zah 34 r) with
    | none => rw [hq] at h; cases h
    | some q =>
      rw [hq] at h
      cases h
      have := zgC _ _ hq
      have hl := congrArg List.length hr
      rw [List.length_cons] at hl
      dsimp only
      omega
  · cases h
theorem zhH {r : Str} {x r' : Str} (h : zdi r = some (x, r')) : r'.length < r.length := by
  unfold zdi at h
  have h1 := zaO zt r
  cases ht : r.takeWhile zt == [] with
  | false =>
    rw [ht, Bool.not_false, if_pos rfl] at h
    cases h
    have : r.takeWhile zt ≠ [] := beq_eq_false_iff_ne.1 ht
    have := List.length_pos_iff.2 this
    omega
  | true =>
    rw [ht, Bool.not_true, if_neg Bool.false_ne_true] at h
    cases hq : zd8 r with
    | none => rw [hq] at h; cases h
    | some q =>
      rw [hq] at h
      cases h
      have := zfQ hq
      simp
      omega
theorem zin {r : Str} {p : api_Param} {r2 : Str} (h : zgO r = some (p, r2)) : r2.length + 2 < r.length := by
  unfold zgO at h
  have h1 := zaO zt r
  split at h
  · cases h
  · rename_i ht
    split at h
    · cases h
    · rename_i hb
      have hb' : zbR 61 (r.dropWhile zt) = true := by simpa using hb
      cases hw : zdi (zah 61 (r.dropWhile zt)) with
      | none => rw [hw] at h; cases h
      | some q =>
        rw [hw] at h
        cases h
        have h2 := zhH (x := q.1) (r' := q.2) hw
        have h3 := congrArg List.length (zc6 hb')
        rw [List.length_cons] at h3
        have h4 : r.takeWhile zt ≠ [] := fun e => ht (by rw [e]; rfl)
        have := List.length_pos_iff.2 h4
        omega

section
variable {s r : Str} {k : Nat}
theorem zkX (hs : s.length < 1000000000) (h : At s k r) : match zdi r with
    | some (x, r') => ∃ k', At s k' r' ∧ zbf (scn s k) = some (x, true, scn s k')
    | none => ∃ x c, zbf (scn s k) = some (x, false, c) := by
  obtain ⟨k1, h1, e1⟩ := ziH hs h
  unfold zbf zdi
  rw [e1, Option.bind_some]
  dsimp only
  cases ht : r.takeWhile zt == [] with
  | false =>
    rw [Bool.not_false, if_pos rfl, if_pos rfl]
    exact ⟨k1, h1, rfl⟩
  | true =>
    have hte : r.takeWhile zt = [] := by simpa using ht
    have hdr : r.dropWhile zt = r := by
      have := List.takeWhile_append_dropWhile (p := zt) (l := r)
      rwa [hte, List.nil_append] at this
    rw [hdr] at h1
    rw [Bool.not_true, if_neg Bool.false_ne_true, if_neg Bool.false_ne_true, zc5 hs h1, Option.bind_some]
    cases hq : zd8 r with
    | none => exact ⟨_, _, rfl⟩
    | some p => exact ⟨_, h1.next p.2 (zfQ hq).2, rfl⟩
theorem at_one (hs : s.length < 1000000000) (h : At s k r) : match zgO r with
    | some (p, r2) => ∃ k', At s k' r2 ∧ z7 ⟨scn s k⟩ = some (p, true, scn s k')
    | none => ∃ p c, z7 ⟨scn s k⟩ = some (p, false, c) := by
  obtain ⟨k1, h1, e1⟩ := ziH hs h
  unfold z7 zgO
  rw [e1, Option.bind_some]
  dsimp only
  cases ht : r.takeWhile zt == [] with
  | true =>
    rw [if_pos rfl, Bool.not_true, Bool.not_false, if_pos rfl]
    exact ⟨_, _, rfl⟩
  | false =>
    obtain ⟨k2, h2, e2⟩ := zdm hs 61 h1
    rw [if_neg Bool.false_ne_true, Bool.not_false, Bool.not_true, if_neg Bool.false_ne_true, e2, Option.bind_some]
    unfold zat
    cases hb : zbR 61 (r.dropWhile zt) with
    | false =>
      rw [Bool.not_false, if_pos rfl, if_pos rfl]
      exact ⟨_, _, rfl⟩
    | true =>
      rw [Bool.not_true, if_neg Bool.false_ne_true, if_neg Bool.false_ne_true]
      have hw := zkX hs h2
      cases hq : zdi (zah 61 (r.dropWhile zt)) with
      | none =>
        rw [hq] at hw
        obtain ⟨x, c, e⟩ := hw
        refine ⟨⟨r.takeWhile zt, x⟩, c, ?_⟩
        show (zbf (scn s k2)).bind _ = _
        rw [e, Option.bind_some]
      | some q =>
        rw [hq] at hw
        obtain ⟨k3, h3, e⟩ := hw
        refine ⟨k3, h3, ?_⟩
        show (zbf (scn s k2)).bind _ = _
        rw [e, Option.bind_some]
theorem zhI (hs : s.length < 1000000000) (h : At s k r) : ∃ x k', At s k' (r.dropWhile zaw) ∧ zad (scn s k) = some (x, scn s k') := by
  obtain ⟨k1, h1, e1⟩ := ziG zkK hs h
  exact ⟨_, k1, h1, by unfold zad; rw [e1, Option.bind_some]⟩
theorem zio (hs : s.length < 1000000) : ∀ (n : Nat) (k : Nat) (r : Str) (out : List api_Param), At s k r → r.length < n → out.length + r.length < 1000000 → zaB n out s (k : Int) = some (zbh n out r) := by
  intro n
  induction n with
  | zero => intro _ _ _ _ h; omega
  | succ n ih =>
    intro k r out h hn ho
    have h1 := at_one (by omega) h
    rw [zaB, zbh]
    show (z7 ⟨scn s k⟩).bind _ = _
    cases hq : zgO r with
    | none =>
      rw [hq] at h1
      obtain ⟨p, c, e⟩ := h1
      rw [e, Option.bind_some]
      rfl
    | some q =>
      obtain ⟨p, r2⟩ := q
      rw [hq] at h1
      obtain ⟨k1, h2, e⟩ := h1
      have hl := zin hq
      rw [e, Option.bind_some]
      dsimp only
      rw [Bool.not_true, if_neg Bool.false_ne_true, if_pos (zcX (by omega) (by omega)), zkH h2, Option.bind_some]
      cases hr : r2 == [] with
      | true => rfl
      | false =>
        rw [if_neg Bool.false_ne_true, if_neg Bool.false_ne_true]
        obtain ⟨x3, k3, h3, e3⟩ := zhI (by omega) h2
        obtain ⟨k4, h4, e4⟩ := zdm (by omega) 59 h3
        obtain ⟨x5, k5, h5, e5⟩ := zhI (by omega) h4
        have hm : zaK ⟨scn s k1⟩ = some (if zbR 59 (r2.dropWhile zaw) then (true, scn s k5) else (false, scn s k4)) := by
          unfold zaK
          rw [e3, Option.bind_some, e4, Option.bind_some]
          cases zbR 59 (r2.dropWhile zaw) with
          | false => rfl
          | true => rw [Bool.not_true, if_neg Bool.false_ne_true, e5, Option.bind_some]; rfl
        rw [hm, Option.bind_some]
        cases zbR 59 (r2.dropWhile zaw) with
        | false => rfl
        | true =>
          have d1 := zaO zaw r2
          have d2 := zhG 59 (r2.dropWhile zaw)
          have d3 := zaO zaw (zah 59 (r2.dropWhile zaw))
          rw [if_pos rfl, Bool.not_true, if_neg Bool.false_ne_true, if_neg Bool.false_ne_true]
          exact ih k5 _ _ h5 (by omega) (by simp; omega)
end
theorem zgm (s : Str) (hs : s.length < 500000) : zcs s = some (zbh fuel [] s) := by
  unfold zcs
  rw [zgk, Option.bind_some]
  exact zio (s := s) (by omega) fuel 0 s [] (At.zero s) (by unfold fuel; omega) (by simp; omega)

theorem zi5 (s : Str) (hs : s.length < 1000000000) : zde s = some (s.dropWhile zaw) := by
  have key : ∀ (n : Nat) (s : Str), s.length < n → zao n s = some (s.dropWhile zaw) := by
    intro n
    induction n with
    | zero => intro s h; omega
    | succ n ih =>
      intro s h
      rw [zao]
      unfold zbZ
      cases s with
      | nil => rfl
      | cons c r =>
        have hp : (0 : Int) < ((c :: r : Str).length : Int) := by simp only [List.length_cons]; omega
        have e1 : zcT (c :: r) 1 = some r := by
          have := zb9 (l := c :: r) (i := 1) (by simp)
          exact this
        rw [decide_eq_true hp, if_pos rfl, show sAt (c :: r) 0 = some c from rfl, Option.bind_some, zc8, Option.bind_some, List.dropWhile_cons, e1, Option.bind_some]
        cases zaw c with
        | true => rw [if_pos rfl, if_pos rfl]; exact ih r (by simp at h; omega)
        | false => rfl
  exact key fuel s (by unfold fuel; omega)
theorem zfR (p : UInt8 → Bool) : ∀ (s : Str) (i : Nat), i < (s.takeWhile p).length → ∃ c, s[i]? = some c ∧ p c = true
  | [], i, h => by simp at h
  | c :: s, i, h => by
    rw [List.takeWhile_cons] at h
    cases hc : p c with
    | false => rw [hc] at h; simp at h
    | true =>
      rw [hc, if_pos rfl] at h
      cases i with
      | zero => exact ⟨c, rfl, hc⟩
      | succ i => exact zfR p s i (by simpa using h)
theorem zdL (p : UInt8 → Bool) : ∀ (s : Str), s.drop (s.takeWhile p).length = s.dropWhile p ∧ ∀ c, s[(s.takeWhile p).length]? = some c → p c = false
  | [] => ⟨rfl, fun c h => by simp at h⟩
  | c :: s => by
    rw [List.takeWhile_cons, List.dropWhile_cons]
    cases hc : p c with
    | false => exact ⟨rfl, fun d h => by simp at h; subst h; exact hc⟩
    | true =>
      obtain ⟨h1, h2⟩ := zdL p s
      exact ⟨h1, fun d h => h2 d (by simpa using h)⟩
theorem zgP (p : UInt8 → Bool) (s : Str) : s.take (s.takeWhile p).length = s.takeWhile p := by
  have := List.takeWhile_append_dropWhile (p := p) (l := s)
  conv => lhs; rw [← this]
  rw [List.take_append_of_le_length (by rw [this]; exact Nat.le_refl _), this]
  rw [List.take_of_length_le (Nat.le_refl _)]
theorem zkY (s : Str) (hs : s.length < 800000000) : zdd s = some (match zdi s with | some (x, r') => (x, ((s.length - r'.length : Nat) : Int)) | none => ([], 0)) := by
  unfold zdd
  have hd := zaO zt s
  obtain ⟨dh1, dh2⟩ := zdL zt s
  have key : ∀ (n i : Nat), i ≤ (s.takeWhile zt).length → (s.takeWhile zt).length - i < n → zan s n (i : Int) = some (match zdi s with | some (x, r') => (x, ((s.length - r'.length : Nat) : Int)) | none => ([], 0)) := by
    intro n
    induction n with
    | zero => intro i _ h; omega
    | succ n ih =>
      intro i hi h
      rw [zan]
      unfold zbY
      by_cases hlt : i < (s.takeWhile zt).length
      · obtain ⟨c, hg, hc⟩ := zfR zt s i hlt
        rw [decide_eq_true (show (i : Int) < (s.length : Int) by omega), if_pos rfl, zb0, hg, Option.bind_some, zcY, Option.bind_some, hc, if_pos rfl, zB (by omega), Option.bind_some]
        exact ih (i + 1) (by omega) (by omega)
      · obtain rfl : i = (s.takeWhile zt).length := by omega
        have fin : (if decide ((0 : Int) < ((s.takeWhile zt).length : Int)) = true then ((sTo s ((s.takeWhile zt).length : Int)).bind fun s14 => some (s14, ((s.takeWhile zt).length : Int))) else ((zbg s).bind fun r17 => some (r17.1, r17.2))) = some (match zdi s with | some (x, r') => (x, ((s.length - r'.length : Nat) : Int)) | none => ([], 0)) := by
          unfold zdi
          cases ht : s.takeWhile zt with
          | cons c t =>
            have hp : (0 : Int) < ((c :: t : Str).length : Int) := by simp only [List.length_cons]; omega
            have := zgP zt s
            rw [ht] at this hd
            rw [decide_eq_true hp, if_pos rfl, zgy (by omega), Option.bind_some, this]
            show _ = some (c :: t, ((s.length - (s.dropWhile zt).length : Nat) : Int))
            rw [show s.length - (s.dropWhile zt).length = (c :: t : Str).length by omega]
          | nil =>
            rw [decide_eq_false (by decide), if_neg Bool.false_ne_true]
            show _ = some (match (zd8 s).map (fun p => (p.1, s.drop p.2)) with | some (x, r') => (x, ((s.length - r'.length : Nat) : Int)) | none => ([], 0))
            unfold zd8
            cases s with
            | nil => rfl
            | cons b r =>
              rw [zaz]
              cases hb : b == 34 with
              | false =>
                unfold zbg zbe
                have hne : (((b :: r : Str).length : Int) == 0) = false := beq_eq_false_iff_ne.2 (by simp only [List.length_cons]; omega)
                rw [hne, if_neg Bool.false_ne_true, show sAt (b :: r) 0 = some b from rfl, Option.bind_some, hb]
                rfl
              | true =>
                obtain rfl : b = 34 := by simpa using hb
                rw [zf7 r (by simp at hs; omega), Option.bind_some, if_pos rfl, zbj]
                cases hq : zax r with
                | none => rfl
                | some q =>
                  have := zgC _ _ hq
                  show some (q.1, ((q.2 + 1 : Nat) : Int)) = some (q.1, (((34 :: r : Str).length - ((34 :: r : Str).drop (q.2 + 1)).length : Nat) : Int))
                  rw [List.length_drop, List.length_cons, show r.length + 1 - (r.length + 1 - (q.2 + 1)) = q.2 + 1 by omega]
        by_cases hl : (s.takeWhile zt).length < s.length
        · have hg : s[(s.takeWhile zt).length]? = some s[(s.takeWhile zt).length] := List.getElem?_eq_getElem hl
          have hc := dh2 _ hg
          rw [decide_eq_true (show ((s.takeWhile zt).length : Int) < (s.length : Int) by omega), if_pos rfl, zb0, hg, Option.bind_some, zcY, Option.bind_some, hc, if_neg Bool.false_ne_true]
          exact fin
        · rw [decide_eq_false (show ¬ ((s.takeWhile zt).length : Int) < (s.length : Int) by omega), if_neg Bool.false_ne_true, if_neg Bool.false_ne_true]
          exact fin
  exact key fuel 0 (Nat.zero_le _) (by unfold fuel; omega)
theorem ziq : ∀ (n : Nat) (r : Str) (out : List api_Param), r.length < 1000000 → r.length < n → out.length + r.length < 1000000 → zx n r out = some (zbh n out r) := by
  intro n
  induction n with
  | zero => intro r _ _ h; omega
  | succ n ih =>
    intro r out hs hn ho
    rw [zx, zbh]
    have hd := zaO zt r
    obtain ⟨dh1, dh2⟩ := zdL zt r
    have key : ∀ (m i : Nat), i ≤ (r.takeWhile zt).length → (r.takeWhile zt).length - i < m → z8 (zx n) r out m (i : Int) = some (match zgO r with
        | none => ([], 2)
        | some (p, r2) => if r2 == [] then (out ++ [p], 0) else if !zbR 59 (r2.dropWhile zaw) then ([], 2) else zbh n (out ++ [p]) ((zah 59 (r2.dropWhile zaw)).dropWhile zaw)) := by
      intro m
      induction m with
      | zero => intro i _ h; omega
      | succ m ihm =>
        intro i hi h
        rw [z8]
        unfold zbH
        by_cases hlt : i < (r.takeWhile zt).length
        · obtain ⟨c, hg, hc⟩ := zfR zt r i hlt
          rw [decide_eq_true (show (i : Int) < (r.length : Int) by omega), if_pos rfl, zb0, hg, Option.bind_some, zcY, Option.bind_some, hc, if_pos rfl, zB (by omega), Option.bind_some]
          exact ihm (i + 1) (by omega) (by omega)
        · obtain rfl : i = (r.takeWhile zt).length := by omega
          have hb61 : ∀ c, r[(r.takeWhile zt).length]? = some c → zbR 61 (r.dropWhile zt) = (c == 61) ∧ zah 61 (r.dropWhile zt) = (if c == 61 then r.drop ((r.takeWhile zt).length + 1) else r.dropWhile zt) := fun c hc => by
            have hl : (r.takeWhile zt).length < r.length := (List.getElem?_eq_some_iff.1 hc).1
            have he : r.dropWhile zt = c :: r.drop ((r.takeWhile zt).length + 1) := by
              rw [← dh1, List.drop_eq_getElem_cons hl]
              congr 1
              exact (List.getElem?_eq_some_iff.1 hc).2
            unfold zah
            rw [he, zaz]
            exact ⟨rfl, rfl⟩
          have j4 : ∀ t : Bool, t = (r.takeWhile zt == [] || !zbR 61 (r.dropWhile zt)) → zaM (zx n) r out ((r.takeWhile zt).length : Int) t = some (match zgO r with
              | none => ([], 2)
              | some (p, r2) => if r2 == [] then (out ++ [p], 0) else if !zbR 59 (r2.dropWhile zaw) then ([], 2) else zbh n (out ++ [p]) ((zah 59 (r2.dropWhile zaw)).dropWhile zaw)) := fun t ht => by
            unfold zaM zgO
            cases hte : r.takeWhile zt == [] with
            | true => rw [hte, Bool.true_or] at ht; rw [ht, if_pos rfl, if_pos rfl]
            | false =>
              rw [hte, Bool.false_or] at ht
              rw [if_neg Bool.false_ne_true]
              cases hbb : zbR 61 (r.dropWhile zt) with
              | false => rw [hbb] at ht; rw [ht, Bool.not_false, if_pos rfl, if_pos rfl]
              | true =>
                rw [hbb, Bool.not_true] at ht
                have h3 := zc6 hbb
                have hlen := congrArg List.length h3
                rw [List.length_cons] at hlen
                have hdr : r.drop ((r.takeWhile zt).length + 1) = zah 61 (r.dropWhile zt) := by
                  rw [← List.drop_drop, dh1]
                  conv => lhs; rw [h3]
                  rfl
                rw [ht, if_neg Bool.false_ne_true, Bool.not_true, if_neg Bool.false_ne_true, zB (by omega), Option.bind_some, zb9 (by omega), Option.bind_some, hdr, zkY _ (by omega), Option.bind_some]
                cases hw : zdi (zah 61 (r.dropWhile zt)) with
                | none => rfl
                | some q =>
                  obtain ⟨x, r2⟩ := q
                  have hwl := zhH hw
                  have hz : ((((zah 61 (r.dropWhile zt)).length - r2.length : Nat) : Int) == 0) = false := beq_eq_false_iff_ne.2 (by omega)
                  have hsuf : r.drop ((r.takeWhile zt).length + 1 + ((zah 61 (r.dropWhile zt)).length - r2.length)) = r2 := by
                    rw [← List.drop_drop, hdr]
                    unfold zdi at hw
                    generalize zah 61 (r.dropWhile zt) = u at hw hwl
                    split at hw
                    · cases hw
                      have h5 := zaO zt u
                      rw [show u.length - (u.dropWhile zt).length = (u.takeWhile zt).length by omega]
                      exact (zdL zt u).1
                    · cases hq : zd8 u with
                      | none => rw [hq] at hw; cases hw
                      | some p =>
                        rw [hq] at hw
                        cases hw
                        have h6 := zfQ hq
                        rw [List.length_drop, show u.length - (u.length - p.2) = p.2 by omega]
                  dsimp only
                  rw [hz, if_neg Bool.false_ne_true, zgy (by omega), Option.bind_some, if_pos (zcX (by omega) (by omega)), Option.bind_some, zh1 (by omega) (by omega), Option.bind_some,
                    show ((((r.takeWhile zt).length + 1 : Nat) : Int) + (((zah 61 (r.dropWhile zt)).length - r2.length : Nat) : Int)) = (((r.takeWhile zt).length + 1 + ((zah 61 (r.dropWhile zt)).length - r2.length) : Nat) : Int) by omega, zb9 (by omega), Option.bind_some, hsuf, zgP]
                  show _ = some (if r2 == [] then _ else _)
                  cases hr : r2 == [] with
                  | true => rfl
                  | false =>
                    rw [if_neg Bool.false_ne_true, if_neg Bool.false_ne_true, zi5 r2 (by omega), Option.bind_some]
                    unfold zbG
                    cases hd2 : r2.dropWhile zaw with
                    | nil => rfl
                    | cons c t =>
                      have d1 := zaO zaw r2
                      rw [hd2, List.length_cons] at d1
                      have d3 := zaO zaw t
                      rw [show ((c :: t : Str) == []) = false from rfl, if_neg Bool.false_ne_true, show sAt (c :: t) 0 = some c from rfl, Option.bind_some, zaz]
                      cases hc : c == 59 with
                      | false => rfl
                      | true =>
                        obtain rfl : c = 59 := by simpa using hc
                        have e1 : zcT (59 :: t) 1 = some t := by
                          have := zb9 (l := 59 :: t) (i := 1) (by simp)
                          exact this
                        rw [Bool.not_true, if_neg Bool.false_ne_true, if_neg Bool.false_ne_true, e1, Option.bind_some, zi5 t (by omega), Option.bind_some, zbj]
                        exact ih _ _ (by omega) (by omega) (by simp; omega)
          by_cases hl : (r.takeWhile zt).length < r.length
          · have hg : r[(r.takeWhile zt).length]? = some r[(r.takeWhile zt).length] := List.getElem?_eq_getElem hl
            have hc := dh2 _ hg
            obtain ⟨b1, _⟩ := hb61 _ hg
            rw [decide_eq_true (show ((r.takeWhile zt).length : Int) < (r.length : Int) by omega), if_pos rfl, zb0, hg, Option.bind_some, zcY, Option.bind_some, hc, if_neg Bool.false_ne_true]
            have hne : (((r.takeWhile zt).length : Int) == (r.length : Int)) = false := beq_eq_false_iff_ne.2 (by omega)
            rw [hne]
            cases hz : (((r.takeWhile zt).length : Int) == 0) with
            | true =>
              have e0 : r.takeWhile zt = [] := List.length_eq_zero_iff.1 (by have := beq_iff_eq.1 hz; omega)
              rw [if_pos rfl]
              exact j4 true (by rw [e0]; rfl)
            | false =>
              have e0 : (r.takeWhile zt == []) = false := beq_eq_false_iff_ne.2 (fun e => by rw [e] at hz; cases hz)
              rw [if_neg Bool.false_ne_true, if_neg Bool.false_ne_true, Option.bind_some]
              exact j4 _ (by rw [e0, b1]; rfl)
          · have hnil : r.dropWhile zt = [] := List.length_eq_zero_iff.1 (by omega)
            rw [decide_eq_false (show ¬ ((r.takeWhile zt).length : Int) < (r.length : Int) by omega), if_neg Bool.false_ne_true, if_neg Bool.false_ne_true]
            have he : (((r.takeWhile zt).length : Int) == (r.length : Int)) = true := beq_iff_eq.2 (by omega)
            rw [he]
            have := j4 true (by rw [hnil]; simp [zjI])
            cases (((r.takeWhile zt).length : Int) == 0) with
            | true => rw [if_pos rfl]; exact this
            | false => rw [if_neg Bool.false_ne_true, if_pos rfl]; exact this
    exact key fuel 0 (Nat.zero_le _) (by unfold fuel; omega)
theorem zgQ (s : Str) (hs : s.length < 500000) : zcM s = some (zbh fuel [] s) := by
  unfold zcM
  have h : s.length < fuel := by unfold fuel; omega
  generalize fuel = n at h ⊢
  exact ziq n s [] (by omega) h (by simp; omega)
end Go.Dm
end
section
namespace Go.Dm
theorem ziO : ∀ (n : Nat) (r : Str) (out : List api_Param), (zbh n out r).1.length ≤ out.length + r.length ∧ ∀ p ∈ (zbh n out r).1, p ∈ out ∨ p.Name.length ≤ r.length := by
  intro n
  induction n with
  | zero => intro r out; exact ⟨Nat.zero_le _, fun p hp => by cases hp⟩
  | succ n ih =>
    intro r out
    rw [zbh]
    cases hq : zgO r with
    | none => exact ⟨Nat.zero_le _, fun p hp => by cases hp⟩
    | some q =>
      obtain ⟨p, r2⟩ := q
      have hl := zin hq
      have hnm : p.Name.length ≤ r.length := by
        unfold zgO at hq
        split at hq
        · cases hq
        · split at hq
          · cases hq
          · cases hw : zdi (zah 61 (r.dropWhile zt)) with
            | none => rw [hw] at hq; cases hq
            | some u =>
              rw [hw] at hq
              cases hq
              have := zaO zt r
              dsimp only
              omega
      dsimp only
      split
      · refine ⟨by simp; omega, fun x hx => ?_⟩
        rcases List.mem_append.1 hx with h | h
        · exact .inl h
        · simp at h; subst h; exact .inr hnm
      · split
        · exact ⟨Nat.zero_le _, fun p hp => by cases hp⟩
        · obtain ⟨h1, h2⟩ := ih ((zah 59 (r2.dropWhile zaw)).dropWhile zaw) (out ++ [p])
          have d1 := zaO zaw r2
          have d2 := zhG 59 (r2.dropWhile zaw)
          have d3 := zaO zaw (zah 59 (r2.dropWhile zaw))
          refine ⟨by simp at h1; omega, fun x hx => ?_⟩
          rcases h2 x hx with h | h
          · rcases List.mem_append.1 h with h | h
            · exact .inl h
            · simp at h; subst h; exact .inr hnm
          · exact .inr (by omega)
def zb8 (x p : api_Param) : Bool := low p.Name == low x.Name
def zij : List api_Param → Bool
  | [] => false
  | p :: l => l.any (zb8 p) || zij l
theorem zhD (pre l : List api_Param) : (l.any fun x => pre.any (zb8 x)) = pre.any fun p => l.any (zb8 p) := by
  rw [Bool.eq_iff_iff]
  simp only [List.any_eq_true]
  constructor
  · rintro ⟨x, hx, p, hp, h⟩
    exact ⟨p, hp, x, hx, by unfold zb8 at h ⊢; rw [beq_iff_eq] at h ⊢; exact h.symm⟩
  · rintro ⟨p, hp, x, hx, h⟩
    exact ⟨x, hx, p, hp, by unfold zb8 at h ⊢; rw [beq_iff_eq] at h ⊢; exact h.symm⟩
def zgM (l : List api_Param) : Prop := ∀ p ∈ l, p.Name.length < 1000000000
theorem Get_eq (name : Str) (l : List api_Param) (hn : name.length < 1000000000) (hl : l.length < 1000000000) (hs : zgM l) : ∃ v, zd3 name l = some (v, l.any (zb8 ⟨name, []⟩)) := by
  have key : ∀ (n i : Nat), i ≤ l.length → l.length - i < n → ∃ v, za4 name l n (i : Int) = some (v, (l.drop i).any (zb8 ⟨name, []⟩)) := by
    intro n
    induction n with
    | zero => intro i _ h; omega
    | succ n ih =>
      intro i hi h
      rw [za4]
      by_cases hlt : i < l.length
      · have g : l[i]? = some l[i] := List.getElem?_eq_getElem hlt
        rw [decide_eq_true (show (i : Int) < (l.length : Int) by omega), if_pos rfl, zbK, g, Option.bind_some, zho _ _ (hs _ (List.getElem_mem _)) hn, Option.bind_some, List.drop_eq_getElem_cons hlt, List.any_cons]
        show ∃ v, _ = some (v, (low l[i].Name == low name) || _)
        cases low l[i].Name == low name with
        | true => exact ⟨_, rfl⟩
        | false =>
          rw [if_neg Bool.false_ne_true, zB (by omega), Option.bind_some, Bool.false_or]
          exact ih (i + 1) (by omega) (by omega)
      · obtain rfl : i = l.length := by omega
        rw [decide_eq_false (by omega), if_neg Bool.false_ne_true, List.drop_length]
        exact ⟨_, rfl⟩
  exact key fuel 0 (Nat.zero_le _) (by unfold fuel; omega)
theorem zj4 (name : Str) (l : List api_Param) (k : Nat) (hk : k ≤ l.length) (hn : name.length < 1000000000) (hl : l.length < 1000000000) (hs : zgM l) : ∃ v, zdt l name (k : Int) = some v ∧ decide (0 ≤ v) = (l.drop k).any (zb8 ⟨name, []⟩) := by
  have key : ∀ (n i : Nat), i ≤ l.length → l.length - i < n → ∃ v, zaN l name n (i : Int) = some v ∧ decide (0 ≤ v) = (l.drop i).any (zb8 ⟨name, []⟩) := by
    intro n
    induction n with
    | zero => intro i _ h; omega
    | succ n ih =>
      intro i hi h
      rw [zaN]
      by_cases hlt : i < l.length
      · have g : l[i]? = some l[i] := List.getElem?_eq_getElem hlt
        rw [decide_eq_true (show (i : Int) < (l.length : Int) by omega), if_pos rfl, zbK, g, Option.bind_some, zeP _ (hs _ (List.getElem_mem _)), Option.bind_some, zeP _ hn, Option.bind_some, List.drop_eq_getElem_cons hlt, List.any_cons]
        show ∃ v, _ ∧ _ = ((low l[i].Name == low name) || _)
        cases low l[i].Name == low name with
        | true => exact ⟨_, rfl, decide_eq_true (by omega)⟩
        | false =>
          rw [if_neg Bool.false_ne_true, zB (by omega), Option.bind_some, Bool.false_or]
          exact ih (i + 1) (by omega) (by omega)
      · obtain rfl : i = l.length := by omega
        rw [decide_eq_false (by omega), if_neg Bool.false_ne_true, List.drop_length]
        exact ⟨_, rfl, rfl⟩
  exact key fuel k hk (by unfold fuel; omega)
def fwdS (l : List api_Param) : List api_Param × Int := if zij l then ([], 2) else (l, 0)
theorem zjp (l : List api_Param) (hl : l.length < 1000000000) (hs : zgM l) : zM (l, 0) fuel 0 = some (fwdS l) := by
  have key : ∀ (n i : Nat), i ≤ l.length → l.length - i < n → zM (l, 0) n (i : Int) = some (if ((l.drop i).any fun x => (l.take i).any (zb8 x)) || zij (l.drop i) then ([], 2) else (l, 0)) := by
    intro n
    induction n with
    | zero => intro i _ h; omega
    | succ n ih =>
      intro i hi h
      rw [zM]
      by_cases hlt : i < l.length
      · have g : l[i]? = some l[i] := List.getElem?_eq_getElem hlt
        have e2 : lTo l (i : Int) = some (l.take i) := by
          unfold lTo
          rw [if_pos (by omega)]
          rfl
        obtain ⟨v, hv⟩ := Get_eq l[i].Name (l.take i) (hs _ (List.getElem_mem _)) (by simp; omega) (fun p hp => hs p (List.mem_of_mem_take hp))
        have hsx : zb8 ⟨l[i].Name, []⟩ = zb8 l[i] := rfl
        dsimp only
        rw [decide_eq_true (show (i : Int) < (l.length : Int) by omega), if_pos rfl, zbK, g, Option.bind_some, e2, Option.bind_some, hv, Option.bind_some, hsx, List.drop_eq_getElem_cons hlt, List.any_cons, zij]
        cases hd : (l.take i).any (zb8 l[i]) with
        | true => rw [if_pos rfl, Bool.true_or, Bool.true_or, if_pos rfl]
        | false =>
          rw [if_neg Bool.false_ne_true, zB (by omega), Option.bind_some, Bool.false_or, ih (i + 1) (by omega) (by omega), List.take_add_one, g]
          have e : ((l.drop (i + 1)).any fun x => (l.take i ++ (some l[i]).toList).any (zb8 x)) = (((l.drop (i + 1)).any fun x => (l.take i).any (zb8 x)) || (l.drop (i + 1)).any (zb8 l[i])) := by
            rw [zhD (l.take i ++ (some l[i]).toList), List.any_append, zhD (l.take i)]
            simp
          rw [e, Bool.or_assoc]
      · obtain rfl : i = l.length := by omega
        dsimp only
        rw [decide_eq_false (by omega), if_neg Bool.false_ne_true, List.drop_length]
        rfl
  have := key fuel 0 (Nat.zero_le _) (by unfold fuel; omega)
  rw [List.drop_zero, List.take_zero] at this
  rw [show ((l.any fun x => ([] : List api_Param).any (zb8 x)) || zij l) = zij l by simp] at this
  exact this
theorem zik (l : List api_Param) (hl : l.length < 1000000000) (hs : zgM l) : zau (l, 0) fuel 0 = some (fwdS l) := by
  have key : ∀ (n i : Nat), i ≤ l.length → l.length - i < n → zau (l, 0) n (i : Int) = some (if zij (l.drop i) then ([], 2) else (l, 0)) := by
    intro n
    induction n with
    | zero => intro i _ h; omega
    | succ n ih =>
      intro i hi h
      rw [zau]
      by_cases hlt : i < l.length
      · have g : l[i]? = some l[i] := List.getElem?_eq_getElem hlt
        obtain ⟨v, hv, hd⟩ := zj4 l[i].Name l (i + 1) (by omega) (hs _ (List.getElem_mem _)) hl hs
        have hsx : zb8 ⟨l[i].Name, []⟩ = zb8 l[i] := rfl
        dsimp only
        rw [decide_eq_true (show (i : Int) < (l.length : Int) by omega), if_pos rfl, zbK, g, Option.bind_some, zB (by omega), Option.bind_some, hv, Option.bind_some, hd, hsx, List.drop_eq_getElem_cons hlt, zij]
        cases (l.drop (i + 1)).any (zb8 l[i]) with
        | true => rw [if_pos rfl, Bool.true_or, if_pos rfl]
        | false => rw [if_neg Bool.false_ne_true, Option.bind_some, Bool.false_or, ih (i + 1) (by omega) (by omega)]
      · obtain rfl : i = l.length := by omega
        dsimp only
        rw [decide_eq_false (by omega), if_neg Bool.false_ne_true, List.drop_length]
        rfl
  have := key fuel 0 (Nat.zero_le _) (by unfold fuel; omega)
  rwa [List.drop_zero] at this
def fP (s : Str) : List api_Param × Int := if (zbh fuel [] s).2 == 0 then fwdS (zbh fuel [] s).1 else ([], (zbh fuel [] s).2)
theorem zek (s : Str) (hs : s.length < 500000) : (zbh fuel [] s).1.length ≤ s.length ∧ zgM (zbh fuel [] s).1 := by
  obtain ⟨h1, h2⟩ := ziO fuel s []
  refine ⟨by simpa using h1, fun p hp => ?_⟩
  rcases h2 p hp with h | h
  · cases h
  · omega
theorem zc3 (s : Str) (hs : s.length < 500000) : zaP s = some (fP s) := by
  obtain ⟨h1, h2⟩ := zek s hs
  unfold zaP fP
  rw [zgm s hs, Option.bind_some]
  generalize zbh fuel [] s = q at h1 h2 ⊢
  obtain ⟨l, e⟩ := q
  dsimp only at h1 h2 ⊢
  cases he : e == 0 with
  | false => rfl
  | true =>
    obtain rfl : e = 0 := by simpa using he
    rw [Bool.not_true, if_neg Bool.false_ne_true, if_pos rfl]
    exact zjp l (by omega) h2
theorem zel (s : Str) (hs : s.length < 500000) : zcb s = some (fP s) := by
  obtain ⟨h1, h2⟩ := zek s hs
  unfold zcb fP
  rw [zgQ s hs, Option.bind_some]
  generalize zbh fuel [] s = q at h1 h2 ⊢
  obtain ⟨l, e⟩ := q
  dsimp only at h1 h2 ⊢
  cases he : e == 0 with
  | false => rfl
  | true =>
    obtain rfl : e = 0 := by simpa using he
    rw [Bool.not_true, if_neg Bool.false_ne_true, if_pos rfl]
    exact zik l (by omega) h2
theorem zj5 (s : Str) (hs : s.length < 500000) : (fP s).1.length ≤ s.length := by
  obtain ⟨h1, _⟩ := zek s hs
  unfold fP fwdS
  split
  · split
    · exact Nat.zero_le _
    · exact h1
  · exact Nat.zero_le _

def zaZ : List Str → List (List api_Param) → List (List api_Param) × Int
  | [], out => (out, 0)
  | x :: xs, out => if (fP x).2 == 0 then zaZ xs (out ++ [(fP x).1]) else ([], (fP x).2)
def zd5 : List Str → List (List api_Param) → List (List api_Param) × Int
  | [], out => (out, 0)
  | v :: vs, out => if (zbi v).2 == 0 then (if (zaZ (zbi v).1 out).2 == 0 then zd5 vs (zaZ (zbi v).1 out).1 else zaZ (zbi v).1 out) else ([], (zbi v).2)
theorem zdJ : ∀ (xs : List Str) (out : List (List api_Param)), (zaZ xs out).1.length ≤ out.length + xs.length
  | [], out => by simp [zaZ]
  | x :: xs, out => by
    rw [zaZ]
    split
    · have := zdJ xs (out ++ [(fP x).1])
      simp at this ⊢; omega
    · simp
theorem zgN {m : Nat} : ∀ (xs : List Str) (out : List (List api_Param)), (∀ x ∈ xs, (fP x).1.length ≤ m) → (∀ y ∈ out, y.length ≤ m) → ∀ y ∈ (zaZ xs out).1, y.length ≤ m
  | [], out, _, ho, y, hy => ho y hy
  | x :: xs, out, hx, ho, y, hy => by
    rw [zaZ] at hy
    split at hy
    · refine zgN xs _ (fun z hz => hx z (List.mem_cons_of_mem _ hz)) (fun z hz => ?_) y hy
      rcases List.mem_append.1 hz with h | h
      · exact ho z h
      · simp at h; subst h; exact hx x (List.mem_cons_self ..)
    · cases hy
theorem zdK (v : Str) : (zbi v).1.length ≤ v.length + 1 ∧ ∀ x ∈ (zbi v).1, x.length ≤ v.length := by
  unfold zbi
  cases h : zfO v with
  | none => exact ⟨Nat.zero_le _, fun x hx => by cases hx⟩
  | some l => exact zi2 h
section
variable (rec1 : List (List api_Param) → Int → Option (List (List api_Param) × Int))
theorem zjq (i8 : Nat) (h8 : i8 < 1000000) (l : List Str) (e : Int) (hl : l.length < 1000000) (hx : ∀ x ∈ l, x.length < 500000) : ∀ (n i : Nat) (out : List (List api_Param)), i ≤ l.length → l.length - i < n → out.length < 1000000000000 + i →
    zaa rec1 (i8 : Int) (l, e) n out (i : Int) = if (zaZ (l.drop i) out).2 == 0 then rec1 (zaZ (l.drop i) out).1 ((i8 + 1 : Nat) : Int) else some (zaZ (l.drop i) out) := by
  intro n
  induction n with
  | zero => intro i _ _ h; omega
  | succ n ih =>
    intro i out hi h ho
    rw [zaa]
    by_cases hlt : i < l.length
    · have g : l[i]? = some l[i] := List.getElem?_eq_getElem hlt
      have hxl := hx l[i] (List.getElem_mem _)
      dsimp only
      rw [decide_eq_true (show (i : Int) < (l.length : Int) by omega), if_pos rfl, zbK, g, Option.bind_some, zc3 _ hxl, Option.bind_some, List.drop_eq_getElem_cons hlt, zaZ]
      cases hz : (fP l[i]).2 == 0 with
      | false =>
        rw [Bool.not_false, if_pos rfl, if_neg Bool.false_ne_true]
        dsimp only
        rw [hz, if_neg Bool.false_ne_true]
      | true =>
        rw [Bool.not_true, if_neg Bool.false_ne_true, if_pos rfl, if_pos (zcX (by omega) (by omega)), zB (by omega), Option.bind_some]
        exact ih (i + 1) _ (by omega) (by omega) (by simp; omega)
    · obtain rfl : i = l.length := by omega
      dsimp only
      rw [decide_eq_false (by omega), if_neg Bool.false_ne_true, zB (by omega), Option.bind_some, List.drop_length]
      rfl
theorem zil (i8 : Nat) (h8 : i8 < 1000000) (l : List Str) (e : Int) (hl : l.length < 1000000) (hx : ∀ x ∈ l, x.length < 500000) : ∀ (n i : Nat) (out : List (List api_Param)), i ≤ l.length → l.length - i < n → out.length < 1000000000000 + i →
    za5 rec1 (i8 : Int) (l, e) n out (i : Int) = if (zaZ (l.drop i) out).2 == 0 then rec1 (zaZ (l.drop i) out).1 ((i8 + 1 : Nat) : Int) else some (zaZ (l.drop i) out) := by
  intro n
  induction n with
  | zero => intro i _ _ h; omega
  | succ n ih =>
    intro i out hi h ho
    rw [za5]
    by_cases hlt : i < l.length
    · have g : l[i]? = some l[i] := List.getElem?_eq_getElem hlt
      have hxl := hx l[i] (List.getElem_mem _)
      dsimp only
      rw [decide_eq_true (show (i : Int) < (l.length : Int) by omega), if_pos rfl, zbK, g, Option.bind_some, zel _ hxl, Option.bind_some, List.drop_eq_getElem_cons hlt, zaZ]
      cases hz : (fP l[i]).2 == 0 with
      | false =>
        rw [Bool.not_false, if_pos rfl, if_neg Bool.false_ne_true]
        dsimp only
        rw [hz, if_neg Bool.false_ne_true]
      | true =>
        rw [Bool.not_true, if_neg Bool.false_ne_true, if_pos rfl, if_pos (zcX (by omega) (by omega)), zB (by omega), Option.bind_some]
        exact ih (i + 1) _ (by omega) (by omega) (by simp; omega)
    · obtain rfl : i = l.length := by omega
      dsimp only
      rw [decide_eq_false (by omega), if_neg Bool.false_ne_true, zB (by omega), Option.bind_some, List.drop_length]
      rfl
end
theorem zff (vs : List Str) (hn : vs.length < 1000) (hv : ∀ v ∈ vs, v.length < 400000) : zct vs = some (zd5 vs []) := by
  have key : ∀ (n i : Nat) (out : List (List api_Param)), i ≤ vs.length → vs.length - i < n → out.length ≤ i * 1000000 → zG vs n out (i : Int) = some (zd5 (vs.drop i) out) := by
    intro n
    induction n with
    | zero => intro i _ _ h; omega
    | succ n ih =>
      intro i out hi h ho
      rw [zG]
      by_cases hlt : i < vs.length
      · have g : vs[i]? = some vs[i] := List.getElem?_eq_getElem hlt
        have hvl := hv vs[i] (List.getElem_mem _)
        obtain ⟨m1, m2⟩ := zdK vs[i]
        rw [decide_eq_true (show (i : Int) < (vs.length : Int) by omega), if_pos rfl, zbK, g, Option.bind_some, zgq _ (by omega), Option.bind_some, List.drop_eq_getElem_cons hlt, zd5]
        have hle := zdJ (zbi vs[i]).1 out
        rcases hsr : zbi vs[i] with ⟨l, e⟩
        rw [hsr] at m1 m2 hle
        dsimp only at m1 m2 hle ⊢
        cases he : e == 0 with
        | false => rfl
        | true =>
          have := zjq (zG vs n) i (by omega) l e (by omega) (fun x hx => by have := m2 x hx; omega) fuel 0 out (Nat.zero_le _) (by unfold fuel; omega) (by omega)
          rw [List.drop_zero] at this
          rw [Bool.not_true, if_neg Bool.false_ne_true, if_pos rfl]
          refine this.trans ?_
          cases (zaZ l out).2 == 0 with
          | false => rfl
          | true =>
            rw [if_pos rfl, if_pos rfl]
            exact ih (i + 1) _ (by omega) (by omega) (by omega)
      · obtain rfl : i = vs.length := by omega
        rw [decide_eq_false (by omega), if_neg Bool.false_ne_true, List.drop_length]
        rfl
  exact key fuel 0 [] (Nat.zero_le _) (by unfold fuel; omega) (by simp)
theorem zhl (vs : List Str) (hn : vs.length < 1000) (hv : ∀ v ∈ vs, v.length < 400000) : zd4 vs = some (zd5 vs []) := by
  have key : ∀ (n i : Nat) (out : List (List api_Param)), i ≤ vs.length → vs.length - i < n → out.length ≤ i * 1000000 → zap vs n out (i : Int) = some (zd5 (vs.drop i) out) := by
    intro n
    induction n with
    | zero => intro i _ _ h; omega
    | succ n ih =>
      intro i out hi h ho
      rw [zap]
      by_cases hlt : i < vs.length
      · have g : vs[i]? = some vs[i] := List.getElem?_eq_getElem hlt
        have hvl := hv vs[i] (List.getElem_mem _)
        obtain ⟨m1, m2⟩ := zdK vs[i]
        rw [decide_eq_true (show (i : Int) < (vs.length : Int) by omega), if_pos rfl, zbK, g, Option.bind_some, zgG _ (by omega), Option.bind_some, List.drop_eq_getElem_cons hlt, zd5]
        have hle := zdJ (zbi vs[i]).1 out
        rcases hsr : zbi vs[i] with ⟨l, e⟩
        rw [hsr] at m1 m2 hle
        dsimp only at m1 m2 hle ⊢
        cases he : e == 0 with
        | false => rfl
        | true =>
          have := zil (zap vs n) i (by omega) l e (by omega) (fun x hx => by have := m2 x hx; omega) fuel 0 out (Nat.zero_le _) (by unfold fuel; omega) (by omega)
          rw [List.drop_zero] at this
          rw [Bool.not_true, if_neg Bool.false_ne_true, if_pos rfl]
          refine this.trans ?_
          cases (zaZ l out).2 == 0 with
          | false => rfl
          | true =>
            rw [if_pos rfl, if_pos rfl]
            exact ih (i + 1) _ (by omega) (by omega) (by omega)
      · obtain rfl : i = vs.length := by omega
        rw [decide_eq_false (by omega), if_neg Bool.false_ne_true, List.drop_length]
        rfl
  exact key fuel 0 [] (Nat.zero_le _) (by unfold fuel; omega) (by simp)
theorem zhE {m : Nat} (hm : m < 500000) : ∀ (vs : List Str) (out : List (List api_Param)), (∀ v ∈ vs, v.length ≤ m) → (∀ y ∈ out, y.length ≤ m) → ∀ y ∈ (zd5 vs out).1, y.length ≤ m
  | [], out, _, ho, y, hy => ho y hy
  | v :: vs, out, hv, ho, y, hy => by
    obtain ⟨_, m2⟩ := zdK v
    have hvm := hv v (List.mem_cons_self ..)
    have he : ∀ y ∈ (zaZ (zbi v).1 out).1, y.length ≤ m := zgN _ _ (fun x hx => by have h1 := m2 x hx; have h2 := zj5 x (by omega); omega) ho
    rw [zd5] at hy
    split at hy
    · split at hy
      · exact zhE hm vs _ (fun z hz => hv z (List.mem_cons_of_mem _ hz)) he y hy
      · exact he y hy
    · cases hy
theorem zhF : ∀ (vs : List Str) (out : List (List api_Param)), (∀ v ∈ vs, v.length < 400000) → (zd5 vs out).1.length ≤ out.length + vs.length * 400001
  | [], out, _ => by simp [zd5]
  | v :: vs, out, hv => by
    obtain ⟨m1, _⟩ := zdK v
    have hvm := hv v (List.mem_cons_self ..)
    have he := zdJ (zbi v).1 out
    rw [zd5]
    split
    · split
      · have := zhF vs (zaZ (zbi v).1 out).1 (fun z hz => hv z (List.mem_cons_of_mem _ hz))
        simp only [List.length_cons]; omega
      · simp only [List.length_cons]; omega
    · simp
theorem zhm (a b : List (List api_Param)) (ha : a.length < 1000000000) (hs : ∀ x ∈ a, x.length < 1000000000) : zdf a b = some (a == b) := by
  unfold zdf
  by_cases hl : a.length = b.length
  · rw [hl, beq_self_eq_true, Bool.not_true, if_neg (by decide)]
    refine zhO a b (zaF a b) hl ha (fun n => ?_) (fun n i x y hi hx hy => ?_)
    · rw [zaF, decide_eq_false (by omega), if_neg (by decide)]
    · rw [zaF, decide_eq_true (by omega), if_pos rfl, zbK, hx, Option.bind_some, zbK, hy, Option.bind_some, zeR _ _ (hs x (List.mem_of_getElem? hx)), Option.bind_some, zB (by omega), Option.bind_some]
      cases x == y <;> rfl
  · have : (((a.length : Int) == (b.length : Int))) = false := beq_eq_false_iff_ne.2 (by omega)
    have h2 : (a == b) = false := beq_eq_false_iff_ne.2 (fun e => hl (by rw [e]))
    rw [this, h2]; rfl
theorem zeE (s t : Str) : zaY s t = some true := by
  unfold zaY zA
  have cs := zjc s 200
  have ct := zjc t 200
  rw [show ((200 : Nat) : Int) = 200 from rfl] at cs ct
  have ls : (s.take 200).length ≤ 200 := by simp; omega
  have lt : (t.take 200).length ≤ 200 := by simp; omega
  rw [zhe, Option.bind_some, Bool.not_true, if_neg Bool.false_ne_true, cs, Option.bind_some, ct, Option.bind_some]
  generalize s.take 200 = x at ls
  generalize t.take 200 = y at lt
  have hv : ∀ v ∈ [x, y], v.length ≤ 200 := fun v hv => by
    simp at hv
    rcases hv with rfl | rfl
    · exact ls
    · exact lt
  have m1 := zhE (m := 200) (by omega) [x, y] [] hv (fun y hy => by cases hy)
  have m2 := zhF [x, y] [] (fun v h => by have := hv v h; omega)
  have m3 := zj5 x (by omega)
  simp at m2
  rw [zc3 x (by omega), Option.bind_some, zel x (by omega), Option.bind_some, zff _ (by simp) (fun v h => by have := hv v h; omega), Option.bind_some, zhl _ (by simp) (fun v h => by have := hv v h; omega), Option.bind_some,
    zeR _ _ (by omega), Option.bind_some, beq_self_eq_true, if_pos rfl, beq_self_eq_true, if_pos rfl, zhm _ _ (by omega) (fun z hz => by have := m1 z hz; omega), Option.bind_some, beq_self_eq_true, if_pos rfl, beq_self_eq_true]
end Go.Dm
end
