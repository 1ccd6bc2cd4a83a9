/-
  The models' words: partial operations as functions into Option. No program in sight.
  The models of the functions: written by a program (wip/gen) off the translation. No program in sight.
  The library's functions as the models say them, and as the library's contracts say them. No program in sight.
  Plain tools for the laws: the partial operations at natural numbers, loops over lists. No program in sight.
  Layer 1 (bytes): what the program's and the reference's models come to.
  Layer 3 (numbers): reading and writing: the program's and the document's come to the same. No program in sight.
-/
import Derived.Lib.ItoaNum
import Derived.Lib.SplitLaws
import Derived.Lib.SlTrimSet
import Derived.Lib.Join
import Derived.Lib.IndexMore
import Derived.Lib.Bytealg
import Derived.Lib.Index
import Derived.Lib.IndexAny
section
namespace Go.Dm
abbrev Str := List UInt8

def inI (n : Int) : Bool := decide (-9223372036854775808 ≤ n) && decide (n ≤ 9223372036854775807)
theorem zf2 {n : Int} : inI n = true ↔ -9223372036854775808 ≤ n ∧ n ≤ 9223372036854775807 := by simp [inI]

def zM (m n : Int) : Option Int := if inI (m + n) then some (m + n) else none
def zci (m n : Int) : Option Int := if inI (m - n) then some (m - n) else none
def zmW (m n : Int) : Option Int := if inI (m * n) then some (m * n) else none
def zmX (m n : Int) : Option Int := if 0 ≤ m ∧ 1 ≤ n ∧ inI (m / n) = true then some (m / n) else none
def zoB (m n : Int) : Option Int := if 0 ≤ m ∧ 1 ≤ n ∧ inI (m % n) = true then some (m % n) else none
def sAt (l : Str) (i : Int) : Option UInt8 := if 0 ≤ i then l[i.toNat]? else none
def sTo (l : Str) (h : Int) : Option Str := if 0 ≤ h ∧ h ≤ l.length then some (l.take h.toNat) else none
def zem (l : Str) (i : Int) : Option Str := if 0 ≤ i ∧ i ≤ l.length then some (l.drop i.toNat) else none
def zeG (l : Str) (i h : Int) : Option Str := if 0 ≤ i ∧ i ≤ h ∧ h ≤ l.length then some ((l.take h.toNat).drop i.toNat) else none
def ze5 (l m : Str) : Option Str := if l.length + m.length ≤ 9223372036854775807 then some (l ++ m) else none
def lAt {α : Type} (l : List α) (i : Int) : Option α := if 0 ≤ i then l[i.toNat]? else none
def zkR {α : Type} (l : List α) (i : Int) (x : α) : Option (List α) := if 0 ≤ i ∧ i < l.length then some (l.set i.toNat x) else none

def zap (n m bytes : Nat) : Bool := decide (n + m ≤ 9223372036854775807) && decide ((n + m) * bytes ≤ 140737488355328)
theorem og {α : Type} {b : Bool} {x : Option α} {r : α} (h : (if b = true then x else none) = some r) : b = true ∧ x = some r := by
  cases b with
  | false => cases h
  | true => exact ⟨rfl, h⟩
theorem zeK (b : Bool) : b = true ∨ b = false := by cases b <;> simp
theorem ob {α β : Type} {m : Option α} {f : α → Option β} {r : β} (h : m.bind f = some r) : ∃ x, m = some x ∧ f x = some r := by
  cases m with
  | none => cases h
  | some x => exact ⟨x, rfl, h⟩
theorem it {α : Type} {b : Bool} {x y : Option α} {r : α} (hb : b = true) (h : (if b = true then x else y) = some r) : x = some r := by rwa [if_pos hb] at h
def zjW : Str → Str → Bool
  | _, [] => false
  | [], _ :: _ => true
  | a :: x, b :: y => a < b || (a == b && zjW x y)
def fuel : Nat := 1000000000000000000
def tup4 {α : Type} : List α → Option (α × α × α × α)
  | [a, b, c, d] => some (a, b, c, d)
  | _ => none
theorem zpA {α : Type} {o : Option (List α)} {r : α × α × α × α} (h : o.bind tup4 = some r) : o = some [r.1, r.2.1, r.2.2.1, r.2.2.2] := by
  cases o with
  | none => cases h
  | some l =>
    have h : tup4 l = some r := h
    unfold tup4 at h
    split at h
    · cases h; rfl
    · cases h
end Go.Dm
end
section
set_option linter.unusedVariables false
set_option maxRecDepth 10000
namespace Go.Dm
structure scan_Scanner where
  f_s : Str
  f_at : Int
deriving DecidableEq
structure commas_splitter where
  Scanner : scan_Scanner
  f_out : List Str
  f_from : Int
  f_s : Str
deriving DecidableEq
structure quoted_reader where
  Scanner : scan_Scanner
  f_out : List UInt8
deriving DecidableEq
structure via_reader where
  Scanner : scan_Scanner
deriving DecidableEq
structure api_Via where
  Proto : Str
  Version : Str
  By : Str
  Comment : Str
deriving DecidableEq
structure api_Host where
  Kind : Int
  Name : Str
  Port : Int
deriving DecidableEq
structure api_Field where
  Name : Str
  Value : Str
deriving DecidableEq
structure api_Head where
  Kind : Int
  Method : Str
  Target : Str
  Code : Int
  Reason : Str
  Minor : Int
  Fields : List api_Field
deriving DecidableEq
structure bag_Bag where
  f_l : List api_Field
deriving DecidableEq
def zjl : Str → UInt8 → Nat → Int
  | [], _, _ => -1
  | x :: l, c, k => if x == c then (k : Int) else zjl l c (k + 1)
def strings_IndexByte (s : Str) (c : UInt8) : Option Int := some (zjl s c 0)
def ziN : Str → Str → Bool
  | _, [] => true
  | [], _ :: _ => false
  | x :: s, y :: t => x == y && ziN s t
def zfN : Str → Str → Nat → Int
  | s, t, k => if ziN s t then (k : Int) else match s with
    | [] => -1
    | _ :: s => zfN s t (k + 1)
def strings_Index (s t : Str) : Option Int := if s.length < 4294967281 then some (zfN s t 0) else none
def strings_Cut (s t : Str) : Option (Str × Str × Bool) := if s.length < 4294967281 then some (Go.Lib.cut s t) else none
def zhO : Str → Str → Nat → Int
  | [], _, _ => -1
  | x :: l, cs, k => if cs.contains x then (k : Int) else zhO l cs (k + 1)
def strings_IndexAny (s cs : Str) : Option Int := if s.length < 4294967281 ∧ cs.length < 4294967281 ∧ cs.all (fun c => c.toNat < 128) then some (zhO s cs 0) else none
def strings_Split (s sep : Str) : Option (List Str) := if s.length < 4294967281 ∧ 1 ≤ sep.length then some (Go.Lib.splitK sep 0 (Go.Lib.countB ⟨s.toArray⟩ ⟨sep.toArray⟩) s) else none
def zf (c : UInt8) : Str → List Str
  | [] => [[]]
  | x :: s => if x = c then [] :: zf c s else match zf c s with
    | [] => [[x]]
    | h :: t => (x :: h) :: t
def zc9 (n b : Int) : Option Str := if inI n = true ∧ b = 10 then some (Go.Lib.itoa n) else none
def zbA (s cs : Str) : Option Str := if s.length < 4294967281 ∧ cs.length < 4294967281 ∧ cs.all (fun c => c.toNat < 128) then some (Go.Lib.trimS s cs) else none
def zb8 (s cs : Str) : Option Str := if s.length < 4294967281 ∧ cs.length < 4294967281 ∧ cs.all (fun c => c.toNat < 128) then some (Go.Lib.trimRightS s cs) else none
def strings_Join (l : List Str) (sep : Str) : Option Str := if l.length ≤ 140737488355328 ∧ (Go.Lib.join l sep).length ≤ 140737488355328 then some (Go.Lib.join l sep) else none
def zhP (x_s : Str) : Option scan_Scanner :=
  some (⟨x_s, 0⟩ : scan_Scanner)

def zaJ (x_c : scan_Scanner) : Option Str :=
  (zem x_c.f_s x_c.f_at).bind fun s4 =>
  some s4

def zaB (x_c : scan_Scanner) : Option Bool :=
  (zaJ x_c).bind fun r2 =>
  some (r2 == [])

def zaW (x_c : scan_Scanner) : Option Int :=
  some x_c.f_at

def zC (x_c : scan_Scanner) : Option (UInt8 × Bool) :=
  (zaB x_c).bind fun r2 =>
  if r2 then (some (0, false)) else ((sAt x_c.f_s x_c.f_at).bind fun b7 =>
  some (b7, true))

def zbd (x_c : scan_Scanner) (t5 : Bool) : Option (Bool × scan_Scanner) :=
  if t5 then (some (false, x_c)) else ((zM x_c.f_at 1).bind fun i9 =>
  some ((true, (⟨x_c.f_s, i9⟩ : scan_Scanner))))

def zg (x_c : scan_Scanner) (x_b : UInt8) : Option (Bool × scan_Scanner) :=
  (zC x_c).bind fun r2 =>
  if (!r2.2) then (zbd x_c true) else (zbd x_c (!(r2.1 == x_b)))

def zaK (x_p : commas_splitter) (l12 : List Str) : Option commas_splitter :=
  (zaW x_p.Scanner).bind fun r13 =>
  some (⟨x_p.Scanner, l12, r13, x_p.f_s⟩ : commas_splitter)

def zaR (x_p : commas_splitter) (x_at : Int) : Option commas_splitter :=
  (zeG x_p.f_s x_p.f_from x_at).bind fun s1 =>
  (zbA s1 [32, 9]).bind fun r2 =>
  if (!(r2 == [])) then (if zap x_p.f_out.length 1 16 then (zaK x_p (x_p.f_out ++ ([r2] : List Str))) else none) else (zaK x_p x_p.f_out)

def zbU (x_p : commas_splitter) (s33 : Str) (i34 : Int) : Option (Bool × commas_splitter) :=
  some ((true, (⟨(⟨s33, i34⟩ : scan_Scanner), x_p.f_out, x_p.f_from, x_p.f_s⟩ : commas_splitter)))

def zh (x_p : commas_splitter) : Nat → Str → Int → Int → Option (Bool × commas_splitter)
  | 0, _, _, _ => none
  | n + 1, s3, i4, i5 =>
  if (decide (0 < i5)) then ((zC (⟨s3, i4⟩ : scan_Scanner)).bind fun r9 =>
  if (!r9.2) then (some ((false, (⟨(⟨s3, i4⟩ : scan_Scanner), x_p.f_out, x_p.f_from, x_p.f_s⟩ : commas_splitter)))) else ((zg (⟨s3, i4⟩ : scan_Scanner) r9.1).bind fun r15 =>
  if (r9.1 == 40) then ((zM i5 1).bind fun i21 =>
  (zh x_p n) r15.2.f_s r15.2.f_at i21) else (if (r9.1 == 41) then ((zci i5 1).bind fun i24 =>
  (zh x_p n) r15.2.f_s r15.2.f_at i24) else (if (r9.1 == 92) then ((zC r15.2).bind fun r27 =>
  if r27.2 then ((zg r15.2 r27.1).bind fun r31 =>
  (zh x_p n) r31.2.f_s r31.2.f_at i5) else ((zh x_p n) r15.2.f_s r15.2.f_at i5)) else ((zh x_p n) r15.2.f_s r15.2.f_at i5))))) else (zbU x_p s3 i4)

def zaC (x_p : commas_splitter) : Option (Bool × commas_splitter) :=
  zh x_p fuel x_p.Scanner.f_s x_p.Scanner.f_at 1

def zcL (t3 : Bool) : Option Bool :=
  some t3

def zfq (x_b : UInt8) : Option Bool :=
  if (decide (32 < x_b)) then (zcL (decide (x_b < 127))) else (zcL false)

def zdD (t3 : Bool) : Option Bool :=
  some t3

def zgg (x_b : UInt8) : Option Bool :=
  if (x_b == 32) then (zdD true) else (zdD (x_b == 9))

def zco (t6 : Bool) : Option Bool :=
  some t6

def zch (x_b : UInt8) : Option Bool :=
  (zfq x_b).bind fun r2 =>
  if r2 then (zco true) else ((zgg x_b).bind fun r4 =>
  if r4 then (zco true) else (zco (decide (127 < x_b))))

def zaZ (x_r : quoted_reader) (r2 : Bool × scan_Scanner) (r5 : UInt8 × Bool) (t9 : Bool) : Option (Bool × quoted_reader) :=
  if t9 then (some ((false, (⟨r2.2, x_r.f_out⟩ : quoted_reader)))) else (if zap x_r.f_out.length 1 1 then ((zg r2.2 r5.1).bind fun r18 =>
  some ((r18.1, (⟨r18.2, x_r.f_out ++ [r5.1]⟩ : quoted_reader)))) else none)

def za4 (x_r : quoted_reader) : Option (Bool × quoted_reader) :=
  (zg x_r.Scanner 92).bind fun r2 =>
  (zC r2.2).bind fun r5 =>
  if (!r5.2) then (zaZ x_r r2 r5 true) else ((zch r5.1).bind fun r8 =>
  zaZ x_r r2 r5 (!r8))

def zbe (x_c : scan_Scanner) (x_at : Int) (t4 : Bool) : Option (Bool × scan_Scanner) :=
  if t4 then (some (false, x_c)) else (some ((true, (⟨x_c.f_s, x_at⟩ : scan_Scanner))))

def zb9 (x_c : scan_Scanner) (x_at : Int) : Option (Bool × scan_Scanner) :=
  if (decide (x_at < 0)) then (zbe x_c x_at true) else ((zaW x_c).bind fun r3 =>
  zbe x_c x_at (decide (r3 < x_at)))

def zdk (r2 : Int) (t27 : Bool) (s28 : Str) (i29 : Int) (l32 : List UInt8) : Option (Str × Bool × scan_Scanner) :=
  if (!t27) then ((zb9 (⟨s28, i29⟩ : scan_Scanner) r2).bind fun r35 =>
  some ([], false, r35.2)) else (some ((l32, true, (⟨s28, i29⟩ : scan_Scanner))))

def zcp (rec1 : Str → Int → (List UInt8) → Bool → Option (Str × Bool × scan_Scanner)) (r2 : Int) (l13 : List UInt8) (t14 : Bool) (t18 : Bool) (s19 : Str) (i20 : Int) : Option (Str × Bool × scan_Scanner) :=
  if t18 then ((za4 ((⟨(⟨s19, i20⟩ : scan_Scanner), l13⟩ : quoted_reader))).bind fun r23 =>
  rec1 r23.2.Scanner.f_s r23.2.Scanner.f_at r23.2.f_out r23.1) else (zdk r2 t14 s19 i20 l13)

def zad (r2 : Int) : Nat → Str → Int → (List UInt8) → Bool → Option (Str × Bool × scan_Scanner)
  | 0, _, _, _, _ => none
  | n + 1, s9, i10, l13, t14 =>
  if t14 then ((zg (⟨s9, i10⟩ : scan_Scanner) 34).bind fun r16 =>
  zcp (zad r2 n) r2 l13 t14 (!r16.1) r16.2.f_s r16.2.f_at) else (zcp (zad r2 n) r2 l13 t14 false s9 i10)

def zfg (x_c : scan_Scanner) : Option (Str × Bool × scan_Scanner) :=
  (zaW x_c).bind fun r2 =>
  (zg x_c 34).bind fun r6 =>
  zad r2 fuel r6.2.f_s r6.2.f_at [] r6.1

def zbn (l34 : List Str) (i35 : Int) (s36 : Str) (s37 : Str) (i38 : Int) : Option (Bool × commas_splitter) :=
  some ((true, (⟨(⟨s37, i38⟩ : scan_Scanner), l34, i35, s36⟩ : commas_splitter)))

def zV (x_p : commas_splitter) : Option (Bool × commas_splitter) :=
  (zaW x_p.Scanner).bind fun r2 =>
  (zg x_p.Scanner 44).bind fun r4 =>
  if r4.1 then ((zaR (⟨r4.2, x_p.f_out, x_p.f_from, x_p.f_s⟩ : commas_splitter) r2).bind fun r8 =>
  zbn r8.f_out r8.f_from r8.f_s r8.Scanner.f_s r8.Scanner.f_at) else ((zg r4.2 40).bind fun r12 =>
  if r12.1 then ((zaC (⟨r12.2, x_p.f_out, x_p.f_from, x_p.f_s⟩ : commas_splitter)).bind fun r16 =>
  some (r16.1, r16.2)) else ((zC r12.2).bind fun r21 =>
  if (r21.1 == 34) then ((zfg r12.2).bind fun r25 =>
  some ((r25.2.1, (⟨r25.2.2, x_p.f_out, x_p.f_from, x_p.f_s⟩ : commas_splitter)))) else ((zg r12.2 r21.1).bind fun r30 =>
  zbn x_p.f_out x_p.f_from x_p.f_s r30.2.f_s r30.2.f_at)))

def zd2 (x_s : Str) (l26 : List Str) (i27 : Int) (s28 : Str) (s29 : Str) (i30 : Int) : Option (List Str × Int) :=
  (zaR ((⟨(⟨s29, i30⟩ : scan_Scanner), l26, i27, s28⟩ : commas_splitter)) (x_s.length : Int)).bind fun r31 =>
  some (r31.f_out, 0)

def zaX (x_s : Str) : Nat → (List Str) → Int → Str → Str → Int → Option (List Str × Int)
  | 0, _, _, _, _, _ => none
  | n + 1, l8, i9, s10, s11, i12 =>
  (zaB (⟨s11, i12⟩ : scan_Scanner)).bind fun r13 =>
  if (!r13) then ((zV ((⟨(⟨s11, i12⟩ : scan_Scanner), l8, i9, s10⟩ : commas_splitter))).bind fun r17 =>
  if (!r17.1) then (some ([], 2)) else ((zaX x_s n) r17.2.f_out r17.2.f_from r17.2.f_s r17.2.Scanner.f_s r17.2.Scanner.f_at)) else (zd2 x_s l8 i9 s10 s11 i12)

def zeu (x_s : Str) : Option (List Str × Int) :=
  (zhP x_s).bind fun r2 =>
  zaX x_s fuel [] 0 x_s r2.f_s r2.f_at

def za0 (r2 : Int) (s14 : Str) (i15 : Int) : Option (Str × scan_Scanner) :=
  (zeG s14 r2 i15).bind fun s18 =>
  some ((s18, (⟨s14, i15⟩ : scan_Scanner)))

def zak (rec1 : Str → Int → Option (Str × scan_Scanner)) (r2 : Int) (s4 : Str) (i5 : Int) (t10 : Bool) : Option (Str × scan_Scanner) :=
  if t10 then (za0 r2 s4 i5) else ((zM i5 1).bind fun i13 =>
  rec1 s4 i13)

def zH (x_is : UInt8 → Option Bool) (r2 : Int) : Nat → Str → Int → Option (Str × scan_Scanner)
  | 0, _, _ => none
  | n + 1, s4, i5 =>
  (zC (⟨s4, i5⟩ : scan_Scanner)).bind fun r6 =>
  if (!r6.2) then (zak (zH x_is r2 n) r2 s4 i5 true) else ((x_is r6.1).bind fun r9 =>
  zak (zH x_is r2 n) r2 s4 i5 (!r9))

def zaw (x_c : scan_Scanner) (x_is : UInt8 → Option Bool) : Option (Str × scan_Scanner) :=
  (zaW x_c).bind fun r2 =>
  zH x_is r2 fuel x_c.f_s x_c.f_at

def zev (x_b : UInt8) (t3 : Bool) : Option UInt8 :=
  if t3 then (some (x_b + 32)) else (some x_b)

def zah (x_b : UInt8) : Option UInt8 :=
  if (decide (65 ≤ x_b)) then (zev x_b (decide (x_b ≤ 90))) else (zev x_b false)

def zdE (t5 : Bool) : Option Bool :=
  some t5

def ze2 (x_b : UInt8) : Option Bool :=
  (zah x_b).bind fun r2 =>
  if (decide (97 ≤ r2)) then ((zah x_b).bind fun r4 =>
  zdE (decide (r4 ≤ 122))) else (zdE false)

def zdF (t3 : Bool) : Option Bool :=
  some t3

def zam (x_b : UInt8) : Option Bool :=
  if (decide (48 ≤ x_b)) then (zdF (decide (x_b ≤ 57))) else (zdF false)

def zgE (x_b : UInt8) (x_l : Str) : Option Bool :=
  (strings_IndexByte x_l x_b).bind fun r2 =>
  some (decide (0 ≤ r2))

def zcq (t7 : Bool) : Option Bool :=
  some t7

def zbJ (x_b : UInt8) : Option Bool :=
  (ze2 x_b).bind fun r2 =>
  if r2 then (zcq true) else ((zam x_b).bind fun r4 =>
  if r4 then (zcq true) else ((zgE x_b [33, 35, 36, 37, 38, 39, 42, 43, 45, 46, 94, 95, 96, 124, 126]).bind fun r6 =>
  zcq r6))

def za5 (x_c : scan_Scanner) : Option (Str × Bool × scan_Scanner) :=
  (zaw x_c zbJ).bind fun r2 =>
  some ((r2.1, !(r2.1 == []), r2.2))

def zaL (x_v : api_Via) (t17 : Bool) (s18 : Str) (i19 : Int) (s20 : Str) (s21 : Str) : Option (Bool × scan_Scanner × api_Via) :=
  some ((t17, (⟨s18, i19⟩ : scan_Scanner), (⟨s20, s21, x_v.By, x_v.Comment⟩ : api_Via)))

def zaM (x_v : api_Via) (r3 : Str × Bool × scan_Scanner) (t10 : Bool) (s11 : Str) (i12 : Int) : Option (Bool × scan_Scanner × api_Via) :=
  if t10 then ((za5 (⟨s11, i12⟩ : scan_Scanner)).bind fun r15 =>
  zaL x_v r15.2.1 r15.2.2.f_s r15.2.2.f_at r3.1 r15.1) else (zaL x_v r3.2.1 s11 i12 x_v.Proto r3.1)

def zaS (x_r : via_reader) (x_v : api_Via) : Option (Bool × scan_Scanner × api_Via) :=
  (za5 x_r.Scanner).bind fun r3 =>
  if r3.2.1 then ((zg r3.2.2 47).bind fun r8 =>
  zaM x_v r3 r8.1 r8.2.f_s r8.2.f_at) else (zaM x_v r3 false r3.2.2.f_s r3.2.2.f_at)

def zcR (x_b : UInt8) : Option Bool :=
  some (!(x_b == 32))

def zbB (rec1 : Int → Option Bool) (x_is : UInt8 → Option Bool) (i3 : Int) (x7 : Str) : Nat → Int → Option Bool
  | 0, _ => none
  | n + 1, i12 =>
  if (decide (i12 < (x7.length : Int))) then ((sAt x7 i12).bind fun b17 =>
  (x_is b17).bind fun r18 =>
  if (!r18) then (some false) else ((zM i12 1).bind fun i23 =>
  (zbB rec1 x_is i3 x7 n) i23)) else ((zM i3 1).bind fun i25 =>
  rec1 i25)

def zbC (x_is : UInt8 → Option Bool) (x_l : List Str) : Nat → Int → Option Bool
  | 0, _ => none
  | n + 1, i3 =>
  if (decide (i3 < (x_l.length : Int))) then ((lAt x_l i3).bind fun x7 =>
  zbB (zbC x_is x_l n) x_is i3 x7 fuel 0) else (some true)

def zdG (x_is : UInt8 → Option Bool) (x_l : List Str) : Option Bool :=
  zbC x_is x_l fuel 0

def zdT (x_b : UInt8) : Option Int :=
  (zam x_b).bind fun r2 =>
  if r2 then (some (((x_b - 48).toNat : Int))) else ((zah x_b).bind fun r7 =>
  (zM (((r7 - 97).toNat : Int)) 10).bind fun i8 =>
  some i8)

def zb3 (rec2 : Int → Int → Option (Int × Int)) (x_base : Int) (i11 : Int) (i12 : Int) (r18 : Int) (t23 : Bool) : Option (Int × Int) :=
  if t23 then (some (0, 7)) else ((zmW i11 x_base).bind fun i27 =>
  (zM i27 r18).bind fun i28 =>
  (zM i12 1).bind fun i30 =>
  rec2 i28 i30)

def zaf (x_s : Str) (x_base : Int) (x_most : Int) : Nat → Int → Int → Option (Int × Int)
  | 0, _, _ => none
  | n + 1, i11, i12 =>
  if (decide (i12 < (x_s.length : Int))) then ((sAt x_s i12).bind fun b17 =>
  (zdT b17).bind fun r18 =>
  if (decide (x_most < r18)) then (zb3 (zaf x_s x_base x_most n) x_base i11 i12 r18 true) else ((zci x_most r18).bind fun i21 =>
  (zmX i21 x_base).bind fun i22 =>
  zb3 (zaf x_s x_base x_most n) x_base i11 i12 r18 (decide (i22 < i11)))) else (some (i11, 0))

def zb4 (x_s : Str) (x_base : Int) (x_most : Int) (t5 : Bool) : Option (Int × Int) :=
  if t5 then (some (0, 2)) else (zaf x_s x_base x_most fuel 0 0)

def zew (x_s : Str) (x_base : Int) (x_most : Int) (x_is : UInt8 → Option Bool) : Option (Int × Int) :=
  if (x_s == []) then (zb4 x_s x_base x_most true) else ((zdG x_is ([x_s] : List Str)).bind fun r4 =>
  zb4 x_s x_base x_most (!r4))

def zb5 (x_s : Str) (x_most : Int) : Option (Int × Int) :=
  (zew x_s 10 x_most zam).bind fun r2 =>
  some (r2.1, r2.2)

def zfv (x_n : Int) (x_base : Int) : Option Str :=
  if (decide (x_n < 0)) then (some []) else ((zc9 x_n x_base).bind fun r6 =>
  some r6)

def zex (x_n : Int) : Option Str :=
  (zfv x_n 10).bind fun r2 =>
  some r2

def zbo (t6 : Bool) : Option Bool :=
  some t6

def zbV (x_s : Str) (x_most : Int) : Option Bool :=
  (zb5 x_s x_most).bind fun r2 =>
  if (r2.2 == 0) then ((zex r2.1).bind fun r5 =>
  zbo (r5 == x_s)) else (zbo false)

def zc1 (s : Str) : Option Bool := if s.length < 1000000000 then ((zf 46 s).mapM (fun x => zbV x 255)).bind fun bs => some (bs.all id && decide ((bs.length : Int) = 4)) else none

def zdl (t7 : Bool) : Option Bool :=
  some t7

def zcC (x_b : UInt8) : Option Bool :=
  (zam x_b).bind fun r2 =>
  if r2 then (zdl true) else ((zah x_b).bind fun r4 =>
  if (decide (97 ≤ r4)) then ((zah x_b).bind fun r6 =>
  zdl (decide (r6 ≤ 102))) else (zdl false))

def za6 (rec1 : Int → Int → Option Int) (i13 : Int) (i36 : Int) : Option Int :=
  (zM i13 1).bind fun i37 =>
  rec1 i36 i37

def zax (rec1 : Int → Int → Option Int) (i12 : Int) (i13 : Int) (t32 : Bool) : Option Int :=
  if t32 then ((zM i12 1).bind fun i34 =>
  za6 rec1 i13 i34) else (some (-1))

def zay (rec1 : Int → Int → Option Int) (i12 : Int) (i13 : Int) (x17 : Str) (t25 : Bool) : Option Int :=
  if t25 then ((zM i12 2).bind fun i27 =>
  za6 rec1 i13 i27) else (if (decide (1 ≤ (x17.length : Int))) then (if (decide ((x17.length : Int) ≤ 4)) then ((zdG zcC ([x17] : List Str)).bind fun r31 =>
  zax rec1 i12 i13 r31) else (zax rec1 i12 i13 false)) else (zax rec1 i12 i13 false))

def zD (x_last : Bool) (r6 : List Str) : Nat → Int → Int → Option Int
  | 0, _, _ => none
  | n + 1, i12, i13 =>
  if (decide (i13 < (r6.length : Int))) then ((lAt r6 i13).bind fun x17 =>
  if x_last then ((zci (r6.length : Int) 1).bind fun i22 =>
  if (i13 == i22) then ((zc1 x17).bind fun r24 =>
  zay (zD x_last r6 n) i12 i13 x17 r24) else (zay (zD x_last r6 n) i12 i13 x17 false)) else (zay (zD x_last r6 n) i12 i13 x17 false)) else (some i12)

def zbt (x_s : Str) (x_last : Bool) : Option Int :=
  if (x_s == []) then (some 0) else ((strings_Split x_s [58]).bind fun r6 =>
  zD x_last r6 fuel 0 0)

def zaY (t15 : Bool) : Option Bool :=
  some t15

def zdH (x_s : Str) : Option Bool :=
  (strings_Cut x_s [58, 58]).bind fun r2 =>
  if (!r2.2.2) then ((zbt x_s true).bind fun r6 =>
  some (r6 == 8)) else ((zbt r2.1 false).bind fun r9 =>
  (zbt r2.2.1 true).bind fun r10 =>
  if (decide (0 ≤ r9)) then (if (decide (0 ≤ r10)) then ((zM r9 r10).bind fun i14 =>
  zaY (decide (i14 ≤ 7))) else (zaY false)) else (zaY false))

def zR (t8 : Bool) : Option Bool :=
  some t8

def zdI (x_s : Str) : Option Bool :=
  if (decide (3 ≤ (x_s.length : Int))) then ((sAt x_s 0).bind fun b3 =>
  if (b3 == 37) then ((zeG x_s 1 3).bind fun s5 =>
  (zdG zcC ([s5] : List Str)).bind fun r7 =>
  zR r7) else (zR false)) else (zR false)

def za1 (t7 : Bool) : Option Bool :=
  some t7

def zbW (x_b : UInt8) : Option Bool :=
  (ze2 x_b).bind fun r2 =>
  if r2 then (za1 true) else ((zam x_b).bind fun r4 =>
  if r4 then (za1 true) else ((zgE x_b [45, 46, 95, 126]).bind fun r6 =>
  za1 r6))

def zfh (x_b : UInt8) : Option Bool :=
  (zgE x_b [33, 36, 38, 39, 40, 41, 42, 43, 44, 59, 61]).bind fun r2 =>
  some r2

def zcr (rec1 : Str → Option Bool) (s6 : Str) (t19 : Bool) : Option Bool :=
  if t19 then ((zem s6 1).bind fun s21 =>
  rec1 s21) else (some false)

def zZ : Nat → Str → Option Bool
  | 0, _ => none
  | n + 1, s6 =>
  if (!(s6 == [])) then ((zdI s6).bind fun r10 =>
  if r10 then ((zem s6 3).bind fun s13 =>
  (zZ n) s13) else ((sAt s6 0).bind fun b14 =>
  (zbW b14).bind fun r15 =>
  if r15 then (zcr (zZ n) s6 true) else ((sAt s6 0).bind fun b17 =>
  (zfh b17).bind fun r18 =>
  zcr (zZ n) s6 r18))) else (some true)

def zdU (x_s : Str) : Option Bool :=
  if (x_s == []) then (some false) else (zZ fuel x_s)

def zbX (i24 : Int) (s25 : Str) : Option (api_Host × Bool) :=
  some (((⟨i24, s25, (-1)⟩ : api_Host), !(i24 == 0)))

def zbf (x_s : Str) (t14 : Bool) : Option (api_Host × Bool) :=
  if t14 then ((zci (x_s.length : Int) 1).bind fun i16 =>
  (zeG x_s 1 i16).bind fun s17 =>
  zbX 3 s17) else ((zc1 x_s).bind fun r18 =>
  if r18 then (zbX 2 x_s) else ((zdU x_s).bind fun r21 =>
  if r21 then (zbX 1 x_s) else (zbX 0 x_s)))

def zeb (x_s : Str) : Option (api_Host × Bool) :=
  if (decide (2 < (x_s.length : Int))) then ((sAt x_s 0).bind fun b6 =>
  if (b6 == 91) then ((zci (x_s.length : Int) 1).bind fun i8 =>
  (sAt x_s i8).bind fun b9 =>
  if (b9 == 93) then ((zci (x_s.length : Int) 1).bind fun i11 =>
  (zeG x_s 1 i11).bind fun s12 =>
  (zdH s12).bind fun r13 =>
  zbf x_s r13) else (zbf x_s false)) else (zbf x_s false)) else (zbf x_s false)

def zE (x_s : Str) (x_c : UInt8) : Nat → Int → Option Int
  | 0, _ => none
  | n + 1, i4 =>
  if (decide (0 ≤ i4)) then ((sAt x_s i4).bind fun b8 =>
  if (b8 == x_c) then (some i4) else ((zci i4 1).bind fun i13 =>
  (zE x_s x_c n) i13)) else (some (-1))

def zaD (x_s : Str) (x_c : UInt8) : Option Int :=
  (zci (x_s.length : Int) 1).bind fun i2 =>
  zE x_s x_c fuel i2

def za2 (x_s : Str) (x_c : UInt8) : Option Int :=
  (zaD x_s x_c).bind fun r2 =>
  some r2

def zca (x_s : Str) (r10 : Int) (r17 : api_Host × Bool) (t24 : Bool) : Option (api_Host × Int) :=
  if t24 then (some (((⟨0, [], 0⟩ : api_Host), 27))) else ((zM r10 1).bind fun i28 =>
  (zem x_s i28).bind fun s29 =>
  (zb5 s29 65535).bind fun r30 =>
  some (((⟨r17.1.Kind, r17.1.Name, r30.1⟩ : api_Host), 0)))

def zdm (x_s : Str) : Option (api_Host × Int) :=
  (zeb x_s).bind fun r3 =>
  if r3.2 then (some (r3.1, 0)) else ((za2 x_s 58).bind fun r10 =>
  if (decide (r10 < 0)) then (some (((⟨0, [], 0⟩ : api_Host), 27))) else ((sTo x_s r10).bind fun s16 =>
  (zeb s16).bind fun r17 =>
  if (!r17.2) then (zca x_s r10 r17 true) else ((zM r10 1).bind fun i21 =>
  (zem x_s i21).bind fun s22 =>
  (zbV s22 65535).bind fun r23 =>
  zca x_s r10 r17 (!r23))))

def zdn (t5 : Bool) : Option Bool :=
  some t5

def zfi (x_s : Str) : Option Bool :=
  if (!(x_s == [])) then ((zdG zbJ ([x_s] : List Str)).bind fun r4 =>
  zdn r4) else (zdn false)

def strings_ContainsAny (x_s : Str) (x_chars : Str) : Option Bool :=
  (strings_IndexAny x_s x_chars).bind fun r2 =>
  some (decide (0 ≤ r2))

def zbQ (x_v : api_Via) (r3 : Str × scan_Scanner) (t13 : Bool) : Option (Bool × scan_Scanner × api_Via) :=
  some ((t13, r3.2, (⟨x_v.Proto, x_v.Version, r3.1, x_v.Comment⟩ : api_Via)))

def ze3 (x_r : via_reader) (x_v : api_Via) : Option (Bool × scan_Scanner × api_Via) :=
  (zaw x_r.Scanner zcR).bind fun r3 =>
  (zdm r3.1).bind fun r6 =>
  (zfi r3.1).bind fun r9 =>
  if r9 then (zbQ x_v r3 true) else (if (r6.2 == 0) then ((strings_ContainsAny r3.1 [44, 40, 41]).bind fun r12 =>
  zbQ x_v r3 (!r12)) else (zbQ x_v r3 false))

def z6 (t4 : Bool) : Option Bool :=
  some t4

def stringslite_HasPrefix (x_s : Str) (x_prefix : Str) : Option Bool :=
  if (decide ((x_prefix.length : Int) ≤ (x_s.length : Int))) then ((sTo x_s (x_prefix.length : Int)).bind fun s3 =>
  z6 (s3 == x_prefix)) else (z6 false)

def stringslite_CutPrefix (x_s : Str) (x_prefix : Str) : Option (Str × Bool) :=
  (stringslite_HasPrefix x_s x_prefix).bind fun r2 =>
  if (!r2) then (some (x_s, false)) else ((zem x_s (x_prefix.length : Int)).bind fun s7 =>
  some (s7, true))

def strings_CutPrefix (x_s : Str) (x_prefix : Str) : Option (Str × Bool) :=
  (stringslite_CutPrefix x_s x_prefix).bind fun r2 =>
  some (r2.1, r2.2)

def z7 (t5 : Bool) : Option Bool :=
  some t5

def stringslite_HasSuffix (x_s : Str) (x_suffix : Str) : Option Bool :=
  if (decide ((x_suffix.length : Int) ≤ (x_s.length : Int))) then ((zci (x_s.length : Int) (x_suffix.length : Int)).bind fun i3 =>
  (zem x_s i3).bind fun s4 =>
  z7 (s4 == x_suffix)) else (z7 false)

def stringslite_CutSuffix (x_s : Str) (x_suffix : Str) : Option (Str × Bool) :=
  (stringslite_HasSuffix x_s x_suffix).bind fun r2 =>
  if (!r2) then (some (x_s, false)) else ((zci (x_s.length : Int) (x_suffix.length : Int)).bind fun i7 =>
  (sTo x_s i7).bind fun s8 =>
  some (s8, true))

def strings_CutSuffix (x_s : Str) (x_suffix : Str) : Option (Str × Bool) :=
  (stringslite_CutSuffix x_s x_suffix).bind fun r2 =>
  some (r2.1, r2.2)

def zbu (rec1 : Int → Int → Option Bool) (i20 : Int) (i21 : Int) (t23 : Bool) : Option Bool :=
  if t23 then (some false) else ((zM i21 1).bind fun i27 =>
  rec1 i20 i27)

def zag (rec1 : Int → Int → Option Bool) (x_s : Str) (i20 : Int) (i21 : Int) : Option Bool :=
  if (decide (i20 < 0)) then (zbu rec1 i20 i21 true) else (zbu rec1 i20 i21 (decide ((x_s.length : Int) ≤ i21)))

def zcS (t32 : Bool) : Option Bool :=
  some t32

def zJ (x_s : Str) : Nat → Int → Int → Option Bool
  | 0, _, _ => none
  | n + 1, i4, i5 =>
  if (decide (i5 < (x_s.length : Int))) then ((sAt x_s i5).bind fun b9 =>
  if (b9 == 40) then ((zM i4 1).bind fun i13 =>
  zag (zJ x_s n) x_s i13 i5) else (if (b9 == 41) then ((zci i4 1).bind fun i16 =>
  zag (zJ x_s n) x_s i16 i5) else (if (b9 == 92) then ((zM i5 1).bind fun i19 =>
  zag (zJ x_s n) x_s i4 i19) else (zag (zJ x_s n) x_s i4 i5)))) else (if (i4 == 0) then ((zdG zch ([x_s] : List Str)).bind fun r31 =>
  zcS r31) else (zcS false))

def zey (x_s : Str) : Option Bool :=
  zJ x_s fuel 0 0

def z8 (x_r : via_reader) (x_v : api_Via) (r11 : Str × Bool) (t18 : Bool) : Option (Bool × scan_Scanner × api_Via) :=
  some ((t18, x_r.Scanner, (⟨x_v.Proto, x_v.Version, x_v.By, r11.1⟩ : api_Via)))

def za7 (x_r : via_reader) (x_v : api_Via) : Option (Bool × scan_Scanner × api_Via) :=
  (zaB x_r.Scanner).bind fun r3 =>
  if r3 then (some (true, x_r.Scanner, x_v)) else ((zaJ x_r.Scanner).bind fun r8 =>
  (strings_CutPrefix r8 [32, 40]).bind fun r9 =>
  (strings_CutSuffix r9.1 [41]).bind fun r11 =>
  if r9.2 then (if r11.2 then (if (!(r11.1 == [])) then ((zey r11.1).bind fun r17 =>
  z8 x_r x_v r11 r17) else (z8 x_r x_v r11 false)) else (z8 x_r x_v r11 false)) else (z8 x_r x_v r11 false))

def zcM (t20 : Bool) (s21 : Str) (i22 : Int) (s23 : Str) (s24 : Str) (s25 : Str) (s26 : Str) : Option (api_Via × Int) :=
  if t20 then (some (((⟨[], [], [], []⟩ : api_Via), 2))) else (some (((⟨s23, s24, s25, s26⟩ : api_Via), 0)))

def zeW (x_s : Str) : Option (api_Via × Int) :=
  (zhP x_s).bind fun r3 =>
  (zaS (⟨r3⟩ : via_reader) (⟨[], [], [], []⟩ : api_Via)).bind fun r9 =>
  if (!r9.1) then (zcM true r9.2.1.f_s r9.2.1.f_at r9.2.2.Proto r9.2.2.Version r9.2.2.By r9.2.2.Comment) else ((zg r9.2.1 32).bind fun r12 =>
  if (!r12.1) then (zcM true r12.2.f_s r12.2.f_at r9.2.2.Proto r9.2.2.Version r9.2.2.By r9.2.2.Comment) else ((ze3 (⟨r12.2⟩ : via_reader) r9.2.2).bind fun r15 =>
  if (!r15.1) then (zcM true r15.2.1.f_s r15.2.1.f_at r15.2.2.Proto r15.2.2.Version r15.2.2.By r15.2.2.Comment) else ((za7 (⟨r15.2.1⟩ : via_reader) r15.2.2).bind fun r18 =>
  zcM (!r18.1) r18.2.1.f_s r18.2.1.f_at r18.2.2.Proto r18.2.2.Version r18.2.2.By r18.2.2.Comment)))

def zcD (rec1 : (List api_Via) → Int → Option (List api_Via × Int)) (i7 : Int) (r15 : List Str × Int) : Nat → (List api_Via) → Int → Option (List api_Via × Int)
  | 0, _, _ => none
  | n + 1, l26, i27 =>
  if (decide (i27 < (r15.1.length : Int))) then ((lAt r15.1 i27).bind fun x31 =>
  (zeW x31).bind fun r35 =>
  if (!(r35.2 == 0)) then (some ([], r35.2)) else (if zap l26.length 1 64 then ((zM i27 1).bind fun i47 =>
  (zcD rec1 i7 r15 n) (l26 ++ [r35.1]) i47) else none)) else ((zM i7 1).bind fun i49 =>
  rec1 l26 i49)

def zcb (x_values : List Str) : Nat → (List api_Via) → Int → Option (List api_Via × Int)
  | 0, _, _ => none
  | n + 1, l6, i7 =>
  if (decide (i7 < (x_values.length : Int))) then ((lAt x_values i7).bind fun x11 =>
  (zeu x11).bind fun r15 =>
  if (!(r15.2 == 0)) then (some ([], r15.2)) else (zcD (zcb x_values n) i7 r15 fuel l6 0)) else (some (l6, 0))

def zfO (x_values : List Str) : Option (List api_Via × Int) :=
  zcb x_values fuel [] 0

def zbK (x_a : List api_Via) (x_b : List api_Via) : Nat → Int → Option Bool
  | 0, _ => none
  | n + 1, i7 =>
  if (decide (i7 < (x_a.length : Int))) then ((lAt x_a i7).bind fun x11 =>
  (lAt x_b i7).bind fun x14 =>
  if (!(x11 == x14)) then (some false) else ((zM i7 1).bind fun i21 =>
  (zbK x_a x_b n) i21)) else (some true)

def zd6 (x_a : List api_Via) (x_b : List api_Via) : Option Bool :=
  if (!((x_a.length : Int) == (x_b.length : Int))) then (some false) else (zbK x_a x_b fuel 0)

def zez (t10 : Bool) : Option Bool :=
  some t10

def zf9 : Option Bool :=
  (zfO ([[49, 46, 49, 32, 97, 44, 32, 72, 84, 84, 80, 47, 49, 46, 48, 32, 98, 58, 56, 48, 32, 40, 120, 41]] : List Str)).bind fun r3 =>
  if (r3.2 == 0) then ((zd6 r3.1 ([(⟨[], [49, 46, 49], [97], []⟩ : api_Via), (⟨[72, 84, 84, 80], [49, 46, 48], [98, 58, 56, 48], [120]⟩ : api_Via)])).bind fun r9 =>
  zez r9) else (zez false)

def zg3 (s22 : Str) (s23 : Str) (s24 : Str) (s25 : Str) : Option api_Via :=
  some (⟨s22, s23, s24, s25⟩ : api_Via)

def zbD : Nat → Str → Str → Str → Str → Int → Option api_Via
  | 0, _, _, _, _, _ => none
  | n + 1, s7, s8, s9, s10, i11 =>
  if (decide (i11 < 4)) then ((lAt [s7, s8, s9, s10] i11).bind fun x15 =>
  (lAt [s7, s8, s9, s10] i11).bind fun x16 =>
  (sTo x15 (min (x16.length : Int) 60)).bind fun s17 =>
  (lAt [s7, s8, s9, s10] i11).bind fun x18 =>
  ((zkR [s7, s8, s9, s10] i11 s17).bind tup4).bind fun r19 =>
  (zM i11 1).bind fun i21 =>
  (zbD n) r19.1 r19.2.1 r19.2.2.1 r19.2.2.2 i21) else (zg3 s7 s8 s9 s10)

def zgF (x_v : api_Via) : Option api_Via :=
  zbD fuel x_v.Proto x_v.Version x_v.By x_v.Comment 0

def zdJ (x_s : Str) : Option Str :=
  (sTo x_s (min (x_s.length : Int) 400)).bind fun s2 =>
  some s2

def zeA (rec1 : (List api_Field) → Int → Option api_Head) (x_h : api_Head) (r4 : Str) (r6 : Str) (r8 : Str) (l14 : List api_Field) (i15 : Int) (t17 : Bool) : Option api_Head :=
  if t17 then ((lAt x_h.Fields i15).bind fun x20 =>
  (zdJ x20.Name).bind fun r23 =>
  (lAt x_h.Fields i15).bind fun x24 =>
  (zdJ x24.Value).bind fun r27 =>
  if zap l14.length 1 32 then ((zM i15 1).bind fun i33 =>
  rec1 (l14 ++ [(⟨r23, r27⟩ : api_Field)]) i33) else none) else (some (⟨x_h.Kind, r4, r6, x_h.Code, r8, x_h.Minor, l14⟩ : api_Head))

def zbE (x_h : api_Head) (r4 : Str) (r6 : Str) (r8 : Str) : Nat → (List api_Field) → Int → Option api_Head
  | 0, _, _ => none
  | n + 1, l14, i15 =>
  if (decide (i15 < (x_h.Fields.length : Int))) then (zeA (zbE x_h r4 r6 r8 n) x_h r4 r6 r8 l14 i15 (decide (i15 < 120))) else (zeA (zbE x_h r4 r6 r8 n) x_h r4 r6 r8 l14 i15 false)

def zgG (x_h : api_Head) : Option api_Head :=
  (zdJ x_h.Method).bind fun r4 =>
  (zdJ x_h.Target).bind fun r6 =>
  (zdJ x_h.Reason).bind fun r8 =>
  zbE x_h r4 r6 r8 fuel [] 0

def zdo (x_sep : Str) (x_l : List Str) : Option Str :=
  (strings_Join x_l x_sep).bind fun r2 =>
  some r2

def zfj (r23 : Str) (t29 : Bool) : Option (Str × Int) :=
  if t29 then (some ([], 2)) else (some (r23, 0))

def zec (x_v : api_Via) (l22 : List Str) : Option (Str × Int) :=
  (zdo [] l22).bind fun r23 =>
  (zeW r23).bind fun r25 =>
  if (!(r25.2 == 0)) then (zfj r23 true) else (zfj r23 (!(r25.1 == x_v)))

def zed (x_v : api_Via) (l13 : List Str) : Option (Str × Int) :=
  if (!(x_v.Comment == [])) then (if zap l13.length 3 16 then (zec x_v (l13 ++ ([[32, 40], x_v.Comment, [41]] : List Str))) else none) else (zec x_v l13)

def zhQ (x_v : api_Via) : Option (Str × Int) :=
  if (!(x_v.Proto == [])) then (if zap (([x_v.Proto, [47]] : List Str).length) 3 16 then (zed x_v (([x_v.Proto, [47]] : List Str) ++ ([x_v.Version, [32], x_v.By] : List Str))) else none) else (zed x_v ([x_v.Version, [32], x_v.By] : List Str))

def zF (x_s : List api_Field) : Option (List api_Field) :=
  if zap 0 x_s.length 32 then (some x_s) else none

def zkG (x_l : List api_Field) : Option bag_Bag :=
  (zF x_l).bind fun r2 =>
  some (⟨r2⟩ : bag_Bag)

def zeX (s : Str) : Option Str := if s.length < 4294967281 then s.mapM zah else none

def zfP (x_a : Str) (x_b : Str) : Option Bool :=
  (zeX x_a).bind fun r2 =>
  (zeX x_b).bind fun r3 =>
  some (r2 == r3)

def zcE (x_l : List Str) : Option Str :=
  (zdo [44, 32] x_l).bind fun r2 =>
  some r2

def zdV (x_s : Str) (x_l : List Str) : Option Str :=
  if ((x_l.length : Int) == 0) then (some x_s) else ((zbA x_s [32, 9, 44]).bind fun r5 =>
  if (r5 == []) then ((zcE x_l).bind fun r8 =>
  some r8) else ((zb8 x_s [32, 9]).bind fun r11 =>
  if zap (([r11] : List Str).length) x_l.length 16 then ((zcE (([r11] : List Str) ++ x_l)).bind fun r16 =>
  some r16) else none))

def zga (x_b : bag_Bag) (x_l : List api_Field) : Option bag_Bag :=
  if zap x_b.f_l.length x_l.length 32 then (some (⟨x_b.f_l ++ x_l⟩ : bag_Bag)) else none

def zai (x_b : bag_Bag) (x_name : Str) (x_element : Str) : Nat → Int → Option bag_Bag
  | 0, _ => none
  | n + 1, i5 =>
  if (decide (0 ≤ i5)) then ((lAt x_b.f_l i5).bind fun x9 =>
  (zfP x9.Name x_name).bind fun r12 =>
  if r12 then ((lAt x_b.f_l i5).bind fun x15 =>
  (zdV x15.Value ([x_element] : List Str)).bind fun r19 =>
  (lAt x_b.f_l i5).bind fun x20 =>
  (zkR x_b.f_l i5 (⟨x20.Name, r19⟩ : api_Field)).bind fun l23 =>
  some (⟨l23⟩ : bag_Bag)) else ((zci i5 1).bind fun i26 =>
  (zai x_b x_name x_element n) i26)) else ((zga x_b ([(⟨x_name, x_element⟩ : api_Field)])).bind fun r29 =>
  some r29)

def zdp (x_b : bag_Bag) (x_name : Str) (x_element : Str) : Option bag_Bag :=
  (zci (x_b.f_l.length : Int) 1).bind fun i3 =>
  zai x_b x_name x_element fuel i3

def zfw (x_b : bag_Bag) : Option (List api_Field) :=
  (zF x_b.f_l).bind fun r4 =>
  some r4

def zfQ (x_v : api_Via) (x_l : List api_Field) : Option (List api_Field × Int) :=
  (zhQ x_v).bind fun r3 =>
  if (!(r3.2 == 0)) then (some ([], r3.2)) else ((zkG x_l).bind fun r9 =>
  (zdp r9 [86, 105, 97] r3.1).bind fun r14 =>
  (zfw r14).bind fun r19 =>
  some (r19, 0))

def zdq (rec1 : (List Str) → Int → Int → Option (List Str)) (i9 : Int) (l25 : List Str) (i26 : Int) : Option (List Str) :=
  (zM i9 1).bind fun i27 =>
  rec1 l25 i26 i27

def zaN (x_s : Str) (x_c : UInt8) : Nat → (List Str) → Int → Int → Option (List Str)
  | 0, _, _, _ => none
  | n + 1, l7, i8, i9 =>
  if (decide (i9 < (x_s.length : Int))) then ((sAt x_s i9).bind fun b13 =>
  if (b13 == x_c) then ((zeG x_s i8 i9).bind fun s16 =>
  if zap l7.length 1 16 then ((zM i9 1).bind fun i22 =>
  zdq (zaN x_s x_c n) i9 (l7 ++ ([s16] : List Str)) i22) else none) else (zdq (zaN x_s x_c n) i9 l7 i8)) else ((zem x_s i8).bind fun s29 =>
  if zap l7.length 1 16 then (some (l7 ++ ([s29] : List Str))) else none)

def zdr (x_s : Str) (x_c : UInt8) : Option (List Str) :=
  zaN x_s x_c fuel [] 0 0

def zds (rec1 : Int → Option Int) (i5 : Int) (t12 : Bool) : Option Int :=
  if t12 then (some i5) else ((zM i5 1).bind fun i16 =>
  rec1 i16)

def zA (x_b : UInt8) (x_base : Int) : Nat → Int → Option Int
  | 0, _ => none
  | n + 1, i5 =>
  if (decide (i5 < x_base)) then ((sAt [48, 49, 50, 51, 52, 53, 54, 55, 56, 57, 97, 98, 99, 100, 101, 102] i5).bind fun b9 =>
  if (b9 == x_b) then (zds (zA x_b x_base n) i5 true) else ((sAt [48, 49, 50, 51, 52, 53, 54, 55, 56, 57, 65, 66, 67, 68, 69, 70] i5).bind fun b11 =>
  zds (zA x_b x_base n) i5 (b11 == x_b))) else (some (-1))

def zcc (x_b : UInt8) (x_base : Int) : Option Int :=
  zA x_b x_base fuel 0

def zbg : Nat → Int → Int → Option Str
  | 0, _, _ => none
  | n + 1, x_n, x_base =>
  if (decide (x_n < x_base)) then ((zM x_n 1).bind fun i5 =>
  (zeG [48, 49, 50, 51, 52, 53, 54, 55, 56, 57, 97, 98, 99, 100, 101, 102] x_n i5).bind fun s6 =>
  some s6) else ((zmX x_n x_base).bind fun i9 =>
  ((zbg n) i9 x_base).bind fun r10 =>
  (zoB x_n x_base).bind fun i11 =>
  (zoB x_n x_base).bind fun i12 =>
  (zM i12 1).bind fun i13 =>
  (zeG [48, 49, 50, 51, 52, 53, 54, 55, 56, 57, 97, 98, 99, 100, 101, 102] i11 i13).bind fun s14 =>
  (ze5 r10 s14).bind fun s15 =>
  some s15)

def zcN (x_n : Int) (x_base : Int) : Option Str := zbg fuel x_n x_base

def zdt (rec1 : Str → Int → Option (Str × Bool)) (i5 : Int) (s21 : Str) : Option (Str × Bool) :=
  (zM i5 1).bind fun i22 =>
  rec1 s21 i22

def zdu (rec1 : Str → Int → Option (Str × Bool)) (x_base : Int) (s4 : Str) (i5 : Int) (r10 : Int) (t17 : Bool) : Option (Str × Bool) :=
  if t17 then ((zcN r10 x_base).bind fun r19 =>
  (ze5 s4 r19).bind fun s20 =>
  zdt rec1 i5 s20) else (zdt rec1 i5 s4)

def zdv (x_s : Str) (s26 : Str) : Option (Str × Bool) :=
  some ((s26, !(x_s == [])))

def zan (x_s : Str) (x_base : Int) : Nat → Str → Int → Option (Str × Bool)
  | 0, _, _ => none
  | n + 1, s4, i5 =>
  if (decide (i5 < (x_s.length : Int))) then ((sAt x_s i5).bind fun b9 =>
  (zcc b9 x_base).bind fun r10 =>
  if (decide (r10 < 0)) then (some ([], false)) else (if (!(s4 == [])) then (zdu (zan x_s x_base n) x_base s4 i5 r10 true) else (zdu (zan x_s x_base n) x_base s4 i5 r10 (decide (0 < r10))))) else (if (s4 == []) then (zdv x_s [48]) else (zdv x_s s4))

def zfk (x_s : Str) (x_base : Int) : Option (Str × Bool) :=
  zan x_s x_base fuel [] 0

def zbL (t4 : Bool) : Option Bool :=
  some t4

def zfR (x_a : Str) (x_b : Str) : Option Bool :=
  if (decide ((x_a.length : Int) < (x_b.length : Int))) then (zbL true) else (if ((x_a.length : Int) == (x_b.length : Int)) then (zbL (zjW x_a x_b)) else (zbL false))

def zbM (x_base : Int) (r2 : Str × Bool) : Nat → Int → Int → Option (Int × Int)
  | 0, _, _ => none
  | n + 1, i17, i18 =>
  if (decide (i18 < (r2.1.length : Int))) then ((zmW i17 x_base).bind fun i22 =>
  (sAt r2.1 i18).bind fun b23 =>
  (zcc b23 x_base).bind fun r24 =>
  (zM i22 r24).bind fun i25 =>
  (zM i18 1).bind fun i27 =>
  (zbM x_base r2 n) i25 i27) else (some (i17, 0))

def zc2 (x_base : Int) (r2 : Str × Bool) (t11 : Bool) : Option (Int × Int) :=
  if t11 then (some (0, 7)) else (zbM x_base r2 fuel 0 0)

def zfS (x_s : Str) (x_base : Int) (x_most : Int) : Option (Int × Int) :=
  (zfk x_s x_base).bind fun r2 =>
  if (!r2.2) then (some (0, 2)) else (if (decide (x_most < 0)) then (zc2 x_base r2 true) else ((zcN x_most x_base).bind fun r9 =>
  (zfR r9 r2.1).bind fun r10 =>
  zc2 x_base r2 r10))

def zfT (x_n : Int) (x_base : Int) : Option Str :=
  if (decide (x_n < 0)) then (some []) else ((zcN x_n x_base).bind fun r6 =>
  some r6)

def zcs (r6 : Int × Int) (t10 : Bool) : Option Int :=
  if t10 then (some (-1)) else (some r6.1)

def zee (x_s : Str) (x_most : Int) : Option Int :=
  if (decide (5 < (x_s.length : Int))) then (some (-1)) else ((zfS x_s 10 x_most).bind fun r6 =>
  if (!(r6.2 == 0)) then (zcs r6 true) else ((zfT r6.1 10).bind fun r9 =>
  zcs r6 (!(r9 == x_s))))

def zbN (r2 : List Str) : Nat → Int → Option Bool
  | 0, _ => none
  | n + 1, i7 =>
  if (decide (i7 < (r2.length : Int))) then ((lAt r2 i7).bind fun x11 =>
  (zee x11 255).bind fun r14 =>
  if (decide (r14 < 0)) then (some false) else ((zM i7 1).bind fun i19 =>
  (zbN r2 n) i19)) else (some ((r2.length : Int) == 4))

def zeY (x_s : Str) : Option Bool :=
  (zdr x_s 46).bind fun r2 =>
  zbN r2 fuel 0

def zfl (x_b : UInt8) (x_l : Str) : Nat → Int → Option Bool
  | 0, _ => none
  | n + 1, i3 =>
  if (decide (i3 < (x_l.length : Int))) then ((sAt x_l i3).bind fun b7 =>
  if (b7 == x_b) then (some true) else ((zM i3 1).bind fun i12 =>
  (zfl x_b x_l n) i12)) else (some false)

def zgH (x_b : UInt8) (x_l : Str) : Option Bool :=
  zfl x_b x_l fuel 0

def zeZ (x_b : UInt8) : Option Bool :=
  (zgH x_b [48, 49, 50, 51, 52, 53, 54, 55, 56, 57, 97, 98, 99, 100, 101, 102, 65, 66, 67, 68, 69, 70]).bind fun r2 =>
  some r2

def zct (rec1 : Int → Int → Option Bool) (i9 : Int) (i55 : Int) : Option Bool :=
  (zM i9 1).bind fun i56 =>
  rec1 i55 i56

def zdw (rec1 : Int → Int → Option Bool) (i8 : Int) (i9 : Int) (t50 : Bool) : Option Bool :=
  if t50 then (some false) else ((zM i8 1).bind fun i54 =>
  zct rec1 i9 i54)

def zbh (rec1 : Int → Int → Option Bool) (r2 : List Str) (i8 : Int) (i9 : Int) : Nat → Int → Option Bool
  | 0, _ => none
  | n + 1, i25 =>
  (lAt r2 i9).bind fun x26 =>
  if (decide (i25 < (x26.length : Int))) then ((lAt r2 i9).bind fun x32 =>
  (sAt x32 i25).bind fun b35 =>
  (zeZ b35).bind fun r36 =>
  if (!r36) then (some false) else ((zM i25 1).bind fun i41 =>
  (zbh rec1 r2 i8 i9 n) i41)) else ((lAt r2 i9).bind fun x43 =>
  if (decide ((x43.length : Int) < 1)) then (zdw rec1 i8 i9 true) else ((lAt r2 i9).bind fun x47 =>
  zdw rec1 i8 i9 (decide (4 < (x47.length : Int)))))

def zcu (rec1 : Int → Int → Option Bool) (r2 : List Str) (i8 : Int) (i9 : Int) (t19 : Bool) : Option Bool :=
  if t19 then ((zM i8 2).bind fun i21 =>
  zct rec1 i9 i21) else (zbh rec1 r2 i8 i9 fuel 0)

def zU (r2 : List Str) : Nat → Int → Int → Option Bool
  | 0, _, _ => none
  | n + 1, i8, i9 =>
  if (decide (i9 < (r2.length : Int))) then ((zci (r2.length : Int) 1).bind fun i13 =>
  if (i9 == i13) then ((lAt r2 i9).bind fun x15 =>
  (zeY x15).bind fun r18 =>
  zcu (zU r2 n) r2 i8 i9 r18) else (zcu (zU r2 n) r2 i8 i9 false)) else (some (i8 == 8))

def zef (x_s : Str) : Option Bool :=
  (zdr x_s 58).bind fun r2 =>
  zU r2 fuel 0 0

def zeB (rec4 : Str → Int → Option Bool) (i24 : Int) (s31 : Str) : Option Bool :=
  (ze5 s31 [48]).bind fun s32 =>
  (zM i24 1).bind fun i34 =>
  rec4 s32 i34

def zdK (rec3 : Int → Option Bool) (i16 : Int) (s44 : Str) : Option Bool :=
  (zef s44).bind fun r45 =>
  if r45 then (some true) else ((zM i16 1).bind fun i50 =>
  rec3 i50)

def zbF (rec3 : Int → Option Bool) (x_s : Str) (i3 : Int) (i16 : Int) : Nat → Str → Int → Option Bool
  | 0, _, _ => none
  | n + 1, s23, i24 =>
  if (decide (i24 < i16)) then (if (!(s23 == [])) then ((ze5 s23 [58]).bind fun s30 =>
  zeB (zbF rec3 x_s i3 i16 n) i24 s30) else (zeB (zbF rec3 x_s i3 i16 n) i24 s23)) else ((zM i3 2).bind fun i36 =>
  (zem x_s i36).bind fun s37 =>
  if (!(s37 == [])) then ((ze5 s23 [58]).bind fun s40 =>
  (zM i3 2).bind fun i41 =>
  (zem x_s i41).bind fun s42 =>
  (ze5 s40 s42).bind fun s43 =>
  zdK rec3 i16 s43) else (zdK rec3 i16 s23))

def zaq (x_s : Str) (i3 : Int) : Nat → Int → Option Bool
  | 0, _ => none
  | n + 1, i16 =>
  if (decide (i16 ≤ 8)) then ((sTo x_s i3).bind fun s20 =>
  zbF (zaq x_s i3 n) x_s i3 i16 fuel s20 0) else (some false)

def zeC (rec1 : Int → Option Bool) (x_s : Str) (i3 : Int) (t12 : Bool) : Option Bool :=
  if t12 then ((zM i3 1).bind fun i54 =>
  rec1 i54) else (zaq x_s i3 fuel 1)

def zbG (x_s : Str) : Nat → Int → Option Bool
  | 0, _ => none
  | n + 1, i3 =>
  (zM i3 1).bind fun i4 =>
  if (decide (i4 < (x_s.length : Int))) then ((sAt x_s i3).bind fun b8 =>
  if (!(b8 == 58)) then (zeC (zbG x_s n) x_s i3 true) else ((zM i3 1).bind fun i10 =>
  (sAt x_s i10).bind fun b11 =>
  zeC (zbG x_s n) x_s i3 (!(b11 == 58)))) else ((zef x_s).bind fun r56 =>
  some r56)

def zfB (x_s : Str) : Option Bool :=
  zbG x_s fuel 0

def zcv (x_b : UInt8) : Option Bool :=
  (zgH x_b [97, 98, 99, 100, 101, 102, 103, 104, 105, 106, 107, 108, 109, 110, 111, 112, 113, 114, 115, 116, 117, 118, 119, 120, 121, 122, 65, 66, 67, 68, 69, 70, 71, 72, 73, 74, 75, 76, 77, 78, 79, 80, 81, 82, 83, 84, 85, 86, 87, 88, 89, 90, 48, 49, 50, 51, 52, 53, 54, 55, 56, 57, 45, 46, 95, 126]).bind fun r2 =>
  some r2

def zgI (x_b : UInt8) : Option Bool :=
  (zgH x_b [33, 36, 38, 39, 40, 41, 42, 43, 44, 59, 61]).bind fun r2 =>
  some r2

def zc3 (rec1 : Int → Option Bool) (i34 : Int) : Option Bool :=
  (zM i34 1).bind fun i35 =>
  rec1 i35

def zba (rec1 : Int → Option Bool) (i3 : Int) (t19 : Bool) : Option Bool :=
  if t19 then (some false) else ((zM i3 2).bind fun i23 =>
  zc3 rec1 i23)

def zdW (rec1 : Int → Option Bool) (i3 : Int) (t31 : Bool) : Option Bool :=
  if t31 then (some false) else (zc3 rec1 i3)

def zO (x_s : Str) : Nat → Int → Option Bool
  | 0, _ => none
  | n + 1, i3 =>
  if (decide (i3 < (x_s.length : Int))) then ((sAt x_s i3).bind fun b7 =>
  if (b7 == 37) then ((zM i3 2).bind fun i10 =>
  if (decide ((x_s.length : Int) ≤ i10)) then (zba (zO x_s n) i3 true) else ((zM i3 1).bind fun i12 =>
  (sAt x_s i12).bind fun b13 =>
  (zeZ b13).bind fun r14 =>
  if (!r14) then (zba (zO x_s n) i3 true) else ((zM i3 2).bind fun i16 =>
  (sAt x_s i16).bind fun b17 =>
  (zeZ b17).bind fun r18 =>
  zba (zO x_s n) i3 (!r18)))) else ((sAt x_s i3).bind fun b26 =>
  (zcv b26).bind fun r27 =>
  if (!r27) then ((sAt x_s i3).bind fun b29 =>
  (zgI b29).bind fun r30 =>
  zdW (zO x_s n) i3 (!r30)) else (zdW (zO x_s n) i3 false))) else (some (decide (0 < (x_s.length : Int))))

def zfU (x_s : Str) : Option Bool :=
  zO x_s fuel 0

def zcF (x_s : Str) (t12 : Bool) : Option api_Host :=
  if t12 then ((zci (x_s.length : Int) 1).bind fun i14 =>
  (zeG x_s 1 i14).bind fun s15 =>
  some ((⟨3, s15, (-1)⟩ : api_Host))) else ((zeY x_s).bind fun r18 =>
  if r18 then (some ((⟨2, x_s, (-1)⟩ : api_Host))) else ((zfU x_s).bind fun r23 =>
  if r23 then (some ((⟨1, x_s, (-1)⟩ : api_Host))) else (some (⟨0, [], 0⟩ : api_Host))))

def zgJ (x_s : Str) : Option api_Host :=
  if (decide (2 < (x_s.length : Int))) then ((sAt x_s 0).bind fun b4 =>
  if (b4 == 91) then ((zci (x_s.length : Int) 1).bind fun i6 =>
  (sAt x_s i6).bind fun b7 =>
  if (b7 == 93) then ((zci (x_s.length : Int) 1).bind fun i9 =>
  (zeG x_s 1 i9).bind fun s10 =>
  (zfB s10).bind fun r11 =>
  zcF x_s r11) else (zcF x_s false)) else (zcF x_s false)) else (zcF x_s false)

def zdx (r21 : api_Host) (r25 : Int) (t28 : Bool) : Option (api_Host × Int) :=
  if t28 then (some (((⟨0, [], 0⟩ : api_Host), 27))) else (some (((⟨r21.Kind, r21.Name, r25⟩ : api_Host), 0)))

def zbY (x_s : Str) : Nat → Int → Option (api_Host × Int)
  | 0, _ => none
  | n + 1, i12 =>
  if (decide (0 ≤ i12)) then ((sAt x_s i12).bind fun b16 =>
  if (!(b16 == 58)) then ((zci i12 1).bind fun i35 =>
  (zbY x_s n) i35) else ((sTo x_s i12).bind fun s20 =>
  (zgJ s20).bind fun r21 =>
  (zM i12 1).bind fun i23 =>
  (zem x_s i23).bind fun s24 =>
  (zee s24 65535).bind fun r25 =>
  if (r21.Kind == 0) then (zdx r21 r25 true) else (zdx r21 r25 (decide (r25 < 0))))) else (some (((⟨0, [], 0⟩ : api_Host), 27)))

def zfm (x_s : Str) : Option (api_Host × Int) :=
  (zgJ x_s).bind fun r3 =>
  if (!(r3.Kind == 0)) then (some (r3, 0)) else ((zci (x_s.length : Int) 1).bind fun i10 =>
  zbY x_s fuel i10)

def zgK (x_b : UInt8) : Option Bool :=
  (zgH x_b [97, 98, 99, 100, 101, 102, 103, 104, 105, 106, 107, 108, 109, 110, 111, 112, 113, 114, 115, 116, 117, 118, 119, 120, 121, 122, 65, 66, 67, 68, 69, 70, 71, 72, 73, 74, 75, 76, 77, 78, 79, 80, 81, 82, 83, 84, 85, 86, 87, 88, 89, 90, 48, 49, 50, 51, 52, 53, 54, 55, 56, 57, 33, 35, 36, 37, 38, 39, 42, 43, 45, 46, 94, 95, 96, 124, 126]).bind fun r2 =>
  some r2

def zbi (x_s : Str) : Nat → Int → Option Bool
  | 0, _ => none
  | n + 1, i3 =>
  if (decide (i3 < (x_s.length : Int))) then ((sAt x_s i3).bind fun b7 =>
  (zgK b7).bind fun r8 =>
  if (!r8) then (some false) else ((zM i3 1).bind fun i13 =>
  (zbi x_s n) i13)) else (some (decide (0 < (x_s.length : Int))))

def zaj (x_s : Str) : Option Bool :=
  zbi x_s fuel 0

def zcw (rec1 : Int → Option Bool) (i3 : Int) (t12 : Bool) : Option Bool :=
  if t12 then (some true) else ((zM i3 1).bind fun i16 =>
  rec1 i16)

def zao (x_s : Str) : Nat → Int → Option Bool
  | 0, _ => none
  | n + 1, i3 =>
  if (decide (i3 < (x_s.length : Int))) then ((sAt x_s i3).bind fun b7 =>
  if (b7 == 44) then (zcw (zao x_s n) i3 true) else ((sAt x_s i3).bind fun b9 =>
  if (b9 == 40) then (zcw (zao x_s n) i3 true) else ((sAt x_s i3).bind fun b11 =>
  zcw (zao x_s n) i3 (b11 == 41)))) else (some false)

def zdy (x_s : Str) : Option Bool :=
  zao x_s fuel 0

def zdz (t4 : Bool) : Option Bool :=
  some t4

def zeg (x_b : UInt8) : Option Bool :=
  if (decide (32 ≤ x_b)) then (if (!(x_b == 127)) then (zdz true) else (zdz (x_b == 9))) else (zdz (x_b == 9))

def zbR (rec1 : Int → Int → Option Bool) (i41 : Int) (i42 : Int) : Option Bool :=
  (zM i42 1).bind fun i43 =>
  rec1 i41 i43

def zcx (rec1 : Int → Int → Option Bool) (i4 : Int) (i18 : Int) (t23 : Bool) : Option Bool :=
  if t23 then (some false) else (zbR rec1 i4 i18)

def za8 (rec1 : Int → Int → Option Bool) (i5 : Int) (i37 : Int) : Option Bool :=
  if (decide (i37 < 0)) then (some false) else (zbR rec1 i37 i5)

def zcy (rec1 : Int → Int → Option Bool) (x_s : Str) (i5 : Int) (i32 : Int) : Option Bool :=
  (sAt x_s i5).bind fun b33 =>
  if (b33 == 41) then ((zci i32 1).bind fun i36 =>
  za8 rec1 i5 i36) else (za8 rec1 i5 i32)

def zq (x_s : Str) : Nat → Int → Int → Option Bool
  | 0, _, _ => none
  | n + 1, i4, i5 =>
  if (decide (i5 < (x_s.length : Int))) then ((sAt x_s i5).bind fun b9 =>
  (zeg b9).bind fun r10 =>
  if (!r10) then (some false) else ((sAt x_s i5).bind fun b15 =>
  if (b15 == 92) then ((zM i5 1).bind fun i18 =>
  if (i18 == (x_s.length : Int)) then (zcx (zq x_s n) i4 i18 true) else ((sAt x_s i18).bind fun b21 =>
  (zeg b21).bind fun r22 =>
  zcx (zq x_s n) i4 i18 (!r22))) else ((sAt x_s i5).bind fun b28 =>
  if (b28 == 40) then ((zM i4 1).bind fun i31 =>
  zcy (zq x_s n) x_s i5 i31) else (zcy (zq x_s n) x_s i5 i4)))) else (some (i4 == 0))

def zdX (x_s : Str) : Option Bool :=
  zq x_s fuel 0 0

def zbj (s28 : Str) (s45 : Str) (s46 : Str) (s77 : Str) (t89 : Bool) : Option (api_Via × Int) :=
  if t89 then (some (((⟨[], [], [], []⟩ : api_Via), 2))) else ((zci (s77.length : Int) 1).bind fun i93 =>
  (zeG s77 1 i93).bind fun s94 =>
  some (((⟨s45, s46, s28, s94⟩ : api_Via), 0)))

def zB (x_a0 : Str) (i18 : Int) (s28 : Str) (s45 : Str) (s46 : Str) (t68 : Bool) : Option (api_Via × Int) :=
  if t68 then (some (((⟨[], [], [], []⟩ : api_Via), 2))) else (if (i18 == (x_a0.length : Int)) then (some (((⟨s45, s46, s28, []⟩ : api_Via), 0))) else ((zM i18 1).bind fun i76 =>
  (zem x_a0 i76).bind fun s77 =>
  if (decide ((s77.length : Int) < 3)) then (zbj s28 s45 s46 s77 true) else ((sAt s77 0).bind fun b81 =>
  if (!(b81 == 40)) then (zbj s28 s45 s46 s77 true) else ((zci (s77.length : Int) 1).bind fun i83 =>
  (sAt s77 i83).bind fun b84 =>
  if (!(b84 == 41)) then (zbj s28 s45 s46 s77 true) else ((zci (s77.length : Int) 1).bind fun i86 =>
  (zeG s77 1 i86).bind fun s87 =>
  (zdX s87).bind fun r88 =>
  zbj s28 s45 s46 s77 (!r88))))))

def zaO (x_a0 : Str) (i18 : Int) (s28 : Str) (r32 : List Str) (s45 : Str) (s46 : Str) : Option (api_Via × Int) :=
  (zfm s28).bind fun r47 =>
  if (decide (2 < (r32.length : Int))) then (zB x_a0 i18 s28 s45 s46 true) else (if ((r32.length : Int) == 2) then ((zaj s45).bind fun r52 =>
  if (!r52) then (zB x_a0 i18 s28 s45 s46 true) else ((zaj s46).bind fun r54 =>
  if (!r54) then (zB x_a0 i18 s28 s45 s46 true) else (if (!(r47.2 == 0)) then ((zaj s28).bind fun r57 =>
  zB x_a0 i18 s28 s45 s46 (!r57)) else ((zdy s28).bind fun r58 =>
  if r58 then ((zaj s28).bind fun r60 =>
  zB x_a0 i18 s28 s45 s46 (!r60)) else (zB x_a0 i18 s28 s45 s46 false))))) else ((zaj s46).bind fun r61 =>
  if (!r61) then (zB x_a0 i18 s28 s45 s46 true) else (if (!(r47.2 == 0)) then ((zaj s28).bind fun r64 =>
  zB x_a0 i18 s28 s45 s46 (!r64)) else ((zdy s28).bind fun r65 =>
  if r65 then ((zaj s28).bind fun r67 =>
  zB x_a0 i18 s28 s45 s46 (!r67)) else (zB x_a0 i18 s28 s45 s46 false)))))

def zbZ (rec3 : Int → Option (api_Via × Int)) (x_a0 : Str) (i4 : Int) (i18 : Int) (t21 : Bool) : Option (api_Via × Int) :=
  if t21 then ((zM i18 1).bind fun i24 =>
  rec3 i24) else ((sTo x_a0 i4).bind fun s26 =>
  (zM i4 1).bind fun i27 =>
  (zeG x_a0 i27 i18).bind fun s28 =>
  (sTo x_a0 i4).bind fun s31 =>
  (zdr s31 47).bind fun r32 =>
  if ((r32.length : Int) == 2) then ((lAt r32 0).bind fun x38 =>
  (lAt r32 1).bind fun x42 =>
  zaO x_a0 i18 s28 r32 x38 x42) else (zaO x_a0 i18 s28 r32 [] s26))

def zae (x_a0 : Str) (i4 : Int) : Nat → Int → Option (api_Via × Int)
  | 0, _ => none
  | n + 1, i18 =>
  if (decide (i18 < (x_a0.length : Int))) then ((sAt x_a0 i18).bind fun b20 =>
  zbZ (zae x_a0 i4 n) x_a0 i4 i18 (!(b20 == 32))) else (zbZ (zae x_a0 i4 n) x_a0 i4 i18 false)

def zdA (rec1 : Int → Option (api_Via × Int)) (x_a0 : Str) (i4 : Int) (t7 : Bool) : Option (api_Via × Int) :=
  if t7 then ((zM i4 1).bind fun i10 =>
  rec1 i10) else (if (i4 == (x_a0.length : Int)) then (some (((⟨[], [], [], []⟩ : api_Via), 2))) else ((zM i4 1).bind fun i16 =>
  zae x_a0 i4 fuel i16))

def zaP (x_a0 : Str) : Nat → Int → Option (api_Via × Int)
  | 0, _ => none
  | n + 1, i4 =>
  if (decide (i4 < (x_a0.length : Int))) then ((sAt x_a0 i4).bind fun b6 =>
  zdA (zaP x_a0 n) x_a0 i4 (!(b6 == 32))) else (zdA (zaP x_a0 n) x_a0 i4 false)

def zfn (x_a0 : Str) : Option (api_Via × Int) :=
  zaP x_a0 fuel 0

def zdY (s16 : Str) (t21 : Bool) : Option (Str × Int) :=
  if t21 then (some ([], 2)) else (some (s16, 0))

def zc4 (x_v : api_Via) (s16 : Str) : Option (Str × Int) :=
  (zfn s16).bind fun r17 =>
  if (!(r17.2 == 0)) then (zdY s16 true) else (zdY s16 (!(r17.1 == x_v)))

def zc5 (x_v : api_Via) (s10 : Str) : Option (Str × Int) :=
  if (!(x_v.Comment == [])) then ((ze5 s10 [32, 40]).bind fun s13 =>
  (ze5 s13 x_v.Comment).bind fun s14 =>
  (ze5 s14 [41]).bind fun s15 =>
  zc4 x_v s15) else (zc4 x_v s10)

def zfV (x_v : api_Via) : Option (Str × Int) :=
  (ze5 x_v.Version [32]).bind fun s3 =>
  (ze5 s3 x_v.By).bind fun s4 =>
  if (!(x_v.Proto == [])) then ((ze5 x_v.Proto [47]).bind fun s8 =>
  (ze5 s8 s4).bind fun s9 =>
  zc5 x_v s9) else (zc5 x_v s4)

def zdZ (rec2 : Str → Int → Option Str) (i14 : Int) (s24 : Str) : Option Str :=
  (zM i14 1).bind fun i25 =>
  rec2 s24 i25

def zaF (rec1 : Str → Int → Option Str) (x_s : Str) (s4 : Str) (i5 : Int) : Nat → Str → Int → Option Str
  | 0, _, _ => none
  | n + 1, s13, i14 =>
  if (decide (i14 < 26)) then ((sAt [65, 66, 67, 68, 69, 70, 71, 72, 73, 74, 75, 76, 77, 78, 79, 80, 81, 82, 83, 84, 85, 86, 87, 88, 89, 90] i14).bind fun b18 =>
  (sAt x_s i5).bind fun b19 =>
  if (b18 == b19) then ((zM i14 1).bind fun i22 =>
  (zeG [97, 98, 99, 100, 101, 102, 103, 104, 105, 106, 107, 108, 109, 110, 111, 112, 113, 114, 115, 116, 117, 118, 119, 120, 121, 122] i14 i22).bind fun s23 =>
  zdZ (zaF rec1 x_s s4 i5 n) i14 s23) else (zdZ (zaF rec1 x_s s4 i5 n) i14 s13)) else ((ze5 s4 s13).bind fun s27 =>
  (zM i5 1).bind fun i29 =>
  rec1 s27 i29)

def zaG (x_s : Str) : Nat → Str → Int → Option Str
  | 0, _, _ => none
  | n + 1, s4, i5 =>
  if (decide (i5 < (x_s.length : Int))) then ((zM i5 1).bind fun i9 =>
  (zeG x_s i5 i9).bind fun s10 =>
  zaF (zaG x_s n) x_s s4 i5 fuel s10 0) else (some s4)

def ze0 (x_s : Str) : Option Str :=
  zaG x_s fuel [] 0

def zgL (x_f : api_Field) (x_name : Str) : Option Bool :=
  (ze0 x_f.Name).bind fun r3 =>
  (ze0 x_name).bind fun r4 =>
  some (r3 == r4)

def zd0 (rec1 : Str → Int → Option Str) (x_l : List Str) (i5 : Int) (s12 : Str) : Option Str :=
  (lAt x_l i5).bind fun x13 =>
  (ze5 s12 x13).bind fun s16 =>
  (zM i5 1).bind fun i18 =>
  rec1 s16 i18

def zbb (x_sep : Str) (x_l : List Str) : Nat → Str → Int → Option Str
  | 0, _, _ => none
  | n + 1, s4, i5 =>
  if (decide (i5 < (x_l.length : Int))) then (if (decide (0 < i5)) then ((ze5 s4 x_sep).bind fun s11 =>
  zd0 (zbb x_sep x_l n) x_l i5 s11) else (zd0 (zbb x_sep x_l n) x_l i5 s4)) else (some s4)

def zfW (x_sep : Str) (x_l : List Str) : Option Str :=
  zbb x_sep x_l fuel [] 0

def zeD (t3 : Bool) : Option Bool :=
  some t3

def zeh (x_b : UInt8) : Option Bool :=
  if (x_b == 32) then (zeD true) else (zeD (x_b == 9))

def zbv (r6 : Str) : Nat → Str → Option Str
  | 0, _ => none
  | n + 1, s20 =>
  (zci (s20.length : Int) 1).bind fun i21 =>
  (sAt s20 i21).bind fun b22 =>
  (zeh b22).bind fun r23 =>
  if r23 then ((zci (s20.length : Int) 1).bind fun i27 =>
  (sTo s20 i27).bind fun s28 =>
  (zbv r6 n) s28) else ((ze5 s20 [44, 32]).bind fun s30 =>
  (ze5 s30 r6).bind fun s31 =>
  some s31)

def zcT (rec1 : Str → Int → Option Str) (r6 : Str) (s9 : Str) (i10 : Int) (t18 : Bool) : Option Str :=
  if t18 then (zbv r6 fuel s9) else ((zM i10 1).bind fun i34 =>
  rec1 s9 i34)

def zar (r6 : Str) : Nat → Str → Int → Option Str
  | 0, _, _ => none
  | n + 1, s9, i10 =>
  if (decide (i10 < (s9.length : Int))) then ((sAt s9 i10).bind fun b14 =>
  if (!(b14 == 44)) then ((sAt s9 i10).bind fun b16 =>
  (zeh b16).bind fun r17 =>
  zcT (zar r6 n) r6 s9 i10 (!r17)) else (zcT (zar r6 n) r6 s9 i10 false)) else (some r6)

def zeE (x_s : Str) (x_l : List Str) : Option Str :=
  if ((x_l.length : Int) == 0) then (some x_s) else ((zfW [44, 32] x_l).bind fun r6 =>
  zar r6 fuel x_s 0)

def zcU (rec1 : Int → Int → Option (List api_Field)) (i5 : Int) (i15 : Int) : Option (List api_Field) :=
  (zM i5 1).bind fun i16 =>
  rec1 i15 i16

def zcV (rec3 : (List api_Field) → Int → Option (List api_Field)) (l22 : List api_Field) (i23 : Int) (x27 : api_Field) (s36 : Str) : Option (List api_Field) :=
  if zap l22.length 1 32 then ((zM i23 1).bind fun i42 =>
  rec3 (l22 ++ [(⟨x27.Name, s36⟩ : api_Field)]) i42) else none

def zcW (l52 : List api_Field) : Option (List api_Field) :=
  some l52

def zas (x_l : List api_Field) (x_name : Str) (x_s : Str) (i4 : Int) : Nat → (List api_Field) → Int → Option (List api_Field)
  | 0, _, _ => none
  | n + 1, l22, i23 =>
  if (decide (i23 < (x_l.length : Int))) then ((lAt x_l i23).bind fun x27 =>
  if (i23 == i4) then ((zeE x27.Value ([x_s] : List Str)).bind fun r35 =>
  zcV (zas x_l x_name x_s i4 n) l22 i23 x27 r35) else (zcV (zas x_l x_name x_s i4 n) l22 i23 x27 x27.Value)) else (if (decide (i4 < 0)) then (if zap l22.length 1 32 then (zcW (l22 ++ [(⟨x_name, x_s⟩ : api_Field)])) else none) else (zcW l22))

def zat (x_l : List api_Field) (x_name : Str) (x_s : Str) : Nat → Int → Int → Option (List api_Field)
  | 0, _, _ => none
  | n + 1, i4, i5 =>
  if (decide (i5 < (x_l.length : Int))) then ((lAt x_l i5).bind fun x9 =>
  (zgL x9 x_name).bind fun r12 =>
  if r12 then (zcU (zat x_l x_name x_s n) i5 i5) else (zcU (zat x_l x_name x_s n) i5 i4)) else (zas x_l x_name x_s i4 fuel [] 0)

def zeF (x_l : List api_Field) (x_name : Str) (x_s : Str) : Option (List api_Field) :=
  zat x_l x_name x_s fuel (-1) 0

def zbO (x_a : List api_Field) (x_b : List api_Field) : Nat → Int → Option Bool
  | 0, _ => none
  | n + 1, i7 =>
  if (decide (i7 < (x_a.length : Int))) then ((lAt x_a i7).bind fun x11 =>
  (lAt x_b i7).bind fun x14 =>
  if (!(x11 == x14)) then (some false) else ((zM i7 1).bind fun i21 =>
  (zbO x_a x_b n) i21)) else (some true)

def zfX (x_a : List api_Field) (x_b : List api_Field) : Option Bool :=
  if (!((x_a.length : Int) == (x_b.length : Int))) then (some false) else (zbO x_a x_b fuel 0)

def zcX (rec1 : (List Str) → Int → Option (List Str)) (i7 : Int) (l26 : List Str) : Option (List Str) :=
  (zM i7 1).bind fun i27 =>
  rec1 l26 i27

def zau (x_l : List api_Field) (x_name : Str) : Nat → (List Str) → Int → Option (List Str)
  | 0, _, _ => none
  | n + 1, l6, i7 =>
  if (decide (i7 < (x_l.length : Int))) then ((lAt x_l i7).bind fun x11 =>
  (zgL x11 x_name).bind fun r14 =>
  if r14 then ((lAt x_l i7).bind fun x17 =>
  if zap l6.length 1 16 then (zcX (zau x_l x_name n) i7 (l6 ++ ([x17.Value] : List Str))) else none) else (zcX (zau x_l x_name n) i7 l6)) else (some l6)

def zdL (x_l : List api_Field) (x_name : Str) : Option (List Str) :=
  zau x_l x_name fuel [] 0

def zck (t22 : Bool) : Option Bool :=
  some t22

def zaT (t55 : Bool) : Option Bool :=
  some t55

def zby (r8 : api_Via) (r9 : api_Head) (r13 : List api_Field × Int) (t29 : Bool) : Option Bool :=
  if t29 then (some false) else ((zdL r9.Fields [118, 105, 97]).bind fun r33 =>
  (zfO r33).bind fun r36 =>
  (zdL r13.1 [118, 105, 97]).bind fun r40 =>
  (zfO r40).bind fun r43 =>
  if zap r36.1.length 1 64 then (if (!(r36.2 == 0)) then (zaT true) else (if (r43.2 == 0) then ((zd6 r43.1 (r36.1 ++ [r8])).bind fun r54 =>
  zaT r54) else (zaT false))) else none)

def zdM (x_a0 : api_Via) (x_a1 : List api_Field) : Option Bool :=
  (zf9).bind fun r3 =>
  if (!r3) then (some false) else ((zgF x_a0).bind fun r8 =>
  (zgG (⟨0, [], [], 0, [], 0, x_a1⟩ : api_Head)).bind fun r9 =>
  (zfQ r8 r9.Fields).bind fun r13 =>
  (zfV r8).bind fun r17 =>
  if (!(r17.2 == 0)) then (if ((r13.1.length : Int) == 0) then (zck (r13.2 == r17.2)) else (zck false)) else (if (!(r13.2 == 0)) then (zby r8 r9 r13 true) else ((zeF r9.Fields [86, 105, 97] r17.1).bind fun r25 =>
  (zfX r13.1 r25).bind fun r28 =>
  zby r8 r9 r13 (!r28))))

end Go.Dm
end
section
namespace Go.Dm
theorem zkS (b : Bool) (v : Int) (k : Nat) (h : -1 ≤ v) : (if b = true then (k : Int) else if v = -1 then -1 else v + ((k + 1 : Nat) : Int)) =
    if (if b = true then 0 else if (v == -1) = true then -1 else v + 1) = -1 then -1 else (if b = true then 0 else if (v == -1) = true then -1 else v + 1) + (k : Int) := by
  cases b with
  | true => simp
  | false =>
    by_cases hm : v = -1
    · subst hm; simp
    · have h2 : ¬ (v + 1 = -1) := by omega
      have h3 : (v == -1) = false := beq_eq_false_iff_ne.2 hm
      rw [h3]
      simp only [Bool.false_eq_true, if_false, if_neg hm, if_neg h2]
      omega
theorem zjX : ∀ (l : Str) (c : UInt8) (k : Nat), zjl l c k = if Go.Lib.indexByte l c = -1 then -1 else Go.Lib.indexByte l c + k
  | [], _, _ => rfl
  | x :: l, c, k => by
    rw [zjl, Go.Lib.indexByte, zjX l c (k + 1)]
    exact zkS _ _ k (Go.Lib.indexByte_ge l c)
theorem ziS (x y : UInt8) : (x == y) = (y == x) := by
  by_cases h : x = y
  · subst h; rfl
  · rw [beq_eq_false_iff_ne.2 h, beq_eq_false_iff_ne.2 (Ne.symm h)]
theorem zkT : ∀ (s t : Str), ziN s t = t.isPrefixOf s
  | s, [] => by cases s <;> rfl
  | [], y :: t => rfl
  | x :: s, y :: t => by
    rw [ziN, List.isPrefixOf, zkT s t, ziS x y]
theorem zkU : ∀ (l t : Str) (k : Nat), zfN l t k = if Go.Lib.index l t = -1 then -1 else Go.Lib.index l t + k
  | [], t, k => by
    rw [zfN, Go.Lib.index]
    cases t <;> simp [ziN]
  | x :: l, t, k => by
    rw [zfN, Go.Lib.index, zkT]
    simp only [zkU l t (k + 1)]
    exact zkS _ _ k (Go.Lib.index_ge l t)
theorem zkV : ∀ (l cs : Str) (k : Nat), zhO l cs k = if Go.Lib.indexAny l cs = -1 then -1 else Go.Lib.indexAny l cs + k
  | [], _, _ => rfl
  | x :: l, cs, k => by
    rw [zhO, Go.Lib.indexAny, zkV l cs (k + 1)]
    exact zkS _ _ k (Go.Lib.indexAny_ge cs l)
theorem znD (l : Str) (c : UInt8) : zjl l c 0 = Go.Lib.indexByte l c := by
  rw [zjX]; have := Go.Lib.indexByte_ge l c; split <;> omega
theorem zoC (l t : Str) : zfN l t 0 = Go.Lib.index l t := by
  rw [zkU]; have := Go.Lib.index_ge l t; split <;> omega
theorem zoD (l cs : Str) : zhO l cs 0 = Go.Lib.indexAny l cs := by
  rw [zkV]; have := Go.Lib.indexAny_ge cs l; split <;> omega
end Go.Dm
end
section
namespace Go.Dm
@[simp] theorem zac (l : Str) (i : Nat) : sAt l (i : Int) = l[i]? := by simp [sAt]
@[simp] theorem zn2 (l : Str) : sAt l 0 = l[0]? := by simp [sAt]
@[simp] theorem sAt_one (l : Str) : sAt l 1 = l[1]? := by simp [sAt]
@[simp] theorem sAt_two (l : Str) : sAt l 2 = l[2]? := by simp [sAt]
@[simp] theorem zcH {α : Type} (l : List α) (i : Nat) : lAt l (i : Int) = l[i]? := by simp [lAt]
@[simp] theorem zq2 {α : Type} (l : List α) : lAt l 0 = l[0]? := by simp [lAt]
theorem ze1 {m n : Int} (h1 : -9223372036854775808 ≤ m + n) (h2 : m + n ≤ 9223372036854775807) : zM m n = some (m + n) := by simp [zM, inI, h1, h2]
theorem zbm {m n : Int} (h1 : -9223372036854775808 ≤ m - n) (h2 : m - n ≤ 9223372036854775807) : zci m n = some (m - n) := by simp [zci, inI, h1, h2]
theorem zpd {m n : Int} (h1 : -9223372036854775808 ≤ m * n) (h2 : m * n ≤ 9223372036854775807) : zmW m n = some (m * n) := by simp [zmW, inI, h1, h2]
theorem zk {i : Nat} (h : i < 4611686018427387904) : zM (i : Int) 1 = some ((i + 1 : Nat) : Int) := by
  rw [ze1 (by omega) (by omega)]; simp
theorem zq3 {i k : Nat} (h : i + k < 4611686018427387904) : zM (i : Int) (k : Int) = some ((i + k : Nat) : Int) := by
  rw [ze1 (by omega) (by omega)]; simp
theorem zf5 {l : Str} {h : Nat} (hh : h ≤ l.length) : sTo l (h : Int) = some (l.take h) := by simp [sTo, hh]
theorem zb2 {l : Str} {i : Nat} (hh : i ≤ l.length) : zem l (i : Int) = some (l.drop i) := by simp [zem, hh]
theorem zdh {l : Str} {i h : Nat} (h1 : i ≤ h) (h2 : h ≤ l.length) : zeG l (i : Int) (h : Int) = some ((l.take h).drop i) := by simp [zeG, h1, h2]
theorem zb1 {l m : Str} (h : l.length + m.length ≤ 9223372036854775807) : ze5 l m = some (l ++ m) := by simp [ze5, h]
theorem zpe {n : Nat} (h : n < 1000000000000000000) : n < fuel := h

theorem zmF {α β : Type} (l : List α) (L : Nat → Int → Option β) (F : α → Option β → Option β) (E : Option β)
    (hE : ∀ n, L (n + 1) (l.length : Int) = E) (hL : ∀ n (i : Nat) x, i < l.length → l[i]? = some x → L (n + 1) (i : Int) = F x (L n ((i + 1 : Nat) : Int))) :
    ∀ (n i : Nat), i ≤ l.length → l.length - i < n → L n (i : Int) = (l.drop i).foldr F E
  | 0, _, _, h => by omega
  | n + 1, i, hi, h => by
    by_cases hlt : i < l.length
    · rw [hL n i _ hlt (List.getElem?_eq_getElem hlt), zmF l L F E hE hL n (i + 1) (by omega) (by omega), List.drop_eq_getElem_cons hlt]
      rfl
    · have : i = l.length := by omega
      subst this
      rw [hE, List.drop_length]
      rfl
theorem zgV {α β : Type} (l : List α) (L : Nat → Int → Option β) (F : α → Option β → Option β) (E : Option β) (hl : l.length < 1000000000000000000)
    (hE : ∀ n, L (n + 1) (l.length : Int) = E) (hL : ∀ n (i : Nat) x, i < l.length → l[i]? = some x → L (n + 1) (i : Int) = F x (L n ((i + 1 : Nat) : Int))) : L fuel 0 = l.foldr F E := by
  have := zmF l L F E hE hL fuel 0 (Nat.zero_le _) (zpe (by omega))
  simpa using this
theorem zcj {n m b : Nat} (h : (n + m) * b ≤ 140737488355328) (h2 : n + m ≤ 140737488355328) : zap n m b = true := by
  simp only [zap, Bool.and_eq_true, decide_eq_true_eq]; exact ⟨by omega, h⟩

theorem zT (p : UInt8 → Bool) (h : (List.range 256).all (fun n => p (UInt8.ofNat n)) = true) (b : UInt8) : p b = true := by
  have := List.all_eq_true.1 h b.toNat (by simpa using b.toNat_lt)
  simpa using this
theorem zpW {α : Type} (p : α → Bool) (l : List α) : l.foldr (fun x r => if p x = true then r else some false) (some true) = some (l.all p) := by
  induction l with
  | nil => rfl
  | cons x l ih => simp only [List.foldr_cons, ih, List.all_cons]; cases p x <;> simp
theorem zpf (s : Str) (k : Nat) : sTo s (min (s.length : Int) (k : Int)) = some (s.take k) := by
  have e : min (s.length : Int) (k : Int) = ((min s.length k : Nat) : Int) := by omega
  rw [e, zf5 (Nat.min_le_left _ _)]
  congr 1
  rcases Nat.le_total s.length k with h | h
  · rw [Nat.min_eq_left h, List.take_length, List.take_of_length_le h]
  · rw [Nat.min_eq_right h]
end Go.Dm
end
section
namespace Go.Dm
def zdN (b : UInt8) : Bool := decide (48 ≤ b) && decide (b ≤ 57)
def zeS (b : UInt8) : UInt8 := if 65 ≤ b ∧ b ≤ 90 then b + 32 else b
def zq4 (b : UInt8) : Bool := decide (97 ≤ zeS b) && decide (zeS b ≤ 122)
def zei (b : UInt8) : Bool := zdN b || decide (97 ≤ zeS b) && decide (zeS b ≤ 102)
def zgd (b : UInt8) : Bool := zq4 b || zdN b || ([45, 46, 95, 126] : Str).contains b
def zmd (b : UInt8) : Bool := ([33, 36, 38, 39, 40, 41, 42, 43, 44, 59, 61] : Str).contains b
theorem zlo (b : UInt8) : zah b = some (zeS b) :=
  of_decide_eq_true (zT (fun b => decide (zah b = some (zeS b))) (by decide +kernel) b)
theorem zjN (b : UInt8) : zam b = some (zdN b) :=
  of_decide_eq_true (zT (fun b => decide (zam b = some (zdN b))) (by decide +kernel) b)
theorem zhA (b : UInt8) : zcC b = some (zei b) :=
  of_decide_eq_true (zT (fun b => decide (zcC b = some (zei b))) (by decide +kernel) b)
theorem zja (b : UInt8) : zeZ b = some (zei b) :=
  of_decide_eq_true (zT (fun b => decide (zeZ b = some (zei b))) (by decide +kernel) b)
theorem zdS {p : UInt8 → Bool} {f : UInt8 → Option Bool} (hf : ∀ b, f b = some (p b)) (s : Str) (hs : s.length < 1000000000) : zdG f [s] = some (s.all p) := by
  unfold zdG
  have h2 : ∀ (rec1 : Int → Option Bool) (i : Int), zbB rec1 f i s fuel 0 = s.foldr (fun x r => if p x = true then r else some false) ((zM i 1).bind rec1) := by
    intro rec1 i
    refine zgV s (zbB rec1 f i s) _ _ (by omega) ?_ ?_
    · intro n; rw [zbB]; simp only [Int.lt_irrefl, decide_false, Bool.false_eq_true, if_false]
    · intro n k x hk hx
      rw [zbB]
      simp only [Int.ofNat_lt, hk, decide_true, if_true, zac, hx, Option.bind_some, hf, zk (show k < 4611686018427387904 by omega)]
      cases p x <;> rfl
  rw [zgV [s] (zbC f [s]) (fun x r => x.foldr (fun x r => if p x = true then r else some false) r) (some true) (by simp)]
  · simp only [List.foldr_cons, List.foldr_nil]
    exact zpW p s
  · intro n; rw [zbC]; simp only [Int.lt_irrefl, decide_false, Bool.false_eq_true, if_false]
  · intro n i x hi hx
    have hi0 : i = 0 := by simp at hi; exact hi
    subst hi0
    simp at hx; subst hx
    rw [zbC]
    simp [h2, ze1]
def zav (b : UInt8) : Bool := zq4 b || zdN b || ([33, 35, 36, 37, 38, 39, 42, 43, 45, 46, 94, 95, 96, 124, 126] : Str).contains b
def zhB (b : UInt8) : Bool := decide (32 ≤ b) && !(b == 127) || b == 9
theorem zgv (b : UInt8) : zbJ b = some (zav b) :=
  of_decide_eq_true (zT (fun b => decide (zbJ b = some (zav b))) (by decide +kernel) b)
theorem zgw (b : UInt8) : zch b = some (zhB b) :=
  of_decide_eq_true (zT (fun b => decide (zch b = some (zhB b))) (by decide +kernel) b)
theorem zhd (b : UInt8) : zbW b = some (zgd b) :=
  of_decide_eq_true (zT (fun b => decide (zbW b = some (zgd b))) (by decide +kernel) b)
theorem zlp (b : UInt8) : zfh b = some (zmd b) :=
  of_decide_eq_true (zT (fun b => decide (zfh b = some (zmd b))) (by decide +kernel) b)
theorem zni (b : UInt8) : zgK b = some (zav b) :=
  of_decide_eq_true (zT (fun b => decide (zgK b = some (zav b))) (by decide +kernel) b)
theorem zhC (b : UInt8) : zeg b = some (zhB b) :=
  of_decide_eq_true (zT (fun b => decide (zeg b = some (zhB b))) (by decide +kernel) b)
theorem zhY (b : UInt8) : zcv b = some (zgd b) :=
  of_decide_eq_true (zT (fun b => decide (zcv b = some (zgd b))) (by decide +kernel) b)
theorem znj (b : UInt8) : zgI b = some (zmd b) :=
  of_decide_eq_true (zT (fun b => decide (zgI b = some (zmd b))) (by decide +kernel) b)
theorem zij {α : Type} (p : α → Bool) (l : List α) (e : Bool) : l.foldr (fun x r => if p x = true then r else some false) (some e) = some (l.all p && e) := by
  induction l with
  | nil => simp
  | cons x l ih => simp only [List.foldr_cons, ih, List.all_cons]; cases p x <;> simp
def zbT (s : Str) : Bool := s.all zav && !(s == [])
theorem zfI (s : Str) (hs : s.length < 1000000000) : zaj s = some (zbT s) := by
  unfold zaj
  rw [zgV s (zbi s) (fun x r => if zav x = true then r else some false) (some (!(s == []))) (by omega)]
  · rw [zij]; rfl
  · intro n; rw [zbi]; simp only [Int.lt_irrefl, decide_false, Bool.false_eq_true, if_false]
    cases s <;> simp
  · intro n i x hi hx
    rw [zbi]
    simp only [Int.ofNat_lt, hi, decide_true, if_true, zac, hx, Option.bind_some, zni, zk (show i < 4611686018427387904 by omega)]
    cases zav x <;> rfl
theorem zlq (s : Str) (hs : s.length < 1000000000) : zfi s = some (zbT s) := by
  unfold zfi zbT
  rw [zdS zgv s hs]
  cases s <;> simp [zdn]
end Go.Dm
end
section
namespace Go.Dm
def zaA (b : Nat) (l : List Nat) : Nat := l.foldl (fun n d => n * b + d) 0
theorem zmH (b : Nat) (l : List Nat) : ∀ n, l.foldl (fun n d => n * b + d) n = n * b ^ l.length + zaA b l := by
  unfold zaA
  induction l with
  | nil => intro n; simp
  | cons x l ih =>
    intro n
    rw [List.foldl_cons, ih, List.foldl_cons, ih (0 * b + x), List.length_cons, Nat.pow_succ, Nat.add_mul, Nat.zero_mul, Nat.zero_add, Nat.mul_assoc, Nat.mul_comm b, Nat.add_assoc]
theorem zrk (b : Nat) : zaA b [] = 0 := rfl
theorem zfA (b x : Nat) (l : List Nat) : zaA b (x :: l) = x * b ^ l.length + zaA b l := by
  have := zmH b l (0 * b + x)
  rw [Nat.zero_mul, Nat.zero_add] at this
  rw [← this]; unfold zaA; rw [List.foldl_cons, Nat.zero_mul, Nat.zero_add]
theorem zjO (b x : Nat) (l : List Nat) : zaA b (l ++ [x]) = zaA b l * b + x := by
  unfold zaA; rw [List.foldl_append]; rfl
theorem zkD {b : Nat} (hb : 0 < b) : ∀ {l : List Nat}, (∀ d ∈ l, d < b) → zaA b l < b ^ l.length
  | [], _ => by simp [zaA]
  | x :: l, h => by
    have h1 := h x (List.mem_cons_self ..)
    have h2 := zkD hb (l := l) fun d hd => h d (List.mem_cons_of_mem _ hd)
    rw [zfA, List.length_cons, Nat.pow_succ]
    have : (x + 1) * b ^ l.length ≤ b * b ^ l.length := Nat.mul_le_mul_right _ h1
    rw [Nat.add_mul, Nat.one_mul] at this
    rw [Nat.mul_comm (b ^ l.length) b]; omega
def zf6 (b : Nat) : Nat → Nat → List Nat
  | 0, n => [n % b]
  | k + 1, n => if n < b then [n] else zf6 b k (n / b) ++ [n % b]
def zeI (b n : Nat) : List Nat := zf6 b 70 n
theorem ziF {b n k : Nat} (hb : 2 ≤ b) (h : n < 2 ^ (k + 1)) : n / b < 2 ^ k := by
  rw [Nat.div_lt_iff_lt_mul (by omega)]
  calc n < 2 ^ (k + 1) := h
    _ = 2 ^ k * 2 := Nat.pow_succ ..
    _ ≤ 2 ^ k * b := Nat.mul_le_mul_left _ hb
theorem ziG {b : Nat} (hb : 2 ≤ b) : ∀ (k m n : Nat), k ≤ m → n < 2 ^ (k + 1) → zf6 b m n = zf6 b k n
  | 0, 0, n, _, _ => rfl
  | 0, m + 1, n, _, h => by
    have hn : n < b := by have : n < 2 := by simpa using h
                          omega
    show zf6 b (m + 1) n = [n % b]
    rw [zf6, if_pos hn, Nat.mod_eq_of_lt hn]
  | k + 1, 0, n, h, _ => by omega
  | k + 1, m + 1, n, hm, h => by
    rw [zf6, zf6]
    split
    · rfl
    · rw [ziG hb k m (n / b) (by omega) (ziF hb h)]
theorem zgx {b n : Nat} (hb : 2 ≤ b) (hn : b ≤ n) (h : n < 2 ^ 64) : zeI b n = zeI b (n / b) ++ [n % b] := by
  have h1 := ziG hb 64 70 n (by decide) (Nat.lt_of_lt_of_le h (Nat.pow_le_pow_right (by decide) (by decide)))
  have h2 := ziG hb 63 70 (n / b) (by decide) (ziF hb (Nat.lt_of_lt_of_le h (Nat.pow_le_pow_right (by decide) (by decide))))
  unfold zeI
  rw [h1, h2, zf6, if_neg (by omega)]
theorem zcJ {b n : Nat} (hn : n < b) : zeI b n = [n] := by unfold zeI; rw [zf6, if_pos hn]
theorem zjd {b : Nat} (hb : 2 ≤ b) {P : Nat → Prop} (h0 : ∀ n, n < b → P n) (h1 : ∀ n, b ≤ n → n < 2 ^ 64 → P (n / b) → P n) : ∀ n, n < 2 ^ 64 → P n := by
  intro n
  induction n using Nat.strongRecOn with
  | _ n ih =>
    intro hn
    by_cases h : n < b
    · exact h0 n h
    · have : n / b < n := Nat.div_lt_self (by omega) (by omega)
      exact h1 n (by omega) hn (ih _ this (by omega))
theorem zoa {b : Nat} (hb : 2 ≤ b) : ∀ n, n < 2 ^ 64 → zaA b (zeI b n) = n :=
  zjd hb (fun n h => by rw [zcJ h]; simp [zaA]) fun n h hn ih => by
    rw [zgx hb h hn, zjO, ih, Nat.mul_comm]; exact Nat.div_add_mod n b
theorem zr3 {b : Nat} (hb : 2 ≤ b) : ∀ n, n < 2 ^ 64 → ∀ d ∈ zeI b n, d < b :=
  zjd hb (fun n h d hd => by rw [zcJ h] at hd; simp at hd; omega) fun n h hn ih d hd => by
    rw [zgx hb h hn] at hd
    rcases List.mem_append.1 hd with hd | hd
    · exact ih d hd
    · simp at hd; subst hd; exact Nat.mod_lt _ (by omega)
theorem znn {b n : Nat} : zeI b n ≠ [] := by
  unfold zeI; rw [zf6]; split <;> simp
theorem zmI {b : Nat} (hb : 2 ≤ b) : ∀ n, n < 2 ^ 64 → n = 0 ∨ (zeI b n).head? ≠ some 0 :=
  zjd hb (fun n h => by
    rw [zcJ h]; by_cases e : n = 0
    · exact .inl e
    · exact .inr (by simpa using e)) fun n h hn ih => by
    right
    rw [zgx hb h hn]
    rcases ih with h0 | h0
    · have : b ≤ n := h
      have : 0 < n / b := Nat.div_pos h (by omega)
      omega
    · cases hd : zeI b (n / b) with
      | nil => exact absurd hd znn
      | cons x l => rw [hd] at h0; simpa using h0
theorem zrl {b : Nat} (hb : 2 ≤ b) : ∀ n, n < 2 ^ 64 → (zeI b n).length ≤ 71 := by
  have : ∀ k n, (zf6 b k n).length ≤ k + 1 := by
    intro k
    induction k with
    | zero => intro n; simp [zf6]
    | succ k ih => intro n; rw [zf6]; split
                   · simp
                   · simp; exact ih _
  intro n _; exact this 70 n
def zlv : List Nat → List Nat → Bool
  | _, [] => false
  | [], _ :: _ => true
  | x :: l, y :: m => decide (x < y) || (x == y && zlv l m)
theorem zpj {b : Nat} (hb : 0 < b) : ∀ (l m : List Nat), l.length = m.length → (∀ d ∈ l, d < b) → (∀ d ∈ m, d < b) → zlv l m = decide (zaA b l < zaA b m)
  | [], [], _, _, _ => by simp [zlv]
  | [], _ :: _, h, _, _ => by simp at h
  | _ :: _, [], h, _, _ => by simp at h
  | x :: l, y :: m, h, hl, hm => by
    have e : l.length = m.length := by simpa using h
    have h1 := zkD hb (l := l) fun d hd => hl d (List.mem_cons_of_mem _ hd)
    have h2 := zkD hb (l := m) fun d hd => hm d (List.mem_cons_of_mem _ hd)
    rw [zlv, zpj hb l m e (fun d hd => hl d (List.mem_cons_of_mem _ hd)) (fun d hd => hm d (List.mem_cons_of_mem _ hd)), zfA, zfA, e]
    rw [e] at h1
    rcases Nat.lt_trichotomy x y with hxy | hxy | hxy
    · have : (x + 1) * b ^ m.length ≤ y * b ^ m.length := Nat.mul_le_mul_right _ hxy
      rw [Nat.add_mul, Nat.one_mul] at this
      have h3 : x * b ^ m.length + zaA b l < y * b ^ m.length + zaA b m := by omega
      simp [hxy, h3]
    · subst hxy; simp
    · have : (y + 1) * b ^ m.length ≤ x * b ^ m.length := Nat.mul_le_mul_right _ hxy
      rw [Nat.add_mul, Nat.one_mul] at this
      have h3 : ¬ x * b ^ m.length + zaA b l < y * b ^ m.length + zaA b m := by omega
      have h4 : ¬ x < y := by omega
      have h5 : (x == y) = false := beq_eq_false_iff_ne.2 (by omega)
      simp [h3, h4, h5]
def dch (d : Nat) : UInt8 := if d < 10 then UInt8.ofNat (48 + d) else UInt8.ofNat (87 + d)
def zn (l : List Nat) : Str := l.map dch
def wor (c : UInt8) : Nat := if zdN c then (c - 48).toNat else (zeS c - 97).toNat + 10
def zgy (b : Nat) (c : UInt8) : Bool := if b = 10 then zdN c else zei c
theorem zpZ : ∀ d : Nat, d < 16 → (wor (dch d) = d ∧ zei (dch d) = true ∧ (d < 10 → zdN (dch d) = true)) := by decide
theorem dch_lt : ∀ d : Nat, d < 16 → ∀ e : Nat, e < 16 → (decide (dch d < dch e) = decide (d < e) ∧ (dch d == dch e) = (d == e)) := by decide
theorem zj7 : ∀ (l m : List Nat), (∀ d ∈ l, d < 16) → (∀ d ∈ m, d < 16) → zjW (zn l) (zn m) = zlv l m
  | [], [], _, _ => rfl
  | [], _ :: _, _, _ => rfl
  | _ :: _, [], _, _ => rfl
  | x :: l, y :: m, hl, hm => by
    have ih := zj7 l m (fun d hd => hl d (List.mem_cons_of_mem _ hd)) (fun d hd => hm d (List.mem_cons_of_mem _ hd))
    obtain ⟨h1, h2⟩ := dch_lt x (hl x (List.mem_cons_self ..)) y (hm y (List.mem_cons_self ..))
    show (decide (dch x < dch y) || (dch x == dch y && zjW (zn l) (zn m))) = _
    rw [h1, h2, ih, zlv]
theorem zjP (b : UInt8) : zdT b = some (wor b : Int) :=
  of_decide_eq_true (zT (fun b => decide (zdT b = some (wor b : Int))) (by decide +kernel) b)
theorem zrm (c : UInt8) : (zdN c = true → wor c < 10) ∧ (zei c = true → wor c < 16) :=
  of_decide_eq_true (zT (fun c => decide ((zdN c = true → wor c < 10) ∧ (zei c = true → wor c < 16))) (by decide +kernel) c)
theorem zlw (c : UInt8) (b : Int) (n : Nat) {i : Int} (hn : n ≤ fuel) (h : (zA c b n i).isSome = true) : zA c b fuel i = zA c b n i := by
  obtain ⟨k, hk⟩ : ∃ k, fuel = n + k := ⟨fuel - n, by omega⟩
  rw [hk]
  clear hk hn
  induction n generalizing i with
  | zero => simp [zA] at h
  | succ n ih =>
    rw [Nat.add_right_comm, zA, zA]
    rw [zA] at h
    split
    · rename_i hlt
      rw [if_pos hlt] at h
      cases hs : sAt [48, 49, 50, 51, 52, 53, 54, 55, 56, 57, 97, 98, 99, 100, 101, 102] i with
      | none => rfl
      | some x =>
        rw [hs] at h
        simp only [Option.bind_some] at h ⊢
        split
        · rfl
        · rename_i hne
          rw [if_neg hne] at h
          cases hs2 : sAt [48, 49, 50, 51, 52, 53, 54, 55, 56, 57, 65, 66, 67, 68, 69, 70] i with
          | none => rfl
          | some y =>
            rw [hs2] at h
            simp only [Option.bind_some, zds] at h ⊢
            split
            · rfl
            · rename_i hne2
              rw [if_neg hne2] at h
              cases hi : zM i 1 with
              | none => rfl
              | some j => rw [hi] at h; exact ih h
    · rfl
theorem zlx (c : UInt8) : zcc c 10 = some (if zdN c then (wor c : Int) else -1) := by
  have h1 : zA c 10 20 0 = some (if zdN c then (wor c : Int) else -1) := of_decide_eq_true (zT (fun c => decide (zA c 10 20 0 = some (if zdN c then (wor c : Int) else -1))) (by decide +kernel) c)
  unfold zcc
  rw [← h1]
  exact zlw c 10 20 (by decide) (by rw [h1]; rfl)
theorem zly (c : UInt8) : zcc c 16 = some (if zei c then (wor c : Int) else -1) := by
  have h1 : zA c 16 20 0 = some (if zei c then (wor c : Int) else -1) := of_decide_eq_true (zT (fun c => decide (zA c 16 20 0 = some (if zei c then (wor c : Int) else -1))) (by decide +kernel) c)
  unfold zcc
  rw [← h1]
  exact zlw c 16 20 (by decide) (by rw [h1]; rfl)
def zeT (b : Nat) : Prop := b = 10 ∨ b = 16
theorem zeT.two {b : Nat} (h : zeT b) : 2 ≤ b ∧ b ≤ 16 := by rcases h with rfl | rfl <;> omega
theorem zhD {b : Nat} (hb : zeT b) (c : UInt8) : zcc c (b : Int) = some (if zgy b c then (wor c : Int) else -1) := by
  rcases hb with rfl | rfl
  · exact zlx c
  · exact zly c
theorem zlz {b : Nat} (hb : zeT b) {c : UInt8} (h : zgy b c = true) : wor c < b := by
  rcases hb with rfl | rfl
  · exact (zrm c).1 h
  · exact (zrm c).2 h
theorem zlA : ∀ d : Nat, d < 16 → zeG [48, 49, 50, 51, 52, 53, 54, 55, 56, 57, 97, 98, 99, 100, 101, 102] (d : Int) ((d + 1 : Nat) : Int) = some [dch d] := by decide
theorem zob {b : Nat} (hb : zeT b) : ∀ (k m n : Nat), k ≤ m → n < 2 ^ (k + 1) → k < 63 → zbg (m + 1) (n : Int) (b : Int) = some (zn (zeI b n)) := by
  obtain ⟨h2, h16⟩ := hb.two
  intro k
  induction k with
  | zero =>
    intro m n _ h _
    have hn : n < b := by have : n < 2 := by simpa using h
                          omega
    rw [zbg, zcJ hn]
    simp only [Int.ofNat_lt, hn, decide_true, if_true, zk (show n < 4611686018427387904 by omega), Option.bind_some, zlA n (by omega)]
    rfl
  | succ k ih =>
    intro m n hm h hk
    obtain ⟨m, rfl⟩ : ∃ j, m = j + 1 := ⟨m - 1, by omega⟩
    have hbig : n < 2 ^ 64 := Nat.lt_of_lt_of_le h (Nat.pow_le_pow_right (by decide) (by omega))
    have hq : ∀ q : Nat, q ≤ n → inI (q : Int) = true := fun q hq => zf2.2 (by
      have : n < 2 ^ 63 := Nat.lt_of_lt_of_le h (Nat.pow_le_pow_right (by decide) (by omega))
      omega)
    rw [zbg]
    by_cases hn : n < b
    · rw [zcJ hn]
      simp only [Int.ofNat_lt, hn, decide_true, if_true, zk (show n < 4611686018427387904 by omega), Option.bind_some, zlA n (by omega)]
      rfl
    · have e1 : zmX (n : Int) (b : Int) = some ((n / b : Nat) : Int) := by
        unfold zmX
        rw [if_pos ⟨by omega, by omega, by rw [← Int.natCast_ediv]; exact hq _ (Nat.div_le_self n b)⟩, Int.natCast_ediv]
      have e2 : zoB (n : Int) (b : Int) = some ((n % b : Nat) : Int) := by
        unfold zoB
        rw [if_pos ⟨by omega, by omega, by rw [← Int.natCast_emod]; exact hq _ (Nat.mod_le n b)⟩, Int.natCast_emod]
      have hlt : n % b < b := Nat.mod_lt _ (by omega)
      have hlen := zrl h2 (n / b) (by have := Nat.div_le_self n b; omega)
      have hn' : ¬ decide ((n : Int) < (b : Int)) = true := by simp; omega
      have e3 := ih m (n / b) (by omega) (ziF h2 h) (by omega)
      have e4 := zlA (n % b) (by omega)
      have e5 := zk (i := n % b) (by omega)
      have e6 := zgx h2 (show b ≤ n by omega) hbig
      generalize n / b = q at *
      generalize n % b = r at *
      have e7 : ze5 (zn (zeI b q)) [dch r] = some (zn (zeI b q) ++ [dch r]) := zb1 (by simp [zn]; omega)
      rw [if_neg hn', e1, Option.bind_some, e3, Option.bind_some, e2, Option.bind_some, Option.bind_some, e5, Option.bind_some, e4, Option.bind_some, e7, Option.bind_some, e6]
      simp [zn]
theorem zfp {b : Nat} (hb : zeT b) (n : Nat) (hn : n < 2 ^ 63) : zcN (n : Int) (b : Int) = some (zn (zeI b n)) := by
  unfold zcN
  obtain ⟨m, hm⟩ : ∃ m, fuel = m + 1 := ⟨999999999999999999, rfl⟩
  rw [hm]
  exact zob hb 62 m n (by unfold fuel at hm; omega) (by omega) (by omega)
def zlB (b : Nat) (n : Int) : Str := if n < 0 then [] else zn (zeI b n.toNat)
theorem zme {b : Nat} (hb : zeT b) (n : Int) (hn : inI n = true) : zfT n (b : Int) = some (zlB b n) := by
  obtain ⟨h1, h2⟩ := zf2.1 hn
  unfold zfT zlB
  by_cases h : n < 0
  · simp [h]
  · obtain ⟨k, rfl⟩ : ∃ k : Nat, n = k := ⟨n.toNat, by omega⟩
    simp [h, zfp hb k (by omega)]
theorem dec_eq : ∀ n, n < 2 ^ 64 → Go.Lib.decDigits n = zn (zeI 10 n) :=
  zjd (b := 10) (by decide) (fun n h => by rw [Go.Lib.decDigits, dif_pos h, zcJ h]; simp [zn, dch, h]) fun n h hn ih => by
    rw [Go.Lib.decDigits, dif_neg (by omega), ih, zgx (by decide) h hn]
    have : n % 10 < 10 := Nat.mod_lt _ (by decide)
    simp [zn, dch, this]
theorem zkq (n : Int) (hn : inI n = true) : zex n = some (zlB 10 n) := by
  obtain ⟨h1, h2⟩ := zf2.1 hn
  unfold zex zfv zlB
  by_cases h : n < 0
  · simp [h]
  · obtain ⟨k, rfl⟩ : ∃ k : Nat, n = k := ⟨n.toNat, by omega⟩
    have hk : ¬ ((k : Int) < 0) := by omega
    simp [hk, zc9, hn, Go.Lib.itoa, dec_eq k (by omega)]
def vals (s : Str) : List Nat := s.map wor
def zc8 (b : Nat) (s : Str) (most : Int) : Int × Int :=
  if (s == [] || !s.all (zgy b)) = true then (0, 2) else if most < (zaA b (vals s) : Int) then (0, 7) else (((zaA b (vals s) : Nat) : Int), 0)
theorem zr4 {b : Nat} (hb : zeT b) {s : Str} (h : s.all (zgy b) = true) : ∀ d ∈ vals s, d < b := by
  intro d hd
  obtain ⟨c, hc, rfl⟩ := List.mem_map.1 hd
  exact zlz hb (List.all_eq_true.1 h c hc)
theorem zmJ {b : Nat} (hb : 1 ≤ b) (l m : List Nat) : zaA b l ≤ zaA b (l ++ m) := by
  unfold zaA
  rw [List.foldl_append]
  generalize l.foldl (fun n d => n * b + d) 0 = n
  rw [zmH]
  have : 1 ≤ b ^ m.length := Nat.one_le_pow _ _ hb
  have := Nat.le_mul_of_pos_right n this
  omega
theorem zo3 {b : Nat} (hb : zeT b) (s : Str) (most : Int) (hs : s.length < 1000000000) (hd : s.all (zgy b) = true) (hm : most < 4611686018427387904) (hm0 : -4611686018427387904 < most) (hne : s ≠ []) :
    zaf s (b : Int) most fuel 0 0 = some (if most < (zaA b (vals s) : Int) then (0, 7) else (((zaA b (vals s) : Nat) : Int), 0)) := by
  obtain ⟨h2, h16⟩ := hb.two
  have key : ∀ (n i v : Nat), i ≤ s.length → s.length - i < n → v = zaA b (vals (s.take i)) → (i = 0 ∨ (v : Int) ≤ most) → (i < s.length ∨ (v : Int) ≤ most) →
      zaf s (b : Int) most n (v : Int) (i : Int) = some (if most < (zaA b (vals s) : Int) then (0, 7) else (((zaA b (vals s) : Nat) : Int), 0)) := by
    intro n
    induction n with
    | zero => intro i v _ h; omega
    | succ n ih =>
      intro i v hi h hv h0 h1
      rw [zaf]
      by_cases hlt : i < s.length
      · have hx : s[i]? = some s[i] := List.getElem?_eq_getElem hlt
        have hw : wor s[i] < b := zlz hb (List.all_eq_true.1 hd _ (List.getElem_mem hlt))
        have htk : vals (s.take (i + 1)) = vals (s.take i) ++ [wor s[i]] := by
          unfold vals
          rw [List.take_succ_eq_append_getElem hlt, List.map_append]; rfl
        have hv' : zaA b (vals (s.take (i + 1))) = v * b + wor s[i] := by rw [htk, zjO, ← hv]
        have hle : zaA b (vals (s.take (i + 1))) ≤ zaA b (vals s) := by
          have := zmJ (b := b) (by omega) (vals (s.take (i + 1))) (vals (s.drop (i + 1)))
          unfold vals at this ⊢
          rwa [← List.map_append, List.take_append_drop] at this
        simp only [Int.ofNat_lt, hlt, decide_true, if_true, zac, hx, Option.bind_some, zjP]
        by_cases hov : most < (wor s[i] : Int)
        · have : most < (zaA b (vals s) : Int) := by
            have := Nat.zero_le (v * b); omega
          simp [hov, zb3, this]
        · have hsub : zci most (wor s[i] : Int) = some (most - (wor s[i] : Int)) := zbm (by omega) (by omega)
          have hdv : zmX (most - (wor s[i] : Int)) (b : Int) = some ((most - (wor s[i] : Int)) / (b : Int)) := by
            unfold zmX
            have h5 : 0 ≤ (most - (wor s[i] : Int)) / (b : Int) := Int.ediv_nonneg (by omega) (by omega)
            have h6 : (most - (wor s[i] : Int)) / (b : Int) ≤ most - (wor s[i] : Int) := Int.ediv_le_self _ (by omega)
            rw [if_pos ⟨by omega, by omega, by rw [zf2]; omega⟩]
          have hiff : (most - (wor s[i] : Int)) / (b : Int) < (v : Int) ↔ most < ((v * b + wor s[i] : Nat) : Int) := by
            rw [Int.ediv_lt_iff_lt_mul (by omega)]
            push_cast
            omega
          simp only [hov, decide_false, Bool.false_eq_true, if_false, hsub, hdv, Option.bind_some, zb3]
          by_cases hov2 : (most - (wor s[i] : Int)) / (b : Int) < (v : Int)
          · have h7 : most < (zaA b (vals s) : Int) := by have := hiff.1 hov2; omega
            simp [hov2, h7]
          · have h7 : ((v * b + wor s[i] : Nat) : Int) ≤ most := by have := (not_congr hiff).1 hov2; omega
            have hmul : zmW (v : Int) (b : Int) = some ((v * b : Nat) : Int) := by
              rw [zpd (by rw [← Int.natCast_mul]; omega) (by rw [← Int.natCast_mul]; omega), Int.natCast_mul]
            have hadd : zM ((v * b : Nat) : Int) (wor s[i] : Int) = some ((v * b + wor s[i] : Nat) : Int) := by
              rw [ze1 (by omega) (by omega)]; simp
            simp only [hov2, decide_false, Bool.false_eq_true, if_false, hmul, hadd, Option.bind_some, zk (show i < 4611686018427387904 by omega)]
            exact ih (i + 1) (v * b + wor s[i]) (by omega) (by omega) hv'.symm (.inr h7) (.inr h7)
      · have : i = s.length := by omega
        subst this
        rw [List.take_length] at hv
        have h8 : ¬ most < (zaA b (vals s) : Int) := by rw [← hv]; rcases h1 with h1 | h1 <;> omega
        simp [h8, hv]
  have := key fuel 0 0 (Nat.zero_le _) (by unfold fuel; omega) (by simp [vals, zaA]) (.inl rfl) (.inl (by cases s with | nil => exact absurd rfl hne | cons _ _ => simp))
  simpa using this
theorem zkr {b : Nat} (hb : zeT b) (s : Str) (most : Int) (hs : s.length < 1000000000) (hm : most < 4611686018427387904) (hm0 : -4611686018427387904 < most) {f : UInt8 → Option Bool} (hf : ∀ c, f c = some (zgy b c)) :
    zew s (b : Int) most f = some (zc8 b s most) := by
  unfold zew zc8
  rcases zeK (s == []) with h | h
  · rw [h]; simp [zb4]
  · rw [h]
    rw [zdS hf s hs]
    simp only [Bool.false_eq_true, if_false, Option.bind_some, zb4, Bool.false_or]
    rcases zeK (s.all (zgy b)) with h2 | h2
    · rw [h2]
      simp only [Bool.not_true, Bool.false_eq_true, if_false]
      exact zo3 hb s most hs h2 hm hm0 (by simpa using h)
    · rw [h2]; simp
theorem zfJ (s : Str) (most : Int) (hs : s.length < 1000000000) (hm : most < 4611686018427387904) (hm0 : -4611686018427387904 < most) : zb5 s most = some (zc8 10 s most) := by
  unfold zb5
  have := zkr (.inl rfl) s most hs hm hm0 (f := zam) zjN
  rw [show ((10 : Nat) : Int) = 10 from rfl] at this
  rw [this]; rfl
def zfa : List Nat → List Nat
  | 0 :: l => zfa l
  | l => l
theorem zjQ (b : Nat) : ∀ l, zaA b (zfa l) = zaA b l
  | [] => rfl
  | 0 :: l => by rw [zfa, zjQ b l, zfA, Nat.zero_mul, Nat.zero_add]
  | (n + 1) :: l => rfl
theorem zlC : ∀ l, (zfa l).head? ≠ some 0
  | [] => by simp [zfa]
  | 0 :: l => by rw [zfa]; exact zlC l
  | (n + 1) :: l => by simp [zfa]
theorem zmK : ∀ {l : List Nat} {d : Nat}, d ∈ zfa l → d ∈ l
  | [], _, h => h
  | 0 :: l, d, h => by rw [zfa] at h; exact List.mem_cons_of_mem _ (zmK h)
  | (n + 1) :: l, _, h => h
theorem zmL : ∀ l, (zfa l).length ≤ l.length
  | [] => Nat.le_refl _
  | 0 :: l => by rw [zfa]; have := zmL l; simp; omega
  | (n + 1) :: l => Nat.le_refl _
def zfb (l : List Nat) : List Nat := if zfa l = [] then [0] else zfa l
theorem zrn {b : Nat} (hb : zeT b) (s : Str) (hs : s.length < 1000000000) :
    zfk s (b : Int) = some (if s.all (zgy b) then (zn (zfb (vals s)), !(s == [])) else ([], false)) := by
  obtain ⟨h2, h16⟩ := hb.two
  unfold zfk
  have key : ∀ (n i : Nat) (acc : List Nat), i ≤ s.length → s.length - i < n → acc.length ≤ i → (acc = [] ∨ acc.head? ≠ some 0) →
      zan s (b : Int) n (zn acc) (i : Int) = some (if (s.drop i).all (zgy b) then (zn (if acc = [] then zfb (vals (s.drop i)) else acc ++ vals (s.drop i)), !(s == [])) else ([], false)) := by
    intro n
    induction n with
    | zero => intro i acc _ h; omega
    | succ n ih =>
      intro i acc hi h ha h0
      rw [zan]
      by_cases hlt : i < s.length
      · have hx : s[i]? = some s[i] := List.getElem?_eq_getElem hlt
        rw [List.drop_eq_getElem_cons hlt]
        generalize hc : s[i] = c at hx ⊢
        simp only [Int.ofNat_lt, hlt, decide_true, if_true, zac, hx, Option.bind_some, zhD hb, List.all_cons]
        rcases zeK (zgy b c) with hdg | hdg
        · have hw := zlz hb hdg
          have hw0 : ¬ ((wor c : Int) < 0) := by omega
          have hdig : zcN (wor c : Int) (b : Int) = some [dch (wor c)] := by
            rw [zfp hb _ (by omega), zcJ hw]; rfl
          have hcat : ze5 (zn acc) [dch (wor c)] = some (zn (acc ++ [wor c])) := by
            rw [zb1 (by simp [zn]; omega)]; simp [zn]
          simp only [hdg, if_true, hw0, decide_false, Bool.false_eq_true, if_false, zdu, zdt, hdig, hcat, Option.bind_some, zk (show i < 4611686018427387904 by omega), Bool.true_and]
          have hvc : vals (c :: s.drop (i + 1)) = wor c :: vals (s.drop (i + 1)) := rfl
          cases acc with
          | nil =>
            by_cases hz : wor c = 0
            · have hz' : ¬ (0 < (wor c : Int)) := by omega
              simp only [show (zn [] == ([] : Str)) = true from rfl, Bool.not_true, Bool.false_eq_true, if_false, hz', decide_false]
              have := ih (i + 1) [] (by omega) (by omega) (by simp) (.inl rfl)
              rw [show zn [] = ([] : Str) from rfl] at this ⊢
              rw [this]
              simp only [if_true, hvc, hz, zfb, zfa]
            · have hz' : 0 < (wor c : Int) := by omega
              simp only [show (zn [] == ([] : Str)) = true from rfl, Bool.not_true, Bool.false_eq_true, if_false, hz', decide_true, if_true]
              rw [ih (i + 1) ([] ++ [wor c]) (by omega) (by omega) (by simp) (.inr (by simpa using hz))]
              obtain ⟨m, hm⟩ : ∃ m, wor c = m + 1 := ⟨wor c - 1, by omega⟩
              simp [hvc, zfb, hm, zfa]
          | cons y acc =>
            simp only [show (zn (y :: acc) == ([] : Str)) = false from rfl, Bool.not_false, if_true]
            have hy : (y :: acc ++ [wor c]) = [] ∨ (y :: acc ++ [wor c]).head? ≠ some 0 := by
              right
              rcases h0 with h0 | h0
              · cases h0
              · simpa using h0
            rw [ih (i + 1) (y :: acc ++ [wor c]) (by omega) (by omega) (by simp at ha ⊢; omega) hy]
            simp [hvc]
        · simp [hdg]
      · have : i = s.length := by omega
        subst this
        simp only [Int.lt_irrefl, decide_false, Bool.false_eq_true, if_false, List.drop_length, List.all_nil, if_true, zdv]
        cases acc with
        | nil => simp [zn, zfb, vals, zfa, dch]
        | cons y acc => simp [zn, vals]
  have := key fuel 0 [] (Nat.zero_le _) (by unfold fuel; omega) (by simp) (.inl rfl)
  simpa [zn] using this
theorem zoc {b : Nat} (hb : 0 < b) {l : List Nat} (h : ∀ d ∈ l, d < b) : zfb l ≠ [] ∧ (∀ d ∈ zfb l, d < b) ∧ (zfb l = [0] ∨ (zfb l).head? ≠ some 0) ∧ zaA b (zfb l) = zaA b l ∧ (zfb l).length ≤ l.length + 1 := by
  unfold zfb
  by_cases e : zfa l = []
  · rw [if_pos e]
    have := zjQ b l
    rw [e, zrk] at this
    refine ⟨by simp, fun d hd => by simp at hd; omega, .inl rfl, by simp [zaA] at this ⊢; exact this, by simp⟩
  · rw [if_neg e]
    exact ⟨e, fun d hd => h d (zmK hd), .inr (zlC l), zjQ b l, by have := zmL l; omega⟩
theorem zro {b : Nat} (hb : 2 ≤ b) (l m : List Nat) (hl0 : l ≠ []) (hm0 : m ≠ []) (hl : ∀ d ∈ l, d < b) (hm : ∀ d ∈ m, d < b) (zl : l = [0] ∨ l.head? ≠ some 0) (zm : m = [0] ∨ m.head? ≠ some 0) :
    (decide (l.length < m.length) || (l.length == m.length && zlv l m)) = decide (zaA b l < zaA b m) := by
  have low : ∀ x : List Nat, x ≠ [] → x.head? ≠ some 0 → b ^ (x.length - 1) ≤ zaA b x := by
    intro x hx h0
    cases x with
    | nil => exact absurd rfl hx
    | cons y t =>
      have hy : 1 ≤ y := by
        rcases Nat.eq_zero_or_pos y with e | e
        · subst e; simp at h0
        · exact e
      rw [zfA, List.length_cons, Nat.add_sub_cancel]
      have := Nat.mul_le_mul_right (b ^ t.length) hy
      rw [Nat.one_mul] at this; omega
  have cmp : ∀ x y : List Nat, x ≠ [] → y ≠ [] → (∀ d ∈ x, d < b) → (y = [0] ∨ y.head? ≠ some 0) → x.length < y.length → zaA b x < zaA b y := by
    intro x y hx hy hxd zy h
    have hyh : y.head? ≠ some 0 := by
      rcases zy with e | e
      · have : 1 ≤ x.length := by cases x with | nil => exact absurd rfl hx | cons _ _ => simp
        rw [e] at h
        have h' : x.length < 1 := h
        omega
      · exact e
    have h1 := zkD (b := b) (by omega) hxd
    have h2 := low y hy hyh
    have h3 : b ^ x.length ≤ b ^ (y.length - 1) := Nat.pow_le_pow_right (by omega) (by omega)
    omega
  rcases Nat.lt_trichotomy l.length m.length with h | h | h
  · have := cmp l m hl0 hm0 hl zm h
    simp [h, this]
  · rw [h, zpj (b := b) (by omega) l m h hl hm]; simp
  · have h1 := cmp m l hm0 hl0 hm zl h
    have h2 : ¬ l.length < m.length := by omega
    have h3 : (l.length == m.length) = false := beq_eq_false_iff_ne.2 (by omega)
    have h4 : ¬ zaA b l < zaA b m := by omega
    simp [h2, h3, h4]
theorem zgz (l : List Nat) : (zn l).length = l.length := by simp [zn]
theorem zjR {b : Nat} (hb : zeT b) (l : List Nat) (q : Bool) (hl : ∀ d ∈ l, d < b) (hlen : l.length < 2000000000) (hv : zaA b l < 4611686018427387904) :
    zbM (b : Int) (zn l, q) fuel 0 0 = some (((zaA b l : Nat) : Int), 0) := by
  obtain ⟨h2, h16⟩ := hb.two
  have key : ∀ (n i v : Nat), i ≤ l.length → l.length - i < n → v = zaA b (l.take i) → zbM (b : Int) (zn l, q) n (v : Int) (i : Int) = some (((zaA b l : Nat) : Int), 0) := by
    intro n
    induction n with
    | zero => intro i v _ h; omega
    | succ n ih =>
      intro i v hi h hvv
      rw [zbM]
      by_cases hlt : i < l.length
      · have hx : (zn l)[i]? = some (dch l[i]) := by simp [zn, hlt]
        have hd : l[i] < b := hl _ (List.getElem_mem hlt)
        obtain ⟨w1, w2, w3⟩ := zpZ l[i] (by omega)
        have hdg : zgy b (dch l[i]) = true := by
          rcases hb with rfl | rfl
          · exact w3 hd
          · exact w2
        have hv' : zaA b (l.take (i + 1)) = v * b + l[i] := by
          rw [List.take_succ_eq_append_getElem hlt, zjO, ← hvv]
        have hle : zaA b (l.take (i + 1)) ≤ zaA b l := by
          have := zmJ (b := b) (by omega) (l.take (i + 1)) (l.drop (i + 1))
          rwa [List.take_append_drop] at this
        have hmul : zmW (v : Int) (b : Int) = some ((v * b : Nat) : Int) := by
          rw [zpd (by rw [← Int.natCast_mul]; omega) (by rw [← Int.natCast_mul]; omega), Int.natCast_mul]
        have hadd : zM ((v * b : Nat) : Int) (l[i] : Int) = some ((v * b + l[i] : Nat) : Int) := by
          rw [ze1 (by omega) (by omega)]; simp
        simp only [zgz, Int.ofNat_lt, hlt, decide_true, if_true, hmul, Option.bind_some, zac, hx, zhD hb, hdg, w1, hadd, zk (show i < 4611686018427387904 by omega)]
        exact ih (i + 1) _ (by omega) (by omega) hv'.symm
      · have : i = l.length := by omega
        subst this
        rw [List.take_length] at hvv
        simp [zgz, hvv]
  have := key fuel 0 0 (Nat.zero_le _) (by unfold fuel; omega) (by simp [zaA])
  simpa using this
theorem zmf {b : Nat} (hb : zeT b) (s : Str) (most : Int) (hs : s.length < 1000000000) (hm : most < 4611686018427387904) (hm0 : -4611686018427387904 < most) : zfS s (b : Int) most = some (zc8 b s most) := by
  obtain ⟨h2, h16⟩ := hb.two
  unfold zfS zc8
  rw [zrn hb s hs, Option.bind_some]
  rcases zeK (s.all (zgy b)) with hd | hd
  · rw [hd]
    simp only [if_true, Bool.not_true, Bool.or_false]
    rcases zeK (s == []) with he | he
    · rw [he]; simp
    · rw [he]
      have hv := zr4 hb hd
      obtain ⟨c1, c2, c3, c4, c5⟩ := zoc (b := b) (by omega) hv
      have hlen : (vals s).length = s.length := by simp [vals]
      simp only [Bool.not_false, Bool.not_true, Bool.false_eq_true, if_false]
      by_cases hneg : most < 0
      · have h7 : most < (zaA b (vals s) : Int) := by omega
        simp [hneg, h7, zc2]
      · obtain ⟨k, rfl⟩ : ∃ k : Nat, most = k := ⟨most.toNat, by omega⟩
        have hk : k < 2 ^ 64 := by omega
        have hless : zfR (zn (zeI b k)) (zn (zfb (vals s))) = some (decide (k < zaA b (vals s))) := by
          unfold zfR
          have d1 := zr3 h2 k hk
          have d3 : zeI b k = [0] ∨ (zeI b k).head? ≠ some 0 := by
            rcases zmI h2 k hk with e | e
            · left; subst e; exact zcJ (by omega)
            · exact .inr e
          have := zro h2 (zeI b k) (zfb (vals s)) znn c1 d1 c2 d3 c3
          rw [zoa h2 k hk, c4] at this
          rw [← this, zgz, zgz, zj7 _ _ (fun d hd => by have := d1 d hd; omega) (fun d hd => by have := c2 d hd; omega)]
          by_cases h1 : (zeI b k).length < (zfb (vals s)).length
          · simp [h1, zbL]
          · by_cases h3 : (zeI b k).length = (zfb (vals s)).length
            · simp [h3, zbL]
            · have h4 : (((zeI b k).length : Int) == ((zfb (vals s)).length : Int)) = false := beq_eq_false_iff_ne.2 (by omega)
              simp [h1, h3, h4, zbL]
        simp only [hneg, decide_false, Bool.false_eq_true, if_false, zfp hb k (by omega), Option.bind_some, hless, zc2]
        by_cases h7 : k < zaA b (vals s)
        · have h8 : (k : Int) < (zaA b (vals s) : Int) := by omega
          simp [h7, h8]
        · have h8 : ¬ ((k : Int) < (zaA b (vals s) : Int)) := by omega
          simp only [h7, decide_false, Bool.false_eq_true, if_false, h8]
          rw [zjR hb _ _ c2 (by omega) (by rw [c4]; omega), c4]
  · rw [hd]; simp
end Go.Dm
end
section
namespace Go.Dm
def low (s : Str) : Str := s.map zeS
theorem zig (s : Str) (hs : s.length < 1000000000) : zeX s = some (low s) := by
  unfold zeX
  rw [if_pos (by omega)]
  unfold low
  clear hs
  induction s with
  | nil => rfl
  | cons x s ih => simp [List.mapM_cons, zlo, ih]
theorem upAt : ∀ j : Nat, j < 26 → (([65, 66, 67, 68, 69, 70, 71, 72, 73, 74, 75, 76, 77, 78, 79, 80, 81, 82, 83, 84, 85, 86, 87, 88, 89, 90] : Str)[j]? = some (UInt8.ofNat (65 + j)) ∧
    zeG [97, 98, 99, 100, 101, 102, 103, 104, 105, 106, 107, 108, 109, 110, 111, 112, 113, 114, 115, 116, 117, 118, 119, 120, 121, 122] (j : Int) ((j + 1 : Nat) : Int) = some [UInt8.ofNat (97 + j)]) := by decide
theorem zjK (rec1 : Str → Int → Option Str) (t : Str) (s4 : Str) (i : Nat) (x : UInt8) (hx : t[i]? = some x) : ∀ (k j n : Nat) (s : Str), j + k = 26 → k < n →
    zaF rec1 t s4 (i : Int) n s (j : Int) = (ze5 s4 (if 65 + j ≤ x.toNat ∧ x.toNat < 91 then [x + 32] else s)).bind fun s27 => (zM (i : Int) 1).bind fun i29 => rec1 s27 i29 := by
  intro k
  induction k with
  | zero =>
    intro j n s hj hn
    obtain ⟨n, rfl⟩ : ∃ m, n = m + 1 := ⟨n - 1, by omega⟩
    obtain rfl : j = 26 := by omega
    have h0 : ¬ (65 + 26 ≤ x.toNat ∧ x.toNat < 91) := by omega
    rw [zaF, if_neg h0]
    rfl
  | succ k ih =>
    intro j n s hj hn
    obtain ⟨n, rfl⟩ : ∃ m, n = m + 1 := ⟨n - 1, by omega⟩
    obtain ⟨h1, h2⟩ := upAt j (by omega)
    have hj26 : (j : Int) < 26 := by omega
    rw [zaF]
    simp only [hj26, decide_true, if_true, zac, h1, hx, Option.bind_some, zk (show j < 4611686018427387904 by omega), h2, zdZ]
    rw [ih (j + 1) n _ (by omega) (by omega), ih (j + 1) n _ (by omega) (by omega)]
    by_cases he : UInt8.ofNat (65 + j) = x
    · subst he
      have e1 : (UInt8.ofNat (65 + j)).toNat = 65 + j := by simp; omega
      have e2 : UInt8.ofNat (97 + j) = UInt8.ofNat (65 + j) + 32 := by
        apply UInt8.toNat_inj.1; simp; omega
      simp only [beq_self_eq_true, if_true, e1]
      rw [if_neg (by omega), if_pos (by omega), e2]
    · have hb : (UInt8.ofNat (65 + j) == x) = false := beq_eq_false_iff_ne.2 he
      have hne : x.toNat ≠ 65 + j := fun e => he (by apply UInt8.toNat_inj.1; simp; omega)
      simp only [hb, Bool.false_eq_true, if_false]
      have : (65 + (j + 1) ≤ x.toNat ∧ x.toNat < 91) ↔ (65 + j ≤ x.toNat ∧ x.toNat < 91) := by omega
      simp only [this]
theorem zpT (x : UInt8) : (if 65 ≤ x.toNat ∧ x.toNat < 91 then [x + 32] else [x]) = [zeS x] := by
  have hi : (65 ≤ x ∧ x ≤ 90) ↔ (65 ≤ x.toNat ∧ x.toNat < 91) := by
    have h1 : (65 ≤ x) ↔ (65 ≤ x.toNat) := Iff.rfl
    have h2 : (x ≤ 90) ↔ (x.toNat ≤ 90) := Iff.rfl
    rw [h1, h2]; omega
  unfold zeS
  by_cases h : 65 ≤ x.toNat ∧ x.toNat < 91
  · rw [if_pos h, if_pos (hi.2 h)]
  · rw [if_neg h, if_neg (fun e => h (hi.1 e))]
theorem zih (s : Str) (hs : s.length < 1000000000) : ze0 s = some (low s) := by
  unfold ze0
  have key : ∀ (n i : Nat) (acc : Str), acc.length = i → i ≤ s.length → s.length - i < n → zaG s n acc (i : Int) = some (acc ++ low (s.drop i)) := by
    intro n
    induction n with
    | zero => intro i acc _ _ h; omega
    | succ n ih =>
      intro i acc ha hi h
      rw [zaG]
      by_cases hlt : i < s.length
      · have hx : s[i]? = some s[i] := List.getElem?_eq_getElem hlt
        have e1 : (s.take (i + 1)).drop i = [s[i]] := by
          rw [List.drop_take, List.drop_eq_getElem_cons hlt, show i + 1 - i = 1 by omega]
          rfl
        have h2 := zjK (zaG s n) s acc i s[i] hx 26 0 fuel [s[i]] rfl (by unfold fuel; omega)
        simp only [Int.natCast_zero, Nat.add_zero, zpT] at h2
        simp only [Int.ofNat_lt, hlt, decide_true, if_true, zk (show i < 4611686018427387904 by omega), Option.bind_some, zdh (show i ≤ i + 1 by omega) (show i + 1 ≤ s.length by omega), e1, h2, zb1 (show acc.length + [zeS s[i]].length ≤ 9223372036854775807 by simp; omega)]
        rw [ih (i + 1) _ (by simp [ha]) (by omega) (by omega), List.drop_eq_getElem_cons hlt]
        show some ((acc ++ [zeS s[i]]) ++ low (s.drop (i + 1))) = some (acc ++ (zeS s[i] :: low (s.drop (i + 1))))
        rw [List.append_assoc]
        rfl
      · have : i = s.length := by omega
        subst this
        simp [low]
  have := key fuel 0 [] rfl (Nat.zero_le _) (by unfold fuel; omega)
  simpa using this
theorem zmc (a b : Str) (ha : a.length < 1000000000) (hb : b.length < 1000000000) : zfP a b = some (low a == low b) := by
  unfold zfP
  rw [zig a ha, zig b hb]; rfl
end Go.Dm
end
section
namespace Go.Dm
def upto (cs s : Str) : Str := s.takeWhile (fun c => !cs.contains c)
def zb6 (cs s : Str) : Str := s.dropWhile (fun c => !cs.contains c)
theorem zea (cs s : Str) : upto cs s ++ zb6 cs s = s := List.takeWhile_append_dropWhile
theorem zpo (cs s : Str) : (upto cs s).length ≤ s.length := by
  have := congrArg List.length (zea cs s); simp at this; omega
theorem zmM (cs s : Str) : s.take (upto cs s).length = upto cs s := by
  have h := zea cs s
  conv => lhs; arg 2; rw [← h]
  exact List.take_left
theorem zgC (cs s : Str) : s.drop (upto cs s).length = zb6 cs s := by
  have h := zea cs s
  conv => lhs; arg 2; rw [← h]
  exact List.drop_left
theorem zhV {cs s : Str} {c : UInt8} {r : Str} (h : zb6 cs s = c :: r) : cs.contains c = true := by
  have := List.head?_dropWhile_not (fun c => !cs.contains c) s
  unfold zb6 at h
  rw [h] at this
  simpa using this
theorem zlQ {cs s : Str} : ∀ c ∈ upto cs s, cs.contains c = false := by
  intro c hc
  have h : (upto cs s).all (fun c => !cs.contains c) = true := List.all_takeWhile
  have := List.all_eq_true.1 h c hc
  simpa using this
theorem zor {cs s : Str} {x : UInt8} (h : cs.contains x = true) : upto cs (x :: s) = [] := by
  unfold upto; rw [List.takeWhile_cons_of_neg (by rw [h]; simp)]
theorem zkd {cs s : Str} {x : UInt8} (h : cs.contains x = true) : zb6 cs (x :: s) = x :: s := by
  unfold zb6; rw [List.dropWhile_cons_of_neg (by rw [h]; simp)]
theorem zos {cs s : Str} {x : UInt8} (h : cs.contains x = false) : upto cs (x :: s) = x :: upto cs s := by
  unfold upto; rw [List.takeWhile_cons_of_pos (by rw [h]; rfl)]
theorem zke {cs s : Str} {x : UInt8} (h : cs.contains x = false) : zb6 cs (x :: s) = zb6 cs s := by
  unfold zb6; rw [List.dropWhile_cons_of_pos (by rw [h]; rfl)]

theorem zmN (cs : Str) : ∀ (s : Str) (k : Nat), zhO s cs k = if zb6 cs s = [] then -1 else ((k + (upto cs s).length : Nat) : Int)
  | [], k => by simp [zhO, zb6]
  | x :: s, k => by
    simp only [zhO]
    by_cases h : cs.contains x = true
    · rw [if_pos h, zor h, zkd h]; simp
    · have h' : cs.contains x = false := by simpa using h
      rw [if_neg h, zmN cs s (k + 1)]
      rw [zke h', zos h', List.length_cons]
      split
      · rfl
      · congr 1; omega
theorem znv (s p : Str) (hs : s.length < 1000000000) : stringslite_HasPrefix s p = some (p.isPrefixOf s) := by
  unfold stringslite_HasPrefix
  by_cases h : p.length ≤ s.length
  · have h' : (p.length : Int) ≤ (s.length : Int) := by omega
    simp only [h', decide_true, if_true, zf5 h, Option.bind_some, z6]
    congr 1
    rw [Bool.eq_iff_iff, beq_iff_eq, List.isPrefixOf_iff_prefix, List.prefix_iff_eq_take]
    exact eq_comm
  · have h' : ¬ (p.length : Int) ≤ (s.length : Int) := by omega
    simp only [h', decide_false, Bool.false_eq_true, if_false, z6]
    congr 1
    rw [eq_comm, Bool.eq_false_iff]
    intro hp
    rw [List.isPrefixOf_iff_prefix] at hp
    exact h hp.length_le
theorem zhK (s p : Str) (hs : s.length < 1000000000) : strings_CutPrefix s p = some (if p.isPrefixOf s then (s.drop p.length, true) else (s, false)) := by
  unfold strings_CutPrefix stringslite_CutPrefix
  rw [znv s p hs]
  cases hp : p.isPrefixOf s with
  | false => simp
  | true =>
    have h : p.length ≤ s.length := (List.isPrefixOf_iff_prefix.1 hp).length_le
    simp [zb2 h]
theorem znw (s p : Str) (hs : s.length < 1000000000) (hp : p.length < 1000000000) : stringslite_HasSuffix s p = some (p.isSuffixOf s) := by
  unfold stringslite_HasSuffix
  by_cases h : p.length ≤ s.length
  · have h' : (p.length : Int) ≤ (s.length : Int) := by omega
    have e : (s.length : Int) - (p.length : Int) = ((s.length - p.length : Nat) : Int) := by omega
    simp only [h', decide_true, if_true, zbm (show -9223372036854775808 ≤ (s.length : Int) - (p.length : Int) by omega) (by omega), Option.bind_some, e, zb2 (show s.length - p.length ≤ s.length by omega), z7]
    congr 1
    rw [Bool.eq_iff_iff, beq_iff_eq, List.isSuffixOf_iff_suffix, List.suffix_iff_eq_drop]
    exact eq_comm
  · have h' : ¬ (p.length : Int) ≤ (s.length : Int) := by omega
    simp only [h', decide_false, Bool.false_eq_true, if_false, z7, Option.bind_some]
    congr 1
    rw [eq_comm, Bool.eq_false_iff]
    intro hp
    rw [List.isSuffixOf_iff_suffix] at hp
    exact h hp.length_le
theorem zh2 (s cs : Str) (hs : s.length < 1000000000) (hc : cs.length < 1000000000) (ha : cs.all (fun c => c.toNat < 128) = true) :
    strings_IndexAny s cs = some (if zb6 cs s = [] then -1 else ((upto cs s).length : Int)) := by
  unfold strings_IndexAny
  rw [if_pos ⟨by omega, by omega, ha⟩, zmN, Nat.zero_add]
theorem zot (cs s : Str) : zb6 cs s = [] ↔ s.any cs.contains = false := by
  induction s with
  | nil => simp [zb6]
  | cons x s ih =>
    rcases zeK (cs.contains x) with h | h
    · rw [zkd h, List.any_cons, h]; simp
    · rw [zke h, ih, List.any_cons, h, Bool.false_or]
theorem zg1 (s cs : Str) (hs : s.length < 1000000000) (hc : cs.length < 1000000000) (ha : cs.all (fun c => c.toNat < 128) = true) : strings_ContainsAny s cs = some (s.any cs.contains) := by
  unfold strings_ContainsAny
  rw [zh2 s cs hs hc ha, Option.bind_some]
  rcases zeK (s.any cs.contains) with h | h
  · have e : ¬ zb6 cs s = [] := fun e => by rw [(zot cs s).1 e] at h; cases h
    rw [if_neg e, h]; simp
  · rw [if_pos ((zot cs s).2 h), h]; rfl

end Go.Dm
end
section
namespace Go.Dm
def scn (s : Str) (k : Nat) : scan_Scanner := ⟨s, (k : Int)⟩
theorem zkc (s : Str) : zhP s = some (scn s 0) := rfl
theorem zg0 (s : Str) (k : Nat) : zaW (scn s k) = some (k : Int) := rfl
theorem zjg {s : Str} {k : Nat} (h : k ≤ s.length) : zaJ (scn s k) = some (s.drop k) := by
  unfold zaJ scn
  rw [zb2 h]; rfl
theorem zhJ {s : Str} {k : Nat} (h : k ≤ s.length) : zaB (scn s k) = some (s.drop k == []) := by
  unfold zaB
  rw [zjg h]; rfl
theorem zgf {s : Str} {k : Nat} (h : k ≤ s.length) (hd : s.drop k = []) : zC (scn s k) = some (0, false) := by
  unfold zC
  rw [zhJ h, hd]; rfl
theorem zfM {s : Str} {k : Nat} {x : UInt8} {r : Str} (h : k ≤ s.length) (hd : s.drop k = x :: r) : zC (scn s k) = some (x, true) := by
  unfold zC
  rw [zhJ h, hd]
  have hx : s[k]? = some x := by
    have := congrArg (·[0]?) hd
    simpa using this
  simp [scn, hx]
theorem zml {s : Str} {k : Nat} (b : UInt8) (h : k ≤ s.length) (hd : s.drop k = []) : zg (scn s k) b = some (false, scn s k) := by
  unfold zg
  rw [zgf h hd]; rfl
theorem zes {s : Str} {k : Nat} {x : UInt8} {r : Str} (b : UInt8) (h : k ≤ s.length) (hs : s.length < 1000000000) (hd : s.drop k = x :: r) : zg (scn s k) b = some (x == b, if x == b then scn s (k + 1) else scn s k) := by
  unfold zg
  rw [zfM h hd]
  simp only [Option.bind_some, Bool.not_true, Bool.false_eq_true, if_false, zbd]
  rcases zeK (x == b) with hb | hb
  · rw [hb]; simp [scn, zk (show k < 4611686018427387904 by omega)]
  · rw [hb]; simp
theorem zet {s : Str} {k : Nat} {x : UInt8} {r : Str} (hd : s.drop k = x :: r) : k < s.length ∧ s.drop (k + 1) = r := by
  have hl : k < s.length := by
    rcases Nat.lt_or_ge k s.length with h | h
    · exact h
    · rw [List.drop_eq_nil_of_le h] at hd; cases hd
  refine ⟨hl, ?_⟩
  rw [List.drop_eq_getElem_cons hl] at hd
  exact (List.cons.inj hd).2
theorem zmm {f : UInt8 → Option Bool} {p : UInt8 → Bool} (hf : ∀ b, f b = some (p b)) {s : Str} {k : Nat} (hs : s.length < 1000000000) (hk : k ≤ s.length) :
    zaw (scn s k) f = some ((s.drop k).takeWhile p, scn s (k + ((s.drop k).takeWhile p).length)) := by
  unfold zaw
  rw [zg0, Option.bind_some]
  show zH f k fuel s k = _
  have key : ∀ (n i : Nat), k ≤ i → i ≤ s.length → s.length - i < n → zH f k n s i = some ((s.take (i + ((s.drop i).takeWhile p).length)).drop k, scn s (i + ((s.drop i).takeWhile p).length)) := by
    intro n
    induction n with
    | zero => intro i _ _ h; omega
    | succ n ih =>
      intro i hki hi h
      rw [zH]
      have e : (⟨s, (i : Int)⟩ : scan_Scanner) = scn s i := rfl
      rw [e]
      cases hd : s.drop i with
      | nil =>
        rw [zgf hi hd]
        simp [zak, za0, zdh hki hi, scn]
      | cons x r =>
        obtain ⟨hlt, hr⟩ := zet hd
        rw [zfM hi hd]
        simp only [Option.bind_some, Bool.not_true, Bool.false_eq_true, if_false, hf, zak, zk (show i < 4611686018427387904 by omega), ih (i + 1) (by omega) (by omega) (by omega), hr, List.takeWhile_cons]
        rcases zeK (p x) with hp | hp
        · rw [hp]; simp [Nat.add_assoc, Nat.add_comm 1]
        · rw [hp]; simp [za0, zdh hki hi, scn]
  rw [key fuel k (Nat.le_refl _) hk (by unfold fuel; omega)]
  congr 2
  rw [List.drop_take, Nat.add_sub_cancel_left]
  have := List.takeWhile_prefix (l := s.drop k) p
  exact (List.prefix_iff_eq_take.1 this).symm
theorem zjh (p : UInt8 → Bool) (s : Str) : (s.takeWhile p).length ≤ s.length := (List.takeWhile_prefix p).length_le
theorem zp4 (p : UInt8 → Bool) (s : Str) (k : Nat) (hk : k ≤ s.length) : s.drop (k + ((s.drop k).takeWhile p).length) = (s.drop k).dropWhile p ∧ k + ((s.drop k).takeWhile p).length ≤ s.length := by
  refine ⟨?_, ?_⟩
  · rw [← List.drop_drop]
    generalize s.drop k = t
    have h := List.takeWhile_append_dropWhile (p := p) (l := t)
    conv => lhs; arg 2; rw [← h]
    exact List.drop_left
  · have := zjh p (s.drop k)
    rw [List.length_drop] at this; omega
end Go.Dm
end
section
namespace Go.Dm
structure At (s : Str) (k : Nat) (r : Str) : Prop where
  le : k ≤ s.length
  drop : s.drop k = r
theorem At.zero (s : Str) : At s 0 s := ⟨Nat.zero_le _, rfl⟩
theorem At.len {s : Str} {k : Nat} {r : Str} (h : At s k r) : k + r.length = s.length := by
  have := congrArg List.length h.drop
  rw [List.length_drop] at this
  have := h.le
  omega
theorem At.le_len {s : Str} {k : Nat} {r : Str} (h : At s k r) : r.length ≤ s.length := by have := h.len; omega
theorem At.next {s : Str} {k : Nat} {r : Str} (h : At s k r) (n : Nat) (hn : n ≤ r.length) : At s (k + n) (r.drop n) :=
  ⟨by have := h.len; omega, by rw [← List.drop_drop, h.drop]⟩
def zpn : Str → UInt8 × Bool
  | [] => (0, false)
  | x :: _ => (x, true)
def zeN (b : UInt8) (r : Str) : Bool := r.head? == some b
def zaE (b : UInt8) (r : Str) : Str := if zeN b r then r.drop 1 else r
theorem zbr (b x : UInt8) (r : Str) : zeN b (x :: r) = (x == b) := Option.some_beq_some ..
theorem zcK (b : UInt8) (r : Str) : zaE b (b :: r) = r := by unfold zaE; rw [zbr, beq_self_eq_true, if_pos rfl]; rfl
theorem zgY {b : UInt8} {r : Str} (h : zeN b r = false) : zaE b r = r := by unfold zaE; rw [h]; rfl
theorem zfK {b : UInt8} {r : Str} (h : zeN b r = true) : r = b :: zaE b r := by
  cases r with
  | nil => cases h
  | cons x r =>
    rw [zbr] at h
    have : x = b := by simpa using h
    subst this
    rw [zcK]
section
variable {s r : Str} {k : Nat}
theorem zrr (h : At s k r) : zaB (scn s k) = some (r == []) := by rw [zhJ h.le, h.drop]
theorem zsc (h : At s k r) : zaJ (scn s k) = some r := by rw [zjg h.le, h.drop]
theorem zkE (h : At s k r) : zC (scn s k) = some (zpn r) := by
  cases r with
  | nil => exact zgf h.le h.drop
  | cons x r => exact zfM h.le h.drop
theorem zf8 (hs : s.length < 1000000000) (b : UInt8) (h : At s k r) : ∃ k', At s k' (zaE b r) ∧ zg (scn s k) b = some (zeN b r, scn s k') := by
  cases r with
  | nil => exact ⟨k, h, zml b h.le h.drop⟩
  | cons x r =>
    rw [zes b h.le hs h.drop, zbr]
    unfold zaE
    rw [zbr]
    cases x == b with
    | true => exact ⟨k + 1, h.next 1 (by simp), rfl⟩
    | false => exact ⟨k, h, rfl⟩
theorem zoo {f : UInt8 → Option Bool} {p : UInt8 → Bool} (hf : ∀ b, f b = some (p b)) (hs : s.length < 1000000000) (h : At s k r) : ∃ k', At s k' (r.dropWhile p) ∧ zaw (scn s k) f = some (r.takeWhile p, scn s k') := by
  have e := zmm hf hs h.le
  rw [h.drop] at e
  have hd := zp4 p s k h.le
  rw [h.drop] at hd
  exact ⟨_, ⟨hd.2, hd.1⟩, e⟩
theorem zop (hs : s.length < 1000000000) (h : At s k r) : ∃ k', At s k' (r.dropWhile zav) ∧ za5 (scn s k) = some (r.takeWhile zav, !(r.takeWhile zav == []), scn s k') := by
  obtain ⟨k', h1, h2⟩ := zoo zgv hs h
  refine ⟨k', h1, ?_⟩
  unfold za5
  rw [h2]; rfl
end
end Go.Dm
end
section
namespace Go.Dm
theorem za3 (c : UInt8) (s : Str) : zf c s ≠ [] := by
  cases s with
  | nil => simp [zf]
  | cons x s =>
    unfold zf
    split
    · simp
    · split <;> simp
theorem zmh {b c : UInt8} {l : Str} (h : b ≠ c) : Go.Lib.index (b :: l) [c] = if Go.Lib.index l [c] = -1 then -1 else Go.Lib.index l [c] + 1 := by
  have hp : ([c] : List UInt8).isPrefixOf (b :: l) = false := by simp [List.isPrefixOf, Ne.symm h]
  rw [Go.Lib.index, hp]; simp
theorem zmi (c : UInt8) (l : Str) : Go.Lib.index (c :: l) [c] = 0 := by
  rw [Go.Lib.index]; simp [List.isPrefixOf]
theorem ziJ (c : UInt8) : ∀ (s : Str) (k : Nat), Go.Lib.count s [c] = k → Go.Lib.splitK [c] 0 k s = zf c s
  | [], k, h => by
    rw [Go.Lib.count_one] at h
    simp at h; subst h; rfl
  | b :: l, k, h => by
    by_cases hb : b = c
    · subst hb
      rw [Go.Lib.count_cons_eq] at h
      obtain ⟨m, rfl⟩ : ∃ m, k = m + 1 := ⟨k - 1, by omega⟩
      have ih := ziJ b l m (by omega)
      unfold Go.Lib.splitK
      rw [zmi]
      simp [zf, ih]
    · rw [Go.Lib.count_cons_ne b c l hb] at h
      have ih := ziJ c l k h
      unfold zf
      rw [if_neg hb, ← ih]
      cases k with
      | zero => simp [Go.Lib.splitK]
      | succ k =>
        unfold Go.Lib.splitK
        rw [zmh hb]
        have hge := Go.Lib.index_ge l [c]
        by_cases hm : Go.Lib.index l [c] = -1
        · rw [Go.Lib.count_miss hm] at h; omega
        · obtain ⟨j, hj⟩ : ∃ j : Nat, Go.Lib.index l [c] = j := ⟨(Go.Lib.index l [c]).toNat, by omega⟩
          have e1 : ¬ ((j : Int) + 1 = -1) := by omega
          have e2 : ¬ ((j : Int) = -1) := by omega
          have e3 : ((j : Int) + 1).toNat = j + 1 := by omega
          rw [hj]
          simp [e1, e2, e3, Nat.add_right_comm j 1 1]
theorem zjS (s : Str) (c : UInt8) (hs : s.length < 1000000000) : strings_Split s [c] = some (zf c s) := by
  unfold strings_Split
  rw [if_pos ⟨by omega, by simp⟩]
  rw [ziJ c s _ rfl]
def zd4 (p : Str) : List Str → List Str
  | [] => [p]
  | h :: t => (p ++ h) :: t
theorem zaI (c x : UInt8) (s : Str) : zf c (x :: s) = if x = c then [] :: zf c s else zd4 [x] (zf c s) := by
  rw [zf]
  split
  · rfl
  · cases h : zf c s <;> rfl
theorem ziK (l : List Str) (h : l ≠ []) : zd4 [] l = l := by
  cases l with
  | nil => exact absurd rfl h
  | cons a t => rfl
theorem zin (p q : Str) (l : List Str) (h : l ≠ []) : zd4 p (zd4 q l) = zd4 (p ++ q) l := by
  cases l with
  | nil => exact absurd rfl h
  | cons a t => simp [zd4]
theorem zhG (c : UInt8) : ∀ (a s : Str), c ∉ a → zf c (a ++ s) = zd4 a (zf c s)
  | [], s, _ => (ziK _ (za3 c s)).symm
  | x :: a, s, h => by
    have hx : ¬ x = c := fun e => h (by simp [e])
    rw [List.cons_append, zaI, if_neg hx, zhG c a s (fun e => h (List.mem_cons_of_mem _ e)), zin _ _ _ (za3 c s)]
    rfl
theorem zgZ {c : UInt8} {a : Str} (h : c ∉ a) : zf c a = [a] := by
  have := zhG c a [] h
  simpa [zf, zd4] using this
theorem zlL {c : UInt8} {a : Str} (s : Str) (h : c ∉ a) : zf c (a ++ c :: s) = a :: zf c s := by
  rw [zhG c a _ h, zaI, if_pos rfl]
  simp [zd4]
theorem zcA {c : UInt8} : ∀ {s p : Str}, p ∈ zf c s → c ∉ p ∧ p.length ≤ s.length ∧ ∀ x ∈ p, x ∈ s
  | [], p, h => by
    simp [zf] at h; subst h; simp
  | x :: s, p, h => by
    rw [zaI] at h
    split at h
    · rcases List.mem_cons.1 h with rfl | h
      · simp
      · obtain ⟨h1, h2, h3⟩ := zcA h
        exact ⟨h1, by simp; omega, fun y hy => List.mem_cons_of_mem _ (h3 y hy)⟩
    · rename_i hx
      cases hl : zf c s with
      | nil => exact absurd hl (za3 c s)
      | cons a t =>
        rw [hl] at h
        rcases List.mem_cons.1 h with rfl | h
        · obtain ⟨h1, h2, h3⟩ := zcA (c := c) (s := s) (p := a) (by rw [hl]; simp)
          refine ⟨?_, by simp; omega, ?_⟩
          · simp only [List.singleton_append, List.mem_cons, not_or]; exact ⟨fun e => hx e.symm, h1⟩
          · intro y hy
            simp only [List.singleton_append, List.mem_cons] at hy ⊢
            rcases hy with hy | hy
            · exact .inl hy
            · exact .inr (h3 y hy)
        · obtain ⟨h1, h2, h3⟩ := zcA (c := c) (s := s) (p := p) (by rw [hl]; exact List.mem_cons_of_mem _ h)
          exact ⟨h1, by simp; omega, fun y hy => List.mem_cons_of_mem _ (h3 y hy)⟩
theorem zd9 (c : UInt8) : ∀ s : Str, (zf c s).length ≤ s.length + 1
  | [] => by simp [zf]
  | x :: s => by
    have ih := zd9 c s
    rw [zaI]
    split
    · simp; omega
    · cases hl : zf c s with
      | nil => exact absurd hl (za3 c s)
      | cons a t => rw [hl] at ih; simp [zd4] at ih ⊢; omega
theorem zfL (s : Str) (c : UInt8) (hs : s.length < 1000000000) : zdr s c = some (zf c s) := by
  unfold zdr
  have key : ∀ (n i k : Nat) (acc : List Str), k ≤ i → i ≤ s.length → acc.length ≤ i → s.length - i < n → zaN s c n acc (k : Int) (i : Int) = some (acc ++ zd4 ((s.take i).drop k) (zf c (s.drop i))) := by
    intro n
    induction n with
    | zero => intro i k acc _ _ _ h; omega
    | succ n ih =>
      intro i k acc hk hi ha h
      rw [zaN]
      by_cases hlt : i < s.length
      · have hx : s[i]? = some s[i] := List.getElem?_eq_getElem hlt
        have ht : (s.take (i + 1)).drop k = (s.take i).drop k ++ [s[i]] := by
          rw [List.take_succ_eq_append_getElem hlt, List.drop_append_of_le_length (by simp; omega)]
        simp only [Int.ofNat_lt, hlt, decide_true, if_true, zac, hx, Option.bind_some, zdq, zk (show i < 4611686018427387904 by omega), zdh hk hi]
        rw [List.drop_eq_getElem_cons hlt, zaI]
        by_cases he : s[i] = c
        · simp only [he, beq_self_eq_true, if_true, zcj (n := acc.length) (m := 1) (b := 16) (by omega) (by omega)]
          rw [ih (i + 1) (i + 1) _ (by omega) (by omega) (by simp; omega) (by omega)]
          have e0 : (s.take (i + 1)).drop (i + 1) = [] := by simp
          rw [e0, ziK _ (za3 _ _)]
          simp [zd4]
        · have hb : (s[i] == c) = false := beq_eq_false_iff_ne.2 he
          simp only [hb, Bool.false_eq_true, if_false, he]
          rw [ih (i + 1) k _ (by omega) (by omega) (by omega) (by omega), ht, zin _ _ _ (za3 _ _)]
      · have : i = s.length := by omega
        subst this
        simp only [Int.lt_irrefl, decide_false, Bool.false_eq_true, if_false, zb2 hk, Option.bind_some, zcj (n := acc.length) (m := 1) (b := 16) (by omega) (by omega), if_true]
        simp [zf, zd4]
  have := key fuel 0 0 [] (Nat.le_refl _) (Nat.zero_le _) (Nat.le_refl _) (by unfold fuel; omega)
  simp only [Int.natCast_zero, List.nil_append, List.take_zero, List.drop_nil, List.drop_zero] at this
  rw [this, ziK _ (za3 _ _)]
end Go.Dm
end
section
namespace Go.Dm
theorem zqi {b : Nat} : ∀ {x : List Nat}, x ≠ [] → x.head? ≠ some 0 → b ^ (x.length - 1) ≤ zaA b x
  | [], h, _ => absurd rfl h
  | y :: t, _, h0 => by
    have hy : 1 ≤ y := by
      rcases Nat.eq_zero_or_pos y with e | e
      · subst e; simp at h0
      · exact e
    rw [zfA, List.length_cons, Nat.add_sub_cancel]
    have := Nat.mul_le_mul_right (b ^ t.length) hy
    rw [Nat.one_mul] at this; omega
theorem zox {k n : Nat} (hk : 1 ≤ k) (h64 : n < 2 ^ 64) (hn : n < 10 ^ k) : (zeI 10 n).length ≤ k := by
  rcases zmI (b := 10) (by decide) n h64 with e | e
  · subst e; rw [zcJ (by decide)]; exact hk
  · have h1 := zqi (b := 10) znn e
    rw [zoa (by decide) n h64] at h1
    rcases Nat.lt_or_ge k (zeI 10 n).length with h | h
    · have : 10 ^ k ≤ 10 ^ ((zeI 10 n).length - 1) := Nat.pow_le_pow_right (by decide) (by omega)
      omega
    · exact h
def zb0 (s : Str) (most : Int) : Bool := (zc8 10 s most).2 == 0 && zlB 10 (zc8 10 s most).1 == s
theorem zhj {b : Nat} {s : Str} {most : Int} (h : (zc8 b s most).2 = 0) (hm : most < 4611686018427387904) : 0 ≤ (zc8 b s most).1 ∧ (zc8 b s most).1 ≤ most ∧ inI (zc8 b s most).1 = true := by
  unfold zc8 at *
  split at h
  · cases h
  · rename_i h1
    rw [if_neg h1]
    split at h
    · cases h
    · rename_i h2
      rw [if_neg h2]
      refine ⟨by simp only; omega, by simp only; omega, by rw [zf2]; simp only; omega⟩
theorem zf0 (s : Str) (most : Int) (hs : s.length < 1000000000) (hm : most < 4611686018427387904) (hm0 : -4611686018427387904 < most) : zbV s most = some (zb0 s most) := by
  unfold zbV zb0
  rw [zfJ s most hs hm hm0, Option.bind_some]
  by_cases h : (zc8 10 s most).2 = 0
  · have hi := (zhj h hm).2.2
    simp [h, zkq _ hi, zbo]
  · simp [h, zbo]
theorem zhk (s : Str) (most : Int) (hs : s.length < 1000000000) (hm : most < 100000) (hm0 : -4611686018427387904 < most) : zee s most = some (if zb0 s most then (zc8 10 s most).1 else -1) := by
  unfold zee
  have hR := zmf (b := 10) (.inl rfl) s most hs (by omega) hm0
  rw [show ((10 : Nat) : Int) = 10 from rfl] at hR
  by_cases hl : 5 < (s.length : Int)
  · have : zb0 s most = false := by
      rw [Bool.eq_false_iff]
      intro h
      unfold zb0 at h
      simp only [Bool.and_eq_true, beq_iff_eq] at h
      obtain ⟨h1, h2⟩ := h
      obtain ⟨g1, g2, g3⟩ := zhj (b := 10) h1 (by omega)
      have hlen := congrArg List.length h2
      unfold zlB at hlen
      rw [if_neg (by omega), zgz] at hlen
      have := zox (k := 5) (n := (zc8 10 s most).1.toNat) (by decide) (by omega) (by omega)
      omega
    simp [hl, this]
  · simp only [hl, decide_false, Bool.false_eq_true, if_false, hR, Option.bind_some]
    unfold zb0
    by_cases h : (zc8 10 s most).2 = 0
    · have hi := (zhj h (by omega)).2.2
      have hT := zme (b := 10) (.inl rfl) _ hi
      rw [show ((10 : Nat) : Int) = 10 from rfl] at hT
      simp only [h, beq_self_eq_true, Bool.not_true, Bool.false_eq_true, if_false, hT, Option.bind_some, zcs, Bool.true_and]
      rcases zeK (zlB 10 (zc8 10 s most).1 == s) with h2 | h2 <;> rw [h2] <;> simp
    · have h' : ((zc8 10 s most).2 == 0) = false := beq_eq_false_iff_ne.2 h
      simp [h', zcs]
def zc6 (s : Str) : Bool := (zf 46 s).all (fun x => zb0 x 255) && decide (((zf 46 s).length : Int) = 4)
theorem zmq {α β : Type} {f : α → Option β} {g : α → β} : ∀ {l : List α}, (∀ x ∈ l, f x = some (g x)) → l.mapM f = some (l.map g)
  | [], _ => rfl
  | x :: l, h => by
    rw [List.mapM_cons, h x (List.mem_cons_self ..), zmq fun y hy => h y (List.mem_cons_of_mem _ hy)]; rfl
theorem zgj (s : Str) (hs : s.length < 1000000000) : zc1 s = some (zc6 s) := by
  unfold zc1 zc6
  rw [if_pos hs, zmq (g := fun x => zb0 x 255) fun x hx => zf0 x 255 (by have := (zcA hx).2.1; omega) (by decide) (by decide)]
  simp only [Option.bind_some, List.length_map, List.all_map]
  rfl
theorem zh8 (s : Str) (hs : s.length < 1000000000) : zeY s = some (zc6 s) := by
  unfold zeY zc6
  rw [zfL s 46 hs, Option.bind_some]
  have hlen := zd9 46 s
  have hm := fun x (h : x ∈ zf 46 s) => (zcA h).2.1
  generalize zf 46 s = l at *
  rw [zgV l (zbN l) (fun x r => if zb0 x 255 = true then r else some false) (some (decide ((l.length : Int) = 4))) (by omega)]
  · exact zij _ _ _
  · intro n; rw [zbN]; simp only [Int.lt_irrefl, decide_false, Bool.false_eq_true, if_false]
    rw [show ((l.length : Int) == 4) = decide ((l.length : Int) = 4) from rfl]
  · intro n i x hi hx
    have hxl := hm x (List.mem_of_getElem? hx)
    rw [zbN]
    simp only [Int.ofNat_lt, hi, decide_true, if_true, zcH, hx, Option.bind_some, zhk x 255 (by omega) (by decide) (by decide), zk (show i < 4611686018427387904 by omega)]
    rcases zeK (zb0 x 255) with h | h
    · have h2 : (zc8 10 x 255).2 = 0 := by unfold zb0 at h; simp at h; exact h.1
      have h3 := (zhj h2 (by decide)).1
      have h4 : ¬ (zc8 10 x 255).1 < 0 := by omega
      rw [h]; simp [h4]
    · rw [h]; simp
def zf1 : Str → Bool
  | [] => true
  | c :: s => if c == 37 then (match s with
    | a :: b :: r => zei a && zei b && zf1 r
    | _ => false) else (zgd c || zmd c) && zf1 s
theorem zjq (s : Str) : zf1 (37 :: s) = (match s with | a :: b :: r => zei a && zei b && zf1 r | _ => false) := by
  rw [zf1.eq_def]
  match s with
  | [] => rfl
  | [_] => rfl
  | _ :: _ :: _ => rfl
theorem zjr (c : UInt8) (s : Str) (h : (c == 37) = false) : zf1 (c :: s) = ((zgd c || zmd c) && zf1 s) := by
  rw [zf1.eq_def]; simp only [h, Bool.false_eq_true, if_false]
def zgb (s : Str) : Bool := !(s == []) && zf1 s
theorem zjs (s : Str) (hs : s.length < 1000000000) : zdU s = some (zgb s) := by
  unfold zdU zgb
  rcases zeK (s == []) with h0 | h0
  · rw [h0]; simp
  rw [h0]
  simp only [Bool.false_eq_true, if_false, Bool.not_false, Bool.true_and]
  have key : ∀ (n : Nat) (s : Str), s.length < n → s.length < 1000000000 → zZ n s = some (zf1 s) := by
    intro n
    induction n with
    | zero => intro s h; omega
    | succ n ih =>
      intro s h hs
      rw [zZ]
      cases s with
      | nil => simp [zf1]
      | cons c s =>
        have h1 : ((c :: s == ([] : Str))) = false := rfl
        have e1 : zem (c :: s) 1 = some s := by
          have := zb2 (l := c :: s) (i := 1) (by simp)
          simpa using this
        simp only [List.length_cons] at h hs
        simp only [h1, Bool.not_false, if_true, zdI, zn2, List.getElem?_cons_zero, Option.bind_some, zhd, zlp, zcr, e1, ih s (by omega) (by omega), Bool.false_eq_true, if_false]
        rcases zeK (c == 37) with hc | hc
        · have : c = 37 := by simpa using hc
          subst this
          have hu : zgd 37 = false := by decide
          have hb : zmd 37 = false := by decide
          rw [zjq]
          match s, h, hs with
          | [], _, _ => simp [hu, hb, zR]
          | [a], _, _ => simp [hu, hb, zR]
          | a :: b :: r, h, hs =>
            have h2 : (3 : Int) ≤ ((37 :: a :: b :: r : Str).length : Int) := by simp only [List.length_cons]; omega
            have e3 : zem (37 :: a :: b :: r) 3 = some r := by
              have := zb2 (l := 37 :: a :: b :: r) (i := 3) (by simp)
              simpa using this
            have e2 : zeG (37 :: a :: b :: r) 1 3 = some [a, b] := by
              have := zdh (l := 37 :: a :: b :: r) (i := 1) (h := 3) (by decide) (by simp)
              simpa using this
            simp only [List.length_cons] at h hs
            simp only [h2, decide_true, if_true, beq_self_eq_true, e2, Option.bind_some, zdS zhA [a, b] (by simp), zR, e3, ih r (by omega) (by omega), hu, hb, Bool.false_eq_true, if_false]
            cases ha : zei a <;> cases hb : zei b <;> simp [ha, hb]
        · rw [zjr c s hc, hc]
          simp only [Bool.false_eq_true, if_false, zR]
          have : (if (decide ((3 : Int) ≤ ((c :: s).length : Int))) = true then some false else some false) = some false := by split <;> rfl
          rw [this]
          simp only [Option.bind_some, Bool.false_eq_true, if_false]
          cases hp : zgd c <;> cases hq : zmd c <;> simp
  exact key fuel s (zpe (by omega)) hs
theorem zjt (rec1 : Int → Option Bool) (i : Nat) (t : Bool) (hi : i < 4000000000) : zba rec1 (i : Int) t = if t = true then some false else rec1 ((i + 3 : Nat) : Int) := by
  unfold zba zc3
  have i2 : zM (i : Int) 2 = some ((i + 2 : Nat) : Int) := by rw [ze1 (by omega) (by omega)]; simp
  have i3 : zM ((i + 2 : Nat) : Int) 1 = some ((i + 3 : Nat) : Int) := zk (i := i + 2) (by omega)
  rw [i2, Option.bind_some, i3, Option.bind_some]
theorem zlY (s : Str) (hs : s.length < 1000000000) : zfU s = some (zgb s) := by
  unfold zfU zgb
  have key : ∀ (n i : Nat), i ≤ s.length → s.length - i < n → zO s n (i : Int) = some (zf1 (s.drop i) && !(s == [])) := by
    intro n
    induction n with
    | zero => intro i _ h; omega
    | succ n ih =>
      intro i hi h
      rw [zO]
      cases hd : s.drop i with
      | nil =>
        have : i = s.length := by have := congrArg List.length hd; simp at this; omega
        subst this
        simp only [Int.lt_irrefl, decide_false, Bool.false_eq_true, if_false, zf1, Bool.true_and]
        cases s <;> simp
      | cons c t =>
        have hlt : i < s.length := by have := congrArg List.length hd; simp at this; omega
        have hx : s[i]? = some c := by have := congrArg (·[0]?) hd; simpa using this
        have ht : s.drop (i + 1) = t := by rw [← List.drop_drop, hd]; rfl
        have htl : t.length = s.length - (i + 1) := by rw [← ht]; simp
        have i2 : zM (i : Int) 2 = some ((i + 2 : Nat) : Int) := by rw [ze1 (by omega) (by omega)]; simp
        simp only [Int.ofNat_lt, hlt, decide_true, if_true, zac, hx, Option.bind_some, zk (show i < 4611686018427387904 by omega), i2]
        rcases zeK (c == 37) with hc | hc
        · have : c = 37 := by simpa using hc
          subst this
          rw [zjq]
          match t, ht, htl with
          | [], ht, htl =>
            have : (s.length : Int) ≤ ((i + 2 : Nat) : Int) := by simp at htl; omega
            simp only [beq_self_eq_true, if_true, this, decide_true, zba, Bool.false_and]
          | [a], ht, htl =>
            have : (s.length : Int) ≤ ((i + 2 : Nat) : Int) := by simp at htl; omega
            simp only [beq_self_eq_true, if_true, this, decide_true, zba, Bool.false_and]
          | a :: b :: r, ht, htl =>
            have hlt2 : ¬ (s.length : Int) ≤ ((i + 2 : Nat) : Int) := by simp at htl; omega
            have ha : s[i + 1]? = some a := by have := congrArg (·[0]?) ht; simpa using this
            have hb : s[i + 2]? = some b := by have := congrArg (·[1]?) ht; simpa using this
            have hr : s.drop (i + 3) = r := by
              have : (s.drop (i + 1)).drop 2 = r := by rw [ht]; rfl
              rwa [List.drop_drop] at this
            have hi3 : i + 3 ≤ s.length := by simp at htl; omega
            have hih := ih (i + 3) hi3 (by omega)
            rw [hr] at hih
            have hj := zjt (zO s n) i
            simp only [beq_self_eq_true, if_true, hlt2, decide_false, Bool.false_eq_true, if_false, zac, ha, hb, Option.bind_some, zja, hj _ (by omega), hih]
            cases zei a <;> cases zei b <;> simp
        · rw [zjr c t hc, hc]
          have hih := ih (i + 1) (by omega) (by omega)
          rw [ht] at hih
          simp only [Bool.false_eq_true, if_false, zhY, znj, Option.bind_some, zdW, zc3, zk (show i < 4611686018427387904 by omega), hih]
          cases zgd c <;> cases zmd c <;> simp
  have := key fuel 0 (Nat.zero_le _) (by unfold fuel; omega)
  simp only [Int.natCast_zero, List.drop_zero] at this
  rw [this, Bool.and_comm]
def under (a b : Str) : Bool := zgb a && zgb b && !zc6 a && !zc6 b && (low a == low b || ((46 :: low b) : Str).isSuffixOf (low a))
end Go.Dm
end
section
namespace Go.Dm
def zdR (t : Str) : Str → Option (Str × Str)
  | [] => none
  | x :: s => if t.isPrefixOf (x :: s) then some ([], (x :: s).drop t.length) else (zdR t s).map fun p => (x :: p.1, p.2)
theorem zfG {t : Str} : ∀ {s a b : Str}, zdR t s = some (a, b) → s = a ++ t ++ b
  | [], _, _, h => by cases h
  | x :: s, a, b, h => by
    rw [zdR] at h
    split at h
    · rename_i hp
      obtain ⟨r, hr⟩ := List.isPrefixOf_iff_prefix.1 hp
      simp only [Option.some.injEq, Prod.mk.injEq] at h
      obtain ⟨rfl, rfl⟩ := h
      rw [← hr]; simp
    · cases hc : zdR t s with
      | none => rw [hc] at h; cases h
      | some p =>
        rw [hc] at h
        simp only [Option.map_some, Option.some.injEq, Prod.mk.injEq] at h
        obtain ⟨rfl, rfl⟩ := h
        have := zfG (a := p.1) (b := p.2) hc
        rw [List.cons_append, List.cons_append, ← this]
theorem zmB {t : Str} (ht : t ≠ []) : ∀ s : Str, Go.Lib.index s t = match zdR t s with | none => -1 | some p => (p.1.length : Int)
  | [] => by
    cases t with
    | nil => exact absurd rfl ht
    | cons y t => rfl
  | x :: s => by
    rw [Go.Lib.index, zdR, zmB ht s]
    cases t.isPrefixOf (x :: s) with
    | true => rfl
    | false =>
      cases zdR t s with
      | none => rfl
      | some p =>
        simp only [Bool.false_eq_true, if_false, Option.map_some, List.length_cons]
        have : ((p.1.length : Int) == -1) = false := beq_eq_false_iff_ne.2 (by omega)
        rw [this]
        simp
theorem zlg (s t : Str) (hs : s.length < 1000000000) (ht : t ≠ []) : strings_Cut s t = some (match zdR t s with | none => (s, [], false) | some p => (p.1, p.2, true)) := by
  unfold strings_Cut Go.Lib.cut
  rw [if_pos (by omega), zmB ht]
  congr 1
  cases hc : zdR t s with
  | none => rfl
  | some p =>
    have e := zfG (a := p.1) (b := p.2) hc
    have h0 : (0 : Int) ≤ (p.1.length : Int) := by omega
    simp only [h0, if_true, Int.toNat_natCast]
    have e1 : s.take p.1.length = p.1 := by rw [e, List.append_assoc, List.take_left']; rfl
    have e2 : s.drop (p.1.length + t.length) = p.2 := by rw [e, List.drop_left']; simp
    rw [e1, e2]
def grp (x : Str) : Bool := decide (1 ≤ x.length) && decide (x.length ≤ 4) && x.all zei
def zz (last : Bool) : List Str → Option Nat
  | [] => some 0
  | [x] => if last && zc6 x then some 2 else if grp x then some 1 else none
  | x :: y :: l => if grp x then (zz last (y :: l)).map (· + 1) else none
theorem ziE (last : Bool) : ∀ (l m : List Str), m ≠ [] → zz last (l ++ m) = (zz false l).bind fun a => (zz last m).map (· + a)
  | [], m, _ => by simp [zz]
  | [x], m, hm => by
    cases m with
    | nil => exact absurd rfl hm
    | cons y m =>
      show zz last (x :: y :: m) = _
      rw [zz, zz]
      cases grp x <;> simp
  | x :: y :: l, m, hm => by
    show zz last (x :: y :: (l ++ m)) = _
    have ih := ziE last (y :: l) m hm
    rw [zz, zz]
    rw [List.cons_append] at ih
    rw [ih]
    cases grp x with
    | false => rfl
    | true =>
      simp only [if_true]
      cases zz false (y :: l) with
      | none => rfl
      | some a =>
        cases zz last m with
        | none => rfl
        | some b => simp; omega
def zlh (a : Nat) : Option Nat → Int
  | none => -1
  | some k => ((a + k : Nat) : Int)
theorem zi5 (rec1 : Int → Int → Option Int) (a i : Nat) (hi : i < 4000000000) : za6 rec1 (i : Int) (a : Int) = rec1 (a : Int) ((i + 1 : Nat) : Int) := by
  unfold za6; rw [zk (by omega), Option.bind_some]
theorem zi6 (rec1 : Int → Int → Option Int) (a i : Nat) (t : Bool) (hi : i < 4000000000) (ha : a < 4000000000) : zax rec1 (a : Int) (i : Int) t = if t = true then rec1 ((a + 1 : Nat) : Int) ((i + 1 : Nat) : Int) else some (-1) := by
  unfold zax
  rw [zk (by omega), Option.bind_some, zi5 rec1 (a + 1) i hi]
theorem zng (rec1 : Int → Int → Option Int) (a i : Nat) (x : Str) (t : Bool) (hi : i < 4000000000) (ha : a < 4000000000) (hx : x.length < 1000000000) :
    zay rec1 (a : Int) (i : Int) x t = if t = true then rec1 ((a + 2 : Nat) : Int) ((i + 1 : Nat) : Int) else if grp x = true then rec1 ((a + 1 : Nat) : Int) ((i + 1 : Nat) : Int) else some (-1) := by
  unfold zay grp
  have i2 : zM (a : Int) 2 = some ((a + 2 : Nat) : Int) := by rw [ze1 (by omega) (by omega)]; simp
  have e1 : decide ((1 : Int) ≤ (x.length : Int)) = decide (1 ≤ x.length) := decide_eq_decide.2 (by omega)
  have e2 : decide ((x.length : Int) ≤ 4) = decide (x.length ≤ 4) := decide_eq_decide.2 (by omega)
  rw [i2, Option.bind_some, zi5 rec1 (a + 2) i hi, zdS zhA x hx, Option.bind_some, zi6 rec1 a i _ hi ha, zi6 rec1 a i _ hi ha, e1, e2]
  generalize rec1 _ _ = r1
  generalize rec1 _ _ = r2
  generalize decide (1 ≤ x.length) = d1
  generalize decide (x.length ≤ 4) = d2
  generalize x.all zei = d3
  cases t <;> cases d1 <;> cases d2 <;> cases d3 <;> rfl
theorem zfH (last : Bool) (x : Str) : zz last [x] = if last && zc6 x then some 2 else if grp x then some 1 else none := rfl
theorem ze8 (last : Bool) (x y : Str) (l : List Str) : zz last (x :: y :: l) = if grp x then (zz last (y :: l)).map (· + 1) else none := rfl
theorem zpU (a : Nat) (o : Option Nat) : zlh a (o.map (· + 1)) = zlh (a + 1) o := by
  cases o with
  | none => rfl
  | some k => simp only [Option.map_some, zlh]; congr 1; omega
theorem zgT (last : Bool) (l : List Str) (hl : l.length < 1000000000) (hx : ∀ x ∈ l, x.length < 1000000000) : ∀ (n i a : Nat), i ≤ l.length → l.length - i < n → a ≤ 2 * i → zD last l n (a : Int) (i : Int) = some (zlh a (zz last (l.drop i)))
  | 0, _, _, _, h, _ => by omega
  | n + 1, i, a, hi, h, ha => by
    rw [zD]
    cases hd : l.drop i with
    | nil =>
      have : i = l.length := by have := congrArg List.length hd; simp at this; omega
      subst this
      simp [zz, zlh]
    | cons x t =>
      have hlt : i < l.length := by have := congrArg List.length hd; simp at this; omega
      have hxx : l[i]? = some x := by have := congrArg (·[0]?) hd; simpa using this
      have ht : l.drop (i + 1) = t := by rw [← List.drop_drop, hd]; rfl
      have htl : t.length = l.length - (i + 1) := by rw [← ht]; simp
      have hxl := hx x (List.mem_of_getElem? hxx)
      have hsub : zci (l.length : Int) 1 = some ((l.length - 1 : Nat) : Int) := by rw [zbm (by omega) (by omega)]; congr 1; omega
      have ih1 := zgT last l hl hx n (i + 1) (a + 1) (by omega) (by omega) (by omega)
      have ih2 := zgT last l hl hx n (i + 1) (a + 2) (by omega) (by omega) (by omega)
      rw [ht] at ih1 ih2
      have j2 := fun t => zng (zD last l n) a i x t (by omega) (by omega) hxl
      simp only [Int.ofNat_lt, hlt, decide_true, if_true, zcH, hxx, Option.bind_some, hsub, zgj x hxl, j2, ih1, ih2]
      cases t with
      | nil =>
        have hei : ((i : Int) == ((l.length - 1 : Nat) : Int)) = true := by simp at htl; simp; omega
        rw [hei, zfH]
        have en : ∀ b, zz b [] = some 0 := fun _ => rfl
        rw [en]
        cases last <;> cases zc6 x <;> cases grp x <;> rfl
      | cons y t =>
        have hei : ((i : Int) == ((l.length - 1 : Nat) : Int)) = false := by simp at htl; simp; omega
        rw [hei, ze8]
        have := zpU a (zz last (y :: t))
        have hn : zlh a none = -1 := rfl
        cases last <;> cases grp x <;> simp only [if_true, Bool.false_eq_true, if_false, this, hn]
def zaa (s : Str) : List Str := if s = [] then [] else zf 58 s
theorem zjL (s : Str) (last : Bool) (hs : s.length < 900000000) : zbt s last = some (zlh 0 (zz last (zaa s))) := by
  unfold zbt zaa
  by_cases h0 : s = []
  · subst h0; rfl
  · have h1 : (s == []) = false := beq_eq_false_iff_ne.2 h0
    rw [h1, if_neg h0]
    have hl := zd9 58 s
    simp only [Bool.false_eq_true, if_false, zjS s 58 (by omega), Option.bind_some]
    have := zgT last (zf 58 s) (by omega) (fun x hx => by have := (zcA hx).2.1; omega) fuel 0 0 (by omega) (by unfold fuel; omega) (by omega)
    simpa using this
theorem zmC (last : Bool) : ∀ (l : List Str) (k : Nat), zz last l = some k → k ≤ l.length + 1
  | [], k, h => by cases h; omega
  | [x], k, h => by
    rw [zfH] at h
    split at h
    · cases h; simp
    · split at h
      · cases h; simp
      · cases h
  | x :: y :: l, k, h => by
    rw [ze8] at h
    split at h
    · obtain ⟨j, hj, rfl⟩ := Option.map_eq_some_iff.1 h
      have := zmC last (y :: l) j hj
      simp only [List.length_cons] at this ⊢
      omega
    · cases h
theorem zi7 (s : Str) (last : Bool) (hs : s.length < 900000000) (k : Nat) (h : zz last (zaa s) = some k) : k < 1000000000 := by
  have h1 := zmC last _ k h
  have h2 := zd9 58 s
  unfold zaa at h1
  split at h1
  · simp at h1; omega
  · omega
def zd1 (s : Str) : Bool := zz true (zf 58 s) == some 8
def zj5 (s : Str) : Bool := match zdR [58, 58] s with
  | none => zd1 s
  | some p => match zz false (zaa p.1), zz true (zaa p.2) with
    | some a, some b => decide (a + b ≤ 7)
    | _, _ => false
theorem Six_eq (s : Str) (hs : s.length < 900000000) : zdH s = some (zj5 s) := by
  unfold zdH zj5
  rw [zlg s [58, 58] (by omega) (by simp), Option.bind_some]
  cases hc : zdR [58, 58] s with
  | none =>
    simp only [Bool.not_false, if_true, zjL s true hs, Option.bind_some, zd1]
    unfold zaa
    split
    · rename_i h; subst h; rfl
    · cases zz true (zf 58 s) with
      | none => rfl
      | some k =>
        simp only [zlh, Nat.zero_add, Option.some.injEq]
        by_cases h : k = 8
        · subst h; rfl
        · have h1 : ((k : Int) == 8) = false := beq_eq_false_iff_ne.2 (by omega)
          rw [h1]; simp [h]
  | some p =>
    have e := congrArg List.length (zfG (a := p.1) (b := p.2) hc)
    simp only [List.length_append] at e
    simp only [Bool.not_true, Bool.false_eq_true, if_false, zjL p.1 false (by omega), zjL p.2 true (by omega), Option.bind_some]
    cases ha : zz false (zaa p.1) with
    | none => simp [zlh, zaY]
    | some a =>
      cases hb : zz true (zaa p.2) with
      | none => simp [zlh, zaY]
      | some b =>
        have hb' := (zi7 p.1 false (by omega) a ha)
        have hb2 := (zi7 p.2 true (by omega) b hb)
        simp only [zlh, Nat.zero_add]
        have e0 : decide ((0 : Int) ≤ (a : Int)) = true := by simp
        have e1 : decide ((0 : Int) ≤ (b : Int)) = true := by simp
        rw [e0, e1, if_pos rfl, if_pos rfl, zq3 (by omega), Option.bind_some]
        unfold zaY
        congr 1
        exact decide_eq_decide.2 (by omega)
theorem znY (rec1 : Int → Int → Option Bool) (l : List Str) (a i : Nat) (x : Str) (hx : l[i]? = some x) (hxl : x.length < 1000000000) (hi : i < 2000000000) (ha : a < 4000000000) :
    zbh rec1 l (a : Int) (i : Int) fuel 0 = if grp x = true then rec1 ((a + 1 : Nat) : Int) ((i + 1 : Nat) : Int) else some false := by
  have key : ∀ (n j : Nat), j ≤ x.length → x.length - j < n → zbh rec1 l (a : Int) (i : Int) n (j : Int) = if (x.drop j).all zei = true then (if (decide (1 ≤ x.length) && decide (x.length ≤ 4)) = true then rec1 ((a + 1 : Nat) : Int) ((i + 1 : Nat) : Int) else some false) else some false := by
    intro n
    induction n with
    | zero => intro j _ h; omega
    | succ n ih =>
      intro j hj h
      rw [zbh]
      rw [zcH, hx]
      simp only [Option.bind_some]
      by_cases hlt : j < x.length
      · have e : decide ((j : Int) < (x.length : Int)) = true := decide_eq_true (by omega)
        have hc : x[j]? = some x[j] := List.getElem?_eq_getElem hlt
        rw [e, if_pos rfl, zac, hc, Option.bind_some, zja, Option.bind_some, zk (by omega), Option.bind_some, ih (j + 1) (by omega) (by omega), List.drop_eq_getElem_cons hlt, List.all_cons]
        cases zei x[j] <;> rfl
      · have hjl : j = x.length := by omega
        subst hjl
        have e : decide ((x.length : Int) < (x.length : Int)) = false := decide_eq_false (by omega)
        have e1 : decide ((x.length : Int) < 1) = !decide (1 ≤ x.length) := by rw [← decide_not]; exact decide_eq_decide.2 (by omega)
        have e2 : decide (4 < (x.length : Int)) = !decide (x.length ≤ 4) := by rw [← decide_not]; exact decide_eq_decide.2 (by omega)
        rw [e, if_neg (by decide), List.drop_length, e1, e2]
        unfold zdw zct
        rw [zk (by omega), Option.bind_some, zk (by omega), Option.bind_some]
        generalize rec1 _ _ = r1
        generalize decide (1 ≤ x.length) = d1
        generalize decide (x.length ≤ 4) = d2
        cases d1 <;> cases d2 <;> rfl
  have := key fuel 0 (Nat.zero_le _) (by unfold fuel; omega)
  rw [show (0 : Int) = ((0 : Nat) : Int) from rfl, this, List.drop_zero]
  unfold grp
  generalize rec1 _ _ = r1
  generalize decide (1 ≤ x.length) = d1
  generalize decide (x.length ≤ 4) = d2
  generalize x.all zei = d3
  cases d1 <;> cases d2 <;> cases d3 <;> rfl
def isW (a : Nat) : Option Nat → Bool
  | none => false
  | some k => a + k == 8
theorem zqZ (a : Nat) (o : Option Nat) : isW a (o.map (· + 1)) = isW (a + 1) o := by
  cases o with
  | none => rfl
  | some k => simp only [Option.map_some, isW]; congr 1; omega
theorem zhx (l : List Str) (hl : l.length < 1000000000) (hx : ∀ x ∈ l, x.length < 1000000000) : ∀ (n i a : Nat), i ≤ l.length → l.length - i < n → a ≤ 2 * i → zU l n (a : Int) (i : Int) = some (isW a (zz true (l.drop i)))
  | 0, _, _, _, h, _ => by omega
  | n + 1, i, a, hi, h, ha => by
    rw [zU]
    cases hd : l.drop i with
    | nil =>
      have : i = l.length := by have := congrArg List.length hd; simp at this; omega
      subst this
      have e : decide ((l.length : Int) < (l.length : Int)) = false := decide_eq_false (by omega)
      rw [e, if_neg (by decide)]
      show some ((a : Int) == 8) = some (a + 0 == 8)
      congr 1
      by_cases h8 : a = 8
      · subst h8; rfl
      · rw [beq_eq_false_iff_ne.2 (show (a : Int) ≠ 8 by omega), beq_eq_false_iff_ne.2 (show a + 0 ≠ 8 by omega)]
    | cons x t =>
      have hlt : i < l.length := by have := congrArg List.length hd; simp at this; omega
      have hxx : l[i]? = some x := by have := congrArg (·[0]?) hd; simpa using this
      have ht : l.drop (i + 1) = t := by rw [← List.drop_drop, hd]; rfl
      have htl : t.length = l.length - (i + 1) := by rw [← ht]; simp
      have hxl := hx x (List.mem_of_getElem? hxx)
      have hsub : zci (l.length : Int) 1 = some ((l.length - 1 : Nat) : Int) := by rw [zbm (by omega) (by omega)]; congr 1; omega
      have ih1 := zhx l hl hx n (i + 1) (a + 1) (by omega) (by omega) (by omega)
      have ih2 := zhx l hl hx n (i + 1) (a + 2) (by omega) (by omega) (by omega)
      rw [ht] at ih1 ih2
      have e : decide ((i : Int) < (l.length : Int)) = true := decide_eq_true (by omega)
      have i2 : zM (a : Int) 2 = some ((a + 2 : Nat) : Int) := by rw [ze1 (by omega) (by omega)]; simp
      have j2 : ∀ t, zcu (zU l n) l (a : Int) (i : Int) t = if t = true then some (isW (a + 2) (zz true (l.drop (i + 1)))) else if grp x = true then some (isW (a + 1) (zz true (l.drop (i + 1)))) else some false := by
        intro t
        unfold zcu zct
        rw [i2, Option.bind_some, zk (by omega), Option.bind_some, znY _ l a i x hxx hxl (by omega) (by omega), ht, ih1, ih2]
      rw [e, if_pos rfl, hsub, Option.bind_some, zcH, hxx, Option.bind_some, zh8 x hxl, Option.bind_some, j2, j2, ht]
      cases t with
      | nil =>
        have hei : ((i : Int) == ((l.length - 1 : Nat) : Int)) = true := by simp at htl; simp; omega
        rw [hei, zfH]
        have en : ∀ b, zz b [] = some 0 := fun _ => rfl
        rw [en]
        cases zc6 x <;> cases grp x <;> rfl
      | cons y t =>
        have hei : ((i : Int) == ((l.length - 1 : Nat) : Int)) = false := by simp at htl; simp; omega
        rw [hei, ze8]
        have := zqZ a (zz true (y :: t))
        have hn : isW a none = false := rfl
        cases grp x <;> simp only [if_true, Bool.false_eq_true, if_false, this, hn]
theorem znZ (s : Str) (hs : s.length < 900000000) : zef s = some (zd1 s) := by
  unfold zef zd1
  have hl := zd9 58 s
  rw [zfL s 58 (by omega), Option.bind_some]
  have := zhx (zf 58 s) (by omega) (fun x hx => by have := (zcA hx).2.1; omega) fuel 0 0 (by omega) (by unfold fuel; omega) (by omega)
  rw [List.drop_zero] at this
  rw [show (0 : Int) = ((0 : Nat) : Int) from rfl, this]
  congr 1
  cases zz true (zf 58 s) with
  | none => rfl
  | some k => simp only [isW, Nat.zero_add]; exact (Option.some_beq_some ..).symm
def zli : Nat → Str → Str
  | 0, s => s
  | k + 1, s => zli k (if s = [] then [48] else s ++ [58, 48])
def zn0 (s b : Str) : Str := if b = [] then s else s ++ 58 :: b
theorem zoX (p : Str) (l m : List Str) (h : l ≠ []) : zd4 p (l ++ m) = zd4 p l ++ m := by
  cases l with
  | nil => exact absurd rfl h
  | cons x l => rfl
theorem zhy (c : UInt8) : ∀ x y : Str, zf c (x ++ c :: y) = zf c x ++ zf c y
  | [], y => by rw [List.nil_append, zaI, if_pos rfl]; rfl
  | z :: x, y => by
    rw [List.cons_append, zaI, zaI, zhy c x y]
    split
    · rfl
    · rw [zoX _ _ _ (za3 c x)]
theorem zgU : ∀ (k : Nat) (s : Str), s ≠ [] → zf 58 (zli k s) = zf 58 s ++ List.replicate k [48]
  | 0, s, _ => by simp [zli]
  | k + 1, s, h => by
    rw [zli, if_neg h, zgU k _ (by simp), show s ++ [58, 48] = s ++ (58 : UInt8) :: [48] from rfl, zhy, List.append_assoc]
    rfl
theorem zlj (k : Nat) (s : Str) : zf 58 (zli (k + 1) s) = zaa s ++ List.replicate (k + 1) [48] := by
  unfold zaa
  split
  · rename_i h
    subst h
    rw [zli, if_pos rfl, zgU k _ (by simp)]
    rfl
  · rename_i h
    rw [zgU _ _ h]
theorem zpV : zc6 [48] = false := by simp [zc6, zf]
theorem zn1 : grp [48] = true := by decide
theorem zhz (last : Bool) : ∀ k : Nat, zz last (List.replicate (k + 1) [48]) = some (k + 1)
  | 0 => by rw [show List.replicate (0 + 1) ([48] : Str) = [[48]] from rfl, zfH, zpV, zn1]; cases last <;> rfl
  | k + 1 => by
    have ih := zhz last k
    rw [List.replicate_succ] at ih
    rw [List.replicate_succ, List.replicate_succ, ze8, zn1, ih]
    rfl
def zi8 (k : Nat) (a b : Str) : Bool := match zz false (zaa a), zz true (zaa b) with
  | some x, some y => decide (x + y + k ≤ 8)
  | _, _ => false
def sixE (k : Nat) (a b : Str) : Bool := match zz false (zaa a), zz true (zaa b) with
  | some x, some y => x + y + k == 8
  | _, _ => false
theorem zoY (k : Nat) (a b : Str) : zd1 (zn0 (zli (k + 1) a) b) = sixE (k + 1) a b := by
  unfold zd1 sixE
  have e : zf 58 (zn0 (zli (k + 1) a) b) = zaa a ++ (List.replicate (k + 1) [48] ++ zaa b) := by
    unfold zn0
    split
    · rename_i h; subst h; rw [zlj]; simp [zaa]
    · rename_i h
      rw [zhy, zlj, List.append_assoc]
      congr 2
      unfold zaa; rw [if_neg h]
  rw [e, ziE _ _ _ (by simp [List.replicate_succ])]
  have e2 : zz true (List.replicate (k + 1) [48] ++ zaa b) = (zz true (zaa b)).map (· + (k + 1)) := by
    by_cases hb : zaa b = []
    · rw [hb, List.append_nil, zhz]
      simp [zz]
    · rw [ziE _ _ _ hb, zhz]; rfl
  rw [e2]
  cases zz false (zaa a) with
  | none => rfl
  | some x =>
    cases zz true (zaa b) with
    | none => rfl
    | some y =>
      simp only [Option.bind_some, Option.map_some]
      have : y + (k + 1) + x = x + y + (k + 1) := by omega
      rw [this]
      exact Option.some_beq_some ..
theorem zmD (rec3 : Int → Option Bool) (k : Nat) (t : Str) (ht : t.length < 900000000) (hk : k < 100) : zdK rec3 (k : Int) t = if zd1 t = true then some true else rec3 ((k + 1 : Nat) : Int) := by
  unfold zdK
  rw [znZ t ht, Option.bind_some, zk (by omega), Option.bind_some]
theorem zjM (rec3 : Int → Option Bool) (s b : Str) (i k : Nat) (hi : i + 2 ≤ s.length) (hs : s.length < 400000000) (hb : s.drop (i + 2) = b) (hk : k < 100) : ∀ (n j : Nat) (t : Str), j ≤ k → k - j < n → t.length ≤ s.length + 2 * j →
    zbF rec3 s (i : Int) (k : Int) n t (j : Int) = if zd1 (zn0 (zli (k - j) t) b) = true then some true else rec3 ((k + 1 : Nat) : Int)
  | 0, _, _, _, h, _ => by omega
  | n + 1, j, t, hj, h, ht => by
    rw [zbF]
    by_cases hlt : j < k
    · have e : decide ((j : Int) < (k : Int)) = true := decide_eq_true (by omega)
      have hkj : k - j = (k - (j + 1)) + 1 := by omega
      rw [e, if_pos rfl, hkj, zli]
      unfold zeB
      rw [zk (by omega)]
      simp only [Option.bind_some]
      by_cases h0 : t = []
      · subst h0
        have hn : (!(([] : Str) == [])) = false := rfl
        have := zjM rec3 s b i k hi hs hb hk n (j + 1) [48] (by omega) (by omega) (by simp; omega)
        rw [hn, if_neg (by decide), zb1 (by simp), Option.bind_some, if_pos rfl]
        exact this
      · have hn : (!(t == [])) = true := by simp [h0]
        have := zjM rec3 s b i k hi hs hb hk n (j + 1) (t ++ [58, 48]) (by omega) (by omega) (by simp; omega)
        rw [hn, if_pos rfl, zb1 (by simp; omega), Option.bind_some, zb1 (by simp; omega), Option.bind_some, if_neg h0, List.append_assoc]
        exact this
    · have hjk : j = k := by omega
      subst hjk
      have e : decide ((j : Int) < (j : Int)) = false := decide_eq_false (by omega)
      have i2 : zM (i : Int) 2 = some ((i + 2 : Nat) : Int) := by rw [ze1 (by omega) (by omega)]; simp
      have hbl : b.length ≤ s.length := by rw [← hb]; simp
      rw [e, if_neg (by decide), Nat.sub_self, zli, i2, Option.bind_some, zb2 hi, Option.bind_some, hb]
      unfold zn0
      by_cases h0 : b = []
      · subst h0
        have hn : (!(([] : Str) == [])) = false := rfl
        rw [hn, if_neg (by decide), if_pos rfl, zmD rec3 j t (by omega) hk]
      · have hn : (!(b == [])) = true := by simp [h0]
        rw [hn, if_pos rfl, zb1 (by simp; omega), Option.bind_some, Option.bind_some, zb2 hi, Option.bind_some, hb, zb1 (by simp; omega), Option.bind_some, if_neg h0, List.append_assoc]
        exact zmD rec3 j (t ++ 58 :: b) (by simp; omega) hk
theorem zq1 (k : Nat) (a b : Str) : zi8 k a b = (sixE k a b || zi8 (k + 1) a b) := by
  unfold zi8 sixE
  cases zz false (zaa a) with
  | none => rfl
  | some x =>
    cases zz true (zaa b) with
    | none => rfl
    | some y =>
      show decide (x + y + k ≤ 8) = (x + y + k == 8 || decide (x + y + (k + 1) ≤ 8))
      rw [Bool.eq_iff_iff]
      simp only [decide_eq_true_eq, Bool.or_eq_true, beq_iff_eq]
      omega
theorem zmE (s b : Str) (i : Nat) (hi : i + 2 ≤ s.length) (hs : s.length < 400000000) (hb : s.drop (i + 2) = b) : ∀ (n k : Nat), k ≤ 8 → 8 - k + 1 < n → zaq s (i : Int) n ((k + 1 : Nat) : Int) = some (zi8 (k + 1) (s.take i) b)
  | 0, _, _, h => by omega
  | n + 1, k, hk, h => by
    rw [zaq]
    by_cases hlt : k < 8
    · have e : decide (((k + 1 : Nat) : Int) ≤ 8) = true := decide_eq_true (by omega)
      have ih := zmE s b i hi hs hb n (k + 1) (by omega) (by omega)
      rw [e, if_pos rfl, zf5 (by omega), Option.bind_some]
      have := zjM (zaq s (i : Int) n) s b i (k + 1) hi hs hb (by omega) fuel 0 (s.take i) (by omega) (by unfold fuel; omega) (by simp; omega)
      rw [Nat.sub_zero] at this
      rw [show (0 : Int) = ((0 : Nat) : Int) from rfl, this, ih, zoY, zq1 (k + 1)]
      cases sixE (k + 1) (s.take i) b <;> rfl
    · have : k = 8 := by omega
      subst this
      have e : decide (((8 + 1 : Nat) : Int) ≤ 8) = false := by decide
      rw [e, if_neg (by decide)]
      congr 1
      unfold zi8
      cases zz false (zaa (s.take i)) with
      | none => rfl
      | some x =>
        cases zz true (zaa b) with
        | none => rfl
        | some y => exact (decide_eq_false (by omega)).symm
theorem zrH (a b : Str) : zi8 1 a b = (match zz false (zaa a), zz true (zaa b) with | some a, some b => decide (a + b ≤ 7) | _, _ => false) := by
  unfold zi8
  cases zz false (zaa a) with
  | none => rfl
  | some x =>
    cases zz true (zaa b) with
    | none => rfl
    | some y => exact decide_eq_decide.2 (by omega)
theorem znh (s : Str) (hs : s.length < 400000000) : zfB s = some (zj5 s) := by
  unfold zfB
  have key : ∀ (n i : Nat), i ≤ s.length → s.length - i < n → zbG s n (i : Int) = some (match zdR [58, 58] (s.drop i) with | none => zd1 s | some p => zi8 1 (s.take (i + p.1.length)) p.2) := by
    intro n
    induction n with
    | zero => intro i _ h; omega
    | succ n ih =>
      intro i hi h
      rw [zbG, zk (by omega), Option.bind_some]
      by_cases hlt : i + 1 < s.length
      · have e : decide (((i + 1 : Nat) : Int) < (s.length : Int)) = true := decide_eq_true (by omega)
        have hd : s.drop i = s[i] :: s[i + 1] :: s.drop (i + 2) := by rw [List.drop_eq_getElem_cons (by omega), List.drop_eq_getElem_cons hlt]
        have hd1 : s.drop (i + 1) = s[i + 1] :: s.drop (i + 2) := List.drop_eq_getElem_cons hlt
        have g0 : s[i]? = some s[i] := List.getElem?_eq_getElem (by omega)
        have g1 : s[i + 1]? = some s[i + 1] := List.getElem?_eq_getElem hlt
        have ih1 := ih (i + 1) (by omega) (by omega)
        have hL3 := zmE s (s.drop (i + 2)) i (by omega) hs rfl fuel 0 (by omega) (by unfold fuel; omega)
        have next : (match zdR [58, 58] (s[i] :: s.drop (i + 1)) with | none => zd1 s | some p => zi8 1 (s.take (i + p.1.length)) p.2) = if ([58, 58] : Str).isPrefixOf (s[i] :: s.drop (i + 1)) = true then zi8 1 (s.take i) (s.drop (i + 2)) else (match zdR [58, 58] (s.drop (i + 1)) with | none => zd1 s | some p => zi8 1 (s.take (i + 1 + p.1.length)) p.2) := by
          rw [zdR]
          cases ([58, 58] : Str).isPrefixOf (s[i] :: s.drop (i + 1)) with
          | true =>
            rw [if_pos rfl, if_pos rfl]
            show zi8 1 (s.take (i + 0)) (List.drop (1 + 1) (s[i] :: s.drop (i + 1))) = _
            rw [hd1]; rfl
          | false =>
            rw [if_neg (by decide), if_neg (by decide)]
            cases zdR [58, 58] (s.drop (i + 1)) with
            | none => rfl
            | some p =>
              show zi8 1 (s.take (i + (p.1.length + 1))) p.2 = _
              rw [show i + (p.1.length + 1) = i + 1 + p.1.length from by omega]
        rw [e, if_pos rfl, zac, g0, Option.bind_some, Option.bind_some, zac, g1, Option.bind_some, List.drop_eq_getElem_cons (show i < s.length by omega), next]
        unfold zeC
        rw [zk (by omega), Option.bind_some, ih1]
        have hp : ([58, 58] : Str).isPrefixOf (s[i] :: s.drop (i + 1)) = (s[i] == 58 && s[i + 1] == 58) := by
          rw [hd1]
          simp only [List.isPrefixOf_cons_cons, List.isPrefixOf_nil_left, Bool.and_true]
          rw [ziS 58, ziS 58]
        rw [hp]
        have hL3' : zaq s (i : Int) fuel 1 = some (zi8 1 (s.take i) (s.drop (i + 2))) := hL3
        rw [hL3']
        cases s[i] == 58 <;> cases s[i + 1] == 58 <;> rfl
      · have e : decide (((i + 1 : Nat) : Int) < (s.length : Int)) = false := decide_eq_false (by omega)
        rw [e, if_neg (by decide), znZ s (by omega), Option.bind_some]
        have : zdR [58, 58] (s.drop i) = none := by
          cases hd : s.drop i with
          | nil => rfl
          | cons x t =>
            have : t = [] := by have := congrArg List.length hd; simp at this; exact List.eq_nil_of_length_eq_zero (by omega)
            subst this
            rw [zdR]
            simp [List.isPrefixOf, zdR]
        rw [this]
  have := key fuel 0 (Nat.zero_le _) (by unfold fuel; omega)
  rw [List.drop_zero] at this
  rw [show (0 : Int) = ((0 : Nat) : Int) from rfl, this]
  unfold zj5
  congr 1
  cases hc : zdR [58, 58] s with
  | none => rfl
  | some p =>
    have e := zfG (a := p.1) (b := p.2) hc
    have e1 : s.take (0 + p.1.length) = p.1 := by rw [Nat.zero_add, e, List.append_assoc, List.take_left']; rfl
    simp only [e1]
    exact zrH p.1 p.2
end Go.Dm
end
section
namespace Go.Dm
def zj0 (s : Str) : Str := (s.take (s.length - 1)).drop 1
def zfu (s : Str) : Bool := decide (2 < s.length) && s[0]? == some 91 && s[s.length - 1]? == some 93 && zj5 (zj0 s)
def zdd (s : Str) : Int × Str := if zfu s then (3, zj0 s) else if zc6 s then (2, s) else if zgb s then (1, s) else (0, s)
theorem znH (x y : UInt8) : ((some x : Option UInt8) == some y) = (x == y) := Option.some_beq_some ..
theorem zpK (s : Str) : (zj0 s).length ≤ s.length := by unfold zj0; simp; omega
theorem zia {β : Type} (s : Str) (hs : s.length < 400000000) (f : Str → Option Bool) (hf : ∀ t, t.length < 400000000 → f t = some (zj5 t)) (J : Bool → Option β) :
    (if (decide (2 < (s.length : Int))) then ((sAt s 0).bind fun b6 => if (b6 == 91) then ((zci (s.length : Int) 1).bind fun i8 => (sAt s i8).bind fun b9 => if (b9 == 93) then ((zci (s.length : Int) 1).bind fun i11 => (zeG s 1 i11).bind fun s12 => (f s12).bind fun r13 => J r13) else J false) else J false) else J false) = J (zfu s) := by
  unfold zfu
  by_cases h : 2 < s.length
  · have e : decide (2 < (s.length : Int)) = true := decide_eq_true (by omega)
    have e' : decide (2 < s.length) = true := decide_eq_true h
    have g0 : s[0]? = some s[0] := List.getElem?_eq_getElem (by omega)
    have g1 : s[s.length - 1]? = some s[s.length - 1] := List.getElem?_eq_getElem (by omega)
    have i1 : zci (s.length : Int) 1 = some ((s.length - 1 : Nat) : Int) := by rw [zbm (by omega) (by omega)]; congr 1; omega
    have s1 : zeG s 1 ((s.length - 1 : Nat) : Int) = some (zj0 s) := zdh (i := 1) (by omega) (by omega)
    have := zpK s
    rw [e, e', if_pos rfl, show (0 : Int) = ((0 : Nat) : Int) from rfl, zac, g0, Option.bind_some, i1, Option.bind_some, zac, g1, Option.bind_some, Option.bind_some, s1, Option.bind_some, hf _ (by omega), Option.bind_some, znH, znH]
    cases s[0] == 91 <;> cases s[s.length - 1] == 93 <;> rfl
  · rw [decide_eq_false (show ¬ (2 < (s.length : Int)) by omega), decide_eq_false h]; rfl
theorem zhs (s : Str) (hs : s.length < 400000000) : zeb s = some (⟨(zdd s).1, (zdd s).2, -1⟩, !((zdd s).1 == 0)) := by
  unfold zeb
  rw [zia s hs zdH (fun t ht => Six_eq t (by omega)) (zbf s)]
  unfold zbf zbX zdd
  cases hb : zfu s with
  | true =>
    have h : 2 < s.length := by unfold zfu at hb; simp at hb; exact hb.1.1.1
    have i1 : zci (s.length : Int) 1 = some ((s.length - 1 : Nat) : Int) := by rw [zbm (by omega) (by omega)]; congr 1; omega
    have s1 : zeG s 1 ((s.length - 1 : Nat) : Int) = some (zj0 s) := zdh (i := 1) (by omega) (by omega)
    rw [if_pos rfl, i1, Option.bind_some, s1, Option.bind_some, if_pos rfl]
  | false =>
    rw [if_neg (by decide), zgj s (by omega), Option.bind_some, zjs s (by omega), Option.bind_some]
    cases zc6 s <;> cases zgb s <;> rfl
theorem zj1 (s : Str) (hs : s.length < 400000000) : zgJ s = some (if (zdd s).1 == 0 then ⟨0, [], 0⟩ else ⟨(zdd s).1, (zdd s).2, -1⟩) := by
  unfold zgJ
  rw [zia s hs zfB znh (zcF s)]
  unfold zcF zdd
  cases hb : zfu s with
  | true =>
    have h : 2 < s.length := by unfold zfu at hb; simp at hb; exact hb.1.1.1
    have i1 : zci (s.length : Int) 1 = some ((s.length - 1 : Nat) : Int) := by rw [zbm (by omega) (by omega)]; congr 1; omega
    have s1 : zeG s 1 ((s.length - 1 : Nat) : Int) = some (zj0 s) := zdh (i := 1) (by omega) (by omega)
    rw [if_pos rfl, i1, Option.bind_some, s1, Option.bind_some, if_pos rfl]
    rfl
  | false =>
    rw [if_neg (by decide), zh8 s (by omega), Option.bind_some, zlY s (by omega), Option.bind_some]
    cases zc6 s <;> cases zgb s <;> rfl
def zib (s : Str) (c : UInt8) : Nat → Option Nat
  | 0 => none
  | k + 1 => if s[k]? = some c then some k else zib s c k
theorem zk5 {s : Str} {c : UInt8} : ∀ {k i : Nat}, zib s c k = some i → i < k ∧ s[i]? = some c
  | 0, _, h => by cases h
  | k + 1, i, h => by
    rw [zib] at h
    split at h
    · rename_i h2; cases h; exact ⟨by omega, h2⟩
    · have := zk5 h; exact ⟨by omega, this.2⟩
theorem zjB (s : Str) (c : UInt8) (hs : s.length < 1000000000) : za2 s c = some (match zib s c s.length with | none => -1 | some k => (k : Int)) := by
  unfold za2 zaD
  have key : ∀ (n k : Nat), k ≤ s.length → k < n → zE s c n ((k : Int) - 1) = some (match zib s c k with | none => -1 | some j => (j : Int)) := by
    intro n
    induction n with
    | zero => intro k _ h; omega
    | succ n ih =>
      intro k hk h
      rw [zE]
      cases k with
      | zero => rw [decide_eq_false (by omega)]; rfl
      | succ k =>
        have e1 : ((k + 1 : Nat) : Int) - 1 = (k : Int) := by omega
        have g : s[k]? = some s[k] := List.getElem?_eq_getElem (by omega)
        rw [e1, decide_eq_true (show (0 : Int) ≤ (k : Int) by omega), if_pos rfl, zac, g, Option.bind_some, zbm (by omega) (by omega), Option.bind_some, ih k (by omega) (by omega), zib, g]
        by_cases hc : s[k] = c
        · have : (s[k] == c) = true := by simp [hc]
          rw [this, if_pos rfl, if_pos (by rw [hc])]
        · have : (s[k] == c) = false := beq_eq_false_iff_ne.2 hc
          rw [this, if_neg (by decide), if_neg (by simpa using hc)]
  rw [zbm (by omega) (by omega), Option.bind_some, key fuel s.length (Nat.le_refl _) (by unfold fuel; omega), Option.bind_some]
def zic (s : Str) : api_Host × Int :=
  if !((zdd s).1 == 0) then (⟨(zdd s).1, (zdd s).2, -1⟩, 0) else match zib s 58 s.length with
  | none => (⟨0, [], 0⟩, 27)
  | some k => if !((zdd (s.take k)).1 == 0) && zb0 (s.drop (k + 1)) 65535 then (⟨(zdd (s.take k)).1, (zdd (s.take k)).2, (zc8 10 (s.drop (k + 1)) 65535).1⟩, 0) else (⟨0, [], 0⟩, 27)
theorem ziV (s : Str) (hs : s.length < 400000000) : zdm s = some (zic s) := by
  unfold zdm zic
  rw [zhs s hs, Option.bind_some]
  cases !((zdd s).1 == 0) with
  | true => rfl
  | false =>
    show (if false = true then _ else _) = some (if false = true then _ else _)
    rw [if_neg (by decide), if_neg (by decide), zjB s 58 (by omega), Option.bind_some]
    cases hl : zib s 58 s.length with
    | none => rfl
    | some k =>
      have hk := (zk5 hl).1
      show (if decide ((k : Int) < 0) = true then _ else _) = _
      rw [decide_eq_false (show ¬ ((k : Int) < 0) by omega), if_neg (by decide), zf5 (by omega), Option.bind_some, zhs _ (by simp; omega), Option.bind_some]
      unfold zca
      rw [zk (by omega), Option.bind_some, zb2 (by omega), Option.bind_some, Option.bind_some, zb2 (by omega), Option.bind_some, zf0 _ _ (by simp; omega) (by decide) (by decide), Option.bind_some, zfJ _ _ (by simp; omega) (by decide) (by decide), Option.bind_some]
      dsimp only
      cases (zdd (s.take k)).1 == 0 <;> cases zb0 (s.drop (k + 1)) 65535 <;> rfl
theorem zfC (s : Str) (hs : s.length < 400000000) : zfm s = some (zic s) := by
  unfold zfm zic
  have key : ∀ (n k : Nat), k ≤ s.length → k < n → zbY s n ((k : Int) - 1) = some (match zib s 58 k with
      | none => (⟨0, [], 0⟩, 27)
      | some k => if !((zdd (s.take k)).1 == 0) && zb0 (s.drop (k + 1)) 65535 then (⟨(zdd (s.take k)).1, (zdd (s.take k)).2, (zc8 10 (s.drop (k + 1)) 65535).1⟩, 0) else (⟨0, [], 0⟩, 27)) := by
    intro n
    induction n with
    | zero => intro k _ h; omega
    | succ n ih =>
      intro k hk h
      rw [zbY]
      cases k with
      | zero => rw [decide_eq_false (by omega)]; rfl
      | succ k =>
        have e1 : ((k + 1 : Nat) : Int) - 1 = (k : Int) := by omega
        have g : s[k]? = some s[k] := List.getElem?_eq_getElem (by omega)
        rw [e1, decide_eq_true (show (0 : Int) ≤ (k : Int) by omega), if_pos rfl, zac, g, Option.bind_some, zbm (by omega) (by omega), Option.bind_some, ih k (by omega) (by omega), zib, g]
        by_cases hc : s[k] = 58
        · have : (s[k] == 58) = true := by simp [hc]
          rw [this, if_neg (by decide), if_pos (by rw [hc]), zf5 (by omega), Option.bind_some, zj1 _ (by simp; omega), Option.bind_some, zk (by omega), Option.bind_some, zb2 (by omega), Option.bind_some, zhk _ _ (by simp; omega) (by decide) (by decide), Option.bind_some]
          unfold zdx
          dsimp only
          cases h0 : (zdd (s.take k)).1 == 0 with
          | true => rfl
          | false =>
            simp only [Bool.false_eq_true, if_false, h0, Bool.not_false, Bool.true_and]
            cases hsm : zb0 (s.drop (k + 1)) 65535 with
            | false => rfl
            | true =>
              have h2 : (zc8 10 (s.drop (k + 1)) 65535).2 = 0 := by unfold zb0 at hsm; simp at hsm; exact hsm.1
              have h3 := (zhj h2 (by decide)).1
              simp only [if_true]
              rw [decide_eq_false (by omega)]; rfl
        · have : (s[k] == 58) = false := beq_eq_false_iff_ne.2 hc
          rw [this, Bool.not_false, if_pos rfl, if_neg (by simpa using hc)]
  rw [zj1 s hs, Option.bind_some]
  cases h0 : (zdd s).1 == 0 with
  | true =>
    simp only [if_true, beq_self_eq_true, Bool.not_true, Bool.false_eq_true, if_false]
    rw [zbm (by omega) (by omega), Option.bind_some, key fuel s.length (Nat.le_refl _) (by unfold fuel; omega)]
  | false =>
    simp only [Bool.false_eq_true, if_false, h0, Bool.not_false, if_true]
end Go.Dm
end
section
namespace Go.Dm
def zbI (c : UInt8) (s : Str) : Str × Str × Bool := (upto [c] s, (zb6 [c] s).drop 1, !(zb6 [c] s == []))
theorem zlF (c : UInt8) (s : Str) (h : (zbI c s).2.2 = true) : (zbI c s).1 ++ c :: (zbI c s).2.1 = s := by
  have e := zea [c] s
  unfold zbI at h ⊢
  simp only [Bool.not_eq_true', beq_eq_false_iff_ne] at h
  cases hf : zb6 [c] s with
  | nil => exact absurd hf h
  | cons x r =>
    have := zhV hf
    have hx : x = c := by simpa using this
    subst hx
    rw [hf] at e
    simpa [hf] using e
theorem zo6 (c : UInt8) (s : Str) (h : (zbI c s).2.2 = false) : zbI c s = (s, [], false) := by
  have e := zea [c] s
  unfold zbI at h ⊢
  simp only [Bool.not_eq_false', beq_iff_eq] at h
  rw [h, List.append_nil] at e
  rw [h, e]; rfl
end Go.Dm
end
section
namespace Go.Dm
theorem zp5 (l : List Str) : Go.Lib.join l [] = l.flatten := by
  cases l with
  | nil => rfl
  | cons x r => rw [Go.Lib.join_cons]; simp [Go.Lib.joinTail]
theorem zlS (l : List Str) (h : l.length < 1000000) (h2 : l.flatten.length < 4000000000) : zdo [] l = some l.flatten := by
  unfold zdo strings_Join
  rw [zp5, if_pos ⟨by omega, by omega⟩]
  rfl
end Go.Dm
end
section
namespace Go.Dm
section
variable {s r : Str} {k : Nat}
end
theorem zmb {p : UInt8 → Bool} {s : Str} {x : UInt8} (h : x ∈ s.takeWhile p) : p x = true := by
  induction s with
  | nil => cases h
  | cons c s ih =>
    rw [List.takeWhile_cons] at h
    split at h
    · rename_i hc
      rcases List.mem_cons.1 h with rfl | h
      · exact hc
      · exact ih h
    · cases h
end Go.Dm
end
section
namespace Go.Dm
theorem zde {c : UInt8} : ∀ {s x : Str}, zf c s = [x] → x = s
  | [], x, h => by rw [zf] at h; cases h; rfl
  | y :: s, x, h => by
    rw [zaI] at h
    split at h
    · injection h with h1 h2
      exact absurd h2 (za3 c s)
    · cases h3 : zf c s with
      | nil => exact absurd h3 (za3 c s)
      | cons a l =>
        rw [h3] at h
        injection h with h1 h2
        subst h2
        have := zde h3
        rw [← h1, this]; rfl
end Go.Dm
end
section
namespace Go.Dm
theorem zoy {p : UInt8 → Bool} {c : UInt8} (hc : p c = false) : ∀ {m : Str} (r : Str), m.all p = true → (m ++ c :: r).takeWhile p = m ∧ (m ++ c :: r).dropWhile p = c :: r
  | [], r, _ => by simp [hc]
  | x :: m, r, h => by
    simp only [List.all_cons, Bool.and_eq_true] at h
    have ih := zoy hc r h.2
    constructor
    · rw [List.cons_append, List.takeWhile_cons, if_pos h.1, ih.1]
    · rw [List.cons_append, List.dropWhile_cons, if_pos h.1, ih.2]
theorem zqj {t : Str} (h : (32 : UInt8) ∉ t) : t.all (fun b => !(b == 32)) = true :=
  List.all_eq_true.2 fun x hx => by
    have : x ≠ 32 := fun e => h (by rw [← e]; exact hx)
    simp [this]
theorem zbk (m : Str) : zbT m = true ↔ m ≠ [] ∧ m.all zav = true := by
  unfold zbT
  cases m <;> simp
end Go.Dm
end
section
namespace Go.Dm
def zbs (b : UInt8) : Bool := b == 32 || b == 9
def zgD (s : Str) : Str := s.dropWhile zbs
def zcB (s : Str) : Str := (s.reverse.dropWhile zbs).reverse
def zeU (s : Str) : Str := zgD (zcB s)
theorem zkf (b : UInt8) : ([32, 9] : Str).contains b = zbs b := by
  simp only [zbs, List.contains_cons, List.contains_nil, Bool.or_false]
theorem zeV (s : Str) (c : UInt8) : zcB (s ++ [c]) = if zbs c then zcB s else s ++ [c] := by
  unfold zcB
  rw [List.reverse_append]
  simp only [List.reverse_cons, List.reverse_nil, List.nil_append, List.singleton_append, List.dropWhile_cons]
  split <;> simp
theorem zlT (s : Str) : (zcB s).length ≤ s.length := by
  unfold zcB
  rw [List.length_reverse]
  have := (List.dropWhile_suffix (l := s.reverse) zbs).length_le
  simpa using this
theorem zru (s : Str) : (zgD s).length ≤ s.length := (List.dropWhile_suffix zbs).length_le
theorem zsd (s : Str) : (zeU s).length ≤ s.length := Nat.le_trans (zru _) (zlT _)
theorem zkg (s : Str) : (s.all zbs = true ∧ zcB s = []) ∨ ∃ a c b, s = a ++ c :: b ∧ zbs c = false ∧ b.all zbs = true ∧ zcB s = a ++ [c] := by
  rw [← List.reverse_reverse s]
  generalize s.reverse = r
  induction r with
  | nil => left; exact ⟨rfl, rfl⟩
  | cons x r ih =>
    rw [List.reverse_cons, zeV]
    rcases zeK (zbs x) with h | h
    · rw [h]
      rcases ih with ⟨h1, h2⟩ | ⟨a, c, b, h1, h2, h3, h4⟩
      · left; refine ⟨?_, by simpa using h2⟩
        rw [List.all_append, h1]; simp [h]
      · right; refine ⟨a, c, b ++ [x], by rw [h1]; simp, h2, by rw [List.all_append, h3]; simp [h], by simpa using h4⟩
    · right; exact ⟨r.reverse, x, [], rfl, h, rfl, by simp [h]⟩
theorem zp6 {s : Str} (h : s.all zbs = true) : zgD s = [] := by
  unfold zgD
  induction s with
  | nil => rfl
  | cons x s ih =>
    simp only [List.all_cons, Bool.and_eq_true] at h
    rw [List.dropWhile_cons, h.1]
    exact ih h.2
theorem zp7 {a : Str} {c : UInt8} {b : Str} (hc : zbs c = false) : zgD (a ++ c :: b) = zgD (a ++ [c]) ++ b := by
  unfold zgD
  induction a with
  | nil => simp [List.dropWhile_cons, hc]
  | cons x a ih =>
    simp only [List.cons_append, List.dropWhile_cons]
    split
    · exact ih
    · simp
theorem zrv {a : Str} {c : UInt8} (hc : zbs c = false) : ∃ d, zgD (a ++ [c]) = d ++ [c] := by
  unfold zgD
  induction a with
  | nil => exact ⟨[], by simp [List.dropWhile_cons, hc]⟩
  | cons x a ih =>
    simp only [List.cons_append, List.dropWhile_cons]
    split
    · exact ih
    · exact ⟨x :: a, rfl⟩
theorem zp8 {d : Str} {c : UInt8} {b : Str} (hc : zbs c = false) (hb : b.all zbs = true) : zcB (d ++ c :: b) = d ++ [c] := by
  rw [← List.reverse_reverse b] at *
  generalize b.reverse = r at *
  induction r with
  | nil => rw [List.reverse_nil, zeV, hc]; rfl
  | cons x r ih =>
    rw [List.reverse_cons, List.all_append] at hb
    simp only [Bool.and_eq_true, List.all_cons, List.all_nil, Bool.and_true] at hb
    rw [List.reverse_cons, ← List.cons_append, ← List.append_assoc, zeV, hb.2]
    exact ih hb.1
theorem zmO (s : Str) : zcB (zgD s) = zeU s := by
  unfold zeU
  rcases zkg s with ⟨h1, h2⟩ | ⟨a, c, b, h1, h2, h3, h4⟩
  · rw [h2, zp6 h1]; rfl
  · rw [h4, h1, zp7 h2]
    obtain ⟨d, hd⟩ := zrv (a := a) h2
    rw [hd, List.append_assoc]
    exact zp8 h2 h3
theorem zse {c : UInt8} (h : zbs c = true) (s : Str) : zeU (c :: s) = zeU s := by
  rw [← zmO, ← zmO]
  unfold zgD
  rw [List.dropWhile_cons, h]; rfl
theorem zou : zeU [] = [] := rfl
theorem zrw (s : Str) : Go.Lib.trimS s [32, 9] = zeU s := by
  unfold Go.Lib.trimS Go.Lib.trimLeftS Go.Lib.trimRightS zeU zgD zcB
  have : (fun x => ([32, 9] : List UInt8).contains x) = zbs := by funext b; exact zkf b
  rw [this]
theorem zkw (s : Str) (hs : s.length < 1000000000) : zbA s [32, 9] = some (zeU s) := by
  unfold zbA
  rw [if_pos ⟨by omega, by simp, by decide⟩, zrw]
theorem zhM (b : UInt8) : zeh b = some (zbs b) :=
  of_decide_eq_true (zT (fun b => decide (zeh b = some (zbs b))) (by decide +kernel) b)
end Go.Dm
end
section
namespace Go.Dm
def za9 : Str → Option (Str × Nat)
  | [] => none
  | c :: r => if c == 34 then some ([], 1) else if c == 92 then (match r with
      | [] => none
      | d :: t => if zhB d then (za9 t).map (fun p => (d :: p.1, p.2 + 2)) else none)
    else if zhB c then (za9 r).map (fun p => (c :: p.1, p.2 + 1)) else none
theorem zfz (r : Str) : za9 (34 :: r) = some ([], 1) := by rw [za9.eq_def]; rfl
theorem zgM : za9 [92] = none := by rw [za9.eq_def]; rfl
theorem zeP (d : UInt8) (t : Str) : za9 (92 :: d :: t) = if zhB d then (za9 t).map (fun p => (d :: p.1, p.2 + 2)) else none := by rw [za9.eq_def]; rfl
theorem zeQ {c : UInt8} (r : Str) (h1 : (c == 34) = false) (h2 : (c == 92) = false) : za9 (c :: r) = if zhB c then (za9 r).map (fun p => (c :: p.1, p.2 + 1)) else none := by
  rw [za9.eq_def]; simp only [h1, h2, Bool.false_eq_true, if_false]
theorem zgk {P : Str → Prop} (h0 : P []) (h1 : ∀ r, P (34 :: r)) (h2 : P [92]) (h3 : ∀ d t, P t → P (92 :: d :: t)) (h4 : ∀ c r, (c == 34) = false → (c == 92) = false → P r → P (c :: r)) : ∀ (n : Nat) (s : Str), s.length < n → P s
  | 0, s, h => by omega
  | n + 1, [], _ => h0
  | n + 1, c :: r, h => by
    simp only [List.length_cons] at h
    cases h34 : c == 34 with
    | true => have : c = 34 := by simpa using h34
              subst this; exact h1 r
    | false =>
      cases h92 : c == 92 with
      | true =>
        have : c = 92 := by simpa using h92
        subst this
        cases r with
        | nil => exact h2
        | cons d t => simp only [List.length_cons] at h; exact h3 d t (zgk h0 h1 h2 h3 h4 n t (by omega))
      | false => exact h4 c r h34 h92 (zgk h0 h1 h2 h3 h4 n r (by omega))
theorem zqk (s : Str) : ∀ p, za9 s = some p → 1 ≤ p.2 ∧ p.2 ≤ s.length ∧ p.1.length + 1 ≤ p.2 := by
  refine zgk (P := fun s => ∀ p, za9 s = some p → 1 ≤ p.2 ∧ p.2 ≤ s.length ∧ p.1.length + 1 ≤ p.2) ?_ ?_ ?_ ?_ ?_ (s.length + 1) s (by omega)
  · intro p h; cases h
  · intro r p h; rw [zfz] at h; cases h; simp
  · intro p h; rw [zgM] at h; cases h
  · intro d t ih p h
    rw [zeP] at h
    split at h
    · obtain ⟨q, hq, rfl⟩ := Option.map_eq_some_iff.1 h
      have := ih q hq
      simp only [List.length_cons]; omega
    · cases h
  · intro c r h1 h2 ih p h
    rw [zeQ r h1 h2] at h
    split at h
    · obtain ⟨q, hq, rfl⟩ := Option.map_eq_some_iff.1 h
      have := ih q hq
      simp only [List.length_cons]; omega
    · cases h
theorem zpr (u s : Str) : ∀ p, za9 s = some p → za9 (s ++ u) = some p := by
  refine zgk (P := fun s => ∀ p, za9 s = some p → za9 (s ++ u) = some p) ?_ ?_ ?_ ?_ ?_ (s.length + 1) s (by omega)
  · intro p h; cases h
  · intro r p h; rw [zfz] at h; rw [List.cons_append, zfz]; exact h
  · intro p h; rw [zgM] at h; cases h
  · intro d t ih p h
    rw [zeP] at h
    rw [List.cons_append, List.cons_append, zeP]
    split at h
    · rename_i hc
      obtain ⟨q, hq, rfl⟩ := Option.map_eq_some_iff.1 h
      rw [if_pos hc, ih q hq]; rfl
    · cases h
  · intro c r h1 h2 ih p h
    rw [zeQ r h1 h2] at h
    rw [List.cons_append, zeQ _ h1 h2]
    split at h
    · rename_i hc
      obtain ⟨q, hq, rfl⟩ := Option.map_eq_some_iff.1 h
      rw [if_pos hc, ih q hq]; rfl
    · cases h
theorem zmS {c : UInt8} (h : zbs c = true) : (c == 34) = false ∧ (c == 92) = false ∧ (c == 40) = false ∧ (c == 41) = false ∧ (c == 44) = false := by
  unfold zbs at h
  simp only [Bool.or_eq_true, beq_iff_eq] at h
  rcases h with h | h <;> subst h <;> decide
theorem zkI : ∀ {b : Str}, b.all zbs = true → za9 b = none
  | [], _ => rfl
  | c :: b, h => by
    simp only [List.all_cons, Bool.and_eq_true] at h
    obtain ⟨h1, h2, _⟩ := zmS h.1
    rw [zeQ b h1 h2, zkI h.2]
    split <;> rfl
theorem zps {b : Str} (hb : b.all zbs = true) (s : Str) : za9 (s ++ b) = za9 s := by
  refine zgk (P := fun s => za9 (s ++ b) = za9 s) ?_ ?_ ?_ ?_ ?_ (s.length + 1) s (by omega)
  · exact zkI hb
  · intro r; rw [List.cons_append, zfz, zfz]
  · cases b with
    | nil => rfl
    | cons d t =>
      simp only [List.all_cons, Bool.and_eq_true] at hb
      show za9 (92 :: d :: t) = _
      rw [zeP, zkI hb.2, zgM]
      split <;> rfl
  · intro d t ih
    rw [List.cons_append, List.cons_append, zeP, zeP, ih]
  · intro c r h1 h2 ih
    rw [List.cons_append, zeQ _ h1 h2, zeQ _ h1 h2, ih]
def zcl : Nat → Str → Option Nat
  | 0, _ => some 0
  | _ + 1, [] => none
  | d + 1, c :: r => if c == 40 then (zcl (d + 2) r).map (· + 1) else if c == 41 then (zcl d r).map (· + 1) else if c == 92 then (match r with
      | [] => none
      | _ :: t => (zcl (d + 1) t).map (· + 2)) else (zcl (d + 1) r).map (· + 1)
theorem zY (s : Str) : zcl 0 s = some 0 := by cases s <;> rfl
theorem zd7 (d : Nat) (r : Str) : zcl (d + 1) (40 :: r) = (zcl (d + 2) r).map (· + 1) := by rw [zcl.eq_def]; rfl
theorem zcG (d : Nat) (r : Str) : zcl (d + 1) (41 :: r) = (zcl d r).map (· + 1) := by rw [zcl.eq_def]; rfl
theorem zhS (d : Nat) : zcl (d + 1) [92] = none := by rw [zcl.eq_def]; rfl
theorem zej (d : Nat) (c : UInt8) (t : Str) : zcl (d + 1) (92 :: c :: t) = (zcl (d + 1) t).map (· + 2) := by rw [zcl.eq_def]; rfl
theorem zek (d : Nat) {c : UInt8} (r : Str) (h1 : (c == 40) = false) (h2 : (c == 41) = false) (h3 : (c == 92) = false) : zcl (d + 1) (c :: r) = (zcl (d + 1) r).map (· + 1) := by
  rw [zcl.eq_def]; simp only [h1, h2, h3, Bool.false_eq_true, if_false]
theorem zhl {P : Str → Prop} (h0 : P []) (h1 : ∀ r, P r → P (40 :: r)) (h2 : ∀ r, P r → P (41 :: r)) (h3 : P [92]) (h4 : ∀ d t, P t → P (92 :: d :: t)) (h5 : ∀ c r, (c == 40) = false → (c == 41) = false → (c == 92) = false → P r → P (c :: r)) : ∀ (n : Nat) (s : Str), s.length < n → P s
  | 0, s, h => by omega
  | n + 1, [], _ => h0
  | n + 1, c :: r, h => by
    simp only [List.length_cons] at h
    have ih := fun t ht => zhl h0 h1 h2 h3 h4 h5 n t ht
    cases c40 : c == 40 with
    | true => have : c = 40 := by simpa using c40
              subst this; exact h1 r (ih r (by omega))
    | false =>
      cases c41 : c == 41 with
      | true => have : c = 41 := by simpa using c41
                subst this; exact h2 r (ih r (by omega))
      | false =>
        cases c92 : c == 92 with
        | true =>
          have : c = 92 := by simpa using c92
          subst this
          cases r with
          | nil => exact h3
          | cons d t => simp only [List.length_cons] at h; exact h4 d t (ih t (by omega))
        | false => exact h5 c r c40 c41 c92 (ih r (by omega))
theorem zry (s : Str) : ∀ d n, zcl d s = some n → n ≤ s.length := by
  refine zhl (P := fun s => ∀ d n, zcl d s = some n → n ≤ s.length) ?_ ?_ ?_ ?_ ?_ ?_ (s.length + 1) s (by omega)
  · intro d n h; cases d with
    | zero => cases h; simp
    | succ d => cases h
  · intro r ih d n h; cases d with
    | zero => cases h; simp
    | succ d => rw [zd7] at h; obtain ⟨m, hm, rfl⟩ := Option.map_eq_some_iff.1 h; have := ih _ _ hm; simp only [List.length_cons]; omega
  · intro r ih d n h; cases d with
    | zero => cases h; simp
    | succ d => rw [zcG] at h; obtain ⟨m, hm, rfl⟩ := Option.map_eq_some_iff.1 h; have := ih _ _ hm; simp only [List.length_cons]; omega
  · intro d n h; cases d with
    | zero => cases h; simp
    | succ d => rw [zhS] at h; cases h
  · intro c t ih d n h; cases d with
    | zero => cases h; simp
    | succ d => rw [zej] at h; obtain ⟨m, hm, rfl⟩ := Option.map_eq_some_iff.1 h; have := ih _ _ hm; simp only [List.length_cons]; omega
  · intro c r h1 h2 h3 ih d n h; cases d with
    | zero => cases h; simp
    | succ d => rw [zek d r h1 h2 h3] at h; obtain ⟨m, hm, rfl⟩ := Option.map_eq_some_iff.1 h; have := ih _ _ hm; simp only [List.length_cons]; omega
theorem zql (u s : Str) : ∀ d n, zcl d s = some n → zcl d (s ++ u) = some n := by
  refine zhl (P := fun s => ∀ d n, zcl d s = some n → zcl d (s ++ u) = some n) ?_ ?_ ?_ ?_ ?_ ?_ (s.length + 1) s (by omega)
  · intro d n h; cases d with
    | zero => cases h; exact zY _
    | succ d => cases h
  · intro r ih d n h; cases d with
    | zero => cases h; exact zY _
    | succ d => rw [zd7] at h; obtain ⟨m, hm, rfl⟩ := Option.map_eq_some_iff.1 h; rw [List.cons_append, zd7, ih _ _ hm]; rfl
  · intro r ih d n h; cases d with
    | zero => cases h; exact zY _
    | succ d => rw [zcG] at h; obtain ⟨m, hm, rfl⟩ := Option.map_eq_some_iff.1 h; rw [List.cons_append, zcG, ih _ _ hm]; rfl
  · intro d n h; cases d with
    | zero => cases h; exact zY _
    | succ d => rw [zhS] at h; cases h
  · intro c t ih d n h; cases d with
    | zero => cases h; exact zY _
    | succ d => rw [zej] at h; obtain ⟨m, hm, rfl⟩ := Option.map_eq_some_iff.1 h; rw [List.cons_append, List.cons_append, zej, ih _ _ hm]; rfl
  · intro c r h1 h2 h3 ih d n h; cases d with
    | zero => cases h; exact zY _
    | succ d => rw [zek d r h1 h2 h3] at h; obtain ⟨m, hm, rfl⟩ := Option.map_eq_some_iff.1 h; rw [List.cons_append, zek d _ h1 h2 h3, ih _ _ hm]; rfl
theorem zmT : ∀ {b : Str}, b.all zbs = true → ∀ d, zcl (d + 1) b = none
  | [], _, _ => rfl
  | c :: b, h, d => by
    simp only [List.all_cons, Bool.and_eq_true] at h
    obtain ⟨_, h3, h1, h2, _⟩ := zmS h.1
    rw [zek d b h1 h2 h3, zmT h.2]; rfl
theorem zqm {b : Str} (hb : b.all zbs = true) (s : Str) : ∀ d, zcl d (s ++ b) = zcl d s := by
  refine zhl (P := fun s => ∀ d, zcl d (s ++ b) = zcl d s) ?_ ?_ ?_ ?_ ?_ ?_ (s.length + 1) s (by omega)
  · intro d; cases d with
    | zero => rw [zY, zY]
    | succ d => exact zmT hb d
  · intro r ih d; cases d with
    | zero => rw [zY, zY]
    | succ d => rw [List.cons_append, zd7, zd7, ih]
  · intro r ih d; cases d with
    | zero => rw [zY, zY]
    | succ d => rw [List.cons_append, zcG, zcG, ih]
  · intro d; cases d with
    | zero => rw [zY, zY]
    | succ d =>
      cases b with
      | nil => rfl
      | cons c t =>
        simp only [List.all_cons, Bool.and_eq_true] at hb
        show zcl (d + 1) (92 :: c :: t) = _
        rw [zej, zmT hb.2, zhS]; rfl
  · intro c t ih d; cases d with
    | zero => rw [zY, zY]
    | succ d => rw [List.cons_append, List.cons_append, zej, zej, ih]
  · intro c r h1 h2 h3 ih d; cases d with
    | zero => rw [zY, zY]
    | succ d => rw [List.cons_append, zek d _ h1 h2 h3, zek d _ h1 h2 h3, ih]
def zcO (c : UInt8) (r : Str) : Nat := if c == 34 then (match za9 r with | some p => p.2 + 1 | none => 0) else (match zcl 1 r with | some n => n + 1 | none => 0)
theorem zkJ (c : UInt8) (r : Str) : zcO c r ≤ r.length + 1 := by
  unfold zcO
  split
  · cases h : za9 r with
    | none => simp
    | some p => have := zqk r p h; dsimp only; omega
  · cases h : zcl 1 r with
    | none => simp
    | some n => have := zry r 1 n h; dsimp only; omega
theorem zpt (c : UInt8) (r u : Str) (h : zcO c r ≠ 0) : zcO c (r ++ u) = zcO c r := by
  unfold zcO at h ⊢
  split
  · rename_i hc
    rw [if_pos hc] at h
    cases hq : za9 r with
    | none => rw [hq] at h; exact absurd rfl h
    | some p => rw [zpr u r p hq]
  · rename_i hc
    rw [if_neg hc] at h
    cases hq : zcl 1 r with
    | none => rw [hq] at h; exact absurd rfl h
    | some p => rw [zql u r 1 p hq]
theorem zpu (c : UInt8) (r : Str) {b : Str} (hb : b.all zbs = true) : zcO c (r ++ b) = zcO c r := by
  unfold zcO
  rw [zps hb, zqm hb]
def zc7 : Nat → Str → Str → Option (List Str)
  | _, cur, [] => some [cur]
  | k + 1, cur, c :: r => zc7 k (cur ++ [c]) r
  | 0, cur, c :: r => if c == 34 || c == 40 then (if zcO c r = 0 then none else zc7 (zcO c r - 1) (cur ++ [c]) r) else if c == 44 then (zc7 0 [] r).map (cur :: ·) else zc7 0 (cur ++ [c]) r
theorem zel (k : Nat) (cur : Str) : zc7 k cur [] = some [cur] := by cases k <;> rfl
theorem zpv (k : Nat) (cur : Str) (c : UInt8) (r : Str) : zc7 (k + 1) cur (c :: r) = zc7 k (cur ++ [c]) r := rfl
theorem zgN (cur : Str) {c : UInt8} (r : Str) (h : (c == 34 || c == 40) = true) : zc7 0 cur (c :: r) = if zcO c r = 0 then none else zc7 (zcO c r - 1) (cur ++ [c]) r := by
  rw [zc7, if_pos h]
theorem zda (cur r : Str) : zc7 0 cur (44 :: r) = (zc7 0 [] r).map (cur :: ·) := by rw [zc7]; rfl
theorem zdb (cur : Str) {c : UInt8} (r : Str) (h : (c == 34 || c == 40) = false) (h2 : (c == 44) = false) : zc7 0 cur (c :: r) = zc7 0 (cur ++ [c]) r := by
  rw [zc7, if_neg (by rw [h]; decide), if_neg (by rw [h2]; decide)]
theorem zju : ∀ (k : Nat) (cur s : Str), k ≤ s.length → zc7 k cur s = zc7 0 (cur ++ s.take k) (s.drop k)
  | 0, cur, s, _ => by simp
  | k + 1, cur, [], h => by simp at h
  | k + 1, cur, c :: r, h => by
    rw [zpv, zju k _ r (by simpa using h)]
    simp
theorem zgl (t : Str) : ∀ (s : Str) (k : Nat) (cur : Str) (l : List Str), k ≤ s.length → zc7 k cur s = some l → zc7 k cur (s ++ 44 :: t) = (zc7 0 [] t).map (l ++ ·)
  | [], k, cur, l, hk, h => by
    have : k = 0 := by simpa using hk
    subst this
    rw [zel] at h; cases h
    exact zda cur t
  | c :: r, k + 1, cur, l, hk, h => zgl t r k _ l (by simpa using hk) h
  | c :: r, 0, cur, l, hk, h => by
    have hp := zkJ c r
    cases h1 : (c == 34 || c == 40) with
    | true =>
      rw [zgN cur r h1] at h
      split at h
      · cases h
      · rename_i h0
        rw [List.cons_append, zgN cur _ h1, zpt c r _ h0, if_neg h0]
        exact zgl t r _ _ l (by omega) h
    | false =>
      cases h2 : c == 44 with
      | true =>
        have : c = 44 := by simpa using h2
        subst this
        rw [zda] at h
        obtain ⟨m, hm, rfl⟩ := Option.map_eq_some_iff.1 h
        rw [List.cons_append, zda, zgl t r 0 [] m (by simp) hm, Option.map_map]
        rfl
      | false =>
        rw [zdb cur r h1 h2] at h
        rw [List.cons_append, zdb cur _ h1 h2]
        exact zgl t r 0 _ l (by simp) h
theorem zgO {a b : Str} (hb : b.all zbs = true) : zeU (a ++ b) = zeU a := by
  have : zcB (a ++ b) = zcB a := by
    rw [← List.reverse_reverse b] at *
    generalize b.reverse = r at *
    induction r with
    | nil => simp
    | cons x r ih =>
      rw [List.reverse_cons, List.all_append] at hb
      simp only [Bool.and_eq_true, List.all_cons, List.all_nil, Bool.and_true] at hb
      rw [List.reverse_cons, ← List.append_assoc, zeV, hb.2, if_pos rfl]
      exact ih hb.1
  unfold zeU; rw [this]
theorem zhm {b : Str} (hb : b.all zbs = true) : ∀ (s : Str) (k : Nat) (cur : Str) (l : List Str), k ≤ s.length → zc7 k cur (s ++ b) = some l → ∃ l', zc7 k cur s = some l' ∧ l'.map zeU = l.map zeU
  | [], k, cur, l, hk, h => by
    have : k = 0 := by simpa using hk
    subst this
    have key : ∀ (b : Str), b.all zbs = true → ∀ cur l, zc7 0 cur b = some l → l = [cur ++ b] := by
      intro b
      induction b with
      | nil => intro _ cur l h; rw [zel] at h; cases h; simp
      | cons c b ih =>
        intro hb cur l h
        simp only [List.all_cons, Bool.and_eq_true] at hb
        obtain ⟨h1, _, h2, _, h3⟩ := zmS hb.1
        rw [zdb cur b (by rw [h1, h2]; rfl) h3] at h
        rw [ih hb.2 _ _ h]; simp
    have := key b hb cur l h
    subst this
    exact ⟨[cur], zel _ _, by simp [zgO hb]⟩
  | c :: r, k + 1, cur, l, hk, h => zhm hb r k _ l (by simpa using hk) h
  | c :: r, 0, cur, l, hk, h => by
    have hp := zkJ c r
    cases h1 : (c == 34 || c == 40) with
    | true =>
      rw [List.cons_append, zgN cur _ h1, zpu c r hb] at h
      rw [zgN cur r h1]
      split at h
      · cases h
      · rename_i h0
        rw [if_neg h0]
        exact zhm hb r _ _ l (by omega) h
    | false =>
      cases h2 : c == 44 with
      | true =>
        have : c = 44 := by simpa using h2
        subst this
        rw [List.cons_append, zda] at h
        obtain ⟨m, hm, rfl⟩ := Option.map_eq_some_iff.1 h
        obtain ⟨m', e1, e2⟩ := zhm hb r 0 [] m (by simp) hm
        exact ⟨cur :: m', by rw [zda, e1]; rfl, by simp [e2]⟩
      | false =>
        rw [List.cons_append, zdb cur _ h1 h2] at h
        rw [zdb cur r h1 h2]
        exact zhm hb r 0 _ l (by simp) h
def elems (l : List Str) : List Str := (l.map zeU).filter (fun x => !(x == []))
def zcd (s : Str) : Option (List Str) := (zc7 0 [] s).map elems
theorem zmr (a b : List Str) : elems (a ++ b) = elems a ++ elems b := by simp [elems]
theorem zjv : ∀ (s cur : Str), cur.all zbs = true → (s.all fun c => zbs c || c == 44) = true → ∃ l, zc7 0 cur s = some l ∧ elems l = []
  | [], cur, hc, _ => ⟨[cur], zel _ _, by
      have : zeU cur = [] := by have := zgO (a := []) hc; simpa [zou] using this
      simp [elems, this]⟩
  | c :: s, cur, hc, h => by
    simp only [List.all_cons, Bool.and_eq_true] at h
    cases h2 : c == 44 with
    | true =>
      have : c = 44 := by simpa using h2
      subst this
      obtain ⟨l, e1, e2⟩ := zjv s [] rfl (by simpa using h.2)
      have ht : zeU cur = [] := by have := zgO (a := []) hc; simpa [zou] using this
      exact ⟨cur :: l, by rw [zda, e1]; rfl, by simp [elems, ht] at e2 ⊢; exact e2⟩
    | false =>
      have hb : zbs c = true := by rw [h2, Bool.or_false] at h; exact h.1
      obtain ⟨h1, _, h3, _, _⟩ := zmS hb
      rw [zdb cur s (by rw [h1, h3]; rfl) h2]
      exact zjv s _ (by simp [List.all_append, hc, hb]) (by simpa using h.2)
def zaH (s x : Str) : Str := if (s.all fun c => zbs c || c == 44) then x else zcB s ++ 44 :: 32 :: x
end Go.Dm
end
section
namespace Go.Dm
section
variable {s r : Str} {k : Nat}
theorem zgW (s : Str) (k : Nat) : (⟨s, (k : Int)⟩ : scan_Scanner) = scn s k := rfl
theorem zog (b : UInt8) (r : Str) : (zaE b r).length ≤ r.length := by unfold zaE; split <;> simp
def zj8 (r : Str) : Option (UInt8 × Str) := match zaE 92 r with
  | [] => none
  | c :: t => if zhB c then some (c, t) else none
theorem zp0 {c : UInt8} {t : Str} (h : zj8 r = some (c, t)) : t.length < r.length := by
  unfold zj8 at h
  have := zog 92 r
  cases hb : zaE 92 r with
  | nil => rw [hb] at h; cases h
  | cons d u =>
    rw [hb] at h this
    simp only at h
    split at h
    · cases h; simp only [List.length_cons] at this; omega
    · cases h
theorem zr5 (hs : s.length < 1000000000) (out : Str) (ho : out.length < 1000000000) (h : At s k r) :
    (∀ c t, zj8 r = some (c, t) → ∃ k', At s k' t ∧ k ≤ k' ∧ za4 ⟨scn s k, out⟩ = some (true, ⟨scn s k', out ++ [c]⟩)) ∧
    (zj8 r = none → ∃ k', k' ≤ s.length ∧ k ≤ k' ∧ za4 ⟨scn s k, out⟩ = some (false, ⟨scn s k', out⟩)) := by
  unfold za4 zj8
  obtain ⟨k1, h1, e1⟩ := zf8 hs 92 h
  have hk : k ≤ k1 := by have := h.len; have := h1.len; have := zog 92 r; omega
  show (∀ c t, _ → ∃ k', _ ∧ _ ∧ (zg (scn s k) 92).bind _ = _) ∧ (_ → ∃ k', _ ∧ _ ∧ (zg (scn s k) 92).bind _ = _)
  rw [e1]
  simp only [Option.bind_some]
  rw [zkE h1]
  cases hb : zaE 92 r with
  | nil =>
    rw [hb] at h1
    refine ⟨fun c t h => (by cases h), fun _ => ⟨k1, h1.le, hk, rfl⟩⟩
  | cons d u =>
    rw [hb] at h1
    simp only [zpn, Option.bind_some, Bool.not_true, Bool.false_eq_true, if_false, zgw]
    unfold zaZ
    obtain ⟨k2, h2, e2⟩ := zf8 hs d h1
    rw [zcK, zbr] at *
    cases hv : zhB d with
    | false => exact ⟨fun c t h => by simp at h, fun _ => ⟨k1, h1.le, hk, by simp⟩⟩
    | true =>
      refine ⟨fun c t h => ?_, fun h => by simp at h⟩
      simp at h
      obtain ⟨rfl, rfl⟩ := h
      refine ⟨k2, h2, by have := h1.len; have := h2.len; simp only [List.length_cons] at *; omega, ?_⟩
      rw [if_neg (by decide), if_pos (zcj (n := out.length) (m := 1) (by omega) (by omega)), e2]
      simp
theorem zo4 (r : Str) : za9 r = if zeN 34 r then some ([], 1) else match zj8 r with
    | none => none
    | some (c, t) => (za9 t).map (fun p => (c :: p.1, p.2 + (r.length - t.length))) := by
  cases r with
  | nil => rfl
  | cons c r =>
    rw [zbr]
    cases h34 : c == 34 with
    | true => have : c = 34 := by simpa using h34
              subst this; rw [zfz]; rfl
    | false =>
      rw [if_neg (by decide)]
      unfold zj8
      cases h92 : c == 92 with
      | true =>
        have : c = 92 := by simpa using h92
        subst this
        rw [zcK]
        cases r with
        | nil => exact zgM
        | cons d t =>
          rw [zeP]
          dsimp only
          cases zhB d with
          | false => rfl
          | true =>
            rw [if_pos rfl, if_pos rfl]
            dsimp only
            congr 1
            funext p
            congr 2
            simp only [List.length_cons]; omega
      | false =>
        rw [zgY (by rw [zbr]; exact h92), zeQ r h34 h92]
        dsimp only
        cases zhB c with
        | false => rfl
        | true =>
          rw [if_pos rfl, if_pos rfl]
          dsimp only
          congr 1
          funext p
          congr 2
          simp only [List.length_cons]; omega
theorem znp {s : Str} {k k0 : Nat} (h : k0 ≤ k) : zb9 (scn s k) (k0 : Int) = some (true, scn s k0) := by
  unfold zb9
  rw [decide_eq_false (show ¬ ((k0 : Int) < 0) by omega), if_neg (by decide), zg0, Option.bind_some]
  unfold zbe
  rw [decide_eq_false (show ¬ ((k : Int) < (k0 : Int)) by omega), if_neg (by decide)]
  rfl
theorem zg6 (k0 n : Nat) (hk : k0 ≤ k) (out : Str) : zad (k0 : Int) (n + 1) s (k : Int) out false = some ([], false, scn s k0) := by
  rw [zad, if_neg (by decide)]
  unfold zcp zdk
  rw [if_neg (by decide), Bool.not_false, if_pos rfl, zgW, znp hk, Option.bind_some]
theorem zje (hs : s.length < 1000000000) (k0 : Nat) : ∀ (n : Nat) (r : Str) (k : Nat) (out : Str), r.length + 1 < n → At s k r → k0 ≤ k → out.length ≤ k →
    zad (k0 : Int) n s (k : Int) out true = some (match za9 r with | some p => (out ++ p.1, true, scn s (k + p.2)) | none => ([], false, scn s k0))
  | 0, _, _, _, h, _, _, _ => by omega
  | n + 1, r, k, out, hn, h, hk, ho => by
    rw [zad, if_pos rfl, zgW]
    obtain ⟨k1, h1, e1⟩ := zf8 hs 34 h
    have hkl := h.le
    rw [e1, Option.bind_some]
    unfold zcp
    rw [zo4]
    cases hb : zeN 34 r with
    | true =>
      rw [Bool.not_true, if_neg (by decide), if_pos rfl]
      have hr := zfK hb
      have hk1 : k1 = k + 1 := by
        have := h.len; have := h1.len
        have := congrArg List.length hr
        simp only [List.length_cons] at this; omega
      subst hk1
      unfold zdk
      rw [Bool.not_true, if_neg (by decide)]
      simp [scn]
    | false =>
      rw [zgY hb] at h1
      have hk1 : k1 = k := by have := h.len; have := h1.len; omega
      subst hk1
      rw [Bool.not_false, if_pos rfl, if_neg (by decide)]
      dsimp only [scn]
      rw [zgW]
      have hx := zr5 hs out (by omega) h
      cases hq : zj8 r with
      | none =>
        obtain ⟨k2, g1, g2, e2⟩ := hx.2 hq
        rw [e2, Option.bind_some]
        obtain ⟨m, rfl⟩ : ∃ m, n = m + 1 := ⟨n - 1, by omega⟩
        exact zg6 k0 m (by omega) out
      | some ct =>
        obtain ⟨c, t⟩ := ct
        obtain ⟨k2, g1, g2, e2⟩ := hx.1 c t hq
        have hl := zp0 hq
        have l1 := h.len
        have l2 := g1.len
        rw [e2, Option.bind_some]
        have ih := zje hs k0 n t k2 (out ++ [c]) (by omega) g1 (by omega) (by simp; omega)
        dsimp only [scn]
        rw [ih]
        cases za9 t with
        | none => rfl
        | some p =>
          simp only [Option.map_some, List.append_assoc, List.singleton_append]
          have : k2 + p.2 = k1 + (p.2 + (r.length - t.length)) := by omega
          exact congrArg (fun k => some (out ++ c :: p.1, true, scn s k)) this
def zpk (r : Str) : Option (Str × Nat) := if zeN 34 r then (za9 (zaE 34 r)).map (fun p => (p.1, p.2 + 1)) else none
theorem zhF (hs : s.length < 1000000000) (h : At s k r) : zfg (scn s k) = some (match zpk r with | some p => (p.1, true, scn s (k + p.2)) | none => ([], false, scn s k)) := by
  unfold zfg zpk
  rw [zg0, Option.bind_some]
  obtain ⟨k1, h1, e1⟩ := zf8 hs 34 h
  rw [e1, Option.bind_some]
  have l0 := h.len
  have l1 := h1.len
  cases hb : zeN 34 r with
  | false =>
    rw [zgY hb] at h1
    have hk1 : k1 = k := by have := h1.len; omega
    subst hk1
    exact zg6 k1 999999999999999999 (Nat.le_refl _) []
  | true =>
    have hr := congrArg List.length (zfK hb)
    simp only [List.length_cons] at hr
    have hk1 : k1 = k + 1 := by omega
    subst hk1
    have := zje hs k fuel (zaE 34 r) (k + 1) [] (by unfold fuel; omega) h1 (by omega) (by simp)
    dsimp only [scn] at this ⊢
    rw [this, if_pos rfl]
    cases za9 (zaE 34 r) with
    | none => rfl
    | some p => simp only [Option.map_some, List.nil_append]; rw [show k + 1 + p.2 = k + (p.2 + 1) by omega]
theorem zcg (hs : s.length < 1000000000) (p : commas_splitter) : ∀ (n : Nat) (r : Str) (k d : Nat), r.length + 1 < n → At s k r → d ≤ k + 1 →
    ∃ k', (∀ m, zcl d r = some m → k' = k + m) ∧ k' ≤ s.length ∧ zh p n s (k : Int) (d : Int) = some ((zcl d r).isSome, ⟨scn s k', p.f_out, p.f_from, p.f_s⟩)
  | 0, _, _, _, h, _, _ => by omega
  | n + 1, r, k, 0, hn, h, hd => by
    refine ⟨k, fun m hm => (by rw [zY] at hm; cases hm; rfl), h.le, ?_⟩
    rw [zh, zY]
    rfl
  | n + 1, r, k, d + 1, hn, h, hd => by
    have hl := h.len
    rw [zh, decide_eq_true (show (0 : Int) < ((d + 1 : Nat) : Int) by omega), if_pos rfl, zgW, zkE h, Option.bind_some]
    cases r with
    | nil => exact ⟨k, fun m hm => (by cases hm), h.le, rfl⟩
    | cons c t =>
      simp only [List.length_cons] at hn hl
      obtain ⟨k1, h1, e1⟩ := zf8 hs c h
      rw [zcK] at h1
      have hk1 : k1 = k + 1 := by have := h1.len; omega
      subst hk1
      have i1 : zM ((d + 1 : Nat) : Int) 1 = some ((d + 2 : Nat) : Int) := zk (by omega)
      have i2 : zci ((d + 1 : Nat) : Int) 1 = some (d : Int) := by rw [zbm (by omega) (by omega)]; simp
      rw [show (zpn (c :: t)) = (c, true) from rfl]
      dsimp only
      rw [Bool.not_true, if_neg (by decide), e1, Option.bind_some, i1, Option.bind_some, i2, Option.bind_some]
      dsimp only [scn]
      rw [zgW, zkE h1, Option.bind_some]
      cases c40 : c == 40 with
      | true =>
        have : c = 40 := by simpa using c40
        subst this
        obtain ⟨k', g1, g2, g3⟩ := zcg hs p n t (k + 1) (d + 2) (by omega) h1 (by omega)
        refine ⟨k', fun m hm => ?_, g2, ?_⟩
        · rw [zd7] at hm; obtain ⟨m', hm', rfl⟩ := Option.map_eq_some_iff.1 hm; rw [g1 m' hm']; omega
        · rw [if_pos rfl, g3, zd7]; simp [scn]
      | false =>
        rw [if_neg (by decide)]
        cases c41 : c == 41 with
        | true =>
          have : c = 41 := by simpa using c41
          subst this
          obtain ⟨k', g1, g2, g3⟩ := zcg hs p n t (k + 1) d (by omega) h1 (by omega)
          refine ⟨k', fun m hm => ?_, g2, ?_⟩
          · rw [zcG] at hm; obtain ⟨m', hm', rfl⟩ := Option.map_eq_some_iff.1 hm; rw [g1 m' hm']; omega
          · rw [if_pos rfl, g3, zcG]; simp [scn]
        | false =>
          rw [if_neg (by decide)]
          cases c92 : c == 92 with
          | true =>
            have : c = 92 := by simpa using c92
            subst this
            rw [if_pos rfl]
            cases t with
            | nil =>
              obtain ⟨k', g1, g2, g3⟩ := zcg hs p n [] (k + 1) (d + 1) (by simp; omega) h1 (by omega)
              exact ⟨k', fun m hm => (by rw [zhS] at hm; cases hm), g2, by rw [if_neg (by decide), g3]; rfl⟩
            | cons x u =>
              simp only [List.length_cons] at hn hl
              obtain ⟨k2, h2, e2⟩ := zf8 hs x h1
              rw [zcK] at h2
              have hk2 : k2 = k + 2 := by have := h2.len; omega
              subst hk2
              obtain ⟨k', g1, g2, g3⟩ := zcg hs p n u (k + 2) (d + 1) (by omega) h2 (by omega)
              dsimp only [scn] at e2 g3 ⊢
              refine ⟨k', fun m hm => ?_, g2, ?_⟩
              · rw [zej] at hm; obtain ⟨m', hm', rfl⟩ := Option.map_eq_some_iff.1 hm; rw [g1 m' hm']; omega
              · rw [show (zpn (x :: u)) = (x, true) from rfl]
                dsimp only
                rw [if_pos rfl, e2, Option.bind_some, g3, zej]; simp
          | false =>
            obtain ⟨k', g1, g2, g3⟩ := zcg hs p n t (k + 1) (d + 1) (by omega) h1 (by omega)
            refine ⟨k', fun m hm => ?_, g2, ?_⟩
            · rw [zek d t c40 c41 c92] at hm; obtain ⟨m', hm', rfl⟩ := Option.map_eq_some_iff.1 hm; rw [g1 m' hm']; omega
            · rw [if_neg (by decide), g3, zek d t c40 c41 c92]; simp [scn]
def mid (s : Str) (a b : Nat) : Str := (s.take b).drop a
theorem zoh {a n : Nat} (h : At s k r) (ha : a ≤ k) (hn : n ≤ r.length) : mid s a (k + n) = mid s a k ++ r.take n := by
  unfold mid
  have hl := h.len
  rw [List.take_add, h.drop, List.drop_append_of_le_length (by simp; omega)]
theorem zoi (s : Str) (a : Nat) : mid s a a = [] := by unfold mid; simp
theorem zr6 (s : Str) (a b : Nat) : (mid s a b).length ≤ s.length := by unfold mid; simp; omega
def zj9 (out : List Str) (x : Str) : List Str := if zeU x == [] then out else out ++ [zeU x]
theorem zoj (out : List Str) (x : Str) : zj9 out x = out ++ elems [x] := by
  unfold zj9 elems
  rw [List.map_cons, List.map_nil, List.filter_cons]
  cases h : zeU x == [] with
  | true => rw [if_pos rfl, Bool.not_true, if_neg (by decide), List.filter_nil, List.append_nil]
  | false => rw [if_neg (by decide), Bool.not_false, if_pos rfl, List.filter_nil]
theorem zp1 (out : List Str) (x : Str) : (zj9 out x).length ≤ out.length + 1 := by unfold zj9; split <;> simp
theorem zrp (hs : s.length < 1000000000) (out : List Str) (ho : out.length < 4000000000) (a b pos : Nat) (ha : a ≤ b) (hb : b ≤ s.length) : zaR ⟨scn s pos, out, (a : Int), s⟩ (b : Int) = some ⟨scn s pos, zj9 out (mid s a b), (pos : Int), s⟩ := by
  unfold zaR
  have hl := zr6 s a b
  rw [zdh ha hb, Option.bind_some]
  show (zbA (mid s a b) [32, 9]).bind _ = _
  rw [zkw _ (by omega), Option.bind_some]
  unfold zaK zj9
  show (if (!(zeU (mid s a b) == [])) = true then _ else _) = _
  cases zeU (mid s a b) == [] with
  | true => rfl
  | false => rw [Bool.not_false, if_pos rfl, if_pos (zcj (n := out.length) (m := 1) (by omega) (by omega))]; rfl
theorem zka (t : Str) : zcO 34 t = match za9 t with | some p => p.2 + 1 | none => 0 := rfl
theorem zlE (t : Str) : zcO 40 t = match zcl 1 t with | some n => n + 1 | none => 0 := rfl
theorem zr7 (hs : s.length < 1000000000) (out : List Str) (ho : out.length ≤ k) (a : Nat) (ha : a ≤ k) (c : UInt8) (t : Str) (h : At s k (c :: t)) :
    (c = 44 → zV ⟨scn s k, out, (a : Int), s⟩ = some (true, ⟨scn s (k + 1), zj9 out (mid s a k), ((k + 1 : Nat) : Int), s⟩)) ∧
    ((c == 34 || c == 40) = true → zcO c t ≠ 0 → zV ⟨scn s k, out, (a : Int), s⟩ = some (true, ⟨scn s (k + zcO c t), out, (a : Int), s⟩)) ∧
    ((c == 34 || c == 40) = true → zcO c t = 0 → ∃ p, zV ⟨scn s k, out, (a : Int), s⟩ = some (false, p)) ∧
    ((c == 34 || c == 40) = false → (c == 44) = false → zV ⟨scn s k, out, (a : Int), s⟩ = some (true, ⟨scn s (k + 1), out, (a : Int), s⟩)) := by
  have hl := h.len
  simp only [List.length_cons] at hl
  have e44 := zes 44 h.le hs h.drop
  have e40 := zes 40 h.le hs h.drop
  have ec := zes c h.le hs h.drop
  rw [beq_self_eq_true, if_pos rfl] at ec
  unfold zV
  rw [show (⟨scn s k, out, (a : Int), s⟩ : commas_splitter).Scanner = scn s k from rfl, zg0, Option.bind_some]
  have hno : (c == 34 || c == 40) = true → (c == 44) = false := fun hc => by
    cases h4 : c == 44 with
    | false => rfl
    | true => have : c = 44 := by simpa using h4
              subst this; exact absurd hc (by decide)
  have n44 : (c == 44) = false → zg (scn s k) 44 = some (false, scn s k) := fun h => by rw [e44, h]; rfl
  have n40 : (c == 40) = false → zg (scn s k) 40 = some (false, scn s k) := fun h => by rw [e40, h]; rfl
  have y40 : c = 40 → zg (scn s k) 40 = some (true, scn s (k + 1)) := fun h => by rw [e40, h]; rfl
  have pk : zC (scn s k) = some (c, true) := zkE h
  refine ⟨fun hc => ?_, fun hc hp => ?_, fun hc hp => ?_, fun hc h44 => ?_⟩
  · subst hc
    have y44 : zg (scn s k) 44 = some (true, scn s (k + 1)) := e44
    rw [y44, Option.bind_some]
    dsimp only
    rw [if_pos rfl, zrp hs out (by omega) a k (k + 1) ha h.le, Option.bind_some]
    rfl
  · rw [n44 (hno hc), Option.bind_some]
    dsimp only
    rw [if_neg (by decide)]
    cases h40 : c == 40 with
    | true =>
      have : c = 40 := by simpa using h40
      subst this
      have h1 := h.next 1 (by simp)
      obtain ⟨k', g1, _, g3⟩ := zcg hs ⟨scn s (k + 1), out, (a : Int), s⟩ fuel t (k + 1) 1 (by unfold fuel; omega) h1 (by omega)
      rw [zlE] at hp ⊢
      rw [y40 rfl, Option.bind_some]
      dsimp only
      rw [if_pos rfl]
      unfold zaC
      cases hm : zcl 1 t with
      | none => rw [hm] at hp; exact absurd rfl hp
      | some m =>
        rw [hm] at g3
        have hk' := g1 m hm
        subst hk'
        have g3 : zh ⟨scn s (k + 1), out, (a : Int), s⟩ fuel (scn s (k + 1)).f_s (scn s (k + 1)).f_at 1 = some (true, ⟨scn s (k + 1 + m), out, (a : Int), s⟩) := g3
        dsimp only
        rw [g3, Option.bind_some, show k + 1 + m = k + (m + 1) by omega]
    | false =>
      have h34 : c = 34 := by rw [h40, Bool.or_false] at hc; simpa using hc
      subst h34
      rw [zka] at hp ⊢
      rw [n40 h40, Option.bind_some]
      dsimp only
      rw [if_neg (by decide), pk, Option.bind_some]
      dsimp only
      rw [if_pos (by decide), zhF hs h, Option.bind_some]
      unfold zpk
      rw [zbr, zcK]
      cases hq : za9 t with
      | none => rw [hq] at hp; exact absurd rfl hp
      | some p => rfl
  · rw [n44 (hno hc), Option.bind_some]
    dsimp only
    rw [if_neg (by decide)]
    cases h40 : c == 40 with
    | true =>
      have : c = 40 := by simpa using h40
      subst this
      have h1 := h.next 1 (by simp)
      obtain ⟨k', g1, _, g3⟩ := zcg hs ⟨scn s (k + 1), out, (a : Int), s⟩ fuel t (k + 1) 1 (by unfold fuel; omega) h1 (by omega)
      rw [zlE] at hp
      rw [y40 rfl, Option.bind_some]
      dsimp only
      rw [if_pos rfl]
      unfold zaC
      cases hm : zcl 1 t with
      | some m => rw [hm] at hp; exact absurd hp (by simp)
      | none =>
        rw [hm] at g3
        have g3 : zh ⟨scn s (k + 1), out, (a : Int), s⟩ fuel (scn s (k + 1)).f_s (scn s (k + 1)).f_at 1 = some (false, ⟨scn s k', out, (a : Int), s⟩) := g3
        dsimp only
        exact ⟨_, by rw [g3, Option.bind_some]⟩
    | false =>
      have h34 : c = 34 := by rw [h40, Bool.or_false] at hc; simpa using hc
      subst h34
      rw [zka] at hp
      rw [n40 h40, Option.bind_some]
      dsimp only
      rw [if_neg (by decide), pk, Option.bind_some]
      dsimp only
      rw [if_pos (by decide), zhF hs h, Option.bind_some]
      unfold zpk
      rw [zbr, zcK]
      cases hq : za9 t with
      | some p => rw [hq] at hp; exact absurd hp (by simp)
      | none => exact ⟨_, rfl⟩
  · simp only [Bool.or_eq_false_iff] at hc
    rw [n44 h44, Option.bind_some]
    dsimp only
    rw [if_neg (by decide), n40 hc.2, Option.bind_some]
    dsimp only
    rw [if_neg (by decide), pk, Option.bind_some]
    dsimp only
    rw [hc.1, if_neg (by decide), ec, Option.bind_some]
    rfl
def zo5 (s : Str) : List Str × Int := match zcd s with
  | some l => (l, 0)
  | none => ([], 2)
theorem zf7 (hs : s.length < 1000000000) : ∀ (n : Nat) (r : Str) (k a : Nat) (out : List Str), r.length < n → At s k r → a ≤ k → out.length ≤ k →
    zaX s n out (a : Int) s s (k : Int) = some (match zc7 0 (mid s a k) r with | some l => (out ++ elems l, 0) | none => ([], 2))
  | 0, _, _, _, _, h, _, _, _ => by omega
  | n + 1, r, k, a, out, hn, h, ha, ho => by
    have hl := h.len
    rw [zaX, zgW, zrr h, Option.bind_some]
    cases r with
    | nil =>
      have hk : k = s.length := by simpa using hl
      subst hk
      unfold zd2
      rw [zgW, zrp hs out (by omega) a s.length s.length ha (Nat.le_refl _), Option.bind_some, zel]
      dsimp only
      rw [zoj]
      rfl
    | cons c t =>
      simp only [List.length_cons] at hn hl
      obtain ⟨s1, s2, s3, s4⟩ := zr7 hs out ho a ha c t h
      have hne : (!((c :: t : Str) == [])) = true := rfl
      have m1 := zoh (a := a) (n := 1) h ha (by simp)
      rw [hne, if_pos rfl]
      cases hc : (c == 34 || c == 40) with
      | true =>
        rw [zgN _ t hc]
        by_cases hp : zcO c t = 0
        · obtain ⟨p, e⟩ := s3 hc hp
          rw [if_pos hp, e, Option.bind_some]
          rfl
        · have hple := zkJ c t
          rw [if_neg hp, s2 hc hp, Option.bind_some]
          have hat := h.next (zcO c t) (by simp; omega)
          have ih := zf7 hs n _ (k + zcO c t) a out (by simp; omega) hat (by omega) (by omega)
          rw [zoh h ha (by simp; omega)] at ih
          obtain ⟨q, hq⟩ : ∃ q, zcO c t = q + 1 := ⟨zcO c t - 1, by omega⟩
          rw [hq] at ih hple ⊢
          rw [Nat.add_sub_cancel, zju q _ t (by omega)]
          dsimp only [scn]
          rw [Bool.not_true, if_neg (by decide), ih]
          simp
      | false =>
        cases h44 : c == 44 with
        | true =>
          have : c = 44 := by simpa using h44
          subst this
          rw [s1 rfl, Option.bind_some, zda]
          have hat := h.next 1 (by simp)
          have hpl := zp1 out (mid s a k)
          have ih := zf7 hs n t (k + 1) (k + 1) (zj9 out (mid s a k)) (by omega) hat (Nat.le_refl _) (by omega)
          rw [zoi] at ih
          dsimp only [scn]
          rw [Bool.not_true, if_neg (by decide), ih]
          cases zc7 0 [] t with
          | none => rfl
          | some l =>
            simp only [Option.map_some]
            rw [zoj, show mid s a k :: l = [mid s a k] ++ l from rfl, zmr, List.append_assoc]
        | false =>
          rw [s4 hc h44, Option.bind_some, zdb _ t hc h44]
          have hat := h.next 1 (by simp)
          have ih := zf7 hs n t (k + 1) a out (by omega) hat (by omega) (by omega)
          rw [m1] at ih
          dsimp only [scn]
          rw [Bool.not_true, if_neg (by decide), ih]
          rfl
theorem zks (s : Str) (hs : s.length < 1000000000) : zeu s = some (zo5 s) := by
  unfold zeu zo5 zcd
  rw [zkc, Option.bind_some]
  have := zf7 hs fuel s 0 0 [] (by unfold fuel; omega) (At.zero s) (Nat.le_refl _) (by simp)
  rw [zoi] at this
  show zaX s fuel [] ((0 : Nat) : Int) s s ((0 : Nat) : Int) = _
  rw [this]
  cases zc7 0 [] s with
  | none => rfl
  | some l => rfl
end
end Go.Dm
end
section
namespace Go.Dm
def isN (nm : Str) (f : api_Field) : Bool := low f.Name == low nm
def zfo (m : Nat) (l : List api_Field) : Prop := ∀ f ∈ l, f.Name.length < m ∧ f.Value.length < m
theorem zj4 (f : api_Field) (nm : Str) (hf : f.Name.length < 1000000000) (hn : nm.length < 1000000000) : zgL f nm = some (isN nm f) := by
  unfold zgL isN
  rw [zih _ hf, Option.bind_some, zih _ hn, Option.bind_some]
theorem znU (l : List api_Field) (h : l.length < 1000000000) : zF l = some l := by
  unfold zF
  rw [if_pos (zcj (by omega) (by omega))]
def zfE (p : api_Field → Bool) (l : List api_Field) : Nat → Option Nat
  | 0 => none
  | k + 1 => if (l[k]?).any p then some k else zfE p l k
theorem ziC {p : api_Field → Bool} {l : List api_Field} : ∀ {k i : Nat}, zfE p l k = some i → i < k ∧ ∃ f, l[i]? = some f ∧ p f = true ∧ ∀ j, i < j → j < k → ∀ g, l[j]? = some g → p g = false
  | 0, _, h => by cases h
  | k + 1, i, h => by
    rw [zfE] at h
    split at h
    · rename_i h2
      cases h
      cases hf : l[k]? with
      | none => rw [hf] at h2; cases h2
      | some f => rw [hf] at h2; exact ⟨by omega, f, rfl, by simpa using h2, fun j h1 h3 => by omega⟩
    · rename_i h2
      obtain ⟨h3, f, h4, h5, h6⟩ := ziC h
      refine ⟨by omega, f, h4, h5, fun j h7 h8 g hg => ?_⟩
      by_cases hj : j = k
      · subst hj; rw [hg] at h2; simpa using h2
      · exact h6 j h7 (by omega) g hg
theorem zle {p : api_Field → Bool} {l : List api_Field} : ∀ {k : Nat}, zfE p l k = none → ∀ j, j < k → ∀ g, l[j]? = some g → p g = false
  | 0, _, j, h, _, _ => by omega
  | k + 1, h, j, hj, g, hg => by
    rw [zfE] at h
    split at h
    · cases h
    · rename_i h2
      by_cases e : j = k
      · subst e; rw [hg] at h2; simpa using h2
      · exact zle h j (by omega) g hg
def zdC (l : List api_Field) (nm x : Str) : List api_Field := match zfE (isN nm) l l.length with
  | none => l ++ [⟨nm, x⟩]
  | some i => match l[i]? with
    | none => l
    | some f => l.set i ⟨f.Name, zaH f.Value x⟩
theorem zif {p : UInt8 → Bool} : ∀ l : Str, l.dropWhile p = [] ↔ ∀ x ∈ l, p x = true
  | [] => by simp
  | y :: l => by
    rw [List.dropWhile_cons]
    cases h : p y with
    | true => rw [if_pos rfl, zif l]; simp [h]
    | false => rw [if_neg (by decide)]; simp [h]
theorem trimS3 (s : Str) : (Go.Lib.trimS s [32, 9, 44] == []) = s.all fun c => zbs c || c == 44 := by
  have hp : ∀ c : UInt8, ([32, 9, 44] : Str).contains c = (zbs c || c == 44) := by
    intro c; simp only [zbs, List.contains_cons, List.contains_nil, Bool.or_false, Bool.or_assoc]
  rw [Bool.eq_iff_iff, beq_iff_eq, List.all_eq_true]
  unfold Go.Lib.trimS Go.Lib.trimLeftS Go.Lib.trimRightS
  have hr : ∀ x, x ∈ (s.reverse.dropWhile (([32, 9, 44] : List UInt8).contains ·)).reverse → x ∈ s := fun x hx => List.mem_reverse.1 ((List.dropWhile_suffix _).mem (List.mem_reverse.1 hx))
  rw [zif]
  constructor
  · intro h x hx
    rw [← hp]
    by_cases hx2 : x ∈ (s.reverse.dropWhile (([32, 9, 44] : List UInt8).contains ·)).reverse
    · exact h x hx2
    · have hx3 : x ∈ s.reverse := List.mem_reverse.2 hx
      rw [← List.takeWhile_append_dropWhile (p := (([32, 9, 44] : List UInt8).contains ·)) (l := s.reverse)] at hx3
      rcases List.mem_append.1 hx3 with h1 | h1
      · have := List.all_takeWhile (p := (([32, 9, 44] : List UInt8).contains ·)) (l := s.reverse)
        exact List.all_eq_true.1 this x h1
      · exact absurd (List.mem_reverse.2 h1) hx2
  · intro h x hx
    rw [hp]; exact h x (hr x hx)
theorem zl8 (s : Str) : Go.Lib.trimRightS s [32, 9] = zcB s := by
  unfold Go.Lib.trimRightS zcB
  have : (fun x => ([32, 9] : List UInt8).contains x) = zbs := by funext b; exact zkf b
  rw [this]
theorem znV (a b sep : Str) : Go.Lib.join [a, b] sep = a ++ sep ++ b := by
  rw [Go.Lib.join_cons]; simp [Go.Lib.joinTail]
theorem znW (a sep : Str) : Go.Lib.join [a] sep = a := by
  rw [Go.Lib.join_cons]; simp [Go.Lib.joinTail]
theorem zhw (l : List Str) (h : l.length < 1000000) (h2 : (Go.Lib.join l [44, 32]).length < 4000000000) : zcE l = some (Go.Lib.join l [44, 32]) := by
  unfold zcE zdo strings_Join
  rw [if_pos ⟨by omega, by omega⟩]
  rfl
theorem zjJ (s x : Str) (hs : s.length < 1000000000) (hx : x.length < 1000000000) : zdV s [x] = some (zaH s x) := by
  unfold zdV zaH
  have ht := zlT s
  have h0 : ((([x] : List Str).length : Int) == 0) = false := rfl
  have e1 : zbA s [32, 9, 44] = some (Go.Lib.trimS s [32, 9, 44]) := by unfold zbA; rw [if_pos ⟨by omega, by decide, by decide⟩]
  have e2 : zb8 s [32, 9] = some (zcB s) := by unfold zb8; rw [if_pos ⟨by omega, by decide, by decide⟩, zl8]
  have e3 : zcE [x] = some x := by rw [zhw _ (by simp) (by rw [znW]; omega), znW]
  have e4 : zcE ([zcB s] ++ [x]) = some (zcB s ++ [44, 32] ++ x) := by
    rw [show ([zcB s] ++ [x] : List Str) = [zcB s, x] from rfl, zhw _ (by simp) (by rw [znV]; simp; omega), znV]
  rw [h0, if_neg (by decide), e1, Option.bind_some, trimS3, e3, Option.bind_some, e2, Option.bind_some, if_pos (zcj (by simp) (by simp)), e4, Option.bind_some]
  cases s.all fun c => zbs c || c == 44 with
  | true => rfl
  | false => simp
theorem zi4 (b : bag_Bag) (nm x : Str) (hn : nm.length < 1000000000) (hx : x.length < 1000000000) (hl : b.f_l.length < 1000000000) (hs : zfo 1000000000 b.f_l) : ∀ (n k : Nat), k ≤ b.f_l.length → k < n →
    zai b nm x n ((k : Int) - 1) = some ⟨match zfE (isN nm) b.f_l k with
      | none => b.f_l ++ [⟨nm, x⟩]
      | some i => match b.f_l[i]? with
        | none => b.f_l
        | some f => b.f_l.set i ⟨f.Name, zaH f.Value x⟩⟩
  | 0, _, _, h => by omega
  | n + 1, 0, hk, h => by
    rw [zai, decide_eq_false (by omega), if_neg (by decide)]
    unfold zga
    rw [if_pos (zcj (by simp; omega) (by simp; omega))]
    rfl
  | n + 1, k + 1, hk, h => by
    have e1 : ((k + 1 : Nat) : Int) - 1 = (k : Int) := by omega
    have g : b.f_l[k]? = some b.f_l[k] := List.getElem?_eq_getElem (by omega)
    have hsm := hs b.f_l[k] (List.getElem_mem _)
    have ih := zi4 b nm x hn hx hl hs n k (by omega) (by omega)
    rw [zai, e1, decide_eq_true (show (0 : Int) ≤ (k : Int) by omega), if_pos rfl, zcH, g, Option.bind_some, zmc _ _ hsm.1 hn, Option.bind_some, Option.bind_some, zjJ _ _ hsm.2 hx, Option.bind_some, Option.bind_some, zbm (by omega) (by omega), Option.bind_some, ih, zfE, g]
    show (if isN nm b.f_l[k] = true then _ else _) = _
    rw [Option.any_some]
    cases isN nm b.f_l[k] with
    | false => rfl
    | true =>
      rw [if_pos rfl, if_pos rfl]
      have hset : zkR b.f_l (k : Int) (⟨b.f_l[k].Name, zaH b.f_l[k].Value x⟩ : api_Field) = some (b.f_l.set k ⟨b.f_l[k].Name, zaH b.f_l[k].Value x⟩) := by
        unfold zkR
        rw [if_pos ⟨by omega, by simp; omega⟩]; simp
      rw [hset, Option.bind_some]
      dsimp only
      rw [g]
theorem zl9 (l : List api_Field) (nm x : Str) (hn : nm.length < 1000000000) (hx : x.length < 1000000000) (hl : l.length < 1000000000) (hs : zfo 1000000000 l) : zdp ⟨l⟩ nm x = some ⟨zdC l nm x⟩ := by
  unfold zdp
  have := zi4 ⟨l⟩ nm x hn hx hl hs fuel l.length (Nat.le_refl _) (by unfold fuel; omega)
  dsimp only at this ⊢
  rw [zbm (by omega) (by omega), Option.bind_some, this]
  rfl
theorem zfF (x : Str) (hx : x.length < 1000000000) : ∀ (n : Nat) (s : Str), s.length < n → s.length < 1000000000 → (∃ c ∈ s, zbs c = false) → zbv x n s = some (zcB s ++ 44 :: 32 :: x)
  | 0, s, h, _, _ => by omega
  | n + 1, s, h, hs, hc => by
    have hne : s ≠ [] := by rintro rfl; obtain ⟨c, hc, _⟩ := hc; cases hc
    obtain ⟨t, y, rfl⟩ : ∃ t y, s = t ++ [y] := ⟨s.dropLast, s.getLast hne, (List.dropLast_concat_getLast hne).symm⟩
    simp only [List.length_append, List.length_singleton] at h hs
    have e1 : zci (((t ++ [y]).length : Nat) : Int) 1 = some (t.length : Int) := by rw [zbm (by simp <;> omega) (by simp <;> omega)] <;> simp
    have g : (t ++ [y])[t.length]? = some y := by simp
    rw [zbv, e1, Option.bind_some, zac, g, Option.bind_some, zhM, Option.bind_some, Option.bind_some, zf5 (by simp), Option.bind_some, zeV, List.take_left' rfl]
    cases hb : zbs y with
    | true =>
      rw [if_pos rfl, if_pos rfl]
      refine zfF x hx n t (by omega) (by omega) ?_
      obtain ⟨c, hc, hc2⟩ := hc
      rcases List.mem_append.1 hc with h1 | h1
      · exact ⟨c, h1, hc2⟩
      · have : c = y := by simpa using h1
        subst this; rw [hb] at hc2; cases hc2
    | false =>
      rw [if_neg (by decide), if_neg (by decide), zb1 (by simp; omega), Option.bind_some, zb1 (by simp; omega), Option.bind_some]
      simp
theorem zlf (x sep : Str) (hx : x.length < 1000000000) : zfW sep [x] = some x := by
  unfold zfW
  rw [show fuel = 999999999999999998 + 1 + 1 from rfl, zbb]
  show (if true = true then (if false = true then _ else _) else _) = _
  rw [if_pos rfl, if_neg (by decide)]
  unfold zd0
  rw [zq2, show ([x] : List Str)[0]? = some x from rfl, Option.bind_some, zb1 (by simp; omega), Option.bind_some, show zM 0 1 = some 1 from by decide, Option.bind_some, zbb]
  rfl
theorem zkm (s x : Str) (hs : s.length < 1000000000) (hx : x.length < 1000000000) : zeE s [x] = some (zaH s x) := by
  unfold zeE zaH
  have h0 : ((([x] : List Str).length : Int) == 0) = false := rfl
  rw [h0, if_neg (by decide), zlf x _ hx, Option.bind_some]
  have key : ∀ (n i : Nat), i ≤ s.length → s.length - i < n → zar x n s (i : Int) = some (if ((s.drop i).all fun c => zbs c || c == 44) = true then x else zcB s ++ 44 :: 32 :: x) := by
    intro n
    induction n with
    | zero => intro i _ h; omega
    | succ n ih =>
      intro i hi h
      rw [zar]
      by_cases hlt : i < s.length
      · have g : s[i]? = some s[i] := List.getElem?_eq_getElem hlt
        rw [decide_eq_true (show (i : Int) < (s.length : Int) by omega), if_pos rfl, zac, g, Option.bind_some, Option.bind_some, zhM, Option.bind_some, List.drop_eq_getElem_cons hlt, List.all_cons]
        unfold zcT
        rw [zk (by omega), Option.bind_some, ih (i + 1) (by omega) (by omega)]
        cases h44 : s[i] == 44 with
        | true => rw [Bool.or_true, Bool.true_and]; rfl
        | false =>
          rw [Bool.or_false]
          cases hb : zbs s[i] with
          | true => rw [Bool.true_and]; rfl
          | false =>
            rw [zfF x hx fuel s (by unfold fuel; omega) hs ⟨s[i], List.getElem_mem _, hb⟩]
            rfl
      · have : i = s.length := by omega
        subst this
        rw [decide_eq_false (by omega), if_neg (by decide), List.drop_length]
        rfl
  have := key fuel 0 (Nat.zero_le _) (by unfold fuel; omega)
  rw [List.drop_zero] at this
  exact this
def ziD (o : Option Nat) : Int := match o with
  | none => -1
  | some i => (i : Int)
def zkn (f' : api_Field → api_Field) : Option Nat → List api_Field → List api_Field
  | none, l => l
  | some i, l => match l[i]? with
    | none => l
    | some f => l.set i (f' f)
def zpc (l : List api_Field) (nm x : Str) (o : Option Nat) : List api_Field := match o with
  | none => l ++ [⟨nm, x⟩]
  | some i => zkn (fun f => ⟨f.Name, zaH f.Value x⟩) (some i) l
theorem znX (l : List api_Field) (nm x : Str) (hn : nm.length < 1000000000) (hx : x.length < 1000000000) (hl : l.length < 1000000000) (hs : zfo 1000000000 l) (o : Option Nat) (ho : ∀ i, o = some i → i < l.length) :
    ∀ (n i : Nat), i ≤ l.length → l.length - i < n → zas l nm x (ziD o) n ((zkn (fun f => ⟨f.Name, zaH f.Value x⟩) o l).take i) (i : Int) = some (zpc l nm x o) := by
  have hul : (zkn (fun f => ⟨f.Name, zaH f.Value x⟩) o l).length = l.length := by
    unfold zkn
    cases o with
    | none => rfl
    | some i => dsimp only; split <;> simp
  intro n
  induction n with
  | zero => intro i _ h; omega
  | succ n ih =>
    intro i hi h
    rw [zas]
    by_cases hlt : i < l.length
    · have g : l[i]? = some l[i] := List.getElem?_eq_getElem hlt
      have hsm := hs l[i] (List.getElem_mem _)
      have hih := ih (i + 1) (by omega) (by omega)
      rw [decide_eq_true (show (i : Int) < (l.length : Int) by omega), if_pos rfl, zcH, g, Option.bind_some, zkm _ _ hsm.2 hx, Option.bind_some]
      unfold zcV
      rw [zk (by omega), Option.bind_some, if_pos (zcj (by simp; omega) (by simp; omega)), Option.bind_some, if_pos (zcj (by simp; omega) (by simp; omega))]
      have htake : (zkn (fun f => ⟨f.Name, zaH f.Value x⟩) o l).take (i + 1) = (zkn (fun f => ⟨f.Name, zaH f.Value x⟩) o l).take i ++ [if ((i : Int) == ziD o) = true then ⟨l[i].Name, zaH l[i].Value x⟩ else ⟨l[i].Name, l[i].Value⟩] := by
        rw [List.take_add_one]
        congr 1
        unfold zkn ziD
        cases o with
        | none =>
          have : ((i : Int) == -1) = false := beq_eq_false_iff_ne.2 (by omega)
          dsimp only
          rw [this, g, if_neg (by decide)]
          rfl
        | some j =>
          have hj := ho j rfl
          have gj : l[j]? = some l[j] := List.getElem?_eq_getElem hj
          dsimp only
          rw [gj]
          dsimp only
          by_cases hij : i = j
          · subst hij
            rw [List.getElem?_set_self hlt, beq_self_eq_true, if_pos rfl]
            rfl
          · have : ((i : Int) == (j : Int)) = false := beq_eq_false_iff_ne.2 (by omega)
            rw [List.getElem?_set_ne (fun e => hij e.symm), g, this, if_neg (by decide)]
            rfl
      rw [htake] at hih
      cases hq : ((i : Int) == ziD o) with
      | true => rw [hq, if_pos rfl] at hih; rw [if_pos rfl]; exact hih
      | false => rw [hq, if_neg (by decide)] at hih; rw [if_neg (by decide)]; exact hih
    · have : i = l.length := by omega
      subst this
      have htk : (zkn (fun f => ⟨f.Name, zaH f.Value x⟩) o l).take l.length = zkn (fun f => ⟨f.Name, zaH f.Value x⟩) o l := List.take_of_length_le (by omega)
      rw [decide_eq_false (by omega), if_neg (by decide), htk]
      unfold zcW
      cases o with
      | none =>
        rw [show ziD none = -1 from rfl, decide_eq_true (by decide), if_pos rfl, if_pos (zcj (by simp [zkn]; omega) (by simp [zkn]; omega))]
        rfl
      | some j =>
        rw [show ziD (some j) = (j : Int) from rfl, decide_eq_false (by omega), if_neg (by decide)]
        rfl
theorem zoV (p : api_Field → Bool) (l : List api_Field) (i : Nat) (x : api_Field) (h : l[i]? = some x) : zfE p l (i + 1) = if p x then some i else zfE p l i := by
  rw [zfE, h, Option.any_some]
theorem zko (l : List api_Field) (nm x : Str) (hn : nm.length < 1000000000) (hx : x.length < 1000000000) (hl : l.length < 1000000000) (hs : zfo 1000000000 l) : zeF l nm x = some (zdC l nm x) := by
  unfold zeF
  have key : ∀ (n i : Nat), i ≤ l.length → l.length - i < n → zat l nm x n (ziD (zfE (isN nm) l i)) (i : Int) = some (zdC l nm x) := by
    intro n
    induction n with
    | zero => intro i _ h; omega
    | succ n ih =>
      intro i hi h
      rw [zat]
      by_cases hlt : i < l.length
      · have g : l[i]? = some l[i] := List.getElem?_eq_getElem hlt
        have hsm := hs l[i] (List.getElem_mem _)
        have hih := ih (i + 1) (by omega) (by omega)
        rw [zoV _ _ _ _ g] at hih
        rw [decide_eq_true (show (i : Int) < (l.length : Int) by omega), if_pos rfl, zcH, g, Option.bind_some, zj4 _ _ hsm.1 hn, Option.bind_some]
        unfold zcU
        rw [zk (by omega), Option.bind_some, Option.bind_some]
        cases hq : isN nm l[i] with
        | true => rw [hq, if_pos rfl] at hih; rw [if_pos rfl]; exact hih
        | false => rw [hq, if_neg (by decide)] at hih; rw [if_neg (by decide)]; exact hih
      · have : i = l.length := by omega
        subst this
        have := znX l nm x hn hx hl hs (zfE (isN nm) l l.length) (fun i hi => (ziC hi).1) fuel 0 (Nat.zero_le _) (by unfold fuel; omega)
        rw [List.take_zero] at this
        rw [decide_eq_false (by omega), if_neg (by decide)]
        refine this.trans ?_
        unfold zdC zpc zkn
        cases zfE (isN nm) l l.length <;> rfl
  exact key fuel 0 (Nat.zero_le _) (by unfold fuel; omega)
theorem zg4 (l : List api_Field) (nm : Str) (hn : nm.length < 1000000000) (hl : l.length < 1000000000) (hs : zfo 1000000000 l) : zdL l nm = some ((l.filter (isN nm)).map (·.Value)) := by
  unfold zdL
  have key : ∀ (n i : Nat) (out : List Str), i ≤ l.length → l.length - i < n → out.length ≤ i → zau l nm n out (i : Int) = some (out ++ ((l.drop i).filter (isN nm)).map (·.Value)) := by
    intro n
    induction n with
    | zero => intro i _ _ h; omega
    | succ n ih =>
      intro i out hi h ho
      rw [zau]
      by_cases hlt : i < l.length
      · have g : l[i]? = some l[i] := List.getElem?_eq_getElem hlt
        have hsm := hs l[i] (List.getElem_mem _)
        rw [decide_eq_true (show (i : Int) < (l.length : Int) by omega), if_pos rfl, zcH, g, Option.bind_some, zj4 _ _ hsm.1 hn, Option.bind_some, Option.bind_some, if_pos (zcj (by omega) (by omega))]
        unfold zcX
        rw [zk (by omega), Option.bind_some, Option.bind_some, ih (i + 1) _ (by omega) (by omega) (by simp; omega), ih (i + 1) _ (by omega) (by omega) (by omega), List.drop_eq_getElem_cons hlt, List.filter_cons]
        cases isN nm l[i] with
        | true => simp
        | false => rfl
      · have : i = l.length := by omega
        subst this
        rw [decide_eq_false (by omega), if_neg (by decide), List.drop_length]
        simp
  have := key fuel 0 [] (Nat.zero_le _) (by unfold fuel; omega) (by simp)
  rw [List.drop_zero, List.nil_append] at this
  exact this
theorem zmA {α : Type} [BEq α] [LawfulBEq α] (a b : List α) (L : Nat → Int → Option Bool) (hl : a.length = b.length) (ha : a.length < 1000000000)
    (hE : ∀ n, L (n + 1) (a.length : Int) = some true) (hL : ∀ n (i : Nat) x y, i < a.length → a[i]? = some x → b[i]? = some y → L (n + 1) (i : Int) = if (x == y) = true then L n ((i + 1 : Nat) : Int) else some false) : L fuel 0 = some (a == b) := by
  have key : ∀ (n i : Nat), i ≤ a.length → a.length - i < n → L n (i : Int) = some (a.drop i == b.drop i) := by
    intro n
    induction n with
    | zero => intro i _ h; omega
    | succ n ih =>
      intro i hi h
      by_cases hlt : i < a.length
      · have g1 : a[i]? = some a[i] := List.getElem?_eq_getElem hlt
        have g2 : b[i]? = some (b[i]'(by omega)) := List.getElem?_eq_getElem (by omega)
        rw [hL n i _ _ hlt g1 g2, ih (i + 1) (by omega) (by omega), List.drop_eq_getElem_cons hlt, List.drop_eq_getElem_cons (show i < b.length by omega), List.cons_beq_cons]
        cases a[i] == b[i]'(by omega) <;> rfl
      · have : i = a.length := by omega
        subst this
        rw [hE, List.drop_length, List.drop_of_length_le (by omega)]
        rfl
  have := key fuel 0 (Nat.zero_le _) (by unfold fuel; omega)
  rw [List.drop_zero, List.drop_zero] at this
  exact this
theorem zma (a b : List api_Field) (ha : a.length < 1000000000) : zfX a b = some (a == b) := by
  unfold zfX
  by_cases hl : a.length = b.length
  · rw [hl, beq_self_eq_true, Bool.not_true, if_neg (by decide)]
    refine zmA a b (zbO a b) hl ha (fun n => ?_) (fun n i x y hi hx hy => ?_)
    · rw [zbO, decide_eq_false (by omega), if_neg (by decide)]
    · rw [zbO, decide_eq_true (by omega), if_pos rfl, zcH, hx, Option.bind_some, zcH, hy, Option.bind_some, zk (by omega), Option.bind_some]
      cases x == y <;> rfl
  · have : (((a.length : Int) == (b.length : Int))) = false := beq_eq_false_iff_ne.2 (by omega)
    have h2 : (a == b) = false := beq_eq_false_iff_ne.2 (fun e => hl (by rw [e]))
    rw [this, h2]; rfl
def cutF (f : api_Field) : api_Field := ⟨f.Name.take 400, f.Value.take 400⟩
def cutL (l : List api_Field) : List api_Field := (l.take 120).map cutF
theorem zeq (s : Str) : zdJ s = some (s.take 400) := by
  unfold zdJ
  have := zpf s 400
  rw [show ((400 : Nat) : Int) = 400 from rfl] at this
  rw [this, Option.bind_some]
theorem znf (h : api_Head) (hl : h.Fields.length < 1000000000) : zgG h = some ⟨h.Kind, h.Method.take 400, h.Target.take 400, h.Code, h.Reason.take 400, h.Minor, cutL h.Fields⟩ := by
  unfold zgG
  rw [zeq, Option.bind_some, zeq, Option.bind_some, zeq, Option.bind_some]
  have key : ∀ (n i : Nat) (out : List api_Field), i ≤ h.Fields.length → i ≤ 120 → h.Fields.length - i < n → out.length = i → zbE h (h.Method.take 400) (h.Target.take 400) (h.Reason.take 400) n out (i : Int) = some ⟨h.Kind, h.Method.take 400, h.Target.take 400, h.Code, h.Reason.take 400, h.Minor, out ++ ((h.Fields.drop i).take (120 - i)).map cutF⟩ := by
    intro n
    induction n with
    | zero => intro i _ _ _ h; omega
    | succ n ih =>
      intro i out hi h120 hn ho
      rw [zbE]
      unfold zeA
      by_cases hlt : i < h.Fields.length
      · have g : h.Fields[i]? = some h.Fields[i] := List.getElem?_eq_getElem hlt
        rw [decide_eq_true (show (i : Int) < (h.Fields.length : Int) by omega), if_pos rfl]
        by_cases h2 : i < 120
        · rw [decide_eq_true (show (i : Int) < 120 by omega), if_pos rfl, zcH, g, Option.bind_some, zeq, Option.bind_some, Option.bind_some, zeq, Option.bind_some, if_pos (zcj (by omega) (by omega)), zk (by omega), Option.bind_some, ih (i + 1) _ (by omega) (by omega) (by omega) (by simp; omega), List.drop_eq_getElem_cons hlt, show 120 - i = (120 - (i + 1)) + 1 by omega, List.take_succ_cons]
          simp [cutF]
        · have : i = 120 := by omega
          subst this
          rw [decide_eq_false (by omega), if_neg (by decide)]
          simp
      · have : i = h.Fields.length := by omega
        rw [decide_eq_false (by omega), if_neg (by decide), if_neg (by decide), this, List.drop_length]
        simp
  have := key fuel 0 [] (Nat.zero_le _) (by decide) (by unfold fuel; omega) rfl
  exact this
theorem zqY (l : List api_Field) : (cutL l).length ≤ 120 := by unfold cutL; simp; omega
theorem zoW (l : List api_Field) : zfo 401 (cutL l) := by
  intro f hf
  unfold cutL at hf
  obtain ⟨g, _, rfl⟩ := List.mem_map.1 hf
  unfold cutF
  simp; omega
theorem zdg {m n : Nat} (h : m ≤ n) {l : List api_Field} (hs : zfo m l) : zfo n l := fun f hf => by have := hs f hf; omega
end Go.Dm
end
section
namespace Go.Dm
def zkt (c : UInt8) : Bool := zei c || c == 58 || c == 46
theorem zr8 (c : UInt8) : (!zdN c || zkt c) = true := zT (fun c => !zdN c || zkt c) (by decide +kernel) c
theorem zr9 (c : UInt8) : (!zei c || zkt c) = true := zT (fun c => !zei c || zkt c) (by decide +kernel) c
theorem zkb {s : Str} {m : Int} (h : zb0 s m = true) : s.all zkt = true := by
  unfold zb0 at h
  simp only [Bool.and_eq_true, beq_iff_eq] at h
  have h1 := h.1
  unfold zc8 at h1
  split at h1
  · cases h1
  · rename_i h2
    simp only [Bool.or_eq_true, Bool.not_eq_true', not_or] at h2
    have h3 : s.all (zgy 10) = true := by simpa using h2.2
    refine List.all_eq_true.2 fun x hx => ?_
    have h4 : zdN x = true := List.all_eq_true.1 h3 x hx
    have := zr8 x
    rw [h4] at this
    simpa using this
theorem zgA {p : UInt8 → Bool} {c : UInt8} (hc : p c = true) : ∀ {s : Str}, (∀ x ∈ zf c s, x.all p = true) → s.all p = true
  | [], _ => rfl
  | y :: s, h => by
    rw [zaI] at h
    split at h
    · rename_i e
      subst e
      rw [List.all_cons, hc, Bool.true_and]
      exact zgA hc fun x hx => h x (List.mem_cons_of_mem _ hx)
    · cases hs : zf c s with
      | nil => exact absurd hs (za3 c s)
      | cons a l =>
        rw [hs] at h
        have h1 := h (y :: a) (List.mem_cons_self ..)
        rw [List.all_cons] at h1
        simp only [Bool.and_eq_true] at h1
        rw [List.all_cons, h1.1, Bool.true_and]
        refine zgA hc fun x hx => ?_
        rw [hs] at hx
        rcases List.mem_cons.1 hx with rfl | hx
        · exact h1.2
        · exact h x (List.mem_cons_of_mem _ hx)
theorem zlG {s : Str} (h : zc6 s = true) : s.all zkt = true ∧ s ≠ [] := by
  refine ⟨?_, ?_⟩
  · unfold zc6 at h
    simp only [Bool.and_eq_true] at h
    exact zgA (by decide) fun x hx => zkb (List.all_eq_true.1 h.1 x hx)
  · rintro rfl
    revert h
    simp [zc6, zf]
theorem zpl {s : Str} (h : grp s = true) : s.all zkt = true := by
  unfold grp at h
  simp only [Bool.and_eq_true] at h
  refine List.all_eq_true.2 fun x hx => ?_
  have h4 : zei x = true := List.all_eq_true.1 h.2 x hx
  have := zr9 x
  rw [h4] at this
  simpa using this
theorem ziI (last : Bool) : ∀ {l : List Str} {k : Nat}, zz last l = some k → ∀ x ∈ l, x.all zkt = true
  | [], _, _, x, hx => by cases hx
  | [y], k, h, x, hx => by
    have : x = y := by simpa using hx
    subst this
    rw [zfH] at h
    split at h
    · rename_i h2
      simp only [Bool.and_eq_true] at h2
      exact (zlG h2.2).1
    · split at h
      · rename_i h3; exact zpl h3
      · cases h
  | y :: z :: l, k, h, x, hx => by
    rw [ze8] at h
    split at h
    · rename_i h2
      obtain ⟨m, hm, _⟩ := Option.map_eq_some_iff.1 h
      rcases List.mem_cons.1 hx with rfl | hx
      · exact zpl h2
      · exact ziI last hm x hx
    · cases h
theorem zlH {last : Bool} {s : Str} {k : Nat} (h : zz last (zaa s) = some k) : s.all zkt = true := by
  unfold zaa at h
  split at h
  · rename_i e; subst e; rfl
  · exact zgA (by decide) fun x hx => ziI last h x hx
theorem zp2 {s : Str} (h : zj5 s = true) : s.all zkt = true ∧ s ≠ [] := by
  unfold zj5 at h
  cases hc : zdR [58, 58] s with
  | none =>
    rw [hc] at h
    dsimp only at h
    unfold zd1 at h
    have hw : zz true (zf 58 s) = some 8 := by simpa using h
    refine ⟨zgA (by decide) fun x hx => ziI true hw x hx, ?_⟩
    rintro rfl
    revert h
    decide
  | some p =>
    rw [hc] at h
    dsimp only at h
    have e := zfG (a := p.1) (b := p.2) hc
    refine ⟨?_, by rw [e]; simp⟩
    cases h1 : zz false (zaa p.1) with
    | none => rw [h1] at h; cases h
    | some a =>
      cases h2 : zz true (zaa p.2) with
      | none => rw [h1, h2] at h; cases h
      | some b =>
        rw [e, List.all_append, List.all_append, zlH h1, zlH h2]
        decide
theorem zlI {s : Str} {l : List Str} (h : zcd s = some l) : l.length ≤ s.length + 1 ∧ ∀ x ∈ l, x.length ≤ s.length := by
  unfold zcd at h
  obtain ⟨m, hm, rfl⟩ := Option.map_eq_some_iff.1 h
  have key : ∀ (s : Str) (k : Nat) (cur : Str) (m : List Str), zc7 k cur s = some m → m.length ≤ s.length + 1 ∧ ∀ x ∈ m, x.length ≤ cur.length + s.length := by
    intro s
    induction s with
    | nil => intro k cur m h; rw [zel] at h; cases h; simp
    | cons c r ih =>
      intro k cur m h
      have one : ∀ k, zc7 k (cur ++ [c]) r = some m → m.length ≤ (c :: r).length + 1 ∧ ∀ x ∈ m, x.length ≤ cur.length + (c :: r).length := fun k h => by
        have := ih k _ m h
        simp only [List.length_cons, List.length_append, List.length_nil] at *
        exact ⟨by omega, fun x hx => by have := this.2 x hx; omega⟩
      cases k with
      | succ k => exact one k h
      | zero =>
        cases h1 : (c == 34 || c == 40) with
        | true =>
          rw [zgN cur r h1] at h
          split at h
          · cases h
          · exact one _ h
        | false =>
          cases h2 : c == 44 with
          | true =>
            have : c = 44 := by simpa using h2
            subst this
            rw [zda] at h
            obtain ⟨m', hm', rfl⟩ := Option.map_eq_some_iff.1 h
            have := ih 0 [] m' hm'
            simp only [List.length_cons, List.length_nil] at *
            refine ⟨by omega, fun x hx => ?_⟩
            rcases List.mem_cons.1 hx with rfl | hx
            · omega
            · have := this.2 x hx; omega
          | false => rw [zdb cur r h1 h2] at h; exact one 0 h
  have := key s 0 [] m hm
  unfold elems
  refine ⟨?_, fun x hx => ?_⟩
  · have h1 := List.length_filter_le (fun x : Str => !(x == [])) (m.map zeU)
    rw [List.length_map] at h1
    omega
  · have h1 := (List.mem_filter.1 hx).1
    obtain ⟨y, hy, rfl⟩ := List.mem_map.1 h1
    have := this.2 y hy
    have := zsd y
    simp at *
    omega
theorem zrq (l : List api_Field) (i : Nat) (f : api_Field) (h : l[i]? = some f) : l = l.take i ++ f :: l.drop (i + 1) := by
  obtain ⟨h1, h2⟩ := List.getElem?_eq_some_iff.1 h
  have := (List.take_append_drop i l).symm
  rw [List.drop_eq_getElem_cons h1, h2] at this
  exact this
theorem set_at (l : List api_Field) (i : Nat) (f g : api_Field) (h : l[i]? = some f) : l.set i g = l.take i ++ g :: l.drop (i + 1) := by
  obtain ⟨h1, _⟩ := List.getElem?_eq_some_iff.1 h
  rw [List.set_eq_take_append_cons_drop, if_pos h1]
theorem zgX (l : List api_Field) (nm x : Str) : (l.filter (isN nm) = [] ∧ zdC l nm x = l ++ [⟨nm, x⟩]) ∨
    ∃ a f b, l = a ++ f :: b ∧ isN nm f = true ∧ b.filter (isN nm) = [] ∧ zdC l nm x = a ++ ⟨f.Name, zaH f.Value x⟩ :: b := by
  unfold zdC
  cases h : zfE (isN nm) l l.length with
  | none =>
    left
    refine ⟨?_, rfl⟩
    rw [List.filter_eq_nil_iff]
    intro g hg
    obtain ⟨j, hj, hg⟩ := List.getElem_of_mem hg
    have := zle h j hj g (by rw [← hg]; exact List.getElem?_eq_getElem hj)
    rw [this]; decide
  | some i =>
    right
    obtain ⟨h1, f, h2, h3, h4⟩ := ziC h
    dsimp only
    rw [h2]
    refine ⟨l.take i, f, l.drop (i + 1), zrq l i f h2, h3, ?_, set_at l i f _ h2⟩
    rw [List.filter_eq_nil_iff]
    intro g hg
    obtain ⟨j, hj, hg⟩ := List.getElem_of_mem hg
    simp only [List.length_drop] at hj
    rw [List.getElem_drop] at hg
    have := h4 (i + 1 + j) (by omega) (by omega) g (by rw [← hg]; exact List.getElem?_eq_getElem (by omega))
    rw [this]; decide
theorem zok (s x : Str) : (zaH s x).length ≤ s.length + x.length + 2 := by
  unfold zaH
  have := zlT s
  split
  · omega
  · simp; omega
theorem znq {l : List api_Field} {nm x : Str} {m : Nat} (hs : zfo m l) (hn : nm.length < m) : zfo (m + x.length + 2) (zdC l nm x) := by
  rcases zgX l nm x with ⟨_, h2⟩ | ⟨a, f, b, h1, _, _, h4⟩
  · rw [h2]
    intro g hg
    rcases List.mem_append.1 hg with hg | hg
    · have := hs g hg; omega
    · have : g = ⟨nm, x⟩ := by simpa using hg
      subst this
      dsimp only; omega
  · rw [h4]
    intro g hg
    rcases List.mem_append.1 hg with hg | hg
    · have := hs g (by rw [h1]; simp [hg]); omega
    · rcases List.mem_cons.1 hg with rfl | hg
      · have := hs f (by rw [h1]; simp)
        have := zok f.Value x
        dsimp only; omega
      · have := hs g (by rw [h1]; simp [hg]); omega
theorem zlJ (l : List api_Field) (nm x : Str) : (zdC l nm x).length ≤ l.length + 1 := by
  rcases zgX l nm x with ⟨_, h2⟩ | ⟨a, f, b, h1, _, _, h4⟩
  · rw [h2]; simp
  · rw [h4, h1]; simp
end Go.Dm
end
