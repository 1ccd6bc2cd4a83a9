/-
  The models' words: partial operations as functions into Option. No program in sight.
  The models of the functions: written by a program (wip/gen) off the translation. No program in sight.
  The library's functions as the models say them, and as the library's contracts say them. No program in sight.
  Plain tools for the laws: the partial operations at natural numbers, loops over lists. No program in sight.
  Layer 1 (bytes): what the program's and the reference's models come to.
  Layer 3 (numbers): reading and writing: the program's and the document's come to the same. No program in sight.
-/
import Derived.Lib.ItoaNum
import Derived.Lib.SplitLaws
import Derived.Lib.SlTrimSet
import Derived.Lib.Join
import Derived.Lib.IndexMore
import Derived.Lib.Bytealg
import Derived.Lib.Index
import Derived.Lib.IndexAny
section
namespace Go.Dm
abbrev Str := List UInt8

def inI (n : Int) : Bool := decide (-9223372036854775808 ≤ n) && decide (n ≤ 9223372036854775807)
theorem zgc {n : Int} : inI n = true ↔ -9223372036854775808 ≤ n ∧ n ≤ 9223372036854775807 := by simp [inI]

def zO (m n : Int) : Option Int := if inI (m + n) then some (m + n) else none
def zd8 (m n : Int) : Option Int := if inI (m - n) then some (m - n) else none
def zoZ (m n : Int) : Option Int := if inI (m * n) then some (m * n) else none
def zo0 (m n : Int) : Option Int := if 0 ≤ m ∧ 1 ≤ n ∧ inI (m / n) = true then some (m / n) else none
def zqQ (m n : Int) : Option Int := if 0 ≤ m ∧ 1 ≤ n ∧ inI (m % n) = true then some (m % n) else none
def sAt (l : Str) (i : Int) : Option UInt8 := if 0 ≤ i then l[i.toNat]? else none
def sTo (l : Str) (h : Int) : Option Str := if 0 ≤ h ∧ h ≤ l.length then some (l.take h.toNat) else none
def zbB (l : Str) (i : Int) : Option Str := if 0 ≤ i ∧ i ≤ l.length then some (l.drop i.toNat) else none
def zgG (l : Str) (i h : Int) : Option Str := if 0 ≤ i ∧ i ≤ h ∧ h ≤ l.length then some ((l.take h.toNat).drop i.toNat) else none
def zds (l m : Str) : Option Str := if l.length + m.length ≤ 9223372036854775807 then some (l ++ m) else none
def lAt {α : Type} (l : List α) (i : Int) : Option α := if 0 ≤ i then l[i.toNat]? else none
def zpT {α : Type} (l : List α) (i : Int) : Option (List α) := if 0 ≤ i ∧ i ≤ l.length then some (l.drop i.toNat) else none
def zaO (n m bytes : Nat) : Bool := decide (n + m ≤ 9223372036854775807) && decide ((n + m) * bytes ≤ 140737488355328)
theorem og {α : Type} {b : Bool} {x : Option α} {r : α} (h : (if b = true then x else none) = some r) : b = true ∧ x = some r := by
  cases b with
  | false => cases h
  | true => exact ⟨rfl, h⟩
theorem zcg (b : Bool) : b = true ∨ b = false := by cases b <;> simp
theorem ob {α β : Type} {m : Option α} {f : α → Option β} {r : β} (h : m.bind f = some r) : ∃ x, m = some x ∧ f x = some r := by
  cases m with
  | none => cases h
  | some x => exact ⟨x, rfl, h⟩
theorem it {α : Type} {b : Bool} {x y : Option α} {r : α} (hb : b = true) (h : (if b = true then x else y) = some r) : x = some r := by rwa [if_pos hb] at h
theorem ie {α : Type} {b : Bool} {x y : Option α} {r : α} (hb : b = false) (h : (if b = true then x else y) = some r) : y = some r := by rwa [if_neg (by simp [hb])] at h

def zlU : Str → Str → Bool
  | _, [] => false
  | [], _ :: _ => true
  | a :: x, b :: y => a < b || (a == b && zlU x y)
def fuel : Nat := 1000000000000000000
end Go.Dm
end
section
set_option linter.unusedVariables false
set_option maxRecDepth 10000
namespace Go.Dm
structure api_Field where
  Name : Str
  Value : Str
deriving DecidableEq
structure api_Head where
  Kind : Int
  Method : Str
  Target : Str
  Code : Int
  Reason : Str
  Minor : Int
  Fields : List api_Field
deriving DecidableEq
structure scan_Scanner where
  f_s : Str
  f_at : Int
deriving DecidableEq
structure startline_line where
  Scanner : scan_Scanner
deriving DecidableEq
structure api_Host where
  Kind : Int
  Name : Str
  Port : Int
deriving DecidableEq
structure api_Target where
  Kind : Int
  Scheme : Str
  Host : api_Host
  Path : Str
  Query : Str
  HasQuery : Bool
deriving DecidableEq
structure bag_Bag where
  f_l : List api_Field
deriving DecidableEq
structure quill_Quill where
  f_b : List UInt8
  f_most : Int
deriving DecidableEq
structure head_printer where
  Quill : quill_Quill
  f_full : Bool
deriving DecidableEq
def zgO : Str → UInt8 → Nat → Int
  | [], _, _ => -1
  | x :: l, c, k => if x == c then (k : Int) else zgO l c (k + 1)
def strings_IndexByte (s : Str) (c : UInt8) : Option Int := some (zgO s c 0)
def zkm : Str → Str → Bool
  | _, [] => true
  | [], _ :: _ => false
  | x :: s, y :: t => x == y && zkm s t
def zhd : Str → Str → Nat → Int
  | s, t, k => if zkm s t then (k : Int) else match s with
    | [] => -1
    | _ :: s => zhd s t (k + 1)
def strings_Index (s t : Str) : Option Int := if s.length < 4294967281 then some (zhd s t 0) else none
def strings_Cut (s t : Str) : Option (Str × Str × Bool) := if s.length < 4294967281 then some (Go.Lib.cut s t) else none
def zjc : Str → Str → Nat → Int
  | [], _, _ => -1
  | x :: l, cs, k => if cs.contains x then (k : Int) else zjc l cs (k + 1)
def strings_IndexAny (s cs : Str) : Option Int := if s.length < 4294967281 ∧ cs.length < 4294967281 ∧ cs.all (fun c => c.toNat < 128) then some (zjc s cs 0) else none
def strings_Split (s sep : Str) : Option (List Str) := if s.length < 4294967281 ∧ 1 ≤ sep.length then some (Go.Lib.splitK sep 0 (Go.Lib.countB ⟨s.toArray⟩ ⟨sep.toArray⟩) s) else none
def zh (c : UInt8) : Str → List Str
  | [] => [[]]
  | x :: s => if x = c then [] :: zh c s else match zh c s with
    | [] => [[x]]
    | h :: t => (x :: h) :: t
def zdx (n b : Int) : Option Str := if inI n = true ∧ b = 10 then some (Go.Lib.itoa n) else none
def zd9 (s cs : Str) : Option Str := if s.length < 4294967281 ∧ cs.length < 4294967281 ∧ cs.all (fun c => c.toNat < 128) then some (Go.Lib.trimS s cs) else none
def strings_Join (l : List Str) (sep : Str) : Option Str := if l.length ≤ 140737488355328 ∧ (Go.Lib.join l sep).length ≤ 140737488355328 then some (Go.Lib.join l sep) else none
def strings_ContainsAny (x_s : Str) (x_chars : Str) : Option Bool :=
  (strings_IndexAny x_s x_chars).bind fun r2 =>
  some (decide (0 ≤ r2))

def zF (x_s : Str) (x_c : UInt8) : Nat → Int → Option Int
  | 0, _ => none
  | n + 1, i4 =>
  if (decide (0 ≤ i4)) then ((sAt x_s i4).bind fun b8 =>
  if (b8 == x_c) then (some i4) else ((zd8 i4 1).bind fun i13 =>
  (zF x_s x_c n) i13)) else (some (-1))

def za3 (x_s : Str) (x_c : UInt8) : Option Int :=
  (zd8 (x_s.length : Int) 1).bind fun i2 =>
  zF x_s x_c fuel i2

def zaq (x_s : Str) (x_c : UInt8) : Option Int :=
  (za3 x_s x_c).bind fun r2 =>
  some r2

def zhe (x_s : Str) : Option scan_Scanner :=
  some (⟨x_s, 0⟩ : scan_Scanner)

def zR (x_c : scan_Scanner) : Option Str :=
  (zbB x_c.f_s x_c.f_at).bind fun s4 =>
  some s4

def zan (t4 : Bool) : Option Bool :=
  some t4

def stringslite_HasPrefix (x_s : Str) (x_prefix : Str) : Option Bool :=
  if (decide ((x_prefix.length : Int) ≤ (x_s.length : Int))) then ((sTo x_s (x_prefix.length : Int)).bind fun s3 =>
  zan (s3 == x_prefix)) else (zan false)

def strings_HasPrefix (x_s : Str) (x_prefix : Str) : Option Bool :=
  (stringslite_HasPrefix x_s x_prefix).bind fun r2 =>
  some r2

def zbD (x_c : scan_Scanner) (x_t : Str) : Option (Bool × scan_Scanner) :=
  (zR x_c).bind fun r2 =>
  (strings_HasPrefix r2 x_t).bind fun r3 =>
  if (!r3) then (some (false, x_c)) else ((zO x_c.f_at (x_t.length : Int)).bind fun i9 =>
  some ((true, (⟨x_c.f_s, i9⟩ : scan_Scanner))))

def zaW (x_c : scan_Scanner) : Option Bool :=
  (zR x_c).bind fun r2 =>
  some (r2 == [])

def zU (x_c : scan_Scanner) : Option (UInt8 × Bool) :=
  (zaW x_c).bind fun r2 =>
  if r2 then (some (0, false)) else ((sAt x_c.f_s x_c.f_at).bind fun b7 =>
  some (b7, true))

def zea (t3 : Bool) : Option Bool :=
  some t3

def zW (x_b : UInt8) : Option Bool :=
  if (decide (48 ≤ x_b)) then (zea (decide (x_b ≤ 57))) else (zea false)

def zbt (x_c : scan_Scanner) (t5 : Bool) : Option (Bool × scan_Scanner) :=
  if t5 then (some (false, x_c)) else ((zO x_c.f_at 1).bind fun i9 =>
  some ((true, (⟨x_c.f_s, i9⟩ : scan_Scanner))))

def zD (x_c : scan_Scanner) (x_b : UInt8) : Option (Bool × scan_Scanner) :=
  (zU x_c).bind fun r2 =>
  if (!r2.2) then (zbt x_c true) else (zbt x_c (!(r2.1 == x_b)))

def zaX (x_p : startline_line) (r3 : UInt8 × Bool) (t7 : Bool) : Option (Int × Bool × scan_Scanner) :=
  if t7 then (some (0, false, x_p.Scanner)) else ((zD x_p.Scanner r3.1).bind fun r11 =>
  some ((((r3.1 - 48).toNat : Int), true, r11.2)))

def zaY (x_p : startline_line) : Option (Int × Bool × scan_Scanner) :=
  (zU x_p.Scanner).bind fun r3 =>
  if (!r3.2) then (zaX x_p r3 true) else ((zW r3.1).bind fun r6 =>
  zaX x_p r3 (!r6))

def zaB (r9 : Int × Bool × scan_Scanner) (r15 : Int × Bool × scan_Scanner) (t20 : Bool) : Option (Int × Int × Bool × scan_Scanner) :=
  some (r9.1, r15.1, t20, r15.2.2)

def zaz (x_p : startline_line) : Option (Int × Int × Bool × scan_Scanner) :=
  (zbD x_p.Scanner [72, 84, 84, 80, 47]).bind fun r3 =>
  if (!r3.1) then (some (0, 0, false, r3.2)) else ((zaY (⟨r3.2⟩ : startline_line)).bind fun r9 =>
  (zD r9.2.2 46).bind fun r12 =>
  (zaY (⟨r12.2⟩ : startline_line)).bind fun r15 =>
  if r9.2.1 then (if r12.1 then (zaB r9 r15 r15.2.1) else (zaB r9 r15 false)) else (zaB r9 r15 false))

def zaS (t13 : Bool) : Option Bool :=
  some t13

def zch (x_s : Str) : Option Bool :=
  (zhe x_s).bind fun r2 =>
  (zaz (⟨r2⟩ : startline_line)).bind fun r6 =>
  if r6.2.2.1 then ((zaW r6.2.2.2).bind fun r10 =>
  if r10 then (if (!(r6.1 == 1)) then (zaS true) else (zaS (decide (1 < r6.2.1)))) else (zaS false)) else (zaS false)

def zeK (x_c : scan_Scanner) : Option Int :=
  some x_c.f_at

def zbi (r2 : Int) (s14 : Str) (i15 : Int) : Option (Str × scan_Scanner) :=
  (zgG s14 r2 i15).bind fun s18 =>
  some ((s18, (⟨s14, i15⟩ : scan_Scanner)))

def zaG (rec1 : Str → Int → Option (Str × scan_Scanner)) (r2 : Int) (s4 : Str) (i5 : Int) (t10 : Bool) : Option (Str × scan_Scanner) :=
  if t10 then (zbi r2 s4 i5) else ((zO i5 1).bind fun i13 =>
  rec1 s4 i13)

def zL (x_is : UInt8 → Option Bool) (r2 : Int) : Nat → Str → Int → Option (Str × scan_Scanner)
  | 0, _, _ => none
  | n + 1, s4, i5 =>
  (zU (⟨s4, i5⟩ : scan_Scanner)).bind fun r6 =>
  if (!r6.2) then (zaG (zL x_is r2 n) r2 s4 i5 true) else ((x_is r6.1).bind fun r9 =>
  zaG (zL x_is r2 n) r2 s4 i5 (!r9))

def zae (x_c : scan_Scanner) (x_is : UInt8 → Option Bool) : Option (Str × scan_Scanner) :=
  (zeK x_c).bind fun r2 =>
  zL x_is r2 fuel x_c.f_s x_c.f_at

def zfk (x_b : UInt8) (t3 : Bool) : Option UInt8 :=
  if t3 then (some (x_b + 32)) else (some x_b)

def zaE (x_b : UInt8) : Option UInt8 :=
  if (decide (65 ≤ x_b)) then (zfk x_b (decide (x_b ≤ 90))) else (zfk x_b false)

def zeb (t5 : Bool) : Option Bool :=
  some t5

def zgf (x_b : UInt8) : Option Bool :=
  (zaE x_b).bind fun r2 =>
  if (decide (97 ≤ r2)) then ((zaE x_b).bind fun r4 =>
  zeb (decide (r4 ≤ 122))) else (zeb false)

def zgX (x_b : UInt8) (x_l : Str) : Option Bool :=
  (strings_IndexByte x_l x_b).bind fun r2 =>
  some (decide (0 ≤ r2))

def zcJ (t7 : Bool) : Option Bool :=
  some t7

def zbV (x_b : UInt8) : Option Bool :=
  (zgf x_b).bind fun r2 =>
  if r2 then (zcJ true) else ((zW x_b).bind fun r4 =>
  if r4 then (zcJ true) else ((zgX x_b [33, 35, 36, 37, 38, 39, 42, 43, 45, 46, 94, 95, 96, 124, 126]).bind fun r6 =>
  zcJ r6))

def zbk (x_c : scan_Scanner) : Option (Str × Bool × scan_Scanner) :=
  (zae x_c zbV).bind fun r2 =>
  some ((r2.1, !(r2.1 == []), r2.2))

def zbO (x_b : UInt8) : Option Bool :=
  some (!(x_b == 32))

def zaZ (r3 : Int × Int × Bool × scan_Scanner) (t8 : Bool) : Option (Int × Bool × scan_Scanner) :=
  some (r3.2.1, t8, r3.2.2.2)

def za0 (x_p : startline_line) : Option (Int × Bool × scan_Scanner) :=
  (zaz x_p).bind fun r3 =>
  if r3.2.2.1 then (if (r3.1 == 1) then (zaZ r3 (decide (r3.2.1 ≤ 1))) else (zaZ r3 false)) else (zaZ r3 false)

def zbQ (rec1 : Int → Option Bool) (x_is : UInt8 → Option Bool) (i3 : Int) (x7 : Str) : Nat → Int → Option Bool
  | 0, _ => none
  | n + 1, i12 =>
  if (decide (i12 < (x7.length : Int))) then ((sAt x7 i12).bind fun b17 =>
  (x_is b17).bind fun r18 =>
  if (!r18) then (some false) else ((zO i12 1).bind fun i23 =>
  (zbQ rec1 x_is i3 x7 n) i23)) else ((zO i3 1).bind fun i25 =>
  rec1 i25)

def zbR (x_is : UInt8 → Option Bool) (x_l : List Str) : Nat → Int → Option Bool
  | 0, _ => none
  | n + 1, i3 =>
  if (decide (i3 < (x_l.length : Int))) then ((lAt x_l i3).bind fun x7 =>
  zbQ (zbR x_is x_l n) x_is i3 x7 fuel 0) else (some true)

def zci (x_is : UInt8 → Option Bool) (x_l : List Str) : Option Bool :=
  zbR x_is x_l fuel 0

def zeu (x_b : UInt8) : Option Int :=
  (zW x_b).bind fun r2 =>
  if r2 then (some (((x_b - 48).toNat : Int))) else ((zaE x_b).bind fun r7 =>
  (zO (((r7 - 97).toNat : Int)) 10).bind fun i8 =>
  some i8)

def zcj (rec2 : Int → Int → Option (Int × Int)) (x_base : Int) (i11 : Int) (i12 : Int) (r18 : Int) (t23 : Bool) : Option (Int × Int) :=
  if t23 then (some (0, 7)) else ((zoZ i11 x_base).bind fun i27 =>
  (zO i27 r18).bind fun i28 =>
  (zO i12 1).bind fun i30 =>
  rec2 i28 i30)

def zax (x_s : Str) (x_base : Int) (x_most : Int) : Nat → Int → Int → Option (Int × Int)
  | 0, _, _ => none
  | n + 1, i11, i12 =>
  if (decide (i12 < (x_s.length : Int))) then ((sAt x_s i12).bind fun b17 =>
  (zeu b17).bind fun r18 =>
  if (decide (x_most < r18)) then (zcj (zax x_s x_base x_most n) x_base i11 i12 r18 true) else ((zd8 x_most r18).bind fun i21 =>
  (zo0 i21 x_base).bind fun i22 =>
  zcj (zax x_s x_base x_most n) x_base i11 i12 r18 (decide (i22 < i11)))) else (some (i11, 0))

def zck (x_s : Str) (x_base : Int) (x_most : Int) (t5 : Bool) : Option (Int × Int) :=
  if t5 then (some (0, 2)) else (zax x_s x_base x_most fuel 0 0)

def zfl (x_s : Str) (x_base : Int) (x_most : Int) (x_is : UInt8 → Option Bool) : Option (Int × Int) :=
  if (x_s == []) then (zck x_s x_base x_most true) else ((zci x_is ([x_s] : List Str)).bind fun r4 =>
  zck x_s x_base x_most (!r4))

def zbJ (x_s : Str) (x_most : Int) : Option (Int × Int) :=
  (zfl x_s 10 x_most zW).bind fun r2 =>
  some (r2.1, r2.2)

def zgP (x_n : Int) (x_base : Int) : Option Str :=
  if (decide (x_n < 0)) then (some []) else ((zdx x_n x_base).bind fun r6 =>
  some r6)

def zcX (x_n : Int) : Option Str :=
  (zgP x_n 10).bind fun r2 =>
  some r2

def zbE (t6 : Bool) : Option Bool :=
  some t6

def zb7 (x_s : Str) (x_most : Int) : Option Bool :=
  (zbJ x_s x_most).bind fun r2 =>
  if (r2.2 == 0) then ((zcX r2.1).bind fun r5 =>
  zbE (r5 == x_s)) else (zbE false)

def zdg (s : Str) : Option Bool := if s.length < 1000000000 then ((zh 46 s).mapM (fun x => zb7 x 255)).bind fun bs => some (bs.all id && decide ((bs.length : Int) = 4)) else none

def zdI (t7 : Bool) : Option Bool :=
  some t7

def zbW (x_b : UInt8) : Option Bool :=
  (zW x_b).bind fun r2 =>
  if r2 then (zdI true) else ((zaE x_b).bind fun r4 =>
  if (decide (97 ≤ r4)) then ((zaE x_b).bind fun r6 =>
  zdI (decide (r6 ≤ 102))) else (zdI false))

def zbl (rec1 : Int → Int → Option Int) (i13 : Int) (i36 : Int) : Option Int :=
  (zO i13 1).bind fun i37 =>
  rec1 i36 i37

def zaT (rec1 : Int → Int → Option Int) (i12 : Int) (i13 : Int) (t32 : Bool) : Option Int :=
  if t32 then ((zO i12 1).bind fun i34 =>
  zbl rec1 i13 i34) else (some (-1))

def zaU (rec1 : Int → Int → Option Int) (i12 : Int) (i13 : Int) (x17 : Str) (t25 : Bool) : Option Int :=
  if t25 then ((zO i12 2).bind fun i27 =>
  zbl rec1 i13 i27) else (if (decide (1 ≤ (x17.length : Int))) then (if (decide ((x17.length : Int) ≤ 4)) then ((zci zbW ([x17] : List Str)).bind fun r31 =>
  zaT rec1 i12 i13 r31) else (zaT rec1 i12 i13 false)) else (zaT rec1 i12 i13 false))

def zG (x_last : Bool) (r6 : List Str) : Nat → Int → Int → Option Int
  | 0, _, _ => none
  | n + 1, i12, i13 =>
  if (decide (i13 < (r6.length : Int))) then ((lAt r6 i13).bind fun x17 =>
  if x_last then ((zd8 (r6.length : Int) 1).bind fun i22 =>
  if (i13 == i22) then ((zdg x17).bind fun r24 =>
  zaU (zG x_last r6 n) i12 i13 x17 r24) else (zaU (zG x_last r6 n) i12 i13 x17 false)) else (zaU (zG x_last r6 n) i12 i13 x17 false)) else (some i12)

def zbK (x_s : Str) (x_last : Bool) : Option Int :=
  if (x_s == []) then (some 0) else ((strings_Split x_s [58]).bind fun r6 =>
  zG x_last r6 fuel 0 0)

def zbg (t15 : Bool) : Option Bool :=
  some t15

def zec (x_s : Str) : Option Bool :=
  (strings_Cut x_s [58, 58]).bind fun r2 =>
  if (!r2.2.2) then ((zbK x_s true).bind fun r6 =>
  some (r6 == 8)) else ((zbK r2.1 false).bind fun r9 =>
  (zbK r2.2.1 true).bind fun r10 =>
  if (decide (0 ≤ r9)) then (if (decide (0 ≤ r10)) then ((zO r9 r10).bind fun i14 =>
  zbg (decide (i14 ≤ 7))) else (zbg false)) else (zbg false))

def z7 (t8 : Bool) : Option Bool :=
  some t8

def zed (x_s : Str) : Option Bool :=
  if (decide (3 ≤ (x_s.length : Int))) then ((sAt x_s 0).bind fun b3 =>
  if (b3 == 37) then ((zgG x_s 1 3).bind fun s5 =>
  (zci zbW ([s5] : List Str)).bind fun r7 =>
  z7 r7) else (z7 false)) else (z7 false)

def zbj (t7 : Bool) : Option Bool :=
  some t7

def zbm (x_b : UInt8) : Option Bool :=
  (zgf x_b).bind fun r2 =>
  if r2 then (zbj true) else ((zW x_b).bind fun r4 =>
  if r4 then (zbj true) else ((zgX x_b [45, 46, 95, 126]).bind fun r6 =>
  zbj r6))

def ze0 (x_b : UInt8) : Option Bool :=
  (zgX x_b [33, 36, 38, 39, 40, 41, 42, 43, 44, 59, 61]).bind fun r2 =>
  some r2

def zcK (rec1 : Str → Option Bool) (s6 : Str) (t19 : Bool) : Option Bool :=
  if t19 then ((zbB s6 1).bind fun s21 =>
  rec1 s21) else (some false)

def zao : Nat → Str → Option Bool
  | 0, _ => none
  | n + 1, s6 =>
  if (!(s6 == [])) then ((zed s6).bind fun r10 =>
  if r10 then ((zbB s6 3).bind fun s13 =>
  (zao n) s13) else ((sAt s6 0).bind fun b14 =>
  (zbm b14).bind fun r15 =>
  if r15 then (zcK (zao n) s6 true) else ((sAt s6 0).bind fun b17 =>
  (ze0 b17).bind fun r18 =>
  zcK (zao n) s6 r18))) else (some true)

def zev (x_s : Str) : Option Bool :=
  if (x_s == []) then (some false) else (zao fuel x_s)

def zb8 (i24 : Int) (s25 : Str) : Option (api_Host × Bool) :=
  some (((⟨i24, s25, (-1)⟩ : api_Host), !(i24 == 0)))

def zbu (x_s : Str) (t14 : Bool) : Option (api_Host × Bool) :=
  if t14 then ((zd8 (x_s.length : Int) 1).bind fun i16 =>
  (zgG x_s 1 i16).bind fun s17 =>
  zb8 3 s17) else ((zdg x_s).bind fun r18 =>
  if r18 then (zb8 2 x_s) else ((zev x_s).bind fun r21 =>
  if r21 then (zb8 1 x_s) else (zb8 0 x_s)))

def ze1 (x_s : Str) : Option (api_Host × Bool) :=
  if (decide (2 < (x_s.length : Int))) then ((sAt x_s 0).bind fun b6 =>
  if (b6 == 91) then ((zd8 (x_s.length : Int) 1).bind fun i8 =>
  (sAt x_s i8).bind fun b9 =>
  if (b9 == 93) then ((zd8 (x_s.length : Int) 1).bind fun i11 =>
  (zgG x_s 1 i11).bind fun s12 =>
  (zec s12).bind fun r13 =>
  zbu x_s r13) else (zbu x_s false)) else (zbu x_s false)) else (zbu x_s false)

def zcp (x_s : Str) (r10 : Int) (r17 : api_Host × Bool) (t24 : Bool) : Option (api_Host × Int) :=
  if t24 then (some (((⟨0, [], 0⟩ : api_Host), 27))) else ((zO r10 1).bind fun i28 =>
  (zbB x_s i28).bind fun s29 =>
  (zbJ s29 65535).bind fun r30 =>
  some (((⟨r17.1.Kind, r17.1.Name, r30.1⟩ : api_Host), 0)))

def zb9 (x_s : Str) : Option (api_Host × Int) :=
  (ze1 x_s).bind fun r3 =>
  if r3.2 then (some (r3.1, 0)) else ((zaq x_s 58).bind fun r10 =>
  if (decide (r10 < 0)) then (some (((⟨0, [], 0⟩ : api_Host), 27))) else ((sTo x_s r10).bind fun s16 =>
  (ze1 s16).bind fun r17 =>
  if (!r17.2) then (zcp x_s r10 r17 true) else ((zO r10 1).bind fun i21 =>
  (zbB x_s i21).bind fun s22 =>
  (zb7 s22 65535).bind fun r23 =>
  zcp x_s r10 r17 (!r23))))

def zeQ (s : Str) : Option Str := if s.length < 4294967281 then s.mapM zaE else none

def zc7 (t7 : Bool) : Option Bool :=
  some t7

def zfm (x_b : UInt8) : Option Bool :=
  (zbm x_b).bind fun r2 =>
  if r2 then (zc7 true) else ((ze0 x_b).bind fun r4 =>
  if r4 then (zc7 true) else ((zgX x_b [58, 64]).bind fun r6 =>
  zc7 r6))

def ze2 (rec1 : Int → Option Bool) (i27 : Int) : Option Bool :=
  (zO i27 1).bind fun i28 =>
  rec1 i28

def zcS (rec1 : Int → Option Bool) (i3 : Int) (t23 : Bool) : Option Bool :=
  if t23 then ((zO i3 2).bind fun i25 =>
  ze2 rec1 i25) else (some false)

def zgq (rec1 : Int → Option Bool) (x_s : Str) (i3 : Int) (t12 : Bool) : Option Bool :=
  if t12 then (ze2 rec1 i3) else ((sAt x_s i3).bind fun b14 =>
  if (b14 == 37) then ((zO i3 2).bind fun i16 =>
  if (decide (i16 < (x_s.length : Int))) then ((zO i3 1).bind fun i18 =>
  (zO i3 3).bind fun i19 =>
  (zgG x_s i18 i19).bind fun s20 =>
  (zci zbW ([s20] : List Str)).bind fun r22 =>
  zcS rec1 i3 r22) else (zcS rec1 i3 false)) else (zcS rec1 i3 false))

def za1 (x_s : Str) (x_more : Str) : Nat → Int → Option Bool
  | 0, _ => none
  | n + 1, i3 =>
  if (decide (i3 < (x_s.length : Int))) then ((sAt x_s i3).bind fun b7 =>
  (zfm b7).bind fun r8 =>
  if r8 then (zgq (za1 x_s x_more n) x_s i3 true) else ((sAt x_s i3).bind fun b10 =>
  (strings_IndexByte x_more b10).bind fun r11 =>
  zgq (za1 x_s x_more n) x_s i3 (decide (0 ≤ r11)))) else (some true)

def zhZ (x_s : Str) (x_more : Str) : Option Bool :=
  za1 x_s x_more fuel 0

def zew (t5 : Bool) : Option Bool :=
  some t5

def zhf (x_s : Str) : Option Bool :=
  (strings_HasPrefix x_s [47]).bind fun r2 =>
  if r2 then ((zhZ x_s [47]).bind fun r4 =>
  zew r4) else (zew false)

def zgr (x_s : Str) : Option Bool :=
  (zhZ x_s [47, 63]).bind fun r2 =>
  some r2

def zfn (r2 : Str × Str × Bool) (t7 : Bool) : Option (Str × Str × Bool × Int) :=
  if t7 then (some ([], [], false, 2)) else (some (r2.1, r2.2.1, r2.2.2, 0))

def zh0 (x_s : Str) : Option (Str × Str × Bool × Int) :=
  (strings_Cut x_s [63]).bind fun r2 =>
  (zhf r2.1).bind fun r4 =>
  if (!r4) then (zfn r2 true) else ((zgr r2.2.1).bind fun r6 =>
  zfn r2 (!r6))

def zdJ (x_t : api_Target) (r15 : Str × Str × Bool × Int) (s19 : Str) : Option (api_Target × Bool) :=
  some (((⟨x_t.Kind, x_t.Scheme, x_t.Host, s19, r15.2.1, r15.2.2.1⟩ : api_Target), r15.2.2.2 == 0))

def zdK (x_t : api_Target) (b9 : UInt8) (s14 : Str) : Option (api_Target × Bool) :=
  (zh0 s14).bind fun r15 =>
  if (b9 == 63) then (zdJ x_t r15 []) else (zdJ x_t r15 r15.1)

def ze3 (x_t : api_Target) (x_s : Str) : Option (api_Target × Bool) :=
  if (x_s == []) then (some (x_t, true)) else ((sAt x_s 0).bind fun b9 =>
  if (b9 == 63) then ((zds [47] x_s).bind fun s13 =>
  zdK x_t b9 s13) else (zdK x_t b9 x_s))

def zbn (r3 : Str × Str × Bool) (r5 : Str) (i18 : Int) : Option (api_Target × Bool) :=
  (sTo r3.2.1 i18).bind fun s19 =>
  (zb9 s19).bind fun r20 =>
  if (!(r20.2 == 0)) then (some (((⟨2, r5, (⟨0, [], 0⟩ : api_Host), [], [], false⟩ : api_Target), false))) else ((zbB r3.2.1 i18).bind fun s28 =>
  (ze3 (⟨2, r5, r20.1, [], [], false⟩ : api_Target) s28).bind fun r29 =>
  some (r29.1, r29.2))

def zaf (r3 : Str × Str × Bool) (r5 : Str) (t10 : Bool) : Option (api_Target × Bool) :=
  if t10 then (some (((⟨2, r5, (⟨0, [], 0⟩ : api_Host), [], [], false⟩ : api_Target), false))) else ((strings_IndexAny r3.2.1 [47, 63]).bind fun r14 =>
  if (decide (r14 < 0)) then (zbn r3 r5 (r3.2.1.length : Int)) else (zbn r3 r5 r14))

def zc8 (x_s : Str) : Option (api_Target × Bool) :=
  (strings_Cut x_s [58, 47, 47]).bind fun r3 =>
  (zeQ r3.1).bind fun r5 =>
  if (!r3.2.2) then (zaf r3 r5 true) else (if (!(r5 == [104, 116, 116, 112])) then (zaf r3 r5 (!(r5 == [104, 116, 116, 112, 115]))) else (zaf r3 r5 false))

def zh1 (x_method : Str) (x_s : Str) : Option (api_Target × Bool) :=
  if (x_s == [42]) then (some (((⟨4, [], (⟨0, [], 0⟩ : api_Host), [], [], false⟩ : api_Target), x_method == [79, 80, 84, 73, 79, 78, 83]))) else ((strings_HasPrefix x_s [47]).bind fun r7 =>
  if (!r7) then ((zc8 x_s).bind fun r10 =>
  some (r10.1, r10.2)) else ((ze3 ((⟨1, [], (⟨0, [], 0⟩ : api_Host), [], [], false⟩ : api_Target)) x_s).bind fun r13 =>
  some (r13.1, r13.2)))

def zc9 (r5 : api_Host × Int) (t9 : Bool) : Option (api_Target × Int) :=
  if t9 then (some (((⟨0, [], (⟨0, [], 0⟩ : api_Host), [], [], false⟩ : api_Target), 20))) else (some (((⟨3, [], r5.1, [], [], false⟩ : api_Target), 0)))

def zfo (x_method : Str) (x_s : Str) : Option (api_Target × Int) :=
  if (x_method == [67, 79, 78, 78, 69, 67, 84]) then ((zb9 x_s).bind fun r5 =>
  if (!(r5.2 == 0)) then (zc9 r5 true) else (zc9 r5 (decide (r5.1.Port < 0)))) else ((zh1 x_method x_s).bind fun r15 =>
  if (!r15.2) then (some (((⟨0, [], (⟨0, [], 0⟩ : api_Host), [], [], false⟩ : api_Target), 20))) else (some (r15.1, 0)))

def zV (r17 : Str × Bool × scan_Scanner) (r23 : Str × scan_Scanner) (r29 : Int × Bool × scan_Scanner) (t41 : Bool) : Option (api_Head × Int) :=
  if t41 then (some (((⟨0, [], [], 0, [], 0, []⟩ : api_Head), 20))) else (some (((⟨1, r17.1, r23.1, 0, [], r29.1, []⟩ : api_Head), 0)))

def zcq (x_a0 : Str) : Option (api_Head × Int) :=
  (zaq x_a0 32).bind fun r5 =>
  (zO r5 1).bind fun i6 =>
  (zbB x_a0 i6).bind fun s7 =>
  (zch s7).bind fun r8 =>
  if r8 then (some (((⟨0, [], [], 0, [], 0, []⟩ : api_Head), 26))) else ((zhe x_a0).bind fun r13 =>
  (zbk r13).bind fun r17 =>
  (zD r17.2.2 32).bind fun r20 =>
  (zae r20.2 zbO).bind fun r23 =>
  (zD r23.2 32).bind fun r26 =>
  (za0 (⟨r26.2⟩ : startline_line)).bind fun r29 =>
  (zfo r17.1 r23.1).bind fun r32 =>
  if (!r17.2.1) then (zV r17 r23 r29 true) else (if (!r20.1) then (zV r17 r23 r29 true) else (if (!r26.1) then (zV r17 r23 r29 true) else (if (!r29.2.1) then (zV r17 r23 r29 true) else ((zaW r29.2.2).bind fun r39 =>
  if (!r39) then (zV r17 r23 r29 true) else (zV r17 r23 r29 (!(r32.2 == 0))))))))

def zcY (t3 : Bool) : Option Bool :=
  some t3

def zgI (x_b : UInt8) : Option Bool :=
  if (decide (32 < x_b)) then (zcY (decide (x_b < 127))) else (zcY false)

def zee (t3 : Bool) : Option Bool :=
  some t3

def zcy (x_b : UInt8) : Option Bool :=
  if (x_b == 32) then (zee true) else (zee (x_b == 9))

def zcL (t6 : Bool) : Option Bool :=
  some t6

def zaH (x_b : UInt8) : Option Bool :=
  (zgI x_b).bind fun r2 =>
  if r2 then (zcL true) else ((zcy x_b).bind fun r4 =>
  if r4 then (zcL true) else (zcL (decide (127 < x_b))))

def zS (r14 : Int × Bool × scan_Scanner) (r23 : Bool × scan_Scanner) (r26 : Int × Int) (t37 : Bool) : Option (api_Head × Int) :=
  if t37 then (some (((⟨0, [], [], 0, [], 0, []⟩ : api_Head), 20))) else ((zR r23.2).bind fun r41 =>
  some (((⟨2, [], [], r26.1, r41, r14.1, []⟩ : api_Head), 0)))

def zcM (x_a0 : Str) : Option (api_Head × Int) :=
  (strings_Cut x_a0 [32]).bind fun r3 =>
  (zch r3.1).bind fun r5 =>
  if r5 then (some (((⟨0, [], [], 0, [], 0, []⟩ : api_Head), 26))) else ((zhe x_a0).bind fun r10 =>
  (za0 (⟨r10⟩ : startline_line)).bind fun r14 =>
  (zD r14.2.2 32).bind fun r17 =>
  (zae r17.2 zW).bind fun r20 =>
  (zD r20.2 32).bind fun r23 =>
  (zbJ r20.1 599).bind fun r26 =>
  if (!r14.2.1) then (zS r14 r23 r26 true) else (if (!r17.1) then (zS r14 r23 r26 true) else (if (!r23.1) then (zS r14 r23 r26 true) else (if (!((r20.1.length : Int) == 3)) then (zS r14 r23 r26 true) else (if (!(r26.2 == 0)) then (zS r14 r23 r26 true) else (if (decide (r26.1 < 100)) then (zS r14 r23 r26 true) else ((zR r23.2).bind fun r34 =>
  (zci zaH ([r34] : List Str)).bind fun r36 =>
  zS r14 r23 r26 (!r36))))))))

def zca (x_kind : Int) (x_s : Str) (t4 : Bool) : Option (api_Head × Int) :=
  if t4 then (some (((⟨0, [], [], 0, [], 0, []⟩ : api_Head), 1))) else ((strings_ContainsAny x_s [13, 10]).bind fun r7 =>
  if r7 then (some (((⟨0, [], [], 0, [], 0, []⟩ : api_Head), 24))) else (if (x_kind == 1) then ((zcq x_s).bind fun r13 =>
  some (r13.1, r13.2)) else ((zcM x_s).bind fun r18 =>
  some (r18.1, r18.2))))

def zbL (x_kind : Int) (x_s : Str) : Option (api_Head × Int) :=
  if (!(x_kind == 1)) then (zca x_kind x_s (!(x_kind == 2))) else (zca x_kind x_s false)

def zap (x_c : scan_Scanner) : Option (Str × scan_Scanner) :=
  (zae x_c zcy).bind fun r2 =>
  some (r2.1, r2.2)

def zcb (r17 : Str × Bool × scan_Scanner) (r20 : Str × scan_Scanner) (t26 : Bool) (s27 : Str) (i28 : Int) : Option (api_Field × Int) :=
  if t26 then (some (((⟨[], []⟩ : api_Field), 21))) else (if (!(r20.1 == [])) then (some (((⟨[], []⟩ : api_Field), 22))) else ((zR (⟨s27, i28⟩ : scan_Scanner)).bind fun r34 =>
  (zci zaH ([r34] : List Str)).bind fun r36 =>
  if (!r36) then (some (((⟨[], []⟩ : api_Field), 25))) else ((zR (⟨s27, i28⟩ : scan_Scanner)).bind fun r41 =>
  (zd9 r41 [32, 9]).bind fun r42 =>
  some (((⟨r17.1, r42⟩ : api_Field), 0)))))

def zcl (x_s : Str) : Option (api_Field × Int) :=
  (strings_ContainsAny x_s [13, 10]).bind fun r3 =>
  if r3 then (some (((⟨[], []⟩ : api_Field), 24))) else ((zhe x_s).bind fun r8 =>
  (zap r8).bind fun r11 =>
  if (!(r11.1 == [])) then (some (((⟨[], []⟩ : api_Field), 23))) else ((zbk r11.2).bind fun r17 =>
  (zap r17.2.2).bind fun r20 =>
  if (!r17.2.1) then (zcb r17 r20 true r20.2.f_s r20.2.f_at) else ((zD r20.2 58).bind fun r24 =>
  zcb r17 r20 (!r24.1) r24.2.f_s r24.2.f_at)))

def zH (x_s : List api_Field) : Option (List api_Field) :=
  if zaO 0 x_s.length 32 then (some x_s) else none

def zmm (x_l : List api_Field) : Option bag_Bag :=
  (zH x_l).bind fun r2 =>
  some (⟨r2⟩ : bag_Bag)

def zgQ (x_b : bag_Bag) : Option (List api_Field) :=
  (zH x_b.f_l).bind fun r4 =>
  some r4

def zhg (x_a : Str) (x_b : Str) : Option Bool :=
  (zeQ x_a).bind fun r2 =>
  (zeQ x_b).bind fun r3 =>
  some (r2 == r3)

def zcr (rec1 : (List Str) → Int → Option (List Str)) (i10 : Int) (l28 : List Str) : Option (List Str) :=
  (zO i10 1).bind fun i29 =>
  rec1 l28 i29

def zar (x_name : Str) (r3 : List api_Field) : Nat → (List Str) → Int → Option (List Str)
  | 0, _, _ => none
  | n + 1, l9, i10 =>
  if (decide (i10 < (r3.length : Int))) then ((lAt r3 i10).bind fun x14 =>
  (zhg x14.Name x_name).bind fun r19 =>
  if r19 then (if zaO l9.length 1 16 then (zcr (zar x_name r3 n) i10 (l9 ++ ([x14.Value] : List Str))) else none) else (zcr (zar x_name r3 n) i10 l9)) else (some l9)

def zdL (x_b : bag_Bag) (x_name : Str) : Option (List Str) :=
  (zgQ x_b).bind fun r3 =>
  zar x_name r3 fuel [] 0

def zex (rec2 : Int → Option Bool) (i21 : Int) (t33 : Bool) : Option Bool :=
  if t33 then (some false) else ((zO i21 1).bind fun i37 =>
  rec2 i37)

def zbo (r11 : List Str) : Nat → Int → Option Bool
  | 0, _ => none
  | n + 1, i21 =>
  if (decide (i21 < (r11.length : Int))) then ((lAt r11 i21).bind fun x25 =>
  (zb9 x25).bind fun r29 =>
  if (!(r29.2 == 0)) then (zex (zbo r11 n) i21 (!(x25 == []))) else (zex (zbo r11 n) i21 false)) else (some true)

def zcz (r11 : List Str) (t16 : Bool) : Option Bool :=
  if t16 then (some false) else (zbo r11 fuel 0)

def zhh (x_h : api_Head) : Option Bool :=
  if (!(x_h.Kind == 1)) then (some true) else ((zmm x_h.Fields).bind fun r7 =>
  (zdL r7 [72, 111, 115, 116]).bind fun r11 =>
  if (decide (1 < (r11.length : Int))) then (zcz r11 true) else (zcz r11 (decide ((r11.length : Int) < x_h.Minor))))

def zfR (x_h : api_Head) : Option Int :=
  if (decide (100 < (x_h.Fields.length : Int))) then (some 3) else ((zhh x_h).bind fun r6 =>
  if (!r6) then (some 27) else (some 0))

def zey (i75 : Int) (s76 : Str) (s77 : Str) (i78 : Int) (s79 : Str) (i80 : Int) (l83 : List api_Field) : Option (api_Head × Int) :=
  (zfR (⟨i75, s76, s77, i78, s79, i80, l83⟩ : api_Head)).bind fun r84 =>
  if (!(r84 == 0)) then (some (((⟨0, [], [], 0, [], 0, []⟩ : api_Head), r84))) else (some (((⟨i75, s76, s77, i78, s79, i80, l83⟩ : api_Head), 0)))

def zcA (l41 : List Str) : Nat → Int → Str → Str → Int → Str → Int → (List api_Field) → Int → Option (api_Head × Int)
  | 0, _, _, _, _, _, _, _, _ => none
  | n + 1, i45, s46, s47, i48, s49, i50, l53, i54 =>
  if (decide (i54 < (l41.length : Int))) then ((lAt l41 i54).bind fun x58 =>
  (zcl x58).bind fun r62 =>
  if (!(r62.2 == 0)) then (some (((⟨0, [], [], 0, [], 0, []⟩ : api_Head), r62.2))) else (if zaO l53.length 1 32 then ((zO i54 1).bind fun i74 =>
  (zcA l41 n) i45 s46 s47 i48 s49 i50 (l53 ++ [r62.1]) i74) else none)) else (zey i45 s46 s47 i48 s49 i50 l53)

def zdh (x_a0 : Int) (x_a1 : Str) (r12 : Int) (t19 : Bool) : Option (api_Head × Int) :=
  if t19 then (some (((⟨0, [], [], 0, [], 0, []⟩ : api_Head), 6))) else ((sTo x_a1 r12).bind fun s23 =>
  (strings_Split s23 [13, 10]).bind fun r24 =>
  (lAt r24 0).bind fun x28 =>
  (zbL x_a0 x28).bind fun r31 =>
  if (!(r31.2 == 0)) then (some (((⟨0, [], [], 0, [], 0, []⟩ : api_Head), r31.2))) else ((zpT r24 1).bind fun l41 =>
  zcA l41 fuel r31.1.Kind r31.1.Method r31.1.Target r31.1.Code r31.1.Reason r31.1.Minor r31.1.Fields 0))

def zfS (x_a0 : Int) (x_a1 : Str) (x_a2 : Int) : Option (api_Head × Int) :=
  (zbL x_a0 []).bind fun r3 =>
  if (r3.2 == 1) then (some (((⟨0, [], [], 0, [], 0, []⟩ : api_Head), r3.2))) else ((strings_Index x_a1 [13, 10, 13, 10]).bind fun r12 =>
  if (decide (x_a2 < (x_a1.length : Int))) then (some (((⟨0, [], [], 0, [], 0, []⟩ : api_Head), 3))) else (if (decide (r12 < 0)) then (zdh x_a0 x_a1 r12 true) else ((zO r12 4).bind fun i18 =>
  zdh x_a0 x_a1 r12 (!(i18 == (x_a1.length : Int))))))

def zbp (t9 : Bool) : Option Bool :=
  some t9

def ziu (x_a : api_Head) (x_b : api_Head) : Option Bool :=
  if (x_a.Kind == x_b.Kind) then (if (x_a.Method == x_b.Method) then (if (x_a.Target == x_b.Target) then (if (x_a.Minor == x_b.Minor) then (if (x_a.Code == x_b.Code) then (zbp (x_a.Reason == x_b.Reason)) else (zbp false)) else (zbp false)) else (zbp false)) else (zbp false)) else (zbp false)

def zbX (x_a : List api_Field) (x_b : List api_Field) : Nat → Int → Option Bool
  | 0, _ => none
  | n + 1, i7 =>
  if (decide (i7 < (x_a.length : Int))) then ((lAt x_a i7).bind fun x11 =>
  (lAt x_b i7).bind fun x14 =>
  if (!(x11 == x14)) then (some false) else ((zO i7 1).bind fun i21 =>
  (zbX x_a x_b n) i21)) else (some true)

def zhi (x_a : List api_Field) (x_b : List api_Field) : Option Bool :=
  if (!((x_a.length : Int) == (x_b.length : Int))) then (some false) else (zbX x_a x_b fuel 0)

def zez (t7 : Bool) : Option Bool :=
  some t7

def zfT (x_a : api_Head) (x_b : api_Head) : Option Bool :=
  (ziu x_a x_b).bind fun r4 =>
  if r4 then ((zhi x_a.Fields x_b.Fields).bind fun r6 =>
  zez r6) else (zez false)

def zdM (rec1 : (List Str) → Int → Int → Option (List Str)) (i9 : Int) (l25 : List Str) (i26 : Int) : Option (List Str) :=
  (zO i9 1).bind fun i27 =>
  rec1 l25 i26 i27

def zbb (x_s : Str) (x_c : UInt8) : Nat → (List Str) → Int → Int → Option (List Str)
  | 0, _, _, _ => none
  | n + 1, l7, i8, i9 =>
  if (decide (i9 < (x_s.length : Int))) then ((sAt x_s i9).bind fun b13 =>
  if (b13 == x_c) then ((zgG x_s i8 i9).bind fun s16 =>
  if zaO l7.length 1 16 then ((zO i9 1).bind fun i22 =>
  zdM (zbb x_s x_c n) i9 (l7 ++ ([s16] : List Str)) i22) else none) else (zdM (zbb x_s x_c n) i9 l7 i8)) else ((zbB x_s i8).bind fun s29 =>
  if zaO l7.length 1 16 then (some (l7 ++ ([s29] : List Str))) else none)

def zdN (x_s : Str) (x_c : UInt8) : Option (List Str) :=
  zbb x_s x_c fuel [] 0 0

def zcT (x_b : UInt8) (x_l : Str) : Nat → Int → Option Bool
  | 0, _ => none
  | n + 1, i3 =>
  if (decide (i3 < (x_l.length : Int))) then ((sAt x_l i3).bind fun b7 =>
  if (b7 == x_b) then (some true) else ((zO i3 1).bind fun i12 =>
  (zcT x_b x_l n) i12)) else (some false)

def zeA (x_b : UInt8) (x_l : Str) : Option Bool :=
  zcT x_b x_l fuel 0

def zcU (x_b : UInt8) : Option Bool :=
  (zeA x_b [48, 49, 50, 51, 52, 53, 54, 55, 56, 57]).bind fun r2 =>
  some r2

def za2 (x_s : Str) (t12 : Bool) : Option Int :=
  if t12 then (some (-1)) else ((zbB x_s 5).bind fun s16 =>
  if (s16 == [49, 46, 48]) then (some 0) else ((zbB x_s 5).bind fun s21 =>
  if (s21 == [49, 46, 49]) then (some 1) else (some 2)))

def zbY (x_s : Str) : Option Int :=
  if (!((x_s.length : Int) == 8)) then (za2 x_s true) else ((sTo x_s 5).bind fun s3 =>
  if (!(s3 == [72, 84, 84, 80, 47])) then (za2 x_s true) else ((sAt x_s 5).bind fun b5 =>
  (zcU b5).bind fun r6 =>
  if (!r6) then (za2 x_s true) else ((sAt x_s 6).bind fun b8 =>
  if (!(b8 == 46)) then (za2 x_s true) else ((sAt x_s 7).bind fun b10 =>
  (zcU b10).bind fun r11 =>
  za2 x_s (!r11)))))

def zh2 (x_b : UInt8) : Option Bool :=
  (zeA x_b [97, 98, 99, 100, 101, 102, 103, 104, 105, 106, 107, 108, 109, 110, 111, 112, 113, 114, 115, 116, 117, 118, 119, 120, 121, 122, 65, 66, 67, 68, 69, 70, 71, 72, 73, 74, 75, 76, 77, 78, 79, 80, 81, 82, 83, 84, 85, 86, 87, 88, 89, 90, 48, 49, 50, 51, 52, 53, 54, 55, 56, 57, 33, 35, 36, 37, 38, 39, 42, 43, 45, 46, 94, 95, 96, 124, 126]).bind fun r2 =>
  some r2

def zbv (x_s : Str) : Nat → Int → Option Bool
  | 0, _ => none
  | n + 1, i3 =>
  if (decide (i3 < (x_s.length : Int))) then ((sAt x_s i3).bind fun b7 =>
  (zh2 b7).bind fun r8 =>
  if (!r8) then (some false) else ((zO i3 1).bind fun i13 =>
  (zbv x_s n) i13)) else (some (decide (0 < (x_s.length : Int))))

def zdO (x_s : Str) : Option Bool :=
  zbv x_s fuel 0

def zdP (rec1 : Int → Option Int) (i5 : Int) (t12 : Bool) : Option Int :=
  if t12 then (some i5) else ((zO i5 1).bind fun i16 =>
  rec1 i16)

def zE (x_b : UInt8) (x_base : Int) : Nat → Int → Option Int
  | 0, _ => none
  | n + 1, i5 =>
  if (decide (i5 < x_base)) then ((sAt [48, 49, 50, 51, 52, 53, 54, 55, 56, 57, 97, 98, 99, 100, 101, 102] i5).bind fun b9 =>
  if (b9 == x_b) then (zdP (zE x_b x_base n) i5 true) else ((sAt [48, 49, 50, 51, 52, 53, 54, 55, 56, 57, 65, 66, 67, 68, 69, 70] i5).bind fun b11 =>
  zdP (zE x_b x_base n) i5 (b11 == x_b))) else (some (-1))

def zcs (x_b : UInt8) (x_base : Int) : Option Int :=
  zE x_b x_base fuel 0

def zbw : Nat → Int → Int → Option Str
  | 0, _, _ => none
  | n + 1, x_n, x_base =>
  if (decide (x_n < x_base)) then ((zO x_n 1).bind fun i5 =>
  (zgG [48, 49, 50, 51, 52, 53, 54, 55, 56, 57, 97, 98, 99, 100, 101, 102] x_n i5).bind fun s6 =>
  some s6) else ((zo0 x_n x_base).bind fun i9 =>
  ((zbw n) i9 x_base).bind fun r10 =>
  (zqQ x_n x_base).bind fun i11 =>
  (zqQ x_n x_base).bind fun i12 =>
  (zO i12 1).bind fun i13 =>
  (zgG [48, 49, 50, 51, 52, 53, 54, 55, 56, 57, 97, 98, 99, 100, 101, 102] i11 i13).bind fun s14 =>
  (zds r10 s14).bind fun s15 =>
  some s15)

def zcZ (x_n : Int) (x_base : Int) : Option Str := zbw fuel x_n x_base

def zdQ (rec1 : Str → Int → Option (Str × Bool)) (i5 : Int) (s21 : Str) : Option (Str × Bool) :=
  (zO i5 1).bind fun i22 =>
  rec1 s21 i22

def zdR (rec1 : Str → Int → Option (Str × Bool)) (x_base : Int) (s4 : Str) (i5 : Int) (r10 : Int) (t17 : Bool) : Option (Str × Bool) :=
  if t17 then ((zcZ r10 x_base).bind fun r19 =>
  (zds s4 r19).bind fun s20 =>
  zdQ rec1 i5 s20) else (zdQ rec1 i5 s4)

def zdS (x_s : Str) (s26 : Str) : Option (Str × Bool) :=
  some ((s26, !(x_s == [])))

def zaI (x_s : Str) (x_base : Int) : Nat → Str → Int → Option (Str × Bool)
  | 0, _, _ => none
  | n + 1, s4, i5 =>
  if (decide (i5 < (x_s.length : Int))) then ((sAt x_s i5).bind fun b9 =>
  (zcs b9 x_base).bind fun r10 =>
  if (decide (r10 < 0)) then (some ([], false)) else (if (!(s4 == [])) then (zdR (zaI x_s x_base n) x_base s4 i5 r10 true) else (zdR (zaI x_s x_base n) x_base s4 i5 r10 (decide (0 < r10))))) else (if (s4 == []) then (zdS x_s [48]) else (zdS x_s s4))

def zgs (x_s : Str) (x_base : Int) : Option (Str × Bool) :=
  zaI x_s x_base fuel [] 0

def zbZ (t4 : Bool) : Option Bool :=
  some t4

def zhj (x_a : Str) (x_b : Str) : Option Bool :=
  if (decide ((x_a.length : Int) < (x_b.length : Int))) then (zbZ true) else (if ((x_a.length : Int) == (x_b.length : Int)) then (zbZ (zlU x_a x_b)) else (zbZ false))

def zb0 (x_base : Int) (r2 : Str × Bool) : Nat → Int → Int → Option (Int × Int)
  | 0, _, _ => none
  | n + 1, i17, i18 =>
  if (decide (i18 < (r2.1.length : Int))) then ((zoZ i17 x_base).bind fun i22 =>
  (sAt r2.1 i18).bind fun b23 =>
  (zcs b23 x_base).bind fun r24 =>
  (zO i22 r24).bind fun i25 =>
  (zO i18 1).bind fun i27 =>
  (zb0 x_base r2 n) i25 i27) else (some (i17, 0))

def zdi (x_base : Int) (r2 : Str × Bool) (t11 : Bool) : Option (Int × Int) :=
  if t11 then (some (0, 7)) else (zb0 x_base r2 fuel 0 0)

def zfU (x_s : Str) (x_base : Int) (x_most : Int) : Option (Int × Int) :=
  (zgs x_s x_base).bind fun r2 =>
  if (!r2.2) then (some (0, 2)) else (if (decide (x_most < 0)) then (zdi x_base r2 true) else ((zcZ x_most x_base).bind fun r9 =>
  (zhj r9 r2.1).bind fun r10 =>
  zdi x_base r2 r10))

def zeR (x_n : Int) (x_base : Int) : Option Str :=
  if (decide (x_n < 0)) then (some []) else ((zcZ x_n x_base).bind fun r6 =>
  some r6)

def zcN (r6 : Int × Int) (t10 : Bool) : Option Int :=
  if t10 then (some (-1)) else (some r6.1)

def ze4 (x_s : Str) (x_most : Int) : Option Int :=
  if (decide (5 < (x_s.length : Int))) then (some (-1)) else ((zfU x_s 10 x_most).bind fun r6 =>
  if (!(r6.2 == 0)) then (zcN r6 true) else ((zeR r6.1 10).bind fun r9 =>
  zcN r6 (!(r9 == x_s))))

def zb1 (r2 : List Str) : Nat → Int → Option Bool
  | 0, _ => none
  | n + 1, i7 =>
  if (decide (i7 < (r2.length : Int))) then ((lAt r2 i7).bind fun x11 =>
  (ze4 x11 255).bind fun r14 =>
  if (decide (r14 < 0)) then (some false) else ((zO i7 1).bind fun i19 =>
  (zb1 r2 n) i19)) else (some ((r2.length : Int) == 4))

def zfV (x_s : Str) : Option Bool :=
  (zdN x_s 46).bind fun r2 =>
  zb1 r2 fuel 0

def zef (x_b : UInt8) : Option Bool :=
  (zeA x_b [48, 49, 50, 51, 52, 53, 54, 55, 56, 57, 97, 98, 99, 100, 101, 102, 65, 66, 67, 68, 69, 70]).bind fun r2 =>
  some r2

def zcO (rec1 : Int → Int → Option Bool) (i9 : Int) (i55 : Int) : Option Bool :=
  (zO i9 1).bind fun i56 =>
  rec1 i55 i56

def zdT (rec1 : Int → Int → Option Bool) (i8 : Int) (i9 : Int) (t50 : Bool) : Option Bool :=
  if t50 then (some false) else ((zO i8 1).bind fun i54 =>
  zcO rec1 i9 i54)

def zbx (rec1 : Int → Int → Option Bool) (r2 : List Str) (i8 : Int) (i9 : Int) : Nat → Int → Option Bool
  | 0, _ => none
  | n + 1, i25 =>
  (lAt r2 i9).bind fun x26 =>
  if (decide (i25 < (x26.length : Int))) then ((lAt r2 i9).bind fun x32 =>
  (sAt x32 i25).bind fun b35 =>
  (zef b35).bind fun r36 =>
  if (!r36) then (some false) else ((zO i25 1).bind fun i41 =>
  (zbx rec1 r2 i8 i9 n) i41)) else ((lAt r2 i9).bind fun x43 =>
  if (decide ((x43.length : Int) < 1)) then (zdT rec1 i8 i9 true) else ((lAt r2 i9).bind fun x47 =>
  zdT rec1 i8 i9 (decide (4 < (x47.length : Int)))))

def zcP (rec1 : Int → Int → Option Bool) (r2 : List Str) (i8 : Int) (i9 : Int) (t19 : Bool) : Option Bool :=
  if t19 then ((zO i8 2).bind fun i21 =>
  zcO rec1 i9 i21) else (zbx rec1 r2 i8 i9 fuel 0)

def z8 (r2 : List Str) : Nat → Int → Int → Option Bool
  | 0, _, _ => none
  | n + 1, i8, i9 =>
  if (decide (i9 < (r2.length : Int))) then ((zd8 (r2.length : Int) 1).bind fun i13 =>
  if (i9 == i13) then ((lAt r2 i9).bind fun x15 =>
  (zfV x15).bind fun r18 =>
  zcP (z8 r2 n) r2 i8 i9 r18) else (zcP (z8 r2 n) r2 i8 i9 false)) else (some (i8 == 8))

def ze5 (x_s : Str) : Option Bool :=
  (zdN x_s 58).bind fun r2 =>
  z8 r2 fuel 0 0

def zfp (rec4 : Str → Int → Option Bool) (i24 : Int) (s31 : Str) : Option Bool :=
  (zds s31 [48]).bind fun s32 =>
  (zO i24 1).bind fun i34 =>
  rec4 s32 i34

def zeg (rec3 : Int → Option Bool) (i16 : Int) (s44 : Str) : Option Bool :=
  (ze5 s44).bind fun r45 =>
  if r45 then (some true) else ((zO i16 1).bind fun i50 =>
  rec3 i50)

def zbS (rec3 : Int → Option Bool) (x_s : Str) (i3 : Int) (i16 : Int) : Nat → Str → Int → Option Bool
  | 0, _, _ => none
  | n + 1, s23, i24 =>
  if (decide (i24 < i16)) then (if (!(s23 == [])) then ((zds s23 [58]).bind fun s30 =>
  zfp (zbS rec3 x_s i3 i16 n) i24 s30) else (zfp (zbS rec3 x_s i3 i16 n) i24 s23)) else ((zO i3 2).bind fun i36 =>
  (zbB x_s i36).bind fun s37 =>
  if (!(s37 == [])) then ((zds s23 [58]).bind fun s40 =>
  (zO i3 2).bind fun i41 =>
  (zbB x_s i41).bind fun s42 =>
  (zds s40 s42).bind fun s43 =>
  zeg rec3 i16 s43) else (zeg rec3 i16 s23))

def zaP (x_s : Str) (i3 : Int) : Nat → Int → Option Bool
  | 0, _ => none
  | n + 1, i16 =>
  if (decide (i16 ≤ 8)) then ((sTo x_s i3).bind fun s20 =>
  zbS (zaP x_s i3 n) x_s i3 i16 fuel s20 0) else (some false)

def zfq (rec1 : Int → Option Bool) (x_s : Str) (i3 : Int) (t12 : Bool) : Option Bool :=
  if t12 then ((zO i3 1).bind fun i54 =>
  rec1 i54) else (zaP x_s i3 fuel 1)

def zbT (x_s : Str) : Nat → Int → Option Bool
  | 0, _ => none
  | n + 1, i3 =>
  (zO i3 1).bind fun i4 =>
  if (decide (i4 < (x_s.length : Int))) then ((sAt x_s i3).bind fun b8 =>
  if (!(b8 == 58)) then (zfq (zbT x_s n) x_s i3 true) else ((zO i3 1).bind fun i10 =>
  (sAt x_s i10).bind fun b11 =>
  zfq (zbT x_s n) x_s i3 (!(b11 == 58)))) else ((ze5 x_s).bind fun r56 =>
  some r56)

def zgY (x_s : Str) : Option Bool :=
  zbT x_s fuel 0

def zb4 (x_b : UInt8) : Option Bool :=
  (zeA x_b [97, 98, 99, 100, 101, 102, 103, 104, 105, 106, 107, 108, 109, 110, 111, 112, 113, 114, 115, 116, 117, 118, 119, 120, 121, 122, 65, 66, 67, 68, 69, 70, 71, 72, 73, 74, 75, 76, 77, 78, 79, 80, 81, 82, 83, 84, 85, 86, 87, 88, 89, 90, 48, 49, 50, 51, 52, 53, 54, 55, 56, 57, 45, 46, 95, 126]).bind fun r2 =>
  some r2

def zgZ (x_b : UInt8) : Option Bool :=
  (zeA x_b [33, 36, 38, 39, 40, 41, 42, 43, 44, 59, 61]).bind fun r2 =>
  some r2

def zdj (rec1 : Int → Option Bool) (i34 : Int) : Option Bool :=
  (zO i34 1).bind fun i35 =>
  rec1 i35

def zbq (rec1 : Int → Option Bool) (i3 : Int) (t19 : Bool) : Option Bool :=
  if t19 then (some false) else ((zO i3 2).bind fun i23 =>
  zdj rec1 i23)

def zeB (rec1 : Int → Option Bool) (i3 : Int) (t31 : Bool) : Option Bool :=
  if t31 then (some false) else (zdj rec1 i3)

def zX (x_s : Str) : Nat → Int → Option Bool
  | 0, _ => none
  | n + 1, i3 =>
  if (decide (i3 < (x_s.length : Int))) then ((sAt x_s i3).bind fun b7 =>
  if (b7 == 37) then ((zO i3 2).bind fun i10 =>
  if (decide ((x_s.length : Int) ≤ i10)) then (zbq (zX x_s n) i3 true) else ((zO i3 1).bind fun i12 =>
  (sAt x_s i12).bind fun b13 =>
  (zef b13).bind fun r14 =>
  if (!r14) then (zbq (zX x_s n) i3 true) else ((zO i3 2).bind fun i16 =>
  (sAt x_s i16).bind fun b17 =>
  (zef b17).bind fun r18 =>
  zbq (zX x_s n) i3 (!r18)))) else ((sAt x_s i3).bind fun b26 =>
  (zb4 b26).bind fun r27 =>
  if (!r27) then ((sAt x_s i3).bind fun b29 =>
  (zgZ b29).bind fun r30 =>
  zeB (zX x_s n) i3 (!r30)) else (zeB (zX x_s n) i3 false))) else (some (decide (0 < (x_s.length : Int))))

def zhk (x_s : Str) : Option Bool :=
  zX x_s fuel 0

def zcV (x_s : Str) (t12 : Bool) : Option api_Host :=
  if t12 then ((zd8 (x_s.length : Int) 1).bind fun i14 =>
  (zgG x_s 1 i14).bind fun s15 =>
  some ((⟨3, s15, (-1)⟩ : api_Host))) else ((zfV x_s).bind fun r18 =>
  if r18 then (some ((⟨2, x_s, (-1)⟩ : api_Host))) else ((zhk x_s).bind fun r23 =>
  if r23 then (some ((⟨1, x_s, (-1)⟩ : api_Host))) else (some (⟨0, [], 0⟩ : api_Host))))

def zh3 (x_s : Str) : Option api_Host :=
  if (decide (2 < (x_s.length : Int))) then ((sAt x_s 0).bind fun b4 =>
  if (b4 == 91) then ((zd8 (x_s.length : Int) 1).bind fun i6 =>
  (sAt x_s i6).bind fun b7 =>
  if (b7 == 93) then ((zd8 (x_s.length : Int) 1).bind fun i9 =>
  (zgG x_s 1 i9).bind fun s10 =>
  (zgY s10).bind fun r11 =>
  zcV x_s r11) else (zcV x_s false)) else (zcV x_s false)) else (zcV x_s false)

def zdU (r21 : api_Host) (r25 : Int) (t28 : Bool) : Option (api_Host × Int) :=
  if t28 then (some (((⟨0, [], 0⟩ : api_Host), 27))) else (some (((⟨r21.Kind, r21.Name, r25⟩ : api_Host), 0)))

def zcc (x_s : Str) : Nat → Int → Option (api_Host × Int)
  | 0, _ => none
  | n + 1, i12 =>
  if (decide (0 ≤ i12)) then ((sAt x_s i12).bind fun b16 =>
  if (!(b16 == 58)) then ((zd8 i12 1).bind fun i35 =>
  (zcc x_s n) i35) else ((sTo x_s i12).bind fun s20 =>
  (zh3 s20).bind fun r21 =>
  (zO i12 1).bind fun i23 =>
  (zbB x_s i23).bind fun s24 =>
  (ze4 s24 65535).bind fun r25 =>
  if (r21.Kind == 0) then (zdU r21 r25 true) else (zdU r21 r25 (decide (r25 < 0))))) else (some (((⟨0, [], 0⟩ : api_Host), 27)))

def zcW (x_s : Str) : Option (api_Host × Int) :=
  (zh3 x_s).bind fun r3 =>
  if (!(r3.Kind == 0)) then (some (r3, 0)) else ((zd8 (x_s.length : Int) 1).bind fun i10 =>
  zcc x_s fuel i10)

def zeC (rec1 : Int → Option Int) (i3 : Int) (t6 : Bool) : Option Int :=
  if t6 then ((zO i3 1).bind fun i9 =>
  rec1 i9) else (some i3)

def zbr (x_s : Str) : Nat → Int → Option Int
  | 0, _ => none
  | n + 1, i3 =>
  if (decide (i3 < (x_s.length : Int))) then ((sAt x_s i3).bind fun b5 =>
  zeC (zbr x_s n) i3 (!(b5 == 63))) else (zeC (zbr x_s n) i3 false)

def zhl (x_s : Str) : Option Int :=
  zbr x_s fuel 0

def zdk (t7 : Bool) : Option Bool :=
  some t7

def zhm (x_b : UInt8) : Option Bool :=
  (zb4 x_b).bind fun r2 =>
  if r2 then (zdk true) else ((zgZ x_b).bind fun r4 =>
  if r4 then (zdk true) else (if (x_b == 58) then (zdk true) else (zdk (x_b == 64))))

def zct (t18 : Bool) : Option Bool :=
  some t18

def ze6 (t30 : Bool) : Option Bool :=
  some t30

def zc0 : Nat → Str → Str → Option Bool
  | 0, _, _ => none
  | n + 1, x_s, x_more =>
  if (x_s == []) then (some true) else ((sAt x_s 0).bind fun b6 =>
  if (b6 == 37) then (if (decide (2 < (x_s.length : Int))) then ((sAt x_s 1).bind fun b10 =>
  (zef b10).bind fun r11 =>
  if r11 then ((sAt x_s 2).bind fun b13 =>
  (zef b13).bind fun r14 =>
  if r14 then ((zbB x_s 3).bind fun s16 =>
  ((zc0 n) s16 x_more).bind fun r17 =>
  zct r17) else (zct false)) else (zct false)) else (zct false)) else ((sAt x_s 0).bind fun b20 =>
  (zhm b20).bind fun r21 =>
  if r21 then ((zbB x_s 1).bind fun s23 =>
  ((zc0 n) s23 x_more).bind fun r24 =>
  ze6 r24) else ((sAt x_s 0).bind fun b25 =>
  (zeA b25 x_more).bind fun r26 =>
  if r26 then ((zbB x_s 1).bind fun s28 =>
  ((zc0 n) s28 x_more).bind fun r29 =>
  ze6 r29) else (ze6 false))))

def zjd (x_s : Str) (x_more : Str) : Option Bool := zc0 fuel x_s x_more

def zdl (t6 : Bool) : Option Bool :=
  some t6

def zhn (x_s : Str) : Option Bool :=
  if (decide (0 < (x_s.length : Int))) then ((sAt x_s 0).bind fun b3 =>
  if (b3 == 47) then ((zjd x_s [47]).bind fun r5 =>
  zdl r5) else (zdl false)) else (zdl false)

def ze7 (x_s : Str) : Option Bool :=
  (zjd x_s [47, 63]).bind fun r2 =>
  some r2

def zda (x_t : api_Target) (x_s : Str) (r4 : Int) (s6 : Str) (s13 : Str) (t17 : Bool) : Option (api_Target × Bool) :=
  some (((⟨x_t.Kind, x_t.Scheme, x_t.Host, s6, s13, decide (r4 < (x_s.length : Int))⟩ : api_Target), t17))

def zcm (x_t : api_Target) (x_s : Str) (r4 : Int) (s6 : Str) (s13 : Str) : Option (api_Target × Bool) :=
  (zhn s6).bind fun r14 =>
  if r14 then ((ze7 s13).bind fun r16 =>
  zda x_t x_s r4 s6 s13 r16) else (zda x_t x_s r4 s6 s13 false)

def zeh (x_t : api_Target) (x_s : Str) : Option (api_Target × Bool) :=
  (zhl x_s).bind fun r4 =>
  (sTo x_s r4).bind fun s6 =>
  if (decide (r4 < (x_s.length : Int))) then ((zO r4 1).bind fun i11 =>
  (zbB x_s i11).bind fun s12 =>
  zcm x_t x_s r4 s6 s12) else (zcm x_t x_s r4 s6 x_t.Query)

def zeD (rec2 : Str → Int → Option Str) (i14 : Int) (s24 : Str) : Option Str :=
  (zO i14 1).bind fun i25 =>
  rec2 s24 i25

def za6 (rec1 : Str → Int → Option Str) (x_s : Str) (s4 : Str) (i5 : Int) : Nat → Str → Int → Option Str
  | 0, _, _ => none
  | n + 1, s13, i14 =>
  if (decide (i14 < 26)) then ((sAt [65, 66, 67, 68, 69, 70, 71, 72, 73, 74, 75, 76, 77, 78, 79, 80, 81, 82, 83, 84, 85, 86, 87, 88, 89, 90] i14).bind fun b18 =>
  (sAt x_s i5).bind fun b19 =>
  if (b18 == b19) then ((zO i14 1).bind fun i22 =>
  (zgG [97, 98, 99, 100, 101, 102, 103, 104, 105, 106, 107, 108, 109, 110, 111, 112, 113, 114, 115, 116, 117, 118, 119, 120, 121, 122] i14 i22).bind fun s23 =>
  zeD (za6 rec1 x_s s4 i5 n) i14 s23) else (zeD (za6 rec1 x_s s4 i5 n) i14 s13)) else ((zds s4 s13).bind fun s27 =>
  (zO i5 1).bind fun i29 =>
  rec1 s27 i29)

def za7 (x_s : Str) : Nat → Str → Int → Option Str
  | 0, _, _ => none
  | n + 1, s4, i5 =>
  if (decide (i5 < (x_s.length : Int))) then ((zO i5 1).bind fun i9 =>
  (zgG x_s i5 i9).bind fun s10 =>
  za6 (za7 x_s n) x_s s4 i5 fuel s10 0) else (some s4)

def zeS (x_s : Str) : Option Str :=
  za7 x_s fuel [] 0

def zdV (r5 : api_Host × Int) (t9 : Bool) : Option (api_Target × Int) :=
  if t9 then (some (((⟨0, [], (⟨0, [], 0⟩ : api_Host), [], [], false⟩ : api_Target), 20))) else (some (((⟨3, [], r5.1, [], [], false⟩ : api_Target), 0)))

def zdW (t84 : Bool) (i85 : Int) (s86 : Str) (i87 : Int) (s88 : Str) (i89 : Int) (s90 : Str) (s91 : Str) (t92 : Bool) : Option (api_Target × Int) :=
  if (!t84) then (some (((⟨0, [], (⟨0, [], 0⟩ : api_Host), [], [], false⟩ : api_Target), 20))) else (some (((⟨i85, s86, (⟨i87, s88, i89⟩ : api_Host), s90, s91, t92⟩ : api_Target), 0)))

def zby (rec5 : Int → Option (api_Target × Int)) (x34 : Str) (s47 : Str) (i50 : Int) (t55 : Bool) : Option (api_Target × Int) :=
  if t55 then ((zO i50 1).bind fun i58 =>
  rec5 i58) else ((sTo s47 i50).bind fun s60 =>
  (zcW s60).bind fun r61 =>
  if (!(r61.2 == 0)) then (some (((⟨0, [], (⟨0, [], 0⟩ : api_Host), [], [], false⟩ : api_Target), 20))) else (if (i50 == (s47.length : Int)) then (some (((⟨2, x34, r61.1, [], [], false⟩ : api_Target), 0))) else ((sAt s47 i50).bind fun b74 =>
  if (b74 == 63) then ((zO i50 1).bind fun i78 =>
  (zbB s47 i78).bind fun s79 =>
  (ze7 s79).bind fun r81 =>
  zdW r81 2 x34 r61.1.Kind r61.1.Name r61.1.Port [] s79 true) else ((zbB s47 i50).bind fun s82 =>
  (zeh (⟨2, x34, r61.1, [], [], false⟩ : api_Target) s82).bind fun r83 =>
  zdW r83.2 r83.1.Kind r83.1.Scheme r83.1.Host.Kind r83.1.Host.Name r83.1.Host.Port r83.1.Path r83.1.Query r83.1.HasQuery))))

def zau (x34 : Str) (s47 : Str) : Nat → Int → Option (api_Target × Int)
  | 0, _ => none
  | n + 1, i50 =>
  if (decide (i50 < (s47.length : Int))) then ((sAt s47 i50).bind fun b52 =>
  if (!(b52 == 47)) then ((sAt s47 i50).bind fun b54 =>
  zby (zau x34 s47 n) x34 s47 i50 (!(b54 == 63))) else (zby (zau x34 s47 n) x34 s47 i50 false)) else (zby (zau x34 s47 n) x34 s47 i50 false)

def zdX (rec3 : Str → Int → Option (api_Target × Int)) (s29 : Str) (i30 : Int) (x34 : Str) (i38 : Int) (t44 : Bool) : Option (api_Target × Int) :=
  if t44 then ((zO i30 1).bind fun i99 =>
  rec3 s29 i99) else ((zbB s29 i38).bind fun s47 =>
  zau x34 s47 fuel 0)

def zaa : Nat → Str → Int → Option (api_Target × Int)
  | 0, _, _ => none
  | n + 1, s29, i30 =>
  if (decide (i30 < ((([[104, 116, 116, 112], [104, 116, 116, 112, 115]] : List Str).length : Int)))) then ((lAt ([[104, 116, 116, 112], [104, 116, 116, 112, 115]] : List Str) i30).bind fun x34 =>
  (zO (x34.length : Int) 3).bind fun i38 =>
  if (decide ((s29.length : Int) < i38)) then (zdX (zaa n) s29 i30 x34 i38 true) else ((sTo s29 i38).bind fun s41 =>
  (zeS s41).bind fun r42 =>
  (zds x34 [58, 47, 47]).bind fun s43 =>
  zdX (zaa n) s29 i30 x34 i38 (!(r42 == s43)))) else (some (((⟨0, [], (⟨0, [], 0⟩ : api_Host), [], [], false⟩ : api_Target), 20)))

def zbz (x_a1 : Str) (t16 : Bool) : Option (api_Target × Int) :=
  if t16 then (some (((⟨4, [], (⟨0, [], 0⟩ : api_Host), [], [], false⟩ : api_Target), 0))) else ((zeh ((⟨1, [], (⟨0, [], 0⟩ : api_Host), [], [], false⟩ : api_Target)) x_a1).bind fun r20 =>
  if r20.2 then (some (r20.1, 0)) else (zaa fuel x_a1 0))

def zgt (x_a0 : Str) (x_a1 : Str) : Option (api_Target × Int) :=
  if (x_a0 == [67, 79, 78, 78, 69, 67, 84]) then ((zcW x_a1).bind fun r5 =>
  if (!(r5.2 == 0)) then (zdV r5 true) else (zdV r5 (decide (r5.1.Port < 0)))) else (if (x_a1 == [42]) then (zbz x_a1 (x_a0 == [79, 80, 84, 73, 79, 78, 83])) else (zbz x_a1 false))

def zdY (t4 : Bool) : Option Bool :=
  some t4

def ze8 (x_b : UInt8) : Option Bool :=
  if (decide (32 ≤ x_b)) then (if (!(x_b == 127)) then (zdY true) else (zdY (x_b == 9))) else (zdY (x_b == 9))

def zdZ (rec2 : Int → Option (api_Head × Int)) (i9 : Int) (t16 : Bool) : Option (api_Head × Int) :=
  if t16 then (some (((⟨0, [], [], 0, [], 0, []⟩ : api_Head), 24))) else ((zO i9 1).bind fun i20 =>
  rec2 i20)

def zav (r22 : List Str) (r32 : Int) (t44 : Bool) : Option (api_Head × Int) :=
  if t44 then (some (((⟨0, [], [], 0, [], 0, []⟩ : api_Head), 20))) else ((lAt r22 0).bind fun x48 =>
  (lAt r22 1).bind fun x51 =>
  (zgt x48 x51).bind fun r54 =>
  if (!(r54.2 == 0)) then (some (((⟨0, [], [], 0, [], 0, []⟩ : api_Head), 20))) else ((lAt r22 0).bind fun x61 =>
  (lAt r22 1).bind fun x64 =>
  some (((⟨1, x61, x64, 0, [], r32, []⟩ : api_Head), 0))))

def zd0 (r72 : Int) (r90 : Int × Int) (s92 : Str) (t108 : Bool) : Option (api_Head × Int) :=
  if t108 then (some (((⟨0, [], [], 0, [], 0, []⟩ : api_Head), 20))) else (some (((⟨2, [], [], r90.1, s92, r72, []⟩ : api_Head), 0)))

def zbA (r72 : Int) (r90 : Int × Int) (s92 : Str) : Nat → Int → Option (api_Head × Int)
  | 0, _ => none
  | n + 1, i95 =>
  if (decide (i95 < (s92.length : Int))) then ((sAt s92 i95).bind fun b99 =>
  (ze8 b99).bind fun r100 =>
  if (!r100) then (some (((⟨0, [], [], 0, [], 0, []⟩ : api_Head), 20))) else ((zO i95 1).bind fun i105 =>
  (zbA r72 r90 s92 n) i105)) else (if (!(r90.2 == 0)) then (zd0 r72 r90 s92 true) else (zd0 r72 r90 s92 (decide (r90.1 < 100))))

def zaw (x_a1 : Str) (r22 : List Str) (r72 : Int) (t83 : Bool) : Option (api_Head × Int) :=
  if t83 then (some (((⟨0, [], [], 0, [], 0, []⟩ : api_Head), 20))) else ((lAt r22 1).bind fun x87 =>
  (zfU x87 10 599).bind fun r90 =>
  (zbB x_a1 13).bind fun s92 =>
  zbA r72 r90 s92 fuel 0)

def zaJ (x_a0 : Int) (x_a1 : Str) : Nat → Int → Option (api_Head × Int)
  | 0, _ => none
  | n + 1, i9 =>
  if (decide (i9 < (x_a1.length : Int))) then ((sAt x_a1 i9).bind fun b13 =>
  if (b13 == 13) then (zdZ (zaJ x_a0 x_a1 n) i9 true) else ((sAt x_a1 i9).bind fun b15 =>
  zdZ (zaJ x_a0 x_a1 n) i9 (b15 == 10))) else ((zdN x_a1 32).bind fun r22 =>
  if (x_a0 == 1) then ((zd8 (r22.length : Int) 1).bind fun i28 =>
  (lAt r22 i28).bind fun x29 =>
  (zbY x29).bind fun r32 =>
  if (r32 == 2) then (some (((⟨0, [], [], 0, [], 0, []⟩ : api_Head), 26))) else (if (!((r22.length : Int) == 3)) then (zav r22 r32 true) else (if (decide (r32 < 0)) then (zav r22 r32 true) else ((lAt r22 0).bind fun x40 =>
  (zdO x40).bind fun r43 =>
  zav r22 r32 (!r43))))) else ((lAt r22 0).bind fun x69 =>
  (zbY x69).bind fun r72 =>
  if (r72 == 2) then (some (((⟨0, [], [], 0, [], 0, []⟩ : api_Head), 26))) else (if (decide ((r22.length : Int) < 3)) then (zaw x_a1 r22 r72 true) else (if (decide (r72 < 0)) then (zaw x_a1 r22 r72 true) else ((lAt r22 1).bind fun x80 =>
  zaw x_a1 r22 r72 (!((x80.length : Int) == 3)))))))

def zd1 (x_a0 : Int) (x_a1 : Str) (t4 : Bool) : Option (api_Head × Int) :=
  if t4 then (some (((⟨0, [], [], 0, [], 0, []⟩ : api_Head), 1))) else (zaJ x_a0 x_a1 fuel 0)

def zgu (x_a0 : Int) (x_a1 : Str) : Option (api_Head × Int) :=
  if (!(x_a0 == 1)) then (zd1 x_a0 x_a1 (!(x_a0 == 2))) else (zd1 x_a0 x_a1 false)

def zfr (t3 : Bool) : Option Bool :=
  some t3

def ze9 (x_b : UInt8) : Option Bool :=
  if (x_b == 32) then (zfr true) else (zfr (x_b == 9))

def zdm (rec3 : Str → Option Str) (s11 : Str) (t16 : Bool) : Option Str :=
  if t16 then ((zd8 (s11.length : Int) 1).bind fun i19 =>
  (sTo s11 i19).bind fun s20 =>
  rec3 s20) else (some s11)

def za8 : Nat → Str → Option Str
  | 0, _ => none
  | n + 1, s11 =>
  if (decide (0 < (s11.length : Int))) then ((zd8 (s11.length : Int) 1).bind fun i13 =>
  (sAt s11 i13).bind fun b14 =>
  (ze9 b14).bind fun r15 =>
  zdm (za8 n) s11 r15) else (zdm (za8 n) s11 false)

def zdn (rec1 : Str → Option Str) (s2 : Str) (t6 : Bool) : Option Str :=
  if t6 then ((zbB s2 1).bind fun s9 =>
  rec1 s9) else (za8 fuel s2)

def za9 : Nat → Str → Option Str
  | 0, _ => none
  | n + 1, s2 =>
  if (decide (0 < (s2.length : Int))) then ((sAt s2 0).bind fun b4 =>
  (ze9 b4).bind fun r5 =>
  zdn (za9 n) s2 r5) else (zdn (za9 n) s2 false)

def zho (x_s : Str) : Option Str :=
  za9 fuel x_s

def zbM (x_s : Str) : Nat → Int → Option Bool
  | 0, _ => none
  | n + 1, i3 =>
  if (decide (i3 < (x_s.length : Int))) then ((sAt x_s i3).bind fun b7 =>
  (ze8 b7).bind fun r8 =>
  if (!r8) then (some false) else ((zO i3 1).bind fun i13 =>
  (zbM x_s n) i13)) else (some true)

def zfs (x_s : Str) : Option Bool :=
  zbM x_s fuel 0

def zje (x_f : api_Field) (x_name : Str) : Option Bool :=
  (zeS x_f.Name).bind fun r3 =>
  (zeS x_name).bind fun r4 =>
  some (r3 == r4)

def zdb (rec1 : (List Str) → Int → Option (List Str)) (i7 : Int) (l26 : List Str) : Option (List Str) :=
  (zO i7 1).bind fun i27 =>
  rec1 l26 i27

def zaQ (x_l : List api_Field) (x_name : Str) : Nat → (List Str) → Int → Option (List Str)
  | 0, _, _ => none
  | n + 1, l6, i7 =>
  if (decide (i7 < (x_l.length : Int))) then ((lAt x_l i7).bind fun x11 =>
  (zje x11 x_name).bind fun r14 =>
  if r14 then ((lAt x_l i7).bind fun x17 =>
  if zaO l6.length 1 16 then (zdb (zaQ x_l x_name n) i7 (l6 ++ ([x17.Value] : List Str))) else none) else (zdb (zaQ x_l x_name n) i7 l6)) else (some l6)

def zei (x_l : List api_Field) (x_name : Str) : Option (List Str) :=
  zaQ x_l x_name fuel [] 0

def zd2 (r11 : List Str) (t25 : Bool) : Option Int :=
  if t25 then ((lAt r11 0).bind fun x27 =>
  (zcW x27).bind fun r30 =>
  some r30.2) else (some 0)

def zah (r11 : List Str) (t17 : Bool) : Option Int :=
  if t17 then (some 27) else (if ((r11.length : Int) == 1) then ((lAt r11 0).bind fun x22 =>
  zd2 r11 (!(x22 == []))) else (zd2 r11 false))

def zgv (x_h : api_Head) : Option Int :=
  if (decide (100 < (x_h.Fields.length : Int))) then (some 3) else (if (x_h.Kind == 2) then (some 0) else ((zei x_h.Fields [104, 111, 115, 116]).bind fun r11 =>
  if (decide (1 < (r11.length : Int))) then (zah r11 true) else (if (x_h.Minor == 1) then (zah r11 ((r11.length : Int) == 0)) else (zah r11 false))))

def zfW (x_sep : Str) (x_l : List Str) : Option Str :=
  (strings_Join x_l x_sep).bind fun r2 =>
  some r2

def zcu (s14 : Str) (t30 : Bool) : Option (Str × Int) :=
  if t30 then (some ([], 20)) else (some (s14, 0))

def zaF (s14 : Str) (r15 : api_Head × Int) (t28 : Bool) : Option (Str × Int) :=
  if (!(r15.2 == 0)) then (zcu s14 true) else (zcu s14 (!t28))

def zbF (x_a0 : api_Head) (s14 : Str) : Option (Str × Int) :=
  (zbL x_a0.Kind s14).bind fun r15 =>
  if (r15.2 == 1) then (some ([], r15.2)) else (if (r15.1.Method == x_a0.Method) then (if (r15.1.Target == x_a0.Target) then (if (r15.1.Minor == x_a0.Minor) then (if (r15.1.Code == x_a0.Code) then (zaF s14 r15 (r15.1.Reason == x_a0.Reason)) else (zaF s14 r15 false)) else (zaF s14 r15 false)) else (zaF s14 r15 false)) else (zaF s14 r15 false))

def zcQ (x_a0 : api_Head) : Option (Str × Int) :=
  (zcX x_a0.Minor).bind fun r3 =>
  (zds [72, 84, 84, 80, 47, 49, 46] r3).bind fun s4 =>
  (zfW [32] ([x_a0.Method, x_a0.Target, s4] : List Str)).bind fun r7 =>
  if (x_a0.Kind == 2) then ((zcX x_a0.Code).bind fun r11 =>
  (zfW [32] ([s4, r11, x_a0.Reason] : List Str)).bind fun r13 =>
  zbF x_a0 r13) else (zbF x_a0 r7)

def zd3 (t5 : Bool) : Option Bool :=
  some t5

def zgw (x_s : Str) : Option Bool :=
  if (!(x_s == [])) then ((zci zbV ([x_s] : List Str)).bind fun r4 =>
  zd3 r4) else (zd3 false)

def zc1 (t11 : Bool) : Option Int :=
  if t11 then (some 25) else (some 0)

def zcn (x_f : api_Field) : Option Int :=
  (zgw x_f.Name).bind fun r3 =>
  if (!r3) then (some 21) else ((zci zaH ([x_f.Value] : List Str)).bind fun r8 =>
  if (!r8) then (zc1 true) else ((zd9 x_f.Value [32, 9]).bind fun r10 =>
  zc1 (!(r10 == x_f.Value))))

def zcB (x_h : api_Head) : Nat → Int → Option Int
  | 0, _ => none
  | n + 1, i10 =>
  if (decide (i10 < (x_h.Fields.length : Int))) then ((lAt x_h.Fields i10).bind fun x14 =>
  (zcn x14).bind fun r19 =>
  if (!(r19 == 0)) then (some r19) else ((zO i10 1).bind fun i25 =>
  (zcB x_h n) i25)) else ((zfR x_h).bind fun r27 =>
  some r27)

def zfX (x_h : api_Head) : Option Int :=
  (zcQ x_h).bind fun r3 =>
  if (!(r3.2 == 0)) then (some r3.2) else (zcB x_h fuel 0)

def zjz (x_most : Int) : Option quill_Quill :=
  some (⟨[], max x_most 0⟩ : quill_Quill)

def zej (x_q : quill_Quill) : Option Int :=
  (zd8 x_q.f_most (x_q.f_b.length : Int)).bind fun i4 =>
  some i4

def zeT (l44 : List UInt8) (i45 : Int) : Option (Int × quill_Quill) :=
  some ((0, (⟨l44, i45⟩ : quill_Quill)))

def zY (x_l : List Str) : Nat → (List UInt8) → Int → Int → Option (Int × quill_Quill)
  | 0, _, _, _ => none
  | n + 1, l27, i28, i29 =>
  if (decide (i29 < (x_l.length : Int))) then ((lAt x_l i29).bind fun x33 =>
  if zaO l27.length x33.length 1 then ((zO i29 1).bind fun i41 =>
  (zY x_l n) (l27 ++ x33) i28 i41) else none) else (zeT l27 i28)

def zag (x_q : quill_Quill) (x_l : List Str) : Nat → Int → Int → Option (Int × quill_Quill)
  | 0, _, _ => none
  | n + 1, i7, i8 =>
  if (decide (i8 < (x_l.length : Int))) then ((lAt x_l i8).bind fun x12 =>
  if (decide (i7 < (x12.length : Int))) then (some (10, x_q)) else ((zd8 i7 (x12.length : Int)).bind fun i20 =>
  (zO i8 1).bind fun i22 =>
  (zag x_q x_l n) i20 i22)) else (zY x_l fuel x_q.f_b x_q.f_most 0)

def zeL (x_q : quill_Quill) (x_l : List Str) : Option (Int × quill_Quill) :=
  (zej x_q).bind fun r4 =>
  zag x_q x_l fuel r4 0

def zek (x_q : quill_Quill) (x_l : List Str) : Option (Int × quill_Quill) :=
  if zaO 0 x_l.length 16 then (if zaO x_l.length 1 16 then ((zeL x_q (x_l ++ ([[13, 10]] : List Str))).bind fun r10 =>
  some (r10.1, r10.2)) else none) else none

def zbc (x_p : head_printer) (x_s : Str) : Option head_printer :=
  (zek x_p.Quill ([x_s] : List Str)).bind fun r2 =>
  if (!(r2.1 == 0)) then (some (⟨r2.2, true⟩ : head_printer)) else (some (⟨r2.2, x_p.f_full⟩ : head_printer))

def zd4 (x_f : api_Field) : Option (Str × Int) :=
  (zcn x_f).bind fun r3 =>
  if (!(r3 == 0)) then (some ([], r3)) else (if (x_f.Value == []) then ((zds x_f.Name [58]).bind fun s11 =>
  some (s11, 0)) else ((zds x_f.Name [58, 32]).bind fun s14 =>
  (zds s14 x_f.Value).bind fun s15 =>
  some (s15, 0)))

def zfY (x_q : quill_Quill) : Option Str :=
  some x_q.f_b

def zeE (t45 : Bool) (l48 : List UInt8) (i49 : Int) : Option (Str × Int) :=
  (zbc ((⟨(⟨l48, i49⟩ : quill_Quill), t45⟩ : head_printer)) []).bind fun r50 =>
  if r50.f_full then (some ([], 3)) else ((zfY r50.Quill).bind fun r59 =>
  some (r59, 0))

def zcC (x_h : api_Head) : Nat → Bool → (List UInt8) → Int → Int → Option (Str × Int)
  | 0, _, _, _, _ => none
  | n + 1, t23, l26, i27, i28 =>
  if (decide (i28 < (x_h.Fields.length : Int))) then ((lAt x_h.Fields i28).bind fun x32 =>
  (zd4 x32).bind fun r37 =>
  (zbc ((⟨(⟨l26, i27⟩ : quill_Quill), t23⟩ : head_printer)) r37.1).bind fun r39 =>
  (zO i28 1).bind fun i44 =>
  (zcC x_h n) r39.f_full r39.Quill.f_b r39.Quill.f_most i44) else (zeE t23 l26 i27)

def zfZ (x_h : api_Head) (x_limit : Int) : Option (Str × Int) :=
  (zfX x_h).bind fun r3 =>
  if (!(r3 == 0)) then (some ([], r3)) else ((zjz x_limit).bind fun r9 =>
  (zcQ x_h).bind fun r15 =>
  (zbc (⟨r9, false⟩ : head_printer) r15.1).bind fun r17 =>
  zcC x_h fuel r17.f_full r17.Quill.f_b r17.Quill.f_most 0)

def zd5 (t11 : Bool) : Option Bool :=
  some t11

def zhA : Option Bool :=
  (zfS 1 [71, 69, 84, 32, 47, 32, 72, 84, 84, 80, 47, 49, 46, 49, 13, 10, 72, 111, 115, 116, 58, 97, 32, 13, 10, 13, 10] 99).bind fun r2 =>
  (zfZ r2.1 99).bind fun r7 =>
  if (r2.2 == 0) then (if (r7.2 == 0) then (zd5 (r7.1 == [71, 69, 84, 32, 47, 32, 72, 84, 84, 80, 47, 49, 46, 49, 13, 10, 72, 111, 115, 116, 58, 32, 97, 13, 10, 13, 10])) else (zd5 false)) else (zd5 false)

def zel (x_s : Str) : Option Str :=
  (sTo x_s (min (x_s.length : Int) 400)).bind fun s2 =>
  some s2

def zft (rec1 : (List api_Field) → Int → Option api_Head) (x_h : api_Head) (r4 : Str) (r6 : Str) (r8 : Str) (l14 : List api_Field) (i15 : Int) (t17 : Bool) : Option api_Head :=
  if t17 then ((lAt x_h.Fields i15).bind fun x20 =>
  (zel x20.Name).bind fun r23 =>
  (lAt x_h.Fields i15).bind fun x24 =>
  (zel x24.Value).bind fun r27 =>
  if zaO l14.length 1 32 then ((zO i15 1).bind fun i33 =>
  rec1 (l14 ++ [(⟨r23, r27⟩ : api_Field)]) i33) else none) else (some (⟨x_h.Kind, r4, r6, x_h.Code, r8, x_h.Minor, l14⟩ : api_Head))

def zbU (x_h : api_Head) (r4 : Str) (r6 : Str) (r8 : Str) : Nat → (List api_Field) → Int → Option api_Head
  | 0, _, _ => none
  | n + 1, l14, i15 =>
  if (decide (i15 < (x_h.Fields.length : Int))) then (zft (zbU x_h r4 r6 r8 n) x_h r4 r6 r8 l14 i15 (decide (i15 < 120))) else (zft (zbU x_h r4 r6 r8 n) x_h r4 r6 r8 l14 i15 false)

def zh4 (x_h : api_Head) : Option api_Head :=
  (zel x_h.Method).bind fun r4 =>
  (zel x_h.Target).bind fun r6 =>
  (zel x_h.Reason).bind fun r8 =>
  zbU x_h r4 r6 r8 fuel [] 0

def zbs (s18 : Str) (t33 : Bool) : Option (Str × Int) :=
  if t33 then (some ([], 20)) else (some (s18, 0))

def zdo (x_a0 : api_Head) (s18 : Str) : Option (Str × Int) :=
  (zgu x_a0.Kind s18).bind fun r19 =>
  if (r19.2 == 1) then (some ([], 1)) else (if (!(r19.2 == 0)) then (zbs s18 true) else (if (!(r19.1.Method == x_a0.Method)) then (zbs s18 true) else (if (!(r19.1.Target == x_a0.Target)) then (zbs s18 true) else (if (!(r19.1.Minor == x_a0.Minor)) then (zbs s18 true) else (if (!(r19.1.Code == x_a0.Code)) then (zbs s18 true) else (zbs s18 (!(r19.1.Reason == x_a0.Reason))))))))

def zf0 (x_a0 : api_Head) : Option (Str × Int) :=
  (zeR x_a0.Minor 10).bind fun r3 =>
  (zds [72, 84, 84, 80, 47, 49, 46] r3).bind fun s4 =>
  (zds x_a0.Method [32]).bind fun s6 =>
  (zds s6 x_a0.Target).bind fun s7 =>
  (zds s7 [32]).bind fun s8 =>
  (zds s8 s4).bind fun s9 =>
  if (x_a0.Kind == 2) then ((zds s4 [32]).bind fun s13 =>
  (zeR x_a0.Code 10).bind fun r14 =>
  (zds s13 r14).bind fun s15 =>
  (zds s15 [32]).bind fun s16 =>
  (zds s16 x_a0.Reason).bind fun s17 =>
  zdo x_a0 s17) else (zdo x_a0 s9)

def zfu (t11 : Bool) : Option Int :=
  if t11 then (some 25) else (some 0)

def zgx (x_f : api_Field) : Option Int :=
  (zdO x_f.Name).bind fun r3 =>
  if (!r3) then (some 21) else ((zfs x_f.Value).bind fun r8 =>
  if (!r8) then (zfu true) else ((zho x_f.Value).bind fun r10 =>
  zfu (!(r10 == x_f.Value))))

def zcd (x_h : api_Head) : Nat → Int → Option Int
  | 0, _ => none
  | n + 1, i10 =>
  if (decide (i10 < (x_h.Fields.length : Int))) then ((lAt x_h.Fields i10).bind fun x14 =>
  (zgx x14).bind fun r17 =>
  if (!(r17 == 0)) then (some r17) else ((zO i10 1).bind fun i23 =>
  (zcd x_h n) i23)) else ((zgv x_h).bind fun r25 =>
  some r25)

def zgy (x_h : api_Head) : Option Int :=
  (zf0 x_h).bind fun r3 =>
  if (!(r3.2 == 0)) then (some r3.2) else (zcd x_h fuel 0)

def zhp (x_f : api_Field) : Option Str :=
  if (x_f.Value == []) then ((zds x_f.Name [58]).bind fun s5 =>
  some s5) else ((zds x_f.Name [58, 32]).bind fun s8 =>
  (zds s8 x_f.Value).bind fun s9 =>
  some s9)

def zcD (x_h : api_Head) : Nat → Str → Int → Option Str
  | 0, _, _ => none
  | n + 1, s8, i9 =>
  if (decide (i9 < (x_h.Fields.length : Int))) then ((lAt x_h.Fields i9).bind fun x13 =>
  (zhp x13).bind fun r16 =>
  (zds s8 r16).bind fun s17 =>
  (zds s17 [13, 10]).bind fun s18 =>
  (zO i9 1).bind fun i20 =>
  (zcD x_h n) s18 i20) else ((zds s8 [13, 10]).bind fun s22 =>
  some s22)

def zhq (x_h : api_Head) : Option Str :=
  (zf0 x_h).bind fun r3 =>
  (zds r3.1 [13, 10]).bind fun s5 =>
  zcD x_h fuel s5 0

def zdy (t24 : Bool) : Option Bool :=
  some t24

def zdz (t31 : Bool) : Option Bool :=
  some t31

def zbG (t42 : Bool) : Option Bool :=
  some t42

def zfv (x_a0 : api_Head) (x_a1 : Int) : Option Bool :=
  (zhA).bind fun r3 =>
  if (!r3) then (some false) else ((zh4 x_a0).bind fun r8 =>
  (zfZ r8 x_a1).bind fun r12 =>
  (zgy r8).bind fun r14 =>
  (zfX r8).bind fun r16 =>
  if (!(r16 == r14)) then (some false) else (if (!(r14 == 0)) then (if (r12.1 == []) then (zdy (r12.2 == r14)) else (zdy false)) else ((zhq r8).bind fun r26 =>
  if (decide (x_a1 < (r26.length : Int))) then (if (r12.1 == []) then (zdz (r12.2 == 3)) else (zdz false)) else ((zfS r8.Kind r12.1 x_a1).bind fun r33 =>
  if (r12.1 == r26) then (if (r12.2 == 0) then (if (r33.2 == 0) then ((zfT r33.1 r8).bind fun r41 =>
  zbG r41) else (zbG false)) else (zbG false)) else (zbG false)))))

end Go.Dm
end
section
namespace Go.Dm
theorem zmC (b : Bool) (v : Int) (k : Nat) (h : -1 ≤ v) : (if b = true then (k : Int) else if v = -1 then -1 else v + ((k + 1 : Nat) : Int)) =
    if (if b = true then 0 else if (v == -1) = true then -1 else v + 1) = -1 then -1 else (if b = true then 0 else if (v == -1) = true then -1 else v + 1) + (k : Int) := by
  cases b with
  | true => simp
  | false =>
    by_cases hm : v = -1
    · subst hm; simp
    · have h2 : ¬ (v + 1 = -1) := by omega
      have h3 : (v == -1) = false := beq_eq_false_iff_ne.2 hm
      rw [h3]
      simp only [Bool.false_eq_true, if_false, if_neg hm, if_neg h2]
      omega
theorem zlS : ∀ (l : Str) (c : UInt8) (k : Nat), zgO l c k = if Go.Lib.indexByte l c = -1 then -1 else Go.Lib.indexByte l c + k
  | [], _, _ => rfl
  | x :: l, c, k => by
    rw [zgO, Go.Lib.indexByte, zlS l c (k + 1)]
    exact zmC _ _ k (Go.Lib.indexByte_ge l c)
theorem zmD (x y : UInt8) : (x == y) = (y == x) := by
  by_cases h : x = y
  · subst h; rfl
  · rw [beq_eq_false_iff_ne.2 h, beq_eq_false_iff_ne.2 (Ne.symm h)]
theorem zmE : ∀ (s t : Str), zkm s t = t.isPrefixOf s
  | s, [] => by cases s <;> rfl
  | [], y :: t => rfl
  | x :: s, y :: t => by
    rw [zkm, List.isPrefixOf, zmE s t, zmD x y]
theorem zmF : ∀ (l t : Str) (k : Nat), zhd l t k = if Go.Lib.index l t = -1 then -1 else Go.Lib.index l t + k
  | [], t, k => by
    rw [zhd, Go.Lib.index]
    cases t <;> simp [zkm]
  | x :: l, t, k => by
    rw [zhd, Go.Lib.index, zmE]
    simp only [zmF l t (k + 1)]
    exact zmC _ _ k (Go.Lib.index_ge l t)
theorem zmG : ∀ (l cs : Str) (k : Nat), zjc l cs k = if Go.Lib.indexAny l cs = -1 then -1 else Go.Lib.indexAny l cs + k
  | [], _, _ => rfl
  | x :: l, cs, k => by
    rw [zjc, Go.Lib.indexAny, zmG l cs (k + 1)]
    exact zmC _ _ k (Go.Lib.indexAny_ge cs l)
theorem zpM (l : Str) (c : UInt8) : zgO l c 0 = Go.Lib.indexByte l c := by
  rw [zlS]; have := Go.Lib.indexByte_ge l c; split <;> omega
theorem zmH (l t : Str) : zhd l t 0 = Go.Lib.index l t := by
  rw [zmF]; have := Go.Lib.index_ge l t; split <;> omega
theorem zqN (l cs : Str) : zjc l cs 0 = Go.Lib.indexAny l cs := by
  rw [zmG]; have := Go.Lib.indexAny_ge cs l; split <;> omega
end Go.Dm
end
section
namespace Go.Dm
@[simp] theorem zak (l : Str) (i : Nat) : sAt l (i : Int) = l[i]? := by simp [sAt]
@[simp] theorem zkW (l : Str) : sAt l 0 = l[0]? := by simp [sAt]
@[simp] theorem sAt_one (l : Str) : sAt l 1 = l[1]? := by simp [sAt]
@[simp] theorem sAt_two (l : Str) : sAt l 2 = l[2]? := by simp [sAt]
@[simp] theorem zbH {α : Type} (l : List α) (i : Nat) : lAt l (i : Int) = l[i]? := by simp [lAt]
@[simp] theorem zsO {α : Type} (l : List α) : lAt l 0 = l[0]? := by simp [lAt]
theorem zcF {m n : Int} (h1 : -9223372036854775808 ≤ m + n) (h2 : m + n ≤ 9223372036854775807) : zO m n = some (m + n) := by simp [zO, inI, h1, h2]
theorem zcG {m n : Int} (h1 : -9223372036854775808 ≤ m - n) (h2 : m - n ≤ 9223372036854775807) : zd8 m n = some (m - n) := by simp [zd8, inI, h1, h2]
theorem zry {m n : Int} (h1 : -9223372036854775808 ≤ m * n) (h2 : m * n ≤ 9223372036854775807) : zoZ m n = some (m * n) := by simp [zoZ, inI, h1, h2]
theorem zq {i : Nat} (h : i < 4611686018427387904) : zO (i : Int) 1 = some ((i + 1 : Nat) : Int) := by
  rw [zcF (by omega) (by omega)]; simp
theorem zsP {i k : Nat} (h : i + k < 4611686018427387904) : zO (i : Int) (k : Int) = some ((i + k : Nat) : Int) := by
  rw [zcF (by omega) (by omega)]; simp
theorem zeM {l : Str} {h : Nat} (hh : h ≤ l.length) : sTo l (h : Int) = some (l.take h) := by simp [sTo, hh]
theorem zas {l : Str} {i : Nat} (hh : i ≤ l.length) : zbB l (i : Int) = some (l.drop i) := by simp [zbB, hh]
theorem zfy {l : Str} {i h : Nat} (h1 : i ≤ h) (h2 : h ≤ l.length) : zgG l (i : Int) (h : Int) = some ((l.take h).drop i) := by simp [zgG, h1, h2]
theorem zal {l m : Str} (h : l.length + m.length ≤ 9223372036854775807) : zds l m = some (l ++ m) := by simp [zds, h]
theorem zph {n : Nat} (h : n < 1000000000000000000) : n < fuel := h

theorem zos {α β : Type} (l : List α) (L : Nat → Int → Option β) (F : α → Option β → Option β) (E : Option β)
    (hE : ∀ n, L (n + 1) (l.length : Int) = E) (hL : ∀ n (i : Nat) x, i < l.length → l[i]? = some x → L (n + 1) (i : Int) = F x (L n ((i + 1 : Nat) : Int))) :
    ∀ (n i : Nat), i ≤ l.length → l.length - i < n → L n (i : Int) = (l.drop i).foldr F E
  | 0, _, _, h => by omega
  | n + 1, i, hi, h => by
    by_cases hlt : i < l.length
    · rw [hL n i _ hlt (List.getElem?_eq_getElem hlt), zos l L F E hE hL n (i + 1) (by omega) (by omega), List.drop_eq_getElem_cons hlt]
      rfl
    · have : i = l.length := by omega
      subst this
      rw [hE, List.drop_length]
      rfl
theorem zhs {α β : Type} (l : List α) (L : Nat → Int → Option β) (F : α → Option β → Option β) (E : Option β) (hl : l.length < 1000000000000000000)
    (hE : ∀ n, L (n + 1) (l.length : Int) = E) (hL : ∀ n (i : Nat) x, i < l.length → l[i]? = some x → L (n + 1) (i : Int) = F x (L n ((i + 1 : Nat) : Int))) : L fuel 0 = l.foldr F E := by
  have := zos l L F E hE hL fuel 0 (Nat.zero_le _) (zph (by omega))
  simpa using this
theorem zgS {n m b : Nat} (h : (n + m) * b ≤ 140737488355328) (h2 : n + m ≤ 140737488355328) : zaO n m b = true := by
  simp only [zaO, Bool.and_eq_true, decide_eq_true_eq]; exact ⟨by omega, h⟩

theorem zI (p : UInt8 → Bool) (h : (List.range 256).all (fun n => p (UInt8.ofNat n)) = true) (b : UInt8) : p b = true := by
  have := List.all_eq_true.1 h b.toNat (by simpa using b.toNat_lt)
  simpa using this
theorem zrX {α : Type} (p : α → Bool) (l : List α) : l.foldr (fun x r => if p x = true then r else some false) (some true) = some (l.all p) := by
  induction l with
  | nil => rfl
  | cons x l ih => simp only [List.foldr_cons, ih, List.all_cons]; cases p x <;> simp
theorem zsQ {α : Type} (p : α → Bool) (l : List α) : l.foldr (fun x r => if p x = true then some true else r) (some false) = some (l.any p) := by
  induction l with
  | nil => rfl
  | cons x l ih => simp only [List.foldr_cons, ih, List.any_cons]; cases p x <;> simp
theorem ztS (s : Str) (k : Nat) : sTo s (min (s.length : Int) (k : Int)) = some (s.take k) := by
  have e : min (s.length : Int) (k : Int) = ((min s.length k : Nat) : Int) := by omega
  rw [e, zeM (Nat.min_le_left _ _)]
  congr 1
  rcases Nat.le_total s.length k with h | h
  · rw [Nat.min_eq_left h, List.take_length, List.take_of_length_le h]
  · rw [Nat.min_eq_right h]
end Go.Dm
end
section
namespace Go.Dm
def zN (b : UInt8) : Bool := decide (48 ≤ b) && decide (b ≤ 57)
def zc2 (b : UInt8) : UInt8 := if 65 ≤ b ∧ b ≤ 90 then b + 32 else b
def zsM (b : UInt8) : Bool := decide (97 ≤ zc2 b) && decide (zc2 b ≤ 122)
def zeF (b : UInt8) : Bool := zN b || decide (97 ≤ zc2 b) && decide (zc2 b ≤ 102)
def zhP (b : UInt8) : Bool := zsM b || zN b || ([45, 46, 95, 126] : Str).contains b
def zn0 (b : UInt8) : Bool := ([33, 36, 38, 39, 40, 41, 42, 43, 44, 59, 61] : Str).contains b
def zkK (b : UInt8) : Bool := zhP b || zn0 b || b == 58 || b == 64

theorem zq1 (l : Str) (c : UInt8) (k : Nat) : decide (0 ≤ zgO l c k) = l.contains c := by
  induction l generalizing k with
  | nil => simp [zgO]
  | cons x l ih =>
    simp only [zgO, List.contains_cons]
    by_cases h : x = c
    · simp [h]
    · have h' : (c == x) = false := by simp; exact fun e => h e.symm
      simp [h, h', ih]
theorem zm5 (b : UInt8) : zaE b = some (zc2 b) :=
  of_decide_eq_true (zI (fun b => decide (zaE b = some (zc2 b))) (by decide +kernel) b)
theorem zf1 (b : UInt8) : zW b = some (zN b) :=
  of_decide_eq_true (zI (fun b => decide (zW b = some (zN b))) (by decide +kernel) b)
theorem zhr (b : UInt8) : zbW b = some (zeF b) :=
  of_decide_eq_true (zI (fun b => decide (zbW b = some (zeF b))) (by decide +kernel) b)
theorem zmg (b : UInt8) : zfm b = some (zkK b) :=
  of_decide_eq_true (zI (fun b => decide (zfm b = some (zkK b))) (by decide +kernel) b)
theorem zm6 (b : UInt8) : zcU b = some (zN b) :=
  of_decide_eq_true (zI (fun b => decide (zcU b = some (zN b))) (by decide +kernel) b)
theorem ziw (b : UInt8) : zef b = some (zeF b) :=
  of_decide_eq_true (zI (fun b => decide (zef b = some (zeF b))) (by decide +kernel) b)
theorem zn1 (b : UInt8) : zhm b = some (zkK b) :=
  of_decide_eq_true (zI (fun b => decide (zhm b = some (zkK b))) (by decide +kernel) b)

theorem zpa (b : UInt8) (l : Str) : l.any (fun x => x == b) = l.contains b := by
  induction l with
  | nil => rfl
  | cons x l ih =>
    simp only [List.any_cons, List.contains_cons, ih]
    congr 1
    rw [Bool.eq_iff_iff, beq_iff_eq, beq_iff_eq]; exact eq_comm
theorem zqc (b : UInt8) (l : Str) (hl : l.length < 1000000000) : zeA b l = some (l.contains b) := by
  unfold zeA
  rw [zhs l (zcT b l) (fun x r => if (x == b) = true then some true else r) (some false) (by omega)]
  · rw [zsQ, zpa]
  · intro n; rw [zcT]; simp only [Int.lt_irrefl, decide_false, Bool.false_eq_true, if_false]
  · intro n i x hi hx
    rw [zcT]
    simp only [Int.ofNat_lt, hi, decide_true, if_true, zak, hx, Option.bind_some, zq (show i < 4611686018427387904 by omega)]

theorem zb2 {p : UInt8 → Bool} {f : UInt8 → Option Bool} (hf : ∀ b, f b = some (p b)) (s : Str) (hs : s.length < 1000000000) : zci f [s] = some (s.all p) := by
  unfold zci
  have h2 : ∀ (rec1 : Int → Option Bool) (i : Int), zbQ rec1 f i s fuel 0 = s.foldr (fun x r => if p x = true then r else some false) ((zO i 1).bind rec1) := by
    intro rec1 i
    refine zhs s (zbQ rec1 f i s) _ _ (by omega) ?_ ?_
    · intro n; rw [zbQ]; simp only [Int.lt_irrefl, decide_false, Bool.false_eq_true, if_false]
    · intro n k x hk hx
      rw [zbQ]
      simp only [Int.ofNat_lt, hk, decide_true, if_true, zak, hx, Option.bind_some, hf, zq (show k < 4611686018427387904 by omega)]
      cases p x <;> rfl
  rw [zhs [s] (zbR f [s]) (fun x r => x.foldr (fun x r => if p x = true then r else some false) r) (some true) (by simp)]
  · simp only [List.foldr_cons, List.foldr_nil]
    exact zrX p s
  · intro n; rw [zbR]; simp only [Int.lt_irrefl, decide_false, Bool.false_eq_true, if_false]
  · intro n i x hi hx
    have hi0 : i = 0 := by simp at hi; exact hi
    subst hi0
    simp at hx; subst hx
    rw [zbR]
    simp [h2, zcF]
def za4 (b : UInt8) : Bool := zsM b || zN b || ([33, 35, 36, 37, 38, 39, 42, 43, 45, 46, 94, 95, 96, 124, 126] : Str).contains b
def zem (b : UInt8) : Bool := decide (32 ≤ b) && !(b == 127) || b == 9
theorem zh8 (b : UInt8) : zbV b = some (za4 b) :=
  of_decide_eq_true (zI (fun b => decide (zbV b = some (za4 b))) (by decide +kernel) b)
theorem zf2 (b : UInt8) : zaH b = some (zem b) :=
  of_decide_eq_true (zI (fun b => decide (zaH b = some (zem b))) (by decide +kernel) b)
theorem ziR (b : UInt8) : zbm b = some (zhP b) :=
  of_decide_eq_true (zI (fun b => decide (zbm b = some (zhP b))) (by decide +kernel) b)
theorem zm7 (b : UInt8) : ze0 b = some (zn0 b) :=
  of_decide_eq_true (zI (fun b => decide (ze0 b = some (zn0 b))) (by decide +kernel) b)
theorem zpb (b : UInt8) : zh2 b = some (za4 b) :=
  of_decide_eq_true (zI (fun b => decide (zh2 b = some (za4 b))) (by decide +kernel) b)
theorem zjg (b : UInt8) : ze8 b = some (zem b) :=
  of_decide_eq_true (zI (fun b => decide (ze8 b = some (zem b))) (by decide +kernel) b)
theorem zjK (b : UInt8) : zb4 b = some (zhP b) :=
  of_decide_eq_true (zI (fun b => decide (zb4 b = some (zhP b))) (by decide +kernel) b)
theorem zpc (b : UInt8) : zgZ b = some (zn0 b) :=
  of_decide_eq_true (zI (fun b => decide (zgZ b = some (zn0 b))) (by decide +kernel) b)
theorem zj2 {α : Type} (p : α → Bool) (l : List α) (e : Bool) : l.foldr (fun x r => if p x = true then r else some false) (some e) = some (l.all p && e) := by
  induction l with
  | nil => simp
  | cons x l ih => simp only [List.foldr_cons, ih, List.all_cons]; cases p x <;> simp
def zfw (s : Str) : Bool := s.all za4 && !(s == [])
theorem zjh (s : Str) (hs : s.length < 1000000000) : zdO s = some (zfw s) := by
  unfold zdO
  rw [zhs s (zbv s) (fun x r => if za4 x = true then r else some false) (some (!(s == []))) (by omega)]
  · rw [zj2]; rfl
  · intro n; rw [zbv]; simp only [Int.lt_irrefl, decide_false, Bool.false_eq_true, if_false]
    cases s <;> simp
  · intro n i x hi hx
    rw [zbv]
    simp only [Int.ofNat_lt, hi, decide_true, if_true, zak, hx, Option.bind_some, zpb, zq (show i < 4611686018427387904 by omega)]
    cases za4 x <;> rfl
theorem zm8 (s : Str) (hs : s.length < 1000000000) : zgw s = some (zfw s) := by
  unfold zgw zfw
  rw [zb2 zh8 s hs]
  cases s <;> simp [zd3]
end Go.Dm
end
section
namespace Go.Dm
def zaR (b : Nat) (l : List Nat) : Nat := l.foldl (fun n d => n * b + d) 0
theorem zoA (b : Nat) (l : List Nat) : ∀ n, l.foldl (fun n d => n * b + d) n = n * b ^ l.length + zaR b l := by
  unfold zaR
  induction l with
  | nil => intro n; simp
  | cons x l ih =>
    intro n
    rw [List.foldl_cons, ih, List.foldl_cons, ih (0 * b + x), List.length_cons, Nat.pow_succ, Nat.add_mul, Nat.zero_mul, Nat.zero_add, Nat.mul_assoc, Nat.mul_comm b, Nat.add_assoc]
theorem zte (b : Nat) : zaR b [] = 0 := rfl
theorem zg0 (b x : Nat) (l : List Nat) : zaR b (x :: l) = x * b ^ l.length + zaR b l := by
  have := zoA b l (0 * b + x)
  rw [Nat.zero_mul, Nat.zero_add] at this
  rw [← this]; unfold zaR; rw [List.foldl_cons, Nat.zero_mul, Nat.zero_add]
theorem zlC (b x : Nat) (l : List Nat) : zaR b (l ++ [x]) = zaR b l * b + x := by
  unfold zaR; rw [List.foldl_append]; rfl
theorem zmn {b : Nat} (hb : 0 < b) : ∀ {l : List Nat}, (∀ d ∈ l, d < b) → zaR b l < b ^ l.length
  | [], _ => by simp [zaR]
  | x :: l, h => by
    have h1 := h x (List.mem_cons_self ..)
    have h2 := zmn hb (l := l) fun d hd => h d (List.mem_cons_of_mem _ hd)
    rw [zg0, List.length_cons, Nat.pow_succ]
    have : (x + 1) * b ^ l.length ≤ b * b ^ l.length := Nat.mul_le_mul_right _ h1
    rw [Nat.add_mul, Nat.one_mul] at this
    rw [Nat.mul_comm (b ^ l.length) b]; omega
def zhI (b : Nat) : Nat → Nat → List Nat
  | 0, n => [n % b]
  | k + 1, n => if n < b then [n] else zhI b k (n / b) ++ [n % b]
def zfG (b n : Nat) : List Nat := zhI b 70 n
theorem zkr {b n k : Nat} (hb : 2 ≤ b) (h : n < 2 ^ (k + 1)) : n / b < 2 ^ k := by
  rw [Nat.div_lt_iff_lt_mul (by omega)]
  calc n < 2 ^ (k + 1) := h
    _ = 2 ^ k * 2 := Nat.pow_succ ..
    _ ≤ 2 ^ k * b := Nat.mul_le_mul_left _ hb
theorem zks {b : Nat} (hb : 2 ≤ b) : ∀ (k m n : Nat), k ≤ m → n < 2 ^ (k + 1) → zhI b m n = zhI b k n
  | 0, 0, n, _, _ => rfl
  | 0, m + 1, n, _, h => by
    have hn : n < b := by have : n < 2 := by simpa using h
                          omega
    show zhI b (m + 1) n = [n % b]
    rw [zhI, if_pos hn, Nat.mod_eq_of_lt hn]
  | k + 1, 0, n, h, _ => by omega
  | k + 1, m + 1, n, hm, h => by
    rw [zhI, zhI]
    split
    · rfl
    · rw [zks hb k m (n / b) (by omega) (zkr hb h)]
theorem zie {b n : Nat} (hb : 2 ≤ b) (hn : b ≤ n) (h : n < 2 ^ 64) : zfG b n = zfG b (n / b) ++ [n % b] := by
  have h1 := zks hb 64 70 n (by decide) (Nat.lt_of_lt_of_le h (Nat.pow_le_pow_right (by decide) (by decide)))
  have h2 := zks hb 63 70 (n / b) (by decide) (zkr hb (Nat.lt_of_lt_of_le h (Nat.pow_le_pow_right (by decide) (by decide))))
  unfold zfG
  rw [h1, h2, zhI, if_neg (by omega)]
theorem zc4 {b n : Nat} (hn : n < b) : zfG b n = [n] := by unfold zfG; rw [zhI, if_pos hn]
theorem zk9 {b : Nat} (hb : 2 ≤ b) {P : Nat → Prop} (h0 : ∀ n, n < b → P n) (h1 : ∀ n, b ≤ n → n < 2 ^ 64 → P (n / b) → P n) : ∀ n, n < 2 ^ 64 → P n := by
  intro n
  induction n using Nat.strongRecOn with
  | _ n ih =>
    intro hn
    by_cases h : n < b
    · exact h0 n h
    · have : n / b < n := Nat.div_lt_self (by omega) (by omega)
      exact h1 n (by omega) hn (ih _ this (by omega))
theorem zqs {b : Nat} (hb : 2 ≤ b) : ∀ n, n < 2 ^ 64 → zaR b (zfG b n) = n :=
  zk9 hb (fun n h => by rw [zc4 h]; simp [zaR]) fun n h hn ih => by
    rw [zie hb h hn, zlC, ih, Nat.mul_comm]; exact Nat.div_add_mod n b
theorem zug {b : Nat} (hb : 2 ≤ b) : ∀ n, n < 2 ^ 64 → ∀ d ∈ zfG b n, d < b :=
  zk9 hb (fun n h d hd => by rw [zc4 h] at hd; simp at hd; omega) fun n h hn ih d hd => by
    rw [zie hb h hn] at hd
    rcases List.mem_append.1 hd with hd | hd
    · exact ih d hd
    · simp at hd; subst hd; exact Nat.mod_lt _ (by omega)
theorem zpu {b n : Nat} : zfG b n ≠ [] := by
  unfold zfG; rw [zhI]; split <;> simp
theorem zoB {b : Nat} (hb : 2 ≤ b) : ∀ n, n < 2 ^ 64 → n = 0 ∨ (zfG b n).head? ≠ some 0 :=
  zk9 hb (fun n h => by
    rw [zc4 h]; by_cases e : n = 0
    · exact .inl e
    · exact .inr (by simpa using e)) fun n h hn ih => by
    right
    rw [zie hb h hn]
    rcases ih with h0 | h0
    · have : b ≤ n := h
      have : 0 < n / b := Nat.div_pos h (by omega)
      omega
    · cases hd : zfG b (n / b) with
      | nil => exact absurd hd zpu
      | cons x l => rw [hd] at h0; simpa using h0
theorem zqt {b : Nat} (hb : 2 ≤ b) : ∀ n, n < 2 ^ 64 → (zfG b n).length ≤ 71 := by
  have : ∀ k n, (zhI b k n).length ≤ k + 1 := by
    intro k
    induction k with
    | zero => intro n; simp [zhI]
    | succ k ih => intro n; rw [zhI]; split
                   · simp
                   · simp; exact ih _
  intro n _; exact this 70 n
def znp : List Nat → List Nat → Bool
  | _, [] => false
  | [], _ :: _ => true
  | x :: l, y :: m => decide (x < y) || (x == y && znp l m)
theorem zrC {b : Nat} (hb : 0 < b) : ∀ (l m : List Nat), l.length = m.length → (∀ d ∈ l, d < b) → (∀ d ∈ m, d < b) → znp l m = decide (zaR b l < zaR b m)
  | [], [], _, _, _ => by simp [znp]
  | [], _ :: _, h, _, _ => by simp at h
  | _ :: _, [], h, _, _ => by simp at h
  | x :: l, y :: m, h, hl, hm => by
    have e : l.length = m.length := by simpa using h
    have h1 := zmn hb (l := l) fun d hd => hl d (List.mem_cons_of_mem _ hd)
    have h2 := zmn hb (l := m) fun d hd => hm d (List.mem_cons_of_mem _ hd)
    rw [znp, zrC hb l m e (fun d hd => hl d (List.mem_cons_of_mem _ hd)) (fun d hd => hm d (List.mem_cons_of_mem _ hd)), zg0, zg0, e]
    rw [e] at h1
    rcases Nat.lt_trichotomy x y with hxy | hxy | hxy
    · have : (x + 1) * b ^ m.length ≤ y * b ^ m.length := Nat.mul_le_mul_right _ hxy
      rw [Nat.add_mul, Nat.one_mul] at this
      have h3 : x * b ^ m.length + zaR b l < y * b ^ m.length + zaR b m := by omega
      simp [hxy, h3]
    · subst hxy; simp
    · have : (y + 1) * b ^ m.length ≤ x * b ^ m.length := Nat.mul_le_mul_right _ hxy
      rw [Nat.add_mul, Nat.one_mul] at this
      have h3 : ¬ x * b ^ m.length + zaR b l < y * b ^ m.length + zaR b m := by omega
      have h4 : ¬ x < y := by omega
      have h5 : (x == y) = false := beq_eq_false_iff_ne.2 (by omega)
      simp [h3, h4, h5]
def dch (d : Nat) : UInt8 := if d < 10 then UInt8.ofNat (48 + d) else UInt8.ofNat (87 + d)
def zu (l : List Nat) : Str := l.map dch
def wor (c : UInt8) : Nat := if zN c then (c - 48).toNat else (zc2 c - 97).toNat + 10
def zhJ (b : Nat) (c : UInt8) : Bool := if b = 10 then zN c else zeF c
theorem zr7 : ∀ d : Nat, d < 16 → (wor (dch d) = d ∧ zeF (dch d) = true ∧ (d < 10 → zN (dch d) = true)) := by decide
theorem dch_lt : ∀ d : Nat, d < 16 → ∀ e : Nat, e < 16 → (decide (dch d < dch e) = decide (d < e) ∧ (dch d == dch e) = (d == e)) := by decide
theorem zl5 : ∀ (l m : List Nat), (∀ d ∈ l, d < 16) → (∀ d ∈ m, d < 16) → zlU (zu l) (zu m) = znp l m
  | [], [], _, _ => rfl
  | [], _ :: _, _, _ => rfl
  | _ :: _, [], _, _ => rfl
  | x :: l, y :: m, hl, hm => by
    have ih := zl5 l m (fun d hd => hl d (List.mem_cons_of_mem _ hd)) (fun d hd => hm d (List.mem_cons_of_mem _ hd))
    obtain ⟨h1, h2⟩ := dch_lt x (hl x (List.mem_cons_self ..)) y (hm y (List.mem_cons_self ..))
    show (decide (dch x < dch y) || (dch x == dch y && zlU (zu l) (zu m))) = _
    rw [h1, h2, ih, znp]
theorem zlD (b : UInt8) : zeu b = some (wor b : Int) :=
  of_decide_eq_true (zI (fun b => decide (zeu b = some (wor b : Int))) (by decide +kernel) b)
theorem ztf (c : UInt8) : (zN c = true → wor c < 10) ∧ (zeF c = true → wor c < 16) :=
  of_decide_eq_true (zI (fun c => decide ((zN c = true → wor c < 10) ∧ (zeF c = true → wor c < 16))) (by decide +kernel) c)
theorem znq (c : UInt8) (b : Int) (n : Nat) {i : Int} (hn : n ≤ fuel) (h : (zE c b n i).isSome = true) : zE c b fuel i = zE c b n i := by
  obtain ⟨k, hk⟩ : ∃ k, fuel = n + k := ⟨fuel - n, by omega⟩
  rw [hk]
  clear hk hn
  induction n generalizing i with
  | zero => simp [zE] at h
  | succ n ih =>
    rw [Nat.add_right_comm, zE, zE]
    rw [zE] at h
    split
    · rename_i hlt
      rw [if_pos hlt] at h
      cases hs : sAt [48, 49, 50, 51, 52, 53, 54, 55, 56, 57, 97, 98, 99, 100, 101, 102] i with
      | none => rfl
      | some x =>
        rw [hs] at h
        simp only [Option.bind_some] at h ⊢
        split
        · rfl
        · rename_i hne
          rw [if_neg hne] at h
          cases hs2 : sAt [48, 49, 50, 51, 52, 53, 54, 55, 56, 57, 65, 66, 67, 68, 69, 70] i with
          | none => rfl
          | some y =>
            rw [hs2] at h
            simp only [Option.bind_some, zdP] at h ⊢
            split
            · rfl
            · rename_i hne2
              rw [if_neg hne2] at h
              cases hi : zO i 1 with
              | none => rfl
              | some j => rw [hi] at h; exact ih h
    · rfl
theorem znr (c : UInt8) : zcs c 10 = some (if zN c then (wor c : Int) else -1) := by
  have h1 : zE c 10 20 0 = some (if zN c then (wor c : Int) else -1) := of_decide_eq_true (zI (fun c => decide (zE c 10 20 0 = some (if zN c then (wor c : Int) else -1))) (by decide +kernel) c)
  unfold zcs
  rw [← h1]
  exact znq c 10 20 (by decide) (by rw [h1]; rfl)
theorem zns (c : UInt8) : zcs c 16 = some (if zeF c then (wor c : Int) else -1) := by
  have h1 : zE c 16 20 0 = some (if zeF c then (wor c : Int) else -1) := of_decide_eq_true (zI (fun c => decide (zE c 16 20 0 = some (if zeF c then (wor c : Int) else -1))) (by decide +kernel) c)
  unfold zcs
  rw [← h1]
  exact znq c 16 20 (by decide) (by rw [h1]; rfl)
def zf5 (b : Nat) : Prop := b = 10 ∨ b = 16
theorem zf5.two {b : Nat} (h : zf5 b) : 2 ≤ b ∧ b ≤ 16 := by rcases h with rfl | rfl <;> omega
theorem zjo {b : Nat} (hb : zf5 b) (c : UInt8) : zcs c (b : Int) = some (if zhJ b c then (wor c : Int) else -1) := by
  rcases hb with rfl | rfl
  · exact znr c
  · exact zns c
theorem znt {b : Nat} (hb : zf5 b) {c : UInt8} (h : zhJ b c = true) : wor c < b := by
  rcases hb with rfl | rfl
  · exact (ztf c).1 h
  · exact (ztf c).2 h
theorem znu : ∀ d : Nat, d < 16 → zgG [48, 49, 50, 51, 52, 53, 54, 55, 56, 57, 97, 98, 99, 100, 101, 102] (d : Int) ((d + 1 : Nat) : Int) = some [dch d] := by decide
theorem zqu {b : Nat} (hb : zf5 b) : ∀ (k m n : Nat), k ≤ m → n < 2 ^ (k + 1) → k < 63 → zbw (m + 1) (n : Int) (b : Int) = some (zu (zfG b n)) := by
  obtain ⟨h2, h16⟩ := hb.two
  intro k
  induction k with
  | zero =>
    intro m n _ h _
    have hn : n < b := by have : n < 2 := by simpa using h
                          omega
    rw [zbw, zc4 hn]
    simp only [Int.ofNat_lt, hn, decide_true, if_true, zq (show n < 4611686018427387904 by omega), Option.bind_some, znu n (by omega)]
    rfl
  | succ k ih =>
    intro m n hm h hk
    obtain ⟨m, rfl⟩ : ∃ j, m = j + 1 := ⟨m - 1, by omega⟩
    have hbig : n < 2 ^ 64 := Nat.lt_of_lt_of_le h (Nat.pow_le_pow_right (by decide) (by omega))
    have hq : ∀ q : Nat, q ≤ n → inI (q : Int) = true := fun q hq => zgc.2 (by
      have : n < 2 ^ 63 := Nat.lt_of_lt_of_le h (Nat.pow_le_pow_right (by decide) (by omega))
      omega)
    rw [zbw]
    by_cases hn : n < b
    · rw [zc4 hn]
      simp only [Int.ofNat_lt, hn, decide_true, if_true, zq (show n < 4611686018427387904 by omega), Option.bind_some, znu n (by omega)]
      rfl
    · have e1 : zo0 (n : Int) (b : Int) = some ((n / b : Nat) : Int) := by
        unfold zo0
        rw [if_pos ⟨by omega, by omega, by rw [← Int.natCast_ediv]; exact hq _ (Nat.div_le_self n b)⟩, Int.natCast_ediv]
      have e2 : zqQ (n : Int) (b : Int) = some ((n % b : Nat) : Int) := by
        unfold zqQ
        rw [if_pos ⟨by omega, by omega, by rw [← Int.natCast_emod]; exact hq _ (Nat.mod_le n b)⟩, Int.natCast_emod]
      have hlt : n % b < b := Nat.mod_lt _ (by omega)
      have hlen := zqt h2 (n / b) (by have := Nat.div_le_self n b; omega)
      have hn' : ¬ decide ((n : Int) < (b : Int)) = true := by simp; omega
      have e3 := ih m (n / b) (by omega) (zkr h2 h) (by omega)
      have e4 := znu (n % b) (by omega)
      have e5 := zq (i := n % b) (by omega)
      have e6 := zie h2 (show b ≤ n by omega) hbig
      generalize n / b = q at *
      generalize n % b = r at *
      have e7 : zds (zu (zfG b q)) [dch r] = some (zu (zfG b q) ++ [dch r]) := zal (by simp [zu]; omega)
      rw [if_neg hn', e1, Option.bind_some, e3, Option.bind_some, e2, Option.bind_some, Option.bind_some, e5, Option.bind_some, e4, Option.bind_some, e7, Option.bind_some, e6]
      simp [zu]
theorem zgJ {b : Nat} (hb : zf5 b) (n : Nat) (hn : n < 2 ^ 63) : zcZ (n : Int) (b : Int) = some (zu (zfG b n)) := by
  unfold zcZ
  obtain ⟨m, hm⟩ : ∃ m, fuel = m + 1 := ⟨999999999999999999, rfl⟩
  rw [hm]
  exact zqu hb 62 m n (by unfold fuel at hm; omega) (by omega) (by omega)
def zfL (b : Nat) (n : Int) : Str := if n < 0 then [] else zu (zfG b n.toNat)
theorem zhS {b : Nat} (hb : zf5 b) (n : Int) (hn : inI n = true) : zeR n (b : Int) = some (zfL b n) := by
  obtain ⟨h1, h2⟩ := zgc.1 hn
  unfold zeR zfL
  by_cases h : n < 0
  · simp [h]
  · obtain ⟨k, rfl⟩ : ∃ k : Nat, n = k := ⟨n.toNat, by omega⟩
    simp [h, zgJ hb k (by omega)]
theorem dec_eq : ∀ n, n < 2 ^ 64 → Go.Lib.decDigits n = zu (zfG 10 n) :=
  zk9 (b := 10) (by decide) (fun n h => by rw [Go.Lib.decDigits, dif_pos h, zc4 h]; simp [zu, dch, h]) fun n h hn ih => by
    rw [Go.Lib.decDigits, dif_neg (by omega), ih, zie (by decide) h hn]
    have : n % 10 < 10 := Nat.mod_lt _ (by decide)
    simp [zu, dch, this]
theorem zgK (n : Int) (hn : inI n = true) : zcX n = some (zfL 10 n) := by
  obtain ⟨h1, h2⟩ := zgc.1 hn
  unfold zcX zgP zfL
  by_cases h : n < 0
  · simp [h]
  · obtain ⟨k, rfl⟩ : ∃ k : Nat, n = k := ⟨n.toNat, by omega⟩
    have hk : ¬ ((k : Int) < 0) := by omega
    simp [hk, zdx, hn, Go.Lib.itoa, dec_eq k (by omega)]
def vals (s : Str) : List Nat := s.map wor
def zaj (b : Nat) (s : Str) (most : Int) : Int × Int :=
  if (s == [] || !s.all (zhJ b)) = true then (0, 2) else if most < (zaR b (vals s) : Int) then (0, 7) else (((zaR b (vals s) : Nat) : Int), 0)
theorem zuh {b : Nat} (hb : zf5 b) {s : Str} (h : s.all (zhJ b) = true) : ∀ d ∈ vals s, d < b := by
  intro d hd
  obtain ⟨c, hc, rfl⟩ := List.mem_map.1 hd
  exact znt hb (List.all_eq_true.1 h c hc)
theorem zoC {b : Nat} (hb : 1 ≤ b) (l m : List Nat) : zaR b l ≤ zaR b (l ++ m) := by
  unfold zaR
  rw [List.foldl_append]
  generalize l.foldl (fun n d => n * b + d) 0 = n
  rw [zoA]
  have : 1 ≤ b ^ m.length := Nat.one_le_pow _ _ hb
  have := Nat.le_mul_of_pos_right n this
  omega
theorem zrd {b : Nat} (hb : zf5 b) (s : Str) (most : Int) (hs : s.length < 1000000000) (hd : s.all (zhJ b) = true) (hm : most < 4611686018427387904) (hm0 : -4611686018427387904 < most) (hne : s ≠ []) :
    zax s (b : Int) most fuel 0 0 = some (if most < (zaR b (vals s) : Int) then (0, 7) else (((zaR b (vals s) : Nat) : Int), 0)) := by
  obtain ⟨h2, h16⟩ := hb.two
  have key : ∀ (n i v : Nat), i ≤ s.length → s.length - i < n → v = zaR b (vals (s.take i)) → (i = 0 ∨ (v : Int) ≤ most) → (i < s.length ∨ (v : Int) ≤ most) →
      zax s (b : Int) most n (v : Int) (i : Int) = some (if most < (zaR b (vals s) : Int) then (0, 7) else (((zaR b (vals s) : Nat) : Int), 0)) := by
    intro n
    induction n with
    | zero => intro i v _ h; omega
    | succ n ih =>
      intro i v hi h hv h0 h1
      rw [zax]
      by_cases hlt : i < s.length
      · have hx : s[i]? = some s[i] := List.getElem?_eq_getElem hlt
        have hw : wor s[i] < b := znt hb (List.all_eq_true.1 hd _ (List.getElem_mem hlt))
        have htk : vals (s.take (i + 1)) = vals (s.take i) ++ [wor s[i]] := by
          unfold vals
          rw [List.take_succ_eq_append_getElem hlt, List.map_append]; rfl
        have hv' : zaR b (vals (s.take (i + 1))) = v * b + wor s[i] := by rw [htk, zlC, ← hv]
        have hle : zaR b (vals (s.take (i + 1))) ≤ zaR b (vals s) := by
          have := zoC (b := b) (by omega) (vals (s.take (i + 1))) (vals (s.drop (i + 1)))
          unfold vals at this ⊢
          rwa [← List.map_append, List.take_append_drop] at this
        simp only [Int.ofNat_lt, hlt, decide_true, if_true, zak, hx, Option.bind_some, zlD]
        by_cases hov : most < (wor s[i] : Int)
        · have : most < (zaR b (vals s) : Int) := by
            have := Nat.zero_le (v * b); omega
          simp [hov, zcj, this]
        · have hsub : zd8 most (wor s[i] : Int) = some (most - (wor s[i] : Int)) := zcG (by omega) (by omega)
          have hdv : zo0 (most - (wor s[i] : Int)) (b : Int) = some ((most - (wor s[i] : Int)) / (b : Int)) := by
            unfold zo0
            have h5 : 0 ≤ (most - (wor s[i] : Int)) / (b : Int) := Int.ediv_nonneg (by omega) (by omega)
            have h6 : (most - (wor s[i] : Int)) / (b : Int) ≤ most - (wor s[i] : Int) := Int.ediv_le_self _ (by omega)
            rw [if_pos ⟨by omega, by omega, by rw [zgc]; omega⟩]
          have hiff : (most - (wor s[i] : Int)) / (b : Int) < (v : Int) ↔ most < ((v * b + wor s[i] : Nat) : Int) := by
            rw [Int.ediv_lt_iff_lt_mul (by omega)]
            push_cast
            omega
          simp only [hov, decide_false, Bool.false_eq_true, if_false, hsub, hdv, Option.bind_some, zcj]
          by_cases hov2 : (most - (wor s[i] : Int)) / (b : Int) < (v : Int)
          · have h7 : most < (zaR b (vals s) : Int) := by have := hiff.1 hov2; omega
            simp [hov2, h7]
          · have h7 : ((v * b + wor s[i] : Nat) : Int) ≤ most := by have := (not_congr hiff).1 hov2; omega
            have hmul : zoZ (v : Int) (b : Int) = some ((v * b : Nat) : Int) := by
              rw [zry (by rw [← Int.natCast_mul]; omega) (by rw [← Int.natCast_mul]; omega), Int.natCast_mul]
            have hadd : zO ((v * b : Nat) : Int) (wor s[i] : Int) = some ((v * b + wor s[i] : Nat) : Int) := by
              rw [zcF (by omega) (by omega)]; simp
            simp only [hov2, decide_false, Bool.false_eq_true, if_false, hmul, hadd, Option.bind_some, zq (show i < 4611686018427387904 by omega)]
            exact ih (i + 1) (v * b + wor s[i]) (by omega) (by omega) hv'.symm (.inr h7) (.inr h7)
      · have : i = s.length := by omega
        subst this
        rw [List.take_length] at hv
        have h8 : ¬ most < (zaR b (vals s) : Int) := by rw [← hv]; rcases h1 with h1 | h1 <;> omega
        simp [h8, hv]
  have := key fuel 0 0 (Nat.zero_le _) (by unfold fuel; omega) (by simp [vals, zaR]) (.inl rfl) (.inl (by cases s with | nil => exact absurd rfl hne | cons _ _ => simp))
  simpa using this
theorem zmi {b : Nat} (hb : zf5 b) (s : Str) (most : Int) (hs : s.length < 1000000000) (hm : most < 4611686018427387904) (hm0 : -4611686018427387904 < most) {f : UInt8 → Option Bool} (hf : ∀ c, f c = some (zhJ b c)) :
    zfl s (b : Int) most f = some (zaj b s most) := by
  unfold zfl zaj
  rcases zcg (s == []) with h | h
  · rw [h]; simp [zck]
  · rw [h]
    rw [zb2 hf s hs]
    simp only [Bool.false_eq_true, if_false, Option.bind_some, zck, Bool.false_or]
    rcases zcg (s.all (zhJ b)) with h2 | h2
    · rw [h2]
      simp only [Bool.not_true, Bool.false_eq_true, if_false]
      exact zrd hb s most hs h2 hm hm0 (by simpa using h)
    · rw [h2]; simp
theorem zeY (s : Str) (most : Int) (hs : s.length < 1000000000) (hm : most < 4611686018427387904) (hm0 : -4611686018427387904 < most) : zbJ s most = some (zaj 10 s most) := by
  unfold zbJ
  have := zmi (.inl rfl) s most hs hm hm0 (f := zW) zf1
  rw [show ((10 : Nat) : Int) = 10 from rfl] at this
  rw [this]; rfl
def zgB : List Nat → List Nat
  | 0 :: l => zgB l
  | l => l
theorem zlE (b : Nat) : ∀ l, zaR b (zgB l) = zaR b l
  | [] => rfl
  | 0 :: l => by rw [zgB, zlE b l, zg0, Nat.zero_mul, Nat.zero_add]
  | (n + 1) :: l => rfl
theorem znv : ∀ l, (zgB l).head? ≠ some 0
  | [] => by simp [zgB]
  | 0 :: l => by rw [zgB]; exact znv l
  | (n + 1) :: l => by simp [zgB]
theorem zoD : ∀ {l : List Nat} {d : Nat}, d ∈ zgB l → d ∈ l
  | [], _, h => h
  | 0 :: l, d, h => by rw [zgB] at h; exact List.mem_cons_of_mem _ (zoD h)
  | (n + 1) :: l, _, h => h
theorem zoE : ∀ l, (zgB l).length ≤ l.length
  | [] => Nat.le_refl _
  | 0 :: l => by rw [zgB]; have := zoE l; simp; omega
  | (n + 1) :: l => Nat.le_refl _
def zgC (l : List Nat) : List Nat := if zgB l = [] then [0] else zgB l
theorem ztg {b : Nat} (hb : zf5 b) (s : Str) (hs : s.length < 1000000000) :
    zgs s (b : Int) = some (if s.all (zhJ b) then (zu (zgC (vals s)), !(s == [])) else ([], false)) := by
  obtain ⟨h2, h16⟩ := hb.two
  unfold zgs
  have key : ∀ (n i : Nat) (acc : List Nat), i ≤ s.length → s.length - i < n → acc.length ≤ i → (acc = [] ∨ acc.head? ≠ some 0) →
      zaI s (b : Int) n (zu acc) (i : Int) = some (if (s.drop i).all (zhJ b) then (zu (if acc = [] then zgC (vals (s.drop i)) else acc ++ vals (s.drop i)), !(s == [])) else ([], false)) := by
    intro n
    induction n with
    | zero => intro i acc _ h; omega
    | succ n ih =>
      intro i acc hi h ha h0
      rw [zaI]
      by_cases hlt : i < s.length
      · have hx : s[i]? = some s[i] := List.getElem?_eq_getElem hlt
        rw [List.drop_eq_getElem_cons hlt]
        generalize hc : s[i] = c at hx ⊢
        simp only [Int.ofNat_lt, hlt, decide_true, if_true, zak, hx, Option.bind_some, zjo hb, List.all_cons]
        rcases zcg (zhJ b c) with hdg | hdg
        · have hw := znt hb hdg
          have hw0 : ¬ ((wor c : Int) < 0) := by omega
          have hdig : zcZ (wor c : Int) (b : Int) = some [dch (wor c)] := by
            rw [zgJ hb _ (by omega), zc4 hw]; rfl
          have hcat : zds (zu acc) [dch (wor c)] = some (zu (acc ++ [wor c])) := by
            rw [zal (by simp [zu]; omega)]; simp [zu]
          simp only [hdg, if_true, hw0, decide_false, Bool.false_eq_true, if_false, zdR, zdQ, hdig, hcat, Option.bind_some, zq (show i < 4611686018427387904 by omega), Bool.true_and]
          have hvc : vals (c :: s.drop (i + 1)) = wor c :: vals (s.drop (i + 1)) := rfl
          cases acc with
          | nil =>
            by_cases hz : wor c = 0
            · have hz' : ¬ (0 < (wor c : Int)) := by omega
              simp only [show (zu [] == ([] : Str)) = true from rfl, Bool.not_true, Bool.false_eq_true, if_false, hz', decide_false]
              have := ih (i + 1) [] (by omega) (by omega) (by simp) (.inl rfl)
              rw [show zu [] = ([] : Str) from rfl] at this ⊢
              rw [this]
              simp only [if_true, hvc, hz, zgC, zgB]
            · have hz' : 0 < (wor c : Int) := by omega
              simp only [show (zu [] == ([] : Str)) = true from rfl, Bool.not_true, Bool.false_eq_true, if_false, hz', decide_true, if_true]
              rw [ih (i + 1) ([] ++ [wor c]) (by omega) (by omega) (by simp) (.inr (by simpa using hz))]
              obtain ⟨m, hm⟩ : ∃ m, wor c = m + 1 := ⟨wor c - 1, by omega⟩
              simp [hvc, zgC, hm, zgB]
          | cons y acc =>
            simp only [show (zu (y :: acc) == ([] : Str)) = false from rfl, Bool.not_false, if_true]
            have hy : (y :: acc ++ [wor c]) = [] ∨ (y :: acc ++ [wor c]).head? ≠ some 0 := by
              right
              rcases h0 with h0 | h0
              · cases h0
              · simpa using h0
            rw [ih (i + 1) (y :: acc ++ [wor c]) (by omega) (by omega) (by simp at ha ⊢; omega) hy]
            simp [hvc]
        · simp [hdg]
      · have : i = s.length := by omega
        subst this
        simp only [Int.lt_irrefl, decide_false, Bool.false_eq_true, if_false, List.drop_length, List.all_nil, if_true, zdS]
        cases acc with
        | nil => simp [zu, zgC, vals, zgB, dch]
        | cons y acc => simp [zu, vals]
  have := key fuel 0 [] (Nat.zero_le _) (by unfold fuel; omega) (by simp) (.inl rfl)
  simpa [zu] using this
theorem zqv {b : Nat} (hb : 0 < b) {l : List Nat} (h : ∀ d ∈ l, d < b) : zgC l ≠ [] ∧ (∀ d ∈ zgC l, d < b) ∧ (zgC l = [0] ∨ (zgC l).head? ≠ some 0) ∧ zaR b (zgC l) = zaR b l ∧ (zgC l).length ≤ l.length + 1 := by
  unfold zgC
  by_cases e : zgB l = []
  · rw [if_pos e]
    have := zlE b l
    rw [e, zte] at this
    refine ⟨by simp, fun d hd => by simp at hd; omega, .inl rfl, by simp [zaR] at this ⊢; exact this, by simp⟩
  · rw [if_neg e]
    exact ⟨e, fun d hd => h d (zoD hd), .inr (znv l), zlE b l, by have := zoE l; omega⟩
theorem zth {b : Nat} (hb : 2 ≤ b) (l m : List Nat) (hl0 : l ≠ []) (hm0 : m ≠ []) (hl : ∀ d ∈ l, d < b) (hm : ∀ d ∈ m, d < b) (zl : l = [0] ∨ l.head? ≠ some 0) (zm : m = [0] ∨ m.head? ≠ some 0) :
    (decide (l.length < m.length) || (l.length == m.length && znp l m)) = decide (zaR b l < zaR b m) := by
  have low : ∀ x : List Nat, x ≠ [] → x.head? ≠ some 0 → b ^ (x.length - 1) ≤ zaR b x := by
    intro x hx h0
    cases x with
    | nil => exact absurd rfl hx
    | cons y t =>
      have hy : 1 ≤ y := by
        rcases Nat.eq_zero_or_pos y with e | e
        · subst e; simp at h0
        · exact e
      rw [zg0, List.length_cons, Nat.add_sub_cancel]
      have := Nat.mul_le_mul_right (b ^ t.length) hy
      rw [Nat.one_mul] at this; omega
  have cmp : ∀ x y : List Nat, x ≠ [] → y ≠ [] → (∀ d ∈ x, d < b) → (y = [0] ∨ y.head? ≠ some 0) → x.length < y.length → zaR b x < zaR b y := by
    intro x y hx hy hxd zy h
    have hyh : y.head? ≠ some 0 := by
      rcases zy with e | e
      · have : 1 ≤ x.length := by cases x with | nil => exact absurd rfl hx | cons _ _ => simp
        rw [e] at h
        have h' : x.length < 1 := h
        omega
      · exact e
    have h1 := zmn (b := b) (by omega) hxd
    have h2 := low y hy hyh
    have h3 : b ^ x.length ≤ b ^ (y.length - 1) := Nat.pow_le_pow_right (by omega) (by omega)
    omega
  rcases Nat.lt_trichotomy l.length m.length with h | h | h
  · have := cmp l m hl0 hm0 hl zm h
    simp [h, this]
  · rw [h, zrC (b := b) (by omega) l m h hl hm]; simp
  · have h1 := cmp m l hm0 hl0 hm zl h
    have h2 : ¬ l.length < m.length := by omega
    have h3 : (l.length == m.length) = false := beq_eq_false_iff_ne.2 (by omega)
    have h4 : ¬ zaR b l < zaR b m := by omega
    simp [h2, h3, h4]
theorem zg1 (l : List Nat) : (zu l).length = l.length := by simp [zu]
theorem zlF {b : Nat} (hb : zf5 b) (l : List Nat) (q : Bool) (hl : ∀ d ∈ l, d < b) (hlen : l.length < 2000000000) (hv : zaR b l < 4611686018427387904) :
    zb0 (b : Int) (zu l, q) fuel 0 0 = some (((zaR b l : Nat) : Int), 0) := by
  obtain ⟨h2, h16⟩ := hb.two
  have key : ∀ (n i v : Nat), i ≤ l.length → l.length - i < n → v = zaR b (l.take i) → zb0 (b : Int) (zu l, q) n (v : Int) (i : Int) = some (((zaR b l : Nat) : Int), 0) := by
    intro n
    induction n with
    | zero => intro i v _ h; omega
    | succ n ih =>
      intro i v hi h hvv
      rw [zb0]
      by_cases hlt : i < l.length
      · have hx : (zu l)[i]? = some (dch l[i]) := by simp [zu, hlt]
        have hd : l[i] < b := hl _ (List.getElem_mem hlt)
        obtain ⟨w1, w2, w3⟩ := zr7 l[i] (by omega)
        have hdg : zhJ b (dch l[i]) = true := by
          rcases hb with rfl | rfl
          · exact w3 hd
          · exact w2
        have hv' : zaR b (l.take (i + 1)) = v * b + l[i] := by
          rw [List.take_succ_eq_append_getElem hlt, zlC, ← hvv]
        have hle : zaR b (l.take (i + 1)) ≤ zaR b l := by
          have := zoC (b := b) (by omega) (l.take (i + 1)) (l.drop (i + 1))
          rwa [List.take_append_drop] at this
        have hmul : zoZ (v : Int) (b : Int) = some ((v * b : Nat) : Int) := by
          rw [zry (by rw [← Int.natCast_mul]; omega) (by rw [← Int.natCast_mul]; omega), Int.natCast_mul]
        have hadd : zO ((v * b : Nat) : Int) (l[i] : Int) = some ((v * b + l[i] : Nat) : Int) := by
          rw [zcF (by omega) (by omega)]; simp
        simp only [zg1, Int.ofNat_lt, hlt, decide_true, if_true, hmul, Option.bind_some, zak, hx, zjo hb, hdg, w1, hadd, zq (show i < 4611686018427387904 by omega)]
        exact ih (i + 1) _ (by omega) (by omega) hv'.symm
      · have : i = l.length := by omega
        subst this
        rw [List.take_length] at hvv
        simp [zg1, hvv]
  have := key fuel 0 0 (Nat.zero_le _) (by unfold fuel; omega) (by simp [zaR])
  simpa using this
theorem zj8 {b : Nat} (hb : zf5 b) (s : Str) (most : Int) (hs : s.length < 1000000000) (hm : most < 4611686018427387904) (hm0 : -4611686018427387904 < most) : zfU s (b : Int) most = some (zaj b s most) := by
  obtain ⟨h2, h16⟩ := hb.two
  unfold zfU zaj
  rw [ztg hb s hs, Option.bind_some]
  rcases zcg (s.all (zhJ b)) with hd | hd
  · rw [hd]
    simp only [if_true, Bool.not_true, Bool.or_false]
    rcases zcg (s == []) with he | he
    · rw [he]; simp
    · rw [he]
      have hv := zuh hb hd
      obtain ⟨c1, c2, c3, c4, c5⟩ := zqv (b := b) (by omega) hv
      have hlen : (vals s).length = s.length := by simp [vals]
      simp only [Bool.not_false, Bool.not_true, Bool.false_eq_true, if_false]
      by_cases hneg : most < 0
      · have h7 : most < (zaR b (vals s) : Int) := by omega
        simp [hneg, h7, zdi]
      · obtain ⟨k, rfl⟩ : ∃ k : Nat, most = k := ⟨most.toNat, by omega⟩
        have hk : k < 2 ^ 64 := by omega
        have hless : zhj (zu (zfG b k)) (zu (zgC (vals s))) = some (decide (k < zaR b (vals s))) := by
          unfold zhj
          have d1 := zug h2 k hk
          have d3 : zfG b k = [0] ∨ (zfG b k).head? ≠ some 0 := by
            rcases zoB h2 k hk with e | e
            · left; subst e; exact zc4 (by omega)
            · exact .inr e
          have := zth h2 (zfG b k) (zgC (vals s)) zpu c1 d1 c2 d3 c3
          rw [zqs h2 k hk, c4] at this
          rw [← this, zg1, zg1, zl5 _ _ (fun d hd => by have := d1 d hd; omega) (fun d hd => by have := c2 d hd; omega)]
          by_cases h1 : (zfG b k).length < (zgC (vals s)).length
          · simp [h1, zbZ]
          · by_cases h3 : (zfG b k).length = (zgC (vals s)).length
            · simp [h3, zbZ]
            · have h4 : (((zfG b k).length : Int) == ((zgC (vals s)).length : Int)) = false := beq_eq_false_iff_ne.2 (by omega)
              simp [h1, h3, h4, zbZ]
        simp only [hneg, decide_false, Bool.false_eq_true, if_false, zgJ hb k (by omega), Option.bind_some, hless, zdi]
        by_cases h7 : k < zaR b (vals s)
        · have h8 : (k : Int) < (zaR b (vals s) : Int) := by omega
          simp [h7, h8]
        · have h8 : ¬ ((k : Int) < (zaR b (vals s) : Int)) := by omega
          simp only [h7, decide_false, Bool.false_eq_true, if_false, h8]
          rw [zlF hb _ _ c2 (by omega) (by rw [c4]; omega), c4]
  · rw [hd]; simp
end Go.Dm
end
section
namespace Go.Dm
def low (s : Str) : Str := s.map zc2
theorem zge (s : Str) (hs : s.length < 1000000000) : zeQ s = some (low s) := by
  unfold zeQ
  rw [if_pos (by omega)]
  unfold low
  clear hs
  induction s with
  | nil => rfl
  | cons x s ih => simp [List.mapM_cons, zm5, ih]
theorem upAt : ∀ j : Nat, j < 26 → (([65, 66, 67, 68, 69, 70, 71, 72, 73, 74, 75, 76, 77, 78, 79, 80, 81, 82, 83, 84, 85, 86, 87, 88, 89, 90] : Str)[j]? = some (UInt8.ofNat (65 + j)) ∧
    zgG [97, 98, 99, 100, 101, 102, 103, 104, 105, 106, 107, 108, 109, 110, 111, 112, 113, 114, 115, 116, 117, 118, 119, 120, 121, 122] (j : Int) ((j + 1 : Nat) : Int) = some [UInt8.ofNat (97 + j)]) := by decide
theorem zlq (rec1 : Str → Int → Option Str) (t : Str) (s4 : Str) (i : Nat) (x : UInt8) (hx : t[i]? = some x) : ∀ (k j n : Nat) (s : Str), j + k = 26 → k < n →
    za6 rec1 t s4 (i : Int) n s (j : Int) = (zds s4 (if 65 + j ≤ x.toNat ∧ x.toNat < 91 then [x + 32] else s)).bind fun s27 => (zO (i : Int) 1).bind fun i29 => rec1 s27 i29 := by
  intro k
  induction k with
  | zero =>
    intro j n s hj hn
    obtain ⟨n, rfl⟩ : ∃ m, n = m + 1 := ⟨n - 1, by omega⟩
    obtain rfl : j = 26 := by omega
    have h0 : ¬ (65 + 26 ≤ x.toNat ∧ x.toNat < 91) := by omega
    rw [za6, if_neg h0]
    rfl
  | succ k ih =>
    intro j n s hj hn
    obtain ⟨n, rfl⟩ : ∃ m, n = m + 1 := ⟨n - 1, by omega⟩
    obtain ⟨h1, h2⟩ := upAt j (by omega)
    have hj26 : (j : Int) < 26 := by omega
    rw [za6]
    simp only [hj26, decide_true, if_true, zak, h1, hx, Option.bind_some, zq (show j < 4611686018427387904 by omega), h2, zeD]
    rw [ih (j + 1) n _ (by omega) (by omega), ih (j + 1) n _ (by omega) (by omega)]
    by_cases he : UInt8.ofNat (65 + j) = x
    · subst he
      have e1 : (UInt8.ofNat (65 + j)).toNat = 65 + j := by simp; omega
      have e2 : UInt8.ofNat (97 + j) = UInt8.ofNat (65 + j) + 32 := by
        apply UInt8.toNat_inj.1; simp; omega
      simp only [beq_self_eq_true, if_true, e1]
      rw [if_neg (by omega), if_pos (by omega), e2]
    · have hb : (UInt8.ofNat (65 + j) == x) = false := beq_eq_false_iff_ne.2 he
      have hne : x.toNat ≠ 65 + j := fun e => he (by apply UInt8.toNat_inj.1; simp; omega)
      simp only [hb, Bool.false_eq_true, if_false]
      have : (65 + (j + 1) ≤ x.toNat ∧ x.toNat < 91) ↔ (65 + j ≤ x.toNat ∧ x.toNat < 91) := by omega
      simp only [this]
theorem zrT (x : UInt8) : (if 65 ≤ x.toNat ∧ x.toNat < 91 then [x + 32] else [x]) = [zc2 x] := by
  have hi : (65 ≤ x ∧ x ≤ 90) ↔ (65 ≤ x.toNat ∧ x.toNat < 91) := by
    have h1 : (65 ≤ x) ↔ (65 ≤ x.toNat) := Iff.rfl
    have h2 : (x ≤ 90) ↔ (x.toNat ≤ 90) := Iff.rfl
    rw [h1, h2]; omega
  unfold zc2
  by_cases h : 65 ≤ x.toNat ∧ x.toNat < 91
  · rw [if_pos h, if_pos (hi.2 h)]
  · rw [if_neg h, if_neg (fun e => h (hi.1 e))]
theorem zhO (s : Str) (hs : s.length < 1000000000) : zeS s = some (low s) := by
  unfold zeS
  have key : ∀ (n i : Nat) (acc : Str), acc.length = i → i ≤ s.length → s.length - i < n → za7 s n acc (i : Int) = some (acc ++ low (s.drop i)) := by
    intro n
    induction n with
    | zero => intro i acc _ _ h; omega
    | succ n ih =>
      intro i acc ha hi h
      rw [za7]
      by_cases hlt : i < s.length
      · have hx : s[i]? = some s[i] := List.getElem?_eq_getElem hlt
        have e1 : (s.take (i + 1)).drop i = [s[i]] := by
          rw [List.drop_take, List.drop_eq_getElem_cons hlt, show i + 1 - i = 1 by omega]
          rfl
        have h2 := zlq (za7 s n) s acc i s[i] hx 26 0 fuel [s[i]] rfl (by unfold fuel; omega)
        simp only [Int.natCast_zero, Nat.add_zero, zrT] at h2
        simp only [Int.ofNat_lt, hlt, decide_true, if_true, zq (show i < 4611686018427387904 by omega), Option.bind_some, zfy (show i ≤ i + 1 by omega) (show i + 1 ≤ s.length by omega), e1, h2, zal (show acc.length + [zc2 s[i]].length ≤ 9223372036854775807 by simp; omega)]
        rw [ih (i + 1) _ (by simp [ha]) (by omega) (by omega), List.drop_eq_getElem_cons hlt]
        show some ((acc ++ [zc2 s[i]]) ++ low (s.drop (i + 1))) = some (acc ++ (zc2 s[i] :: low (s.drop (i + 1))))
        rw [List.append_assoc]
        rfl
      · have : i = s.length := by omega
        subst this
        simp [low]
  have := key fuel 0 [] rfl (Nat.zero_le _) (by unfold fuel; omega)
  simpa using this
theorem znV (a b : Str) (ha : a.length < 1000000000) (hb : b.length < 1000000000) : zhg a b = some (low a == low b) := by
  unfold zhg
  rw [zge a ha, zge b hb]; rfl
end Go.Dm
end
section
namespace Go.Dm
def upto (cs s : Str) : Str := s.takeWhile (fun c => !cs.contains c)
def zaV (cs s : Str) : Str := s.dropWhile (fun c => !cs.contains c)
theorem zb3 (cs s : Str) : upto cs s ++ zaV cs s = s := List.takeWhile_append_dropWhile
theorem zjw (cs s : Str) : (upto cs s).length ≤ s.length := by
  have := congrArg List.length (zb3 cs s); simp at this; omega
theorem zjx (cs s : Str) : s.take (upto cs s).length = upto cs s := by
  have h := zb3 cs s
  conv => lhs; arg 2; rw [← h]
  exact List.take_left
theorem zhU (cs s : Str) : s.drop (upto cs s).length = zaV cs s := by
  have h := zb3 cs s
  conv => lhs; arg 2; rw [← h]
  exact List.drop_left
theorem zd7 (cs s : Str) : zaV cs s = [] ↔ (upto cs s).length = s.length := by
  have h := congrArg List.length (zb3 cs s)
  simp only [List.length_append] at h
  rw [← List.length_eq_zero_iff]; omega
theorem zlk {cs s : Str} {c : UInt8} {r : Str} (h : zaV cs s = c :: r) : cs.contains c = true := by
  have := List.head?_dropWhile_not (fun c => !cs.contains c) s
  unfold zaV at h
  rw [h] at this
  simpa using this
theorem zpF {cs s : Str} : ∀ c ∈ upto cs s, cs.contains c = false := by
  intro c hc
  have h : (upto cs s).all (fun c => !cs.contains c) = true := List.all_takeWhile
  have := List.all_eq_true.1 h c hc
  simpa using this
theorem zgh {cs s : Str} {x : UInt8} (h : cs.contains x = true) : upto cs (x :: s) = [] := by
  unfold upto; rw [List.takeWhile_cons_of_neg (by rw [h]; simp)]
theorem zgi {cs s : Str} {x : UInt8} (h : cs.contains x = true) : zaV cs (x :: s) = x :: s := by
  unfold zaV; rw [List.dropWhile_cons_of_neg (by rw [h]; simp)]
theorem zgj {cs s : Str} {x : UInt8} (h : cs.contains x = false) : upto cs (x :: s) = x :: upto cs s := by
  unfold upto; rw [List.takeWhile_cons_of_pos (by rw [h]; rfl)]
theorem zgk {cs s : Str} {x : UInt8} (h : cs.contains x = false) : zaV cs (x :: s) = zaV cs s := by
  unfold zaV; rw [List.dropWhile_cons_of_pos (by rw [h]; rfl)]

theorem zod (cs : Str) : ∀ (s : Str) (k : Nat), zjc s cs k = if zaV cs s = [] then -1 else ((k + (upto cs s).length : Nat) : Int)
  | [], k => by simp [zjc, zaV]
  | x :: s, k => by
    simp only [zjc]
    by_cases h : cs.contains x = true
    · rw [if_pos h, zgh h, zgi h]; simp
    · have h' : cs.contains x = false := by simpa using h
      rw [if_neg h, zod cs s (k + 1)]
      rw [zgk h', zgj h', List.length_cons]
      split
      · rfl
      · congr 1; omega
theorem zoQ (s p : Str) (hs : s.length < 1000000000) : stringslite_HasPrefix s p = some (p.isPrefixOf s) := by
  unfold stringslite_HasPrefix
  by_cases h : p.length ≤ s.length
  · have h' : (p.length : Int) ≤ (s.length : Int) := by omega
    simp only [h', decide_true, if_true, zeM h, Option.bind_some, zan]
    congr 1
    rw [Bool.eq_iff_iff, beq_iff_eq, List.isPrefixOf_iff_prefix, List.prefix_iff_eq_take]
    exact eq_comm
  · have h' : ¬ (p.length : Int) ≤ (s.length : Int) := by omega
    simp only [h', decide_false, Bool.false_eq_true, if_false, zan]
    congr 1
    rw [eq_comm, Bool.eq_false_iff]
    intro hp
    rw [List.isPrefixOf_iff_prefix] at hp
    exact h hp.length_le
theorem zdF (s p : Str) (hs : s.length < 1000000000) : strings_HasPrefix s p = some (p.isPrefixOf s) := by
  unfold strings_HasPrefix
  rw [zoQ s p hs]; rfl
theorem zgM (s cs : Str) (hs : s.length < 1000000000) (hc : cs.length < 1000000000) (ha : cs.all (fun c => c.toNat < 128) = true) :
    strings_IndexAny s cs = some (if zaV cs s = [] then -1 else ((upto cs s).length : Int)) := by
  unfold strings_IndexAny
  rw [if_pos ⟨by omega, by omega, ha⟩, zod, Nat.zero_add]
theorem zpG (cs s : Str) : zaV cs s = [] ↔ s.any cs.contains = false := by
  induction s with
  | nil => simp [zaV]
  | cons x s ih =>
    rcases zcg (cs.contains x) with h | h
    · rw [zgi h, List.any_cons, h]; simp
    · rw [zgk h, ih, List.any_cons, h, Bool.false_or]
theorem zfg (s cs : Str) (hs : s.length < 1000000000) (hc : cs.length < 1000000000) (ha : cs.all (fun c => c.toNat < 128) = true) : strings_ContainsAny s cs = some (s.any cs.contains) := by
  unfold strings_ContainsAny
  rw [zgM s cs hs hc ha, Option.bind_some]
  rcases zcg (s.any cs.contains) with h | h
  · have e : ¬ zaV cs s = [] := fun e => by rw [(zpG cs s).1 e] at h; cases h
    rw [if_neg e, h]; simp
  · rw [if_pos ((zpG cs s).2 h), h]; rfl

end Go.Dm
end
section
namespace Go.Dm
def scn (s : Str) (k : Nat) : scan_Scanner := ⟨s, (k : Int)⟩
theorem zhH (s : Str) : zhe s = some (scn s 0) := rfl
theorem zrc (s : Str) (k : Nat) : zeK (scn s k) = some (k : Int) := rfl
theorem zk8 {s : Str} {k : Nat} (h : k ≤ s.length) : zR (scn s k) = some (s.drop k) := by
  unfold zR scn
  rw [zas h]; rfl
theorem zjn {s : Str} {k : Nat} (h : k ≤ s.length) : zaW (scn s k) = some (s.drop k == []) := by
  unfold zaW
  rw [zk8 h]; rfl
theorem zhR {s : Str} {k : Nat} (h : k ≤ s.length) (hd : s.drop k = []) : zU (scn s k) = some (0, false) := by
  unfold zU
  rw [zjn h, hd]; rfl
theorem zhw {s : Str} {k : Nat} {x : UInt8} {r : Str} (h : k ≤ s.length) (hd : s.drop k = x :: r) : zU (scn s k) = some (x, true) := by
  unfold zU
  rw [zjn h, hd]
  have hx : s[k]? = some x := by
    have := congrArg (·[0]?) hd
    simpa using this
  simp [scn, hx]
theorem zn6 {s : Str} {k : Nat} (b : UInt8) (h : k ≤ s.length) (hd : s.drop k = []) : zD (scn s k) b = some (false, scn s k) := by
  unfold zD
  rw [zhR h hd]; rfl
theorem zno {s : Str} {k : Nat} {x : UInt8} {r : Str} (b : UInt8) (h : k ≤ s.length) (hs : s.length < 1000000000) (hd : s.drop k = x :: r) : zD (scn s k) b = some (x == b, if x == b then scn s (k + 1) else scn s k) := by
  unfold zD
  rw [zhw h hd]
  simp only [Option.bind_some, Bool.not_true, Bool.false_eq_true, if_false, zbt]
  rcases zcg (x == b) with hb | hb
  · rw [hb]; simp [scn, zq (show k < 4611686018427387904 by omega)]
  · rw [hb]; simp
theorem zpt {s : Str} {k : Nat} {x : UInt8} {r : Str} (hd : s.drop k = x :: r) : k < s.length ∧ s.drop (k + 1) = r := by
  have hl : k < s.length := by
    rcases Nat.lt_or_ge k s.length with h | h
    · exact h
    · rw [List.drop_eq_nil_of_le h] at hd; cases hd
  refine ⟨hl, ?_⟩
  rw [List.drop_eq_getElem_cons hl] at hd
  exact (List.cons.inj hd).2
theorem zn7 {f : UInt8 → Option Bool} {p : UInt8 → Bool} (hf : ∀ b, f b = some (p b)) {s : Str} {k : Nat} (hs : s.length < 1000000000) (hk : k ≤ s.length) :
    zae (scn s k) f = some ((s.drop k).takeWhile p, scn s (k + ((s.drop k).takeWhile p).length)) := by
  unfold zae
  rw [zrc, Option.bind_some]
  show zL f k fuel s k = _
  have key : ∀ (n i : Nat), k ≤ i → i ≤ s.length → s.length - i < n → zL f k n s i = some ((s.take (i + ((s.drop i).takeWhile p).length)).drop k, scn s (i + ((s.drop i).takeWhile p).length)) := by
    intro n
    induction n with
    | zero => intro i _ _ h; omega
    | succ n ih =>
      intro i hki hi h
      rw [zL]
      have e : (⟨s, (i : Int)⟩ : scan_Scanner) = scn s i := rfl
      rw [e]
      cases hd : s.drop i with
      | nil =>
        rw [zhR hi hd]
        simp [zaG, zbi, zfy hki hi, scn]
      | cons x r =>
        obtain ⟨hlt, hr⟩ := zpt hd
        rw [zhw hi hd]
        simp only [Option.bind_some, Bool.not_true, Bool.false_eq_true, if_false, hf, zaG, zq (show i < 4611686018427387904 by omega), ih (i + 1) (by omega) (by omega) (by omega), hr, List.takeWhile_cons]
        rcases zcg (p x) with hp | hp
        · rw [hp]; simp [Nat.add_assoc, Nat.add_comm 1]
        · rw [hp]; simp [zbi, zfy hki hi, scn]
  rw [key fuel k (Nat.le_refl _) hk (by unfold fuel; omega)]
  congr 2
  rw [List.drop_take, Nat.add_sub_cancel_left]
  have := List.takeWhile_prefix (l := s.drop k) p
  exact (List.prefix_iff_eq_take.1 this).symm
theorem ziD (p : UInt8 → Bool) (s : Str) : (s.takeWhile p).length ≤ s.length := (List.takeWhile_prefix p).length_le
theorem zr6 (p : UInt8 → Bool) (s : Str) (k : Nat) (hk : k ≤ s.length) : s.drop (k + ((s.drop k).takeWhile p).length) = (s.drop k).dropWhile p ∧ k + ((s.drop k).takeWhile p).length ≤ s.length := by
  refine ⟨?_, ?_⟩
  · rw [← List.drop_drop]
    generalize s.drop k = t
    have h := List.takeWhile_append_dropWhile (p := p) (l := t)
    conv => lhs; arg 2; rw [← h]
    exact List.drop_left
  · have := ziD p (s.drop k)
    rw [List.length_drop] at this; omega
end Go.Dm
end
section
namespace Go.Dm
structure At (s : Str) (k : Nat) (r : Str) : Prop where
  le : k ≤ s.length
  drop : s.drop k = r
theorem At.zero (s : Str) : At s 0 s := ⟨Nat.zero_le _, rfl⟩
theorem At.len {s : Str} {k : Nat} {r : Str} (h : At s k r) : k + r.length = s.length := by
  have := congrArg List.length h.drop
  rw [List.length_drop] at this
  have := h.le
  omega
theorem At.le_len {s : Str} {k : Nat} {r : Str} (h : At s k r) : r.length ≤ s.length := by have := h.len; omega
theorem At.next {s : Str} {k : Nat} {r : Str} (h : At s k r) (n : Nat) (hn : n ≤ r.length) : At s (k + n) (r.drop n) :=
  ⟨by have := h.len; omega, by rw [← List.drop_drop, h.drop]⟩
def peekR : Str → UInt8 × Bool
  | [] => (0, false)
  | x :: _ => (x, true)
def zfI (b : UInt8) (r : Str) : Bool := r.head? == some b
def zaD (b : UInt8) (r : Str) : Str := if zfI b r then r.drop 1 else r
theorem zdH (b x : UInt8) (r : Str) : zfI b (x :: r) = (x == b) := Option.some_beq_some ..
theorem zb5 (b : UInt8) (r : Str) : zaD b (b :: r) = r := by unfold zaD; rw [zdH, beq_self_eq_true, if_pos rfl]; rfl
theorem zfQ {b : UInt8} {r : Str} (h : zfI b r = true) : r = b :: zaD b r := by
  cases r with
  | nil => cases h
  | cons x r =>
    rw [zdH] at h
    have : x = b := by simpa using h
    subst this
    rw [zb5]
section
variable {s r : Str} {k : Nat}
theorem zsJ (h : At s k r) : zaW (scn s k) = some (r == []) := by rw [zjn h.le, h.drop]
theorem zml (h : At s k r) : zR (scn s k) = some r := by rw [zk8 h.le, h.drop]
theorem ztP (h : At s k r) : zU (scn s k) = some (peekR r) := by
  cases r with
  | nil => exact zhR h.le h.drop
  | cons x r => exact zhw h.le h.drop
theorem zir (hs : s.length < 1000000000) (b : UInt8) (h : At s k r) : ∃ k', At s k' (zaD b r) ∧ zD (scn s k) b = some (zfI b r, scn s k') := by
  cases r with
  | nil => exact ⟨k, h, zn6 b h.le h.drop⟩
  | cons x r =>
    rw [zno b h.le hs h.drop, zdH]
    unfold zaD
    rw [zdH]
    cases x == b with
    | true => exact ⟨k + 1, h.next 1 (by simp), rfl⟩
    | false => exact ⟨k, h, rfl⟩
theorem zi3 {f : UInt8 → Option Bool} {p : UInt8 → Bool} (hf : ∀ b, f b = some (p b)) (hs : s.length < 1000000000) (h : At s k r) : ∃ k', At s k' (r.dropWhile p) ∧ zae (scn s k) f = some (r.takeWhile p, scn s k') := by
  have e := zn7 hf hs h.le
  rw [h.drop] at e
  have hd := zr6 p s k h.le
  rw [h.drop] at hd
  exact ⟨_, ⟨hd.2, hd.1⟩, e⟩
theorem zp4 (hs : s.length < 1000000000) (h : At s k r) : ∃ k', At s k' (r.dropWhile za4) ∧ zbk (scn s k) = some (r.takeWhile za4, !(r.takeWhile za4 == []), scn s k') := by
  obtain ⟨k', h1, h2⟩ := zi3 zh8 hs h
  refine ⟨k', h1, ?_⟩
  unfold zbk
  rw [h2]; rfl
theorem ztQ (hs : s.length < 1000000000) (t : Str) (ht : t.length < 1000000000) (h : At s k r) : ∃ k', At s k' (if t.isPrefixOf r then r.drop t.length else r) ∧ zbD (scn s k) t = some (t.isPrefixOf r, scn s k') := by
  unfold zbD
  have := h.le_len
  rw [zml h, Option.bind_some, zdF r t (by omega), Option.bind_some]
  cases hp : t.isPrefixOf r with
  | false => exact ⟨k, h, rfl⟩
  | true =>
    have hl := (List.isPrefixOf_iff_prefix.1 hp).length_le
    have hk := h.len
    rw [if_pos rfl]
    show ∃ k', At s k' (r.drop t.length) ∧ ((zO (k : Int) (t.length : Int)).bind fun i9 => some (true, (⟨s, i9⟩ : scan_Scanner))) = _
    rw [zcF (by omega) (by omega), Option.bind_some]
    exact ⟨k + t.length, h.next _ hl, by unfold scn; simp⟩
end
end Go.Dm
end
section
namespace Go.Dm
theorem zba (c : UInt8) (s : Str) : zh c s ≠ [] := by
  cases s with
  | nil => simp [zh]
  | cons x s =>
    unfold zh
    split
    · simp
    · split <;> simp
theorem zjN {b c : UInt8} {l : Str} (h : b ≠ c) : Go.Lib.index (b :: l) [c] = if Go.Lib.index l [c] = -1 then -1 else Go.Lib.index l [c] + 1 := by
  have hp : ([c] : List UInt8).isPrefixOf (b :: l) = false := by simp [List.isPrefixOf, Ne.symm h]
  rw [Go.Lib.index, hp]; simp
theorem zjO (c : UInt8) (l : Str) : Go.Lib.index (c :: l) [c] = 0 := by
  rw [Go.Lib.index]; simp [List.isPrefixOf]
theorem zkc (c : UInt8) : ∀ (s : Str) (k : Nat), Go.Lib.count s [c] = k → Go.Lib.splitK [c] 0 k s = zh c s
  | [], k, h => by
    rw [Go.Lib.count_one] at h
    simp at h; subst h; rfl
  | b :: l, k, h => by
    by_cases hb : b = c
    · subst hb
      rw [Go.Lib.count_cons_eq] at h
      obtain ⟨m, rfl⟩ : ∃ m, k = m + 1 := ⟨k - 1, by omega⟩
      have ih := zkc b l m (by omega)
      unfold Go.Lib.splitK
      rw [zjO]
      simp [zh, ih]
    · rw [Go.Lib.count_cons_ne b c l hb] at h
      have ih := zkc c l k h
      unfold zh
      rw [if_neg hb, ← ih]
      cases k with
      | zero => simp [Go.Lib.splitK]
      | succ k =>
        unfold Go.Lib.splitK
        rw [zjN hb]
        have hge := Go.Lib.index_ge l [c]
        by_cases hm : Go.Lib.index l [c] = -1
        · rw [Go.Lib.count_miss hm] at h; omega
        · obtain ⟨j, hj⟩ : ∃ j : Nat, Go.Lib.index l [c] = j := ⟨(Go.Lib.index l [c]).toNat, by omega⟩
          have e1 : ¬ ((j : Int) + 1 = -1) := by omega
          have e2 : ¬ ((j : Int) = -1) := by omega
          have e3 : ((j : Int) + 1).toNat = j + 1 := by omega
          rw [hj]
          simp [e1, e2, e3, Nat.add_right_comm j 1 1]
theorem zlj (s : Str) (c : UInt8) (hs : s.length < 1000000000) : strings_Split s [c] = some (zh c s) := by
  unfold strings_Split
  rw [if_pos ⟨by omega, by simp⟩]
  rw [zkc c s _ rfl]
def zdq (p : Str) : List Str → List Str
  | [] => [p]
  | h :: t => (p ++ h) :: t
theorem zay (c x : UInt8) (s : Str) : zh c (x :: s) = if x = c then [] :: zh c s else zdq [x] (zh c s) := by
  rw [zh]
  split
  · rfl
  · cases h : zh c s <;> rfl
theorem zkd (l : List Str) (h : l ≠ []) : zdq [] l = l := by
  cases l with
  | nil => exact absurd rfl h
  | cons a t => rfl
theorem zjP (p q : Str) (l : List Str) (h : l ≠ []) : zdq p (zdq q l) = zdq (p ++ q) l := by
  cases l with
  | nil => exact absurd rfl h
  | cons a t => simp [zdq]
theorem ziW (c : UInt8) : ∀ (a s : Str), c ∉ a → zh c (a ++ s) = zdq a (zh c s)
  | [], s, _ => (zkd _ (zba c s)).symm
  | x :: a, s, h => by
    have hx : ¬ x = c := fun e => h (by simp [e])
    rw [List.cons_append, zay, if_neg hx, ziW c a s (fun e => h (List.mem_cons_of_mem _ e)), zjP _ _ _ (zba c s)]
    rfl
theorem zff {c : UInt8} {a : Str} (h : c ∉ a) : zh c a = [a] := by
  have := ziW c a [] h
  simpa [zh, zdq] using this
theorem zdD {c : UInt8} {a : Str} (s : Str) (h : c ∉ a) : zh c (a ++ c :: s) = a :: zh c s := by
  rw [ziW c a _ h, zay, if_pos rfl]
  simp [zdq]
theorem zco {c : UInt8} : ∀ {s p : Str}, p ∈ zh c s → c ∉ p ∧ p.length ≤ s.length ∧ ∀ x ∈ p, x ∈ s
  | [], p, h => by
    simp [zh] at h; subst h; simp
  | x :: s, p, h => by
    rw [zay] at h
    split at h
    · rcases List.mem_cons.1 h with rfl | h
      · simp
      · obtain ⟨h1, h2, h3⟩ := zco h
        exact ⟨h1, by simp; omega, fun y hy => List.mem_cons_of_mem _ (h3 y hy)⟩
    · rename_i hx
      cases hl : zh c s with
      | nil => exact absurd hl (zba c s)
      | cons a t =>
        rw [hl] at h
        rcases List.mem_cons.1 h with rfl | h
        · obtain ⟨h1, h2, h3⟩ := zco (c := c) (s := s) (p := a) (by rw [hl]; simp)
          refine ⟨?_, by simp; omega, ?_⟩
          · simp only [List.singleton_append, List.mem_cons, not_or]; exact ⟨fun e => hx e.symm, h1⟩
          · intro y hy
            simp only [List.singleton_append, List.mem_cons] at hy ⊢
            rcases hy with hy | hy
            · exact .inl hy
            · exact .inr (h3 y hy)
        · obtain ⟨h1, h2, h3⟩ := zco (c := c) (s := s) (p := p) (by rw [hl]; exact List.mem_cons_of_mem _ h)
          exact ⟨h1, by simp; omega, fun y hy => List.mem_cons_of_mem _ (h3 y hy)⟩
theorem zdE (c : UInt8) : ∀ s : Str, (zh c s).length ≤ s.length + 1
  | [] => by simp [zh]
  | x :: s => by
    have ih := zdE c s
    rw [zay]
    split
    · simp; omega
    · cases hl : zh c s with
      | nil => exact absurd hl (zba c s)
      | cons a t => rw [hl] at ih; simp [zdq] at ih ⊢; omega
theorem zg4 (s : Str) (c : UInt8) (hs : s.length < 1000000000) : zdN s c = some (zh c s) := by
  unfold zdN
  have key : ∀ (n i k : Nat) (acc : List Str), k ≤ i → i ≤ s.length → acc.length ≤ i → s.length - i < n → zbb s c n acc (k : Int) (i : Int) = some (acc ++ zdq ((s.take i).drop k) (zh c (s.drop i))) := by
    intro n
    induction n with
    | zero => intro i k acc _ _ _ h; omega
    | succ n ih =>
      intro i k acc hk hi ha h
      rw [zbb]
      by_cases hlt : i < s.length
      · have hx : s[i]? = some s[i] := List.getElem?_eq_getElem hlt
        have ht : (s.take (i + 1)).drop k = (s.take i).drop k ++ [s[i]] := by
          rw [List.take_succ_eq_append_getElem hlt, List.drop_append_of_le_length (by simp; omega)]
        simp only [Int.ofNat_lt, hlt, decide_true, if_true, zak, hx, Option.bind_some, zdM, zq (show i < 4611686018427387904 by omega), zfy hk hi]
        rw [List.drop_eq_getElem_cons hlt, zay]
        by_cases he : s[i] = c
        · simp only [he, beq_self_eq_true, if_true, zgS (n := acc.length) (m := 1) (b := 16) (by omega) (by omega)]
          rw [ih (i + 1) (i + 1) _ (by omega) (by omega) (by simp; omega) (by omega)]
          have e0 : (s.take (i + 1)).drop (i + 1) = [] := by simp
          rw [e0, zkd _ (zba _ _)]
          simp [zdq]
        · have hb : (s[i] == c) = false := beq_eq_false_iff_ne.2 he
          simp only [hb, Bool.false_eq_true, if_false, he]
          rw [ih (i + 1) k _ (by omega) (by omega) (by omega) (by omega), ht, zjP _ _ _ (zba _ _)]
      · have : i = s.length := by omega
        subst this
        simp only [Int.lt_irrefl, decide_false, Bool.false_eq_true, if_false, zas hk, Option.bind_some, zgS (n := acc.length) (m := 1) (b := 16) (by omega) (by omega), if_true]
        simp [zh, zdq]
  have := key fuel 0 0 [] (Nat.le_refl _) (Nat.zero_le _) (Nat.le_refl _) (by unfold fuel; omega)
  simp only [Int.natCast_zero, List.nil_append, List.take_zero, List.drop_nil, List.drop_zero] at this
  rw [this, zkd _ (zba _ _)]
end Go.Dm
end
section
namespace Go.Dm
theorem zsL {b : Nat} : ∀ {x : List Nat}, x ≠ [] → x.head? ≠ some 0 → b ^ (x.length - 1) ≤ zaR b x
  | [], h, _ => absurd rfl h
  | y :: t, _, h0 => by
    have hy : 1 ≤ y := by
      rcases Nat.eq_zero_or_pos y with e | e
      · subst e; simp at h0
      · exact e
    rw [zg0, List.length_cons, Nat.add_sub_cancel]
    have := Nat.mul_le_mul_right (b ^ t.length) hy
    rw [Nat.one_mul] at this; omega
theorem zq0 {k n : Nat} (hk : 1 ≤ k) (h64 : n < 2 ^ 64) (hn : n < 10 ^ k) : (zfG 10 n).length ≤ k := by
  rcases zoB (b := 10) (by decide) n h64 with e | e
  · subst e; rw [zc4 (by decide)]; exact hk
  · have h1 := zsL (b := 10) zpu e
    rw [zqs (by decide) n h64] at h1
    rcases Nat.lt_or_ge k (zfG 10 n).length with h | h
    · have : 10 ^ k ≤ 10 ^ ((zfG 10 n).length - 1) := Nat.pow_le_pow_right (by decide) (by omega)
      omega
    · exact h
def zcE (s : Str) (most : Int) : Bool := (zaj 10 s most).2 == 0 && zfL 10 (zaj 10 s most).1 == s
theorem zh5 {b : Nat} {s : Str} {most : Int} (h : (zaj b s most).2 = 0) (hm : most < 4611686018427387904) : 0 ≤ (zaj b s most).1 ∧ (zaj b s most).1 ≤ most ∧ inI (zaj b s most).1 = true := by
  unfold zaj at *
  split at h
  · cases h
  · rename_i h1
    rw [if_neg h1]
    split at h
    · cases h
    · rename_i h2
      rw [if_neg h2]
      refine ⟨by simp only; omega, by simp only; omega, by rw [zgc]; simp only; omega⟩
theorem zhB (s : Str) (most : Int) (hs : s.length < 1000000000) (hm : most < 4611686018427387904) (hm0 : -4611686018427387904 < most) : zb7 s most = some (zcE s most) := by
  unfold zb7 zcE
  rw [zeY s most hs hm hm0, Option.bind_some]
  by_cases h : (zaj 10 s most).2 = 0
  · have hi := (zh5 h hm).2.2
    simp [h, zgK _ hi, zbE]
  · simp [h, zbE]
theorem zjf (s : Str) (most : Int) (hs : s.length < 1000000000) (hm : most < 100000) (hm0 : -4611686018427387904 < most) : ze4 s most = some (if zcE s most then (zaj 10 s most).1 else -1) := by
  unfold ze4
  have hR := zj8 (b := 10) (.inl rfl) s most hs (by omega) hm0
  rw [show ((10 : Nat) : Int) = 10 from rfl] at hR
  by_cases hl : 5 < (s.length : Int)
  · have : zcE s most = false := by
      rw [Bool.eq_false_iff]
      intro h
      unfold zcE at h
      simp only [Bool.and_eq_true, beq_iff_eq] at h
      obtain ⟨h1, h2⟩ := h
      obtain ⟨g1, g2, g3⟩ := zh5 (b := 10) h1 (by omega)
      have hlen := congrArg List.length h2
      unfold zfL at hlen
      rw [if_neg (by omega), zg1] at hlen
      have := zq0 (k := 5) (n := (zaj 10 s most).1.toNat) (by decide) (by omega) (by omega)
      omega
    simp [hl, this]
  · simp only [hl, decide_false, Bool.false_eq_true, if_false, hR, Option.bind_some]
    unfold zcE
    by_cases h : (zaj 10 s most).2 = 0
    · have hi := (zh5 h (by omega)).2.2
      have hT := zhS (b := 10) (.inl rfl) _ hi
      rw [show ((10 : Nat) : Int) = 10 from rfl] at hT
      simp only [h, beq_self_eq_true, Bool.not_true, Bool.false_eq_true, if_false, hT, Option.bind_some, zcN, Bool.true_and]
      rcases zcg (zfL 10 (zaj 10 s most).1 == s) with h2 | h2 <;> rw [h2] <;> simp
    · have h' : ((zaj 10 s most).2 == 0) = false := beq_eq_false_iff_ne.2 h
      simp [h', zcN]
def zeU (s : Str) : Bool := (zh 46 s).all (fun x => zcE x 255) && decide (((zh 46 s).length : Int) = 4)
theorem zop {α β : Type} {f : α → Option β} {g : α → β} : ∀ {l : List α}, (∀ x ∈ l, f x = some (g x)) → l.mapM f = some (l.map g)
  | [], _ => rfl
  | x :: l, h => by
    rw [List.mapM_cons, h x (List.mem_cons_self ..), zop fun y hy => h y (List.mem_cons_of_mem _ hy)]; rfl
theorem zh6 (s : Str) (hs : s.length < 1000000000) : zdg s = some (zeU s) := by
  unfold zdg zeU
  rw [if_pos hs, zop (g := fun x => zcE x 255) fun x hx => zhB x 255 (by have := (zco hx).2.1; omega) (by decide) (by decide)]
  simp only [Option.bind_some, List.length_map, List.all_map]
  rfl
theorem zj1 (s : Str) (hs : s.length < 1000000000) : zfV s = some (zeU s) := by
  unfold zfV zeU
  rw [zg4 s 46 hs, Option.bind_some]
  have hlen := zdE 46 s
  have hm := fun x (h : x ∈ zh 46 s) => (zco h).2.1
  generalize zh 46 s = l at *
  rw [zhs l (zb1 l) (fun x r => if zcE x 255 = true then r else some false) (some (decide ((l.length : Int) = 4))) (by omega)]
  · exact zj2 _ _ _
  · intro n; rw [zb1]; simp only [Int.lt_irrefl, decide_false, Bool.false_eq_true, if_false]
    rw [show ((l.length : Int) == 4) = decide ((l.length : Int) = 4) from rfl]
  · intro n i x hi hx
    have hxl := hm x (List.mem_of_getElem? hx)
    rw [zb1]
    simp only [Int.ofNat_lt, hi, decide_true, if_true, zbH, hx, Option.bind_some, zjf x 255 (by omega) (by decide) (by decide), zq (show i < 4611686018427387904 by omega)]
    rcases zcg (zcE x 255) with h | h
    · have h2 : (zaj 10 x 255).2 = 0 := by unfold zcE at h; simp at h; exact h.1
      have h3 := (zh5 h2 (by decide)).1
      have h4 : ¬ (zaj 10 x 255).1 < 0 := by omega
      rw [h]; simp [h4]
    · rw [h]; simp
def zh7 : Str → Bool
  | [] => true
  | c :: s => if c == 37 then (match s with
    | a :: b :: r => zeF a && zeF b && zh7 r
    | _ => false) else (zhP c || zn0 c) && zh7 s
theorem zoq (s : Str) : zh7 (37 :: s) = (match s with | a :: b :: r => zeF a && zeF b && zh7 r | _ => false) := by
  rw [zh7.eq_def]
  match s with
  | [] => rfl
  | [_] => rfl
  | _ :: _ :: _ => rfl
theorem zor (c : UInt8) (s : Str) (h : (c == 37) = false) : zh7 (c :: s) = ((zhP c || zn0 c) && zh7 s) := by
  rw [zh7.eq_def]; simp only [h, Bool.false_eq_true, if_false]
def ziv (s : Str) : Bool := !(s == []) && zh7 s
theorem zlr (s : Str) (hs : s.length < 1000000000) : zev s = some (ziv s) := by
  unfold zev ziv
  rcases zcg (s == []) with h0 | h0
  · rw [h0]; simp
  rw [h0]
  simp only [Bool.false_eq_true, if_false, Bool.not_false, Bool.true_and]
  have key : ∀ (n : Nat) (s : Str), s.length < n → s.length < 1000000000 → zao n s = some (zh7 s) := by
    intro n
    induction n with
    | zero => intro s h; omega
    | succ n ih =>
      intro s h hs
      rw [zao]
      cases s with
      | nil => simp [zh7]
      | cons c s =>
        have h1 : ((c :: s == ([] : Str))) = false := rfl
        have e1 : zbB (c :: s) 1 = some s := by
          have := zas (l := c :: s) (i := 1) (by simp)
          simpa using this
        simp only [List.length_cons] at h hs
        simp only [h1, Bool.not_false, if_true, zed, zkW, List.getElem?_cons_zero, Option.bind_some, ziR, zm7, zcK, e1, ih s (by omega) (by omega), Bool.false_eq_true, if_false]
        rcases zcg (c == 37) with hc | hc
        · have : c = 37 := by simpa using hc
          subst this
          have hu : zhP 37 = false := by decide
          have hb : zn0 37 = false := by decide
          rw [zoq]
          match s, h, hs with
          | [], _, _ => simp [hu, hb, z7]
          | [a], _, _ => simp [hu, hb, z7]
          | a :: b :: r, h, hs =>
            have h2 : (3 : Int) ≤ ((37 :: a :: b :: r : Str).length : Int) := by simp only [List.length_cons]; omega
            have e3 : zbB (37 :: a :: b :: r) 3 = some r := by
              have := zas (l := 37 :: a :: b :: r) (i := 3) (by simp)
              simpa using this
            have e2 : zgG (37 :: a :: b :: r) 1 3 = some [a, b] := by
              have := zfy (l := 37 :: a :: b :: r) (i := 1) (h := 3) (by decide) (by simp)
              simpa using this
            simp only [List.length_cons] at h hs
            simp only [h2, decide_true, if_true, beq_self_eq_true, e2, Option.bind_some, zb2 zhr [a, b] (by simp), z7, e3, ih r (by omega) (by omega), hu, hb, Bool.false_eq_true, if_false]
            cases ha : zeF a <;> cases hb : zeF b <;> simp [ha, hb]
        · rw [zor c s hc, hc]
          simp only [Bool.false_eq_true, if_false, z7]
          have : (if (decide ((3 : Int) ≤ ((c :: s).length : Int))) = true then some false else some false) = some false := by split <;> rfl
          rw [this]
          simp only [Option.bind_some, Bool.false_eq_true, if_false]
          cases hp : zhP c <;> cases hq : zn0 c <;> simp
  exact key fuel s (zph (by omega)) hs
theorem zls (rec1 : Int → Option Bool) (i : Nat) (t : Bool) (hi : i < 4000000000) : zbq rec1 (i : Int) t = if t = true then some false else rec1 ((i + 3 : Nat) : Int) := by
  unfold zbq zdj
  have i2 : zO (i : Int) 2 = some ((i + 2 : Nat) : Int) := by rw [zcF (by omega) (by omega)]; simp
  have i3 : zO ((i + 2 : Nat) : Int) 1 = some ((i + 3 : Nat) : Int) := zq (i := i + 2) (by omega)
  rw [i2, Option.bind_some, i3, Option.bind_some]
theorem znZ (s : Str) (hs : s.length < 1000000000) : zhk s = some (ziv s) := by
  unfold zhk ziv
  have key : ∀ (n i : Nat), i ≤ s.length → s.length - i < n → zX s n (i : Int) = some (zh7 (s.drop i) && !(s == [])) := by
    intro n
    induction n with
    | zero => intro i _ h; omega
    | succ n ih =>
      intro i hi h
      rw [zX]
      cases hd : s.drop i with
      | nil =>
        have : i = s.length := by have := congrArg List.length hd; simp at this; omega
        subst this
        simp only [Int.lt_irrefl, decide_false, Bool.false_eq_true, if_false, zh7, Bool.true_and]
        cases s <;> simp
      | cons c t =>
        have hlt : i < s.length := by have := congrArg List.length hd; simp at this; omega
        have hx : s[i]? = some c := by have := congrArg (·[0]?) hd; simpa using this
        have ht : s.drop (i + 1) = t := by rw [← List.drop_drop, hd]; rfl
        have htl : t.length = s.length - (i + 1) := by rw [← ht]; simp
        have i2 : zO (i : Int) 2 = some ((i + 2 : Nat) : Int) := by rw [zcF (by omega) (by omega)]; simp
        simp only [Int.ofNat_lt, hlt, decide_true, if_true, zak, hx, Option.bind_some, zq (show i < 4611686018427387904 by omega), i2]
        rcases zcg (c == 37) with hc | hc
        · have : c = 37 := by simpa using hc
          subst this
          rw [zoq]
          match t, ht, htl with
          | [], ht, htl =>
            have : (s.length : Int) ≤ ((i + 2 : Nat) : Int) := by simp at htl; omega
            simp only [beq_self_eq_true, if_true, this, decide_true, zbq, Bool.false_and]
          | [a], ht, htl =>
            have : (s.length : Int) ≤ ((i + 2 : Nat) : Int) := by simp at htl; omega
            simp only [beq_self_eq_true, if_true, this, decide_true, zbq, Bool.false_and]
          | a :: b :: r, ht, htl =>
            have hlt2 : ¬ (s.length : Int) ≤ ((i + 2 : Nat) : Int) := by simp at htl; omega
            have ha : s[i + 1]? = some a := by have := congrArg (·[0]?) ht; simpa using this
            have hb : s[i + 2]? = some b := by have := congrArg (·[1]?) ht; simpa using this
            have hr : s.drop (i + 3) = r := by
              have : (s.drop (i + 1)).drop 2 = r := by rw [ht]; rfl
              rwa [List.drop_drop] at this
            have hi3 : i + 3 ≤ s.length := by simp at htl; omega
            have hih := ih (i + 3) hi3 (by omega)
            rw [hr] at hih
            have hj := zls (zX s n) i
            simp only [beq_self_eq_true, if_true, hlt2, decide_false, Bool.false_eq_true, if_false, zak, ha, hb, Option.bind_some, ziw, hj _ (by omega), hih]
            cases zeF a <;> cases zeF b <;> simp
        · rw [zor c t hc, hc]
          have hih := ih (i + 1) (by omega) (by omega)
          rw [ht] at hih
          simp only [Bool.false_eq_true, if_false, zjK, zpc, Option.bind_some, zeB, zdj, zq (show i < 4611686018427387904 by omega), hih]
          cases zhP c <;> cases zn0 c <;> simp
  have := key fuel 0 (Nat.zero_le _) (by unfold fuel; omega)
  simp only [Int.natCast_zero, List.drop_zero] at this
  rw [this, Bool.and_comm]
def under (a b : Str) : Bool := ziv a && ziv b && !zeU a && !zeU b && (low a == low b || ((46 :: low b) : Str).isSuffixOf (low a))
end Go.Dm
end
section
namespace Go.Dm
def zac (t : Str) : Str → Option (Str × Str)
  | [] => none
  | x :: s => if t.isPrefixOf (x :: s) then some ([], (x :: s).drop t.length) else (zac t s).map fun p => (x :: p.1, p.2)
theorem zcf {t : Str} : ∀ {s a b : Str}, zac t s = some (a, b) → s = a ++ t ++ b
  | [], _, _, h => by cases h
  | x :: s, a, b, h => by
    rw [zac] at h
    split at h
    · rename_i hp
      obtain ⟨r, hr⟩ := List.isPrefixOf_iff_prefix.1 hp
      simp only [Option.some.injEq, Prod.mk.injEq] at h
      obtain ⟨rfl, rfl⟩ := h
      rw [← hr]; simp
    · cases hc : zac t s with
      | none => rw [hc] at h; cases h
      | some p =>
        rw [hc] at h
        simp only [Option.map_some, Option.some.injEq, Prod.mk.injEq] at h
        obtain ⟨rfl, rfl⟩ := h
        have := zcf (a := p.1) (b := p.2) hc
        rw [List.cons_append, List.cons_append, ← this]
theorem zjC {t : Str} (ht : t ≠ []) : ∀ s : Str, Go.Lib.index s t = match zac t s with | none => -1 | some p => (p.1.length : Int)
  | [] => by
    cases t with
    | nil => exact absurd rfl ht
    | cons y t => rfl
  | x :: s => by
    rw [Go.Lib.index, zac, zjC ht s]
    cases t.isPrefixOf (x :: s) with
    | true => rfl
    | false =>
      cases zac t s with
      | none => rfl
      | some p =>
        simp only [Bool.false_eq_true, if_false, Option.map_some, List.length_cons]
        have : ((p.1.length : Int) == -1) = false := beq_eq_false_iff_ne.2 (by omega)
        rw [this]
        simp
theorem zjj (s t : Str) (hs : s.length < 1000000000) (ht : t ≠ []) : strings_Cut s t = some (match zac t s with | none => (s, [], false) | some p => (p.1, p.2, true)) := by
  unfold strings_Cut Go.Lib.cut
  rw [if_pos (by omega), zjC ht]
  congr 1
  cases hc : zac t s with
  | none => rfl
  | some p =>
    have e := zcf (a := p.1) (b := p.2) hc
    have h0 : (0 : Int) ≤ (p.1.length : Int) := by omega
    simp only [h0, if_true, Int.toNat_natCast]
    have e1 : s.take p.1.length = p.1 := by rw [e, List.append_assoc, List.take_left']; rfl
    have e2 : s.drop (p.1.length + t.length) = p.2 := by rw [e, List.drop_left']; simp
    rw [e1, e2]
def grp (x : Str) : Bool := decide (1 ≤ x.length) && decide (x.length ≤ 4) && x.all zeF
def zJ (last : Bool) : List Str → Option Nat
  | [] => some 0
  | [x] => if last && zeU x then some 2 else if grp x then some 1 else none
  | x :: y :: l => if grp x then (zJ last (y :: l)).map (· + 1) else none
theorem zkq (last : Bool) : ∀ (l m : List Str), m ≠ [] → zJ last (l ++ m) = (zJ false l).bind fun a => (zJ last m).map (· + a)
  | [], m, _ => by simp [zJ]
  | [x], m, hm => by
    cases m with
    | nil => exact absurd rfl hm
    | cons y m =>
      show zJ last (x :: y :: m) = _
      rw [zJ, zJ]
      cases grp x <;> simp
  | x :: y :: l, m, hm => by
    show zJ last (x :: y :: (l ++ m)) = _
    have ih := zkq last (y :: l) m hm
    rw [zJ, zJ]
    rw [List.cons_append] at ih
    rw [ih]
    cases grp x with
    | false => rfl
    | true =>
      simp only [if_true]
      cases zJ false (y :: l) with
      | none => rfl
      | some a =>
        cases zJ last m with
        | none => rfl
        | some b => simp; omega
def zni (a : Nat) : Option Nat → Int
  | none => -1
  | some k => ((a + k : Nat) : Int)
theorem zk1 (rec1 : Int → Int → Option Int) (a i : Nat) (hi : i < 4000000000) : zbl rec1 (i : Int) (a : Int) = rec1 (a : Int) ((i + 1 : Nat) : Int) := by
  unfold zbl; rw [zq (by omega), Option.bind_some]
theorem zk2 (rec1 : Int → Int → Option Int) (a i : Nat) (t : Bool) (hi : i < 4000000000) (ha : a < 4000000000) : zaT rec1 (a : Int) (i : Int) t = if t = true then rec1 ((a + 1 : Nat) : Int) ((i + 1 : Nat) : Int) else some (-1) := by
  unfold zaT
  rw [zq (by omega), Option.bind_some, zk1 rec1 (a + 1) i hi]
theorem zpq (rec1 : Int → Int → Option Int) (a i : Nat) (x : Str) (t : Bool) (hi : i < 4000000000) (ha : a < 4000000000) (hx : x.length < 1000000000) :
    zaU rec1 (a : Int) (i : Int) x t = if t = true then rec1 ((a + 2 : Nat) : Int) ((i + 1 : Nat) : Int) else if grp x = true then rec1 ((a + 1 : Nat) : Int) ((i + 1 : Nat) : Int) else some (-1) := by
  unfold zaU grp
  have i2 : zO (a : Int) 2 = some ((a + 2 : Nat) : Int) := by rw [zcF (by omega) (by omega)]; simp
  have e1 : decide ((1 : Int) ≤ (x.length : Int)) = decide (1 ≤ x.length) := decide_eq_decide.2 (by omega)
  have e2 : decide ((x.length : Int) ≤ 4) = decide (x.length ≤ 4) := decide_eq_decide.2 (by omega)
  rw [i2, Option.bind_some, zk1 rec1 (a + 2) i hi, zb2 zhr x hx, Option.bind_some, zk2 rec1 a i _ hi ha, zk2 rec1 a i _ hi ha, e1, e2]
  generalize rec1 _ _ = r1
  generalize rec1 _ _ = r2
  generalize decide (1 ≤ x.length) = d1
  generalize decide (x.length ≤ 4) = d2
  generalize x.all zeF = d3
  cases t <;> cases d1 <;> cases d2 <;> cases d3 <;> rfl
theorem ziy (last : Bool) (x : Str) : zJ last [x] = if last && zeU x then some 2 else if grp x then some 1 else none := rfl
theorem zhG (last : Bool) (x y : Str) (l : List Str) : zJ last (x :: y :: l) = if grp x then (zJ last (y :: l)).map (· + 1) else none := rfl
theorem zr3 (a : Nat) (o : Option Nat) : zni a (o.map (· + 1)) = zni (a + 1) o := by
  cases o with
  | none => rfl
  | some k => simp only [Option.map_some, zni]; congr 1; omega
theorem ziz (last : Bool) (l : List Str) (hl : l.length < 1000000000) (hx : ∀ x ∈ l, x.length < 1000000000) : ∀ (n i a : Nat), i ≤ l.length → l.length - i < n → a ≤ 2 * i → zG last l n (a : Int) (i : Int) = some (zni a (zJ last (l.drop i)))
  | 0, _, _, _, h, _ => by omega
  | n + 1, i, a, hi, h, ha => by
    rw [zG]
    cases hd : l.drop i with
    | nil =>
      have : i = l.length := by have := congrArg List.length hd; simp at this; omega
      subst this
      simp [zJ, zni]
    | cons x t =>
      have hlt : i < l.length := by have := congrArg List.length hd; simp at this; omega
      have hxx : l[i]? = some x := by have := congrArg (·[0]?) hd; simpa using this
      have ht : l.drop (i + 1) = t := by rw [← List.drop_drop, hd]; rfl
      have htl : t.length = l.length - (i + 1) := by rw [← ht]; simp
      have hxl := hx x (List.mem_of_getElem? hxx)
      have hsub : zd8 (l.length : Int) 1 = some ((l.length - 1 : Nat) : Int) := by rw [zcG (by omega) (by omega)]; congr 1; omega
      have ih1 := ziz last l hl hx n (i + 1) (a + 1) (by omega) (by omega) (by omega)
      have ih2 := ziz last l hl hx n (i + 1) (a + 2) (by omega) (by omega) (by omega)
      rw [ht] at ih1 ih2
      have j2 := fun t => zpq (zG last l n) a i x t (by omega) (by omega) hxl
      simp only [Int.ofNat_lt, hlt, decide_true, if_true, zbH, hxx, Option.bind_some, hsub, zh6 x hxl, j2, ih1, ih2]
      cases t with
      | nil =>
        have hei : ((i : Int) == ((l.length - 1 : Nat) : Int)) = true := by simp at htl; simp; omega
        rw [hei, ziy]
        have en : ∀ b, zJ b [] = some 0 := fun _ => rfl
        rw [en]
        cases last <;> cases zeU x <;> cases grp x <;> rfl
      | cons y t =>
        have hei : ((i : Int) == ((l.length - 1 : Nat) : Int)) = false := by simp at htl; simp; omega
        rw [hei, zhG]
        have := zr3 a (zJ last (y :: t))
        have hn : zni a none = -1 := rfl
        cases last <;> cases grp x <;> simp only [if_true, Bool.false_eq_true, if_false, this, hn]
def zaL (s : Str) : List Str := if s = [] then [] else zh 58 s
theorem zlz (s : Str) (last : Bool) (hs : s.length < 900000000) : zbK s last = some (zni 0 (zJ last (zaL s))) := by
  unfold zbK zaL
  by_cases h0 : s = []
  · subst h0; rfl
  · have h1 : (s == []) = false := beq_eq_false_iff_ne.2 h0
    rw [h1, if_neg h0]
    have hl := zdE 58 s
    simp only [Bool.false_eq_true, if_false, zlj s 58 (by omega), Option.bind_some]
    have := ziz last (zh 58 s) (by omega) (fun x hx => by have := (zco hx).2.1; omega) fuel 0 0 (by omega) (by unfold fuel; omega) (by omega)
    simpa using this
theorem zow (last : Bool) : ∀ (l : List Str) (k : Nat), zJ last l = some k → k ≤ l.length + 1
  | [], k, h => by cases h; omega
  | [x], k, h => by
    rw [ziy] at h
    split at h
    · cases h; simp
    · split at h
      · cases h; simp
      · cases h
  | x :: y :: l, k, h => by
    rw [zhG] at h
    split at h
    · obtain ⟨j, hj, rfl⟩ := Option.map_eq_some_iff.1 h
      have := zow last (y :: l) j hj
      simp only [List.length_cons] at this ⊢
      omega
    · cases h
theorem zk3 (s : Str) (last : Bool) (hs : s.length < 900000000) (k : Nat) (h : zJ last (zaL s) = some k) : k < 1000000000 := by
  have h1 := zow last _ k h
  have h2 := zdE 58 s
  unfold zaL at h1
  split at h1
  · simp at h1; omega
  · omega
def zfC (s : Str) : Bool := zJ true (zh 58 s) == some 8
def zox (s : Str) : Bool := match zac [58, 58] s with
  | none => zfC s
  | some p => match zJ false (zaL p.1), zJ true (zaL p.2) with
    | some a, some b => decide (a + b ≤ 7)
    | _, _ => false
theorem Six_eq (s : Str) (hs : s.length < 900000000) : zec s = some (zox s) := by
  unfold zec zox
  rw [zjj s [58, 58] (by omega) (by simp), Option.bind_some]
  cases hc : zac [58, 58] s with
  | none =>
    simp only [Bool.not_false, if_true, zlz s true hs, Option.bind_some, zfC]
    unfold zaL
    split
    · rename_i h; subst h; rfl
    · cases zJ true (zh 58 s) with
      | none => rfl
      | some k =>
        simp only [zni, Nat.zero_add, Option.some.injEq]
        by_cases h : k = 8
        · subst h; rfl
        · have h1 : ((k : Int) == 8) = false := beq_eq_false_iff_ne.2 (by omega)
          rw [h1]; simp [h]
  | some p =>
    have e := congrArg List.length (zcf (a := p.1) (b := p.2) hc)
    simp only [List.length_append] at e
    simp only [Bool.not_true, Bool.false_eq_true, if_false, zlz p.1 false (by omega), zlz p.2 true (by omega), Option.bind_some]
    cases ha : zJ false (zaL p.1) with
    | none => simp [zni, zbg]
    | some a =>
      cases hb : zJ true (zaL p.2) with
      | none => simp [zni, zbg]
      | some b =>
        have hb' := (zk3 p.1 false (by omega) a ha)
        have hb2 := (zk3 p.2 true (by omega) b hb)
        simp only [zni, Nat.zero_add]
        have e0 : decide ((0 : Int) ≤ (a : Int)) = true := by simp
        have e1 : decide ((0 : Int) ≤ (b : Int)) = true := by simp
        rw [e0, e1, if_pos rfl, if_pos rfl, zsP (by omega), Option.bind_some]
        unfold zbg
        congr 1
        exact decide_eq_decide.2 (by omega)
theorem zqn (rec1 : Int → Int → Option Bool) (l : List Str) (a i : Nat) (x : Str) (hx : l[i]? = some x) (hxl : x.length < 1000000000) (hi : i < 2000000000) (ha : a < 4000000000) :
    zbx rec1 l (a : Int) (i : Int) fuel 0 = if grp x = true then rec1 ((a + 1 : Nat) : Int) ((i + 1 : Nat) : Int) else some false := by
  have key : ∀ (n j : Nat), j ≤ x.length → x.length - j < n → zbx rec1 l (a : Int) (i : Int) n (j : Int) = if (x.drop j).all zeF = true then (if (decide (1 ≤ x.length) && decide (x.length ≤ 4)) = true then rec1 ((a + 1 : Nat) : Int) ((i + 1 : Nat) : Int) else some false) else some false := by
    intro n
    induction n with
    | zero => intro j _ h; omega
    | succ n ih =>
      intro j hj h
      rw [zbx]
      rw [zbH, hx]
      simp only [Option.bind_some]
      by_cases hlt : j < x.length
      · have e : decide ((j : Int) < (x.length : Int)) = true := decide_eq_true (by omega)
        have hc : x[j]? = some x[j] := List.getElem?_eq_getElem hlt
        rw [e, if_pos rfl, zak, hc, Option.bind_some, ziw, Option.bind_some, zq (by omega), Option.bind_some, ih (j + 1) (by omega) (by omega), List.drop_eq_getElem_cons hlt, List.all_cons]
        cases zeF x[j] <;> rfl
      · have hjl : j = x.length := by omega
        subst hjl
        have e : decide ((x.length : Int) < (x.length : Int)) = false := decide_eq_false (by omega)
        have e1 : decide ((x.length : Int) < 1) = !decide (1 ≤ x.length) := by rw [← decide_not]; exact decide_eq_decide.2 (by omega)
        have e2 : decide (4 < (x.length : Int)) = !decide (x.length ≤ 4) := by rw [← decide_not]; exact decide_eq_decide.2 (by omega)
        rw [e, if_neg (by decide), List.drop_length, e1, e2]
        unfold zdT zcO
        rw [zq (by omega), Option.bind_some, zq (by omega), Option.bind_some]
        generalize rec1 _ _ = r1
        generalize decide (1 ≤ x.length) = d1
        generalize decide (x.length ≤ 4) = d2
        cases d1 <;> cases d2 <;> rfl
  have := key fuel 0 (Nat.zero_le _) (by unfold fuel; omega)
  rw [show (0 : Int) = ((0 : Nat) : Int) from rfl, this, List.drop_zero]
  unfold grp
  generalize rec1 _ _ = r1
  generalize decide (1 ≤ x.length) = d1
  generalize decide (x.length ≤ 4) = d2
  generalize x.all zeF = d3
  cases d1 <;> cases d2 <;> cases d3 <;> rfl
def isW (a : Nat) : Option Nat → Bool
  | none => false
  | some k => a + k == 8
theorem ztb (a : Nat) (o : Option Nat) : isW a (o.map (· + 1)) = isW (a + 1) o := by
  cases o with
  | none => rfl
  | some k => simp only [Option.map_some, isW]; congr 1; omega
theorem zjk (l : List Str) (hl : l.length < 1000000000) (hx : ∀ x ∈ l, x.length < 1000000000) : ∀ (n i a : Nat), i ≤ l.length → l.length - i < n → a ≤ 2 * i → z8 l n (a : Int) (i : Int) = some (isW a (zJ true (l.drop i)))
  | 0, _, _, _, h, _ => by omega
  | n + 1, i, a, hi, h, ha => by
    rw [z8]
    cases hd : l.drop i with
    | nil =>
      have : i = l.length := by have := congrArg List.length hd; simp at this; omega
      subst this
      have e : decide ((l.length : Int) < (l.length : Int)) = false := decide_eq_false (by omega)
      rw [e, if_neg (by decide)]
      show some ((a : Int) == 8) = some (a + 0 == 8)
      congr 1
      by_cases h8 : a = 8
      · subst h8; rfl
      · rw [beq_eq_false_iff_ne.2 (show (a : Int) ≠ 8 by omega), beq_eq_false_iff_ne.2 (show a + 0 ≠ 8 by omega)]
    | cons x t =>
      have hlt : i < l.length := by have := congrArg List.length hd; simp at this; omega
      have hxx : l[i]? = some x := by have := congrArg (·[0]?) hd; simpa using this
      have ht : l.drop (i + 1) = t := by rw [← List.drop_drop, hd]; rfl
      have htl : t.length = l.length - (i + 1) := by rw [← ht]; simp
      have hxl := hx x (List.mem_of_getElem? hxx)
      have hsub : zd8 (l.length : Int) 1 = some ((l.length - 1 : Nat) : Int) := by rw [zcG (by omega) (by omega)]; congr 1; omega
      have ih1 := zjk l hl hx n (i + 1) (a + 1) (by omega) (by omega) (by omega)
      have ih2 := zjk l hl hx n (i + 1) (a + 2) (by omega) (by omega) (by omega)
      rw [ht] at ih1 ih2
      have e : decide ((i : Int) < (l.length : Int)) = true := decide_eq_true (by omega)
      have i2 : zO (a : Int) 2 = some ((a + 2 : Nat) : Int) := by rw [zcF (by omega) (by omega)]; simp
      have j2 : ∀ t, zcP (z8 l n) l (a : Int) (i : Int) t = if t = true then some (isW (a + 2) (zJ true (l.drop (i + 1)))) else if grp x = true then some (isW (a + 1) (zJ true (l.drop (i + 1)))) else some false := by
        intro t
        unfold zcP zcO
        rw [i2, Option.bind_some, zq (by omega), Option.bind_some, zqn _ l a i x hxx hxl (by omega) (by omega), ht, ih1, ih2]
      rw [e, if_pos rfl, hsub, Option.bind_some, zbH, hxx, Option.bind_some, zj1 x hxl, Option.bind_some, j2, j2, ht]
      cases t with
      | nil =>
        have hei : ((i : Int) == ((l.length - 1 : Nat) : Int)) = true := by simp at htl; simp; omega
        rw [hei, ziy]
        have en : ∀ b, zJ b [] = some 0 := fun _ => rfl
        rw [en]
        cases zeU x <;> cases grp x <;> rfl
      | cons y t =>
        have hei : ((i : Int) == ((l.length - 1 : Nat) : Int)) = false := by simp at htl; simp; omega
        rw [hei, zhG]
        have := ztb a (zJ true (y :: t))
        have hn : isW a none = false := rfl
        cases grp x <;> simp only [if_true, Bool.false_eq_true, if_false, this, hn]
theorem zqo (s : Str) (hs : s.length < 900000000) : ze5 s = some (zfC s) := by
  unfold ze5 zfC
  have hl := zdE 58 s
  rw [zg4 s 58 (by omega), Option.bind_some]
  have := zjk (zh 58 s) (by omega) (fun x hx => by have := (zco hx).2.1; omega) fuel 0 0 (by omega) (by unfold fuel; omega) (by omega)
  rw [List.drop_zero] at this
  rw [show (0 : Int) = ((0 : Nat) : Int) from rfl, this]
  congr 1
  cases zJ true (zh 58 s) with
  | none => rfl
  | some k => simp only [isW, Nat.zero_add]; exact (Option.some_beq_some ..).symm
def znj : Nat → Str → Str
  | 0, s => s
  | k + 1, s => znj k (if s = [] then [48] else s ++ [58, 48])
def zqp (s b : Str) : Str := if b = [] then s else s ++ 58 :: b
theorem zra (p : Str) (l m : List Str) (h : l ≠ []) : zdq p (l ++ m) = zdq p l ++ m := by
  cases l with
  | nil => exact absurd rfl h
  | cons x l => rfl
theorem zjl (c : UInt8) : ∀ x y : Str, zh c (x ++ c :: y) = zh c x ++ zh c y
  | [], y => by rw [List.nil_append, zay, if_pos rfl]; rfl
  | z :: x, y => by
    rw [List.cons_append, zay, zay, zjl c x y]
    split
    · rfl
    · rw [zra _ _ _ (zba c x)]
theorem ziA : ∀ (k : Nat) (s : Str), s ≠ [] → zh 58 (znj k s) = zh 58 s ++ List.replicate k [48]
  | 0, s, _ => by simp [znj]
  | k + 1, s, h => by
    rw [znj, if_neg h, ziA k _ (by simp), show s ++ [58, 48] = s ++ (58 : UInt8) :: [48] from rfl, zjl, List.append_assoc]
    rfl
theorem znk (k : Nat) (s : Str) : zh 58 (znj (k + 1) s) = zaL s ++ List.replicate (k + 1) [48] := by
  unfold zaL
  split
  · rename_i h
    subst h
    rw [znj, if_pos rfl, ziA k _ (by simp)]
    rfl
  · rename_i h
    rw [ziA _ _ h]
theorem zr4 : zeU [48] = false := by simp [zeU, zh]
theorem zqq : grp [48] = true := by decide
theorem zjm (last : Bool) : ∀ k : Nat, zJ last (List.replicate (k + 1) [48]) = some (k + 1)
  | 0 => by rw [show List.replicate (0 + 1) ([48] : Str) = [[48]] from rfl, ziy, zr4, zqq]; cases last <;> rfl
  | k + 1 => by
    have ih := zjm last k
    rw [List.replicate_succ] at ih
    rw [List.replicate_succ, List.replicate_succ, zhG, zqq, ih]
    rfl
def zk4 (k : Nat) (a b : Str) : Bool := match zJ false (zaL a), zJ true (zaL b) with
  | some x, some y => decide (x + y + k ≤ 8)
  | _, _ => false
def sixE (k : Nat) (a b : Str) : Bool := match zJ false (zaL a), zJ true (zaL b) with
  | some x, some y => x + y + k == 8
  | _, _ => false
theorem zrb (k : Nat) (a b : Str) : zfC (zqp (znj (k + 1) a) b) = sixE (k + 1) a b := by
  unfold zfC sixE
  have e : zh 58 (zqp (znj (k + 1) a) b) = zaL a ++ (List.replicate (k + 1) [48] ++ zaL b) := by
    unfold zqp
    split
    · rename_i h; subst h; rw [znk]; simp [zaL]
    · rename_i h
      rw [zjl, znk, List.append_assoc]
      congr 2
      unfold zaL; rw [if_neg h]
  rw [e, zkq _ _ _ (by simp [List.replicate_succ])]
  have e2 : zJ true (List.replicate (k + 1) [48] ++ zaL b) = (zJ true (zaL b)).map (· + (k + 1)) := by
    by_cases hb : zaL b = []
    · rw [hb, List.append_nil, zjm]
      simp [zJ]
    · rw [zkq _ _ _ hb, zjm]; rfl
  rw [e2]
  cases zJ false (zaL a) with
  | none => rfl
  | some x =>
    cases zJ true (zaL b) with
    | none => rfl
    | some y =>
      simp only [Option.bind_some, Option.map_some]
      have : y + (k + 1) + x = x + y + (k + 1) := by omega
      rw [this]
      exact Option.some_beq_some ..
theorem zoy (rec3 : Int → Option Bool) (k : Nat) (t : Str) (ht : t.length < 900000000) (hk : k < 100) : zeg rec3 (k : Int) t = if zfC t = true then some true else rec3 ((k + 1 : Nat) : Int) := by
  unfold zeg
  rw [zqo t ht, Option.bind_some, zq (by omega), Option.bind_some]
theorem zlA (rec3 : Int → Option Bool) (s b : Str) (i k : Nat) (hi : i + 2 ≤ s.length) (hs : s.length < 400000000) (hb : s.drop (i + 2) = b) (hk : k < 100) : ∀ (n j : Nat) (t : Str), j ≤ k → k - j < n → t.length ≤ s.length + 2 * j →
    zbS rec3 s (i : Int) (k : Int) n t (j : Int) = if zfC (zqp (znj (k - j) t) b) = true then some true else rec3 ((k + 1 : Nat) : Int)
  | 0, _, _, _, h, _ => by omega
  | n + 1, j, t, hj, h, ht => by
    rw [zbS]
    by_cases hlt : j < k
    · have e : decide ((j : Int) < (k : Int)) = true := decide_eq_true (by omega)
      have hkj : k - j = (k - (j + 1)) + 1 := by omega
      rw [e, if_pos rfl, hkj, znj]
      unfold zfp
      rw [zq (by omega)]
      simp only [Option.bind_some]
      by_cases h0 : t = []
      · subst h0
        have hn : (!(([] : Str) == [])) = false := rfl
        have := zlA rec3 s b i k hi hs hb hk n (j + 1) [48] (by omega) (by omega) (by simp; omega)
        rw [hn, if_neg (by decide), zal (by simp), Option.bind_some, if_pos rfl]
        exact this
      · have hn : (!(t == [])) = true := by simp [h0]
        have := zlA rec3 s b i k hi hs hb hk n (j + 1) (t ++ [58, 48]) (by omega) (by omega) (by simp; omega)
        rw [hn, if_pos rfl, zal (by simp; omega), Option.bind_some, zal (by simp; omega), Option.bind_some, if_neg h0, List.append_assoc]
        exact this
    · have hjk : j = k := by omega
      subst hjk
      have e : decide ((j : Int) < (j : Int)) = false := decide_eq_false (by omega)
      have i2 : zO (i : Int) 2 = some ((i + 2 : Nat) : Int) := by rw [zcF (by omega) (by omega)]; simp
      have hbl : b.length ≤ s.length := by rw [← hb]; simp
      rw [e, if_neg (by decide), Nat.sub_self, znj, i2, Option.bind_some, zas hi, Option.bind_some, hb]
      unfold zqp
      by_cases h0 : b = []
      · subst h0
        have hn : (!(([] : Str) == [])) = false := rfl
        rw [hn, if_neg (by decide), if_pos rfl, zoy rec3 j t (by omega) hk]
      · have hn : (!(b == [])) = true := by simp [h0]
        rw [hn, if_pos rfl, zal (by simp; omega), Option.bind_some, Option.bind_some, zas hi, Option.bind_some, hb, zal (by simp; omega), Option.bind_some, if_neg h0, List.append_assoc]
        exact zoy rec3 j (t ++ 58 :: b) (by simp; omega) hk
theorem ztd (k : Nat) (a b : Str) : zk4 k a b = (sixE k a b || zk4 (k + 1) a b) := by
  unfold zk4 sixE
  cases zJ false (zaL a) with
  | none => rfl
  | some x =>
    cases zJ true (zaL b) with
    | none => rfl
    | some y =>
      show decide (x + y + k ≤ 8) = (x + y + k == 8 || decide (x + y + (k + 1) ≤ 8))
      rw [Bool.eq_iff_iff]
      simp only [decide_eq_true_eq, Bool.or_eq_true, beq_iff_eq]
      omega
theorem zoz (s b : Str) (i : Nat) (hi : i + 2 ≤ s.length) (hs : s.length < 400000000) (hb : s.drop (i + 2) = b) : ∀ (n k : Nat), k ≤ 8 → 8 - k + 1 < n → zaP s (i : Int) n ((k + 1 : Nat) : Int) = some (zk4 (k + 1) (s.take i) b)
  | 0, _, _, h => by omega
  | n + 1, k, hk, h => by
    rw [zaP]
    by_cases hlt : k < 8
    · have e : decide (((k + 1 : Nat) : Int) ≤ 8) = true := decide_eq_true (by omega)
      have ih := zoz s b i hi hs hb n (k + 1) (by omega) (by omega)
      rw [e, if_pos rfl, zeM (by omega), Option.bind_some]
      have := zlA (zaP s (i : Int) n) s b i (k + 1) hi hs hb (by omega) fuel 0 (s.take i) (by omega) (by unfold fuel; omega) (by simp; omega)
      rw [Nat.sub_zero] at this
      rw [show (0 : Int) = ((0 : Nat) : Int) from rfl, this, ih, zrb, ztd (k + 1)]
      cases sixE (k + 1) (s.take i) b <;> rfl
    · have : k = 8 := by omega
      subst this
      have e : decide (((8 + 1 : Nat) : Int) ≤ 8) = false := by decide
      rw [e, if_neg (by decide)]
      congr 1
      unfold zk4
      cases zJ false (zaL (s.take i)) with
      | none => rfl
      | some x =>
        cases zJ true (zaL b) with
        | none => rfl
        | some y => exact (decide_eq_false (by omega)).symm
theorem zuf (a b : Str) : zk4 1 a b = (match zJ false (zaL a), zJ true (zaL b) with | some a, some b => decide (a + b ≤ 7) | _, _ => false) := by
  unfold zk4
  cases zJ false (zaL a) with
  | none => rfl
  | some x =>
    cases zJ true (zaL b) with
    | none => rfl
    | some y => exact decide_eq_decide.2 (by omega)
theorem zpr (s : Str) (hs : s.length < 400000000) : zgY s = some (zox s) := by
  unfold zgY
  have key : ∀ (n i : Nat), i ≤ s.length → s.length - i < n → zbT s n (i : Int) = some (match zac [58, 58] (s.drop i) with | none => zfC s | some p => zk4 1 (s.take (i + p.1.length)) p.2) := by
    intro n
    induction n with
    | zero => intro i _ h; omega
    | succ n ih =>
      intro i hi h
      rw [zbT, zq (by omega), Option.bind_some]
      by_cases hlt : i + 1 < s.length
      · have e : decide (((i + 1 : Nat) : Int) < (s.length : Int)) = true := decide_eq_true (by omega)
        have hd : s.drop i = s[i] :: s[i + 1] :: s.drop (i + 2) := by rw [List.drop_eq_getElem_cons (by omega), List.drop_eq_getElem_cons hlt]
        have hd1 : s.drop (i + 1) = s[i + 1] :: s.drop (i + 2) := List.drop_eq_getElem_cons hlt
        have g0 : s[i]? = some s[i] := List.getElem?_eq_getElem (by omega)
        have g1 : s[i + 1]? = some s[i + 1] := List.getElem?_eq_getElem hlt
        have ih1 := ih (i + 1) (by omega) (by omega)
        have hL3 := zoz s (s.drop (i + 2)) i (by omega) hs rfl fuel 0 (by omega) (by unfold fuel; omega)
        have next : (match zac [58, 58] (s[i] :: s.drop (i + 1)) with | none => zfC s | some p => zk4 1 (s.take (i + p.1.length)) p.2) = if ([58, 58] : Str).isPrefixOf (s[i] :: s.drop (i + 1)) = true then zk4 1 (s.take i) (s.drop (i + 2)) else (match zac [58, 58] (s.drop (i + 1)) with | none => zfC s | some p => zk4 1 (s.take (i + 1 + p.1.length)) p.2) := by
          rw [zac]
          cases ([58, 58] : Str).isPrefixOf (s[i] :: s.drop (i + 1)) with
          | true =>
            rw [if_pos rfl, if_pos rfl]
            show zk4 1 (s.take (i + 0)) (List.drop (1 + 1) (s[i] :: s.drop (i + 1))) = _
            rw [hd1]; rfl
          | false =>
            rw [if_neg (by decide), if_neg (by decide)]
            cases zac [58, 58] (s.drop (i + 1)) with
            | none => rfl
            | some p =>
              show zk4 1 (s.take (i + (p.1.length + 1))) p.2 = _
              rw [show i + (p.1.length + 1) = i + 1 + p.1.length from by omega]
        rw [e, if_pos rfl, zak, g0, Option.bind_some, Option.bind_some, zak, g1, Option.bind_some, List.drop_eq_getElem_cons (show i < s.length by omega), next]
        unfold zfq
        rw [zq (by omega), Option.bind_some, ih1]
        have hp : ([58, 58] : Str).isPrefixOf (s[i] :: s.drop (i + 1)) = (s[i] == 58 && s[i + 1] == 58) := by
          rw [hd1]
          simp only [List.isPrefixOf_cons_cons, List.isPrefixOf_nil_left, Bool.and_true]
          rw [zmD 58, zmD 58]
        rw [hp]
        have hL3' : zaP s (i : Int) fuel 1 = some (zk4 1 (s.take i) (s.drop (i + 2))) := hL3
        rw [hL3']
        cases s[i] == 58 <;> cases s[i + 1] == 58 <;> rfl
      · have e : decide (((i + 1 : Nat) : Int) < (s.length : Int)) = false := decide_eq_false (by omega)
        rw [e, if_neg (by decide), zqo s (by omega), Option.bind_some]
        have : zac [58, 58] (s.drop i) = none := by
          cases hd : s.drop i with
          | nil => rfl
          | cons x t =>
            have : t = [] := by have := congrArg List.length hd; simp at this; exact List.eq_nil_of_length_eq_zero (by omega)
            subst this
            rw [zac]
            simp [List.isPrefixOf, zac]
        rw [this]
  have := key fuel 0 (Nat.zero_le _) (by unfold fuel; omega)
  rw [List.drop_zero] at this
  rw [show (0 : Int) = ((0 : Nat) : Int) from rfl, this]
  unfold zox
  congr 1
  cases hc : zac [58, 58] s with
  | none => rfl
  | some p =>
    have e := zcf (a := p.1) (b := p.2) hc
    have e1 : s.take (0 + p.1.length) = p.1 := by rw [Nat.zero_add, e, List.append_assoc, List.take_left']; rfl
    simp only [e1]
    exact zuf p.1 p.2
end Go.Dm
end
section
namespace Go.Dm
def zm4 (s : Str) : Str := (s.take (s.length - 1)).drop 1
def zit (s : Str) : Bool := decide (2 < s.length) && s[0]? == some 91 && s[s.length - 1]? == some 93 && zox (zm4 s)
def zet (s : Str) : Int × Str := if zit s then (3, zm4 s) else if zeU s then (2, s) else if ziv s then (1, s) else (0, s)
theorem zqb (x y : UInt8) : ((some x : Option UInt8) == some y) = (x == y) := Option.some_beq_some ..
theorem zrV (s : Str) : (zm4 s).length ≤ s.length := by unfold zm4; simp; omega
theorem zj0 {β : Type} (s : Str) (hs : s.length < 400000000) (f : Str → Option Bool) (hf : ∀ t, t.length < 400000000 → f t = some (zox t)) (J : Bool → Option β) :
    (if (decide (2 < (s.length : Int))) then ((sAt s 0).bind fun b6 => if (b6 == 91) then ((zd8 (s.length : Int) 1).bind fun i8 => (sAt s i8).bind fun b9 => if (b9 == 93) then ((zd8 (s.length : Int) 1).bind fun i11 => (zgG s 1 i11).bind fun s12 => (f s12).bind fun r13 => J r13) else J false) else J false) else J false) = J (zit s) := by
  unfold zit
  by_cases h : 2 < s.length
  · have e : decide (2 < (s.length : Int)) = true := decide_eq_true (by omega)
    have e' : decide (2 < s.length) = true := decide_eq_true h
    have g0 : s[0]? = some s[0] := List.getElem?_eq_getElem (by omega)
    have g1 : s[s.length - 1]? = some s[s.length - 1] := List.getElem?_eq_getElem (by omega)
    have i1 : zd8 (s.length : Int) 1 = some ((s.length - 1 : Nat) : Int) := by rw [zcG (by omega) (by omega)]; congr 1; omega
    have s1 : zgG s 1 ((s.length - 1 : Nat) : Int) = some (zm4 s) := zfy (i := 1) (by omega) (by omega)
    have := zrV s
    rw [e, e', if_pos rfl, show (0 : Int) = ((0 : Nat) : Int) from rfl, zak, g0, Option.bind_some, i1, Option.bind_some, zak, g1, Option.bind_some, Option.bind_some, s1, Option.bind_some, hf _ (by omega), Option.bind_some, zqb, zqb]
    cases s[0] == 91 <;> cases s[s.length - 1] == 93 <;> rfl
  · rw [decide_eq_false (show ¬ (2 < (s.length : Int)) by omega), decide_eq_false h]; rfl
theorem zja (s : Str) (hs : s.length < 400000000) : ze1 s = some (⟨(zet s).1, (zet s).2, -1⟩, !((zet s).1 == 0)) := by
  unfold ze1
  rw [zj0 s hs zec (fun t ht => Six_eq t (by omega)) (zbu s)]
  unfold zbu zb8 zet
  cases hb : zit s with
  | true =>
    have h : 2 < s.length := by unfold zit at hb; simp at hb; exact hb.1.1.1
    have i1 : zd8 (s.length : Int) 1 = some ((s.length - 1 : Nat) : Int) := by rw [zcG (by omega) (by omega)]; congr 1; omega
    have s1 : zgG s 1 ((s.length - 1 : Nat) : Int) = some (zm4 s) := zfy (i := 1) (by omega) (by omega)
    rw [if_pos rfl, i1, Option.bind_some, s1, Option.bind_some, if_pos rfl]
  | false =>
    rw [if_neg (by decide), zh6 s (by omega), Option.bind_some, zlr s (by omega), Option.bind_some]
    cases zeU s <;> cases ziv s <;> rfl
theorem zl3 (s : Str) (hs : s.length < 400000000) : zh3 s = some (if (zet s).1 == 0 then ⟨0, [], 0⟩ else ⟨(zet s).1, (zet s).2, -1⟩) := by
  unfold zh3
  rw [zj0 s hs zgY zpr (zcV s)]
  unfold zcV zet
  cases hb : zit s with
  | true =>
    have h : 2 < s.length := by unfold zit at hb; simp at hb; exact hb.1.1.1
    have i1 : zd8 (s.length : Int) 1 = some ((s.length - 1 : Nat) : Int) := by rw [zcG (by omega) (by omega)]; congr 1; omega
    have s1 : zgG s 1 ((s.length - 1 : Nat) : Int) = some (zm4 s) := zfy (i := 1) (by omega) (by omega)
    rw [if_pos rfl, i1, Option.bind_some, s1, Option.bind_some, if_pos rfl]
    rfl
  | false =>
    rw [if_neg (by decide), zj1 s (by omega), Option.bind_some, znZ s (by omega), Option.bind_some]
    cases zeU s <;> cases ziv s <;> rfl
def zgp (s : Str) (c : UInt8) : Nat → Option Nat
  | 0 => none
  | k + 1 => if s[k]? = some c then some k else zgp s c k
theorem zjb {s : Str} {c : UInt8} : ∀ {k i : Nat}, zgp s c k = some i → i < k ∧ s[i]? = some c
  | 0, _, h => by cases h
  | k + 1, i, h => by
    rw [zgp] at h
    split at h
    · rename_i h2; cases h; exact ⟨by omega, h2⟩
    · have := zjb h; exact ⟨by omega, this.2⟩
theorem zhY (s : Str) (c : UInt8) (hs : s.length < 1000000000) : zaq s c = some (match zgp s c s.length with | none => -1 | some k => (k : Int)) := by
  unfold zaq za3
  have key : ∀ (n k : Nat), k ≤ s.length → k < n → zF s c n ((k : Int) - 1) = some (match zgp s c k with | none => -1 | some j => (j : Int)) := by
    intro n
    induction n with
    | zero => intro k _ h; omega
    | succ n ih =>
      intro k hk h
      rw [zF]
      cases k with
      | zero => rw [decide_eq_false (by omega)]; rfl
      | succ k =>
        have e1 : ((k + 1 : Nat) : Int) - 1 = (k : Int) := by omega
        have g : s[k]? = some s[k] := List.getElem?_eq_getElem (by omega)
        rw [e1, decide_eq_true (show (0 : Int) ≤ (k : Int) by omega), if_pos rfl, zak, g, Option.bind_some, zcG (by omega) (by omega), Option.bind_some, ih k (by omega) (by omega), zgp, g]
        by_cases hc : s[k] = c
        · have : (s[k] == c) = true := by simp [hc]
          rw [this, if_pos rfl, if_pos (by rw [hc])]
        · have : (s[k] == c) = false := beq_eq_false_iff_ne.2 hc
          rw [this, if_neg (by decide), if_neg (by simpa using hc)]
  rw [zcG (by omega) (by omega), Option.bind_some, key fuel s.length (Nat.le_refl _) (by unfold fuel; omega), Option.bind_some]
def zbC (s : Str) : api_Host × Int :=
  if !((zet s).1 == 0) then (⟨(zet s).1, (zet s).2, -1⟩, 0) else match zgp s 58 s.length with
  | none => (⟨0, [], 0⟩, 27)
  | some k => if !((zet (s.take k)).1 == 0) && zcE (s.drop (k + 1)) 65535 then (⟨(zet (s.take k)).1, (zet (s.take k)).2, (zaj 10 (s.drop (k + 1)) 65535).1⟩, 0) else (⟨0, [], 0⟩, 27)
theorem zfj (s : Str) (hs : s.length < 400000000) : zb9 s = some (zbC s) := by
  unfold zb9 zbC
  rw [zja s hs, Option.bind_some]
  cases !((zet s).1 == 0) with
  | true => rfl
  | false =>
    show (if false = true then _ else _) = some (if false = true then _ else _)
    rw [if_neg (by decide), if_neg (by decide), zhY s 58 (by omega), Option.bind_some]
    cases hl : zgp s 58 s.length with
    | none => rfl
    | some k =>
      have hk := (zjb hl).1
      show (if decide ((k : Int) < 0) = true then _ else _) = _
      rw [decide_eq_false (show ¬ ((k : Int) < 0) by omega), if_neg (by decide), zeM (by omega), Option.bind_some, zja _ (by simp; omega), Option.bind_some]
      unfold zcp
      rw [zq (by omega), Option.bind_some, zas (by omega), Option.bind_some, Option.bind_some, zas (by omega), Option.bind_some, zhB _ _ (by simp; omega) (by decide) (by decide), Option.bind_some, zeY _ _ (by simp; omega) (by decide) (by decide), Option.bind_some]
      dsimp only
      cases (zet (s.take k)).1 == 0 <;> cases zcE (s.drop (k + 1)) 65535 <;> rfl
theorem zhc (s : Str) (hs : s.length < 400000000) : zcW s = some (zbC s) := by
  unfold zcW zbC
  have key : ∀ (n k : Nat), k ≤ s.length → k < n → zcc s n ((k : Int) - 1) = some (match zgp s 58 k with
      | none => (⟨0, [], 0⟩, 27)
      | some k => if !((zet (s.take k)).1 == 0) && zcE (s.drop (k + 1)) 65535 then (⟨(zet (s.take k)).1, (zet (s.take k)).2, (zaj 10 (s.drop (k + 1)) 65535).1⟩, 0) else (⟨0, [], 0⟩, 27)) := by
    intro n
    induction n with
    | zero => intro k _ h; omega
    | succ n ih =>
      intro k hk h
      rw [zcc]
      cases k with
      | zero => rw [decide_eq_false (by omega)]; rfl
      | succ k =>
        have e1 : ((k + 1 : Nat) : Int) - 1 = (k : Int) := by omega
        have g : s[k]? = some s[k] := List.getElem?_eq_getElem (by omega)
        rw [e1, decide_eq_true (show (0 : Int) ≤ (k : Int) by omega), if_pos rfl, zak, g, Option.bind_some, zcG (by omega) (by omega), Option.bind_some, ih k (by omega) (by omega), zgp, g]
        by_cases hc : s[k] = 58
        · have : (s[k] == 58) = true := by simp [hc]
          rw [this, if_neg (by decide), if_pos (by rw [hc]), zeM (by omega), Option.bind_some, zl3 _ (by simp; omega), Option.bind_some, zq (by omega), Option.bind_some, zas (by omega), Option.bind_some, zjf _ _ (by simp; omega) (by decide) (by decide), Option.bind_some]
          unfold zdU
          dsimp only
          cases h0 : (zet (s.take k)).1 == 0 with
          | true => rfl
          | false =>
            simp only [Bool.false_eq_true, if_false, h0, Bool.not_false, Bool.true_and]
            cases hsm : zcE (s.drop (k + 1)) 65535 with
            | false => rfl
            | true =>
              have h2 : (zaj 10 (s.drop (k + 1)) 65535).2 = 0 := by unfold zcE at hsm; simp at hsm; exact hsm.1
              have h3 := (zh5 h2 (by decide)).1
              simp only [if_true]
              rw [decide_eq_false (by omega)]; rfl
        · have : (s[k] == 58) = false := beq_eq_false_iff_ne.2 hc
          rw [this, Bool.not_false, if_pos rfl, if_neg (by simpa using hc)]
  rw [zl3 s hs, Option.bind_some]
  cases h0 : (zet s).1 == 0 with
  | true =>
    simp only [if_true, beq_self_eq_true, Bool.not_true, Bool.false_eq_true, if_false]
    rw [zcG (by omega) (by omega), Option.bind_some, key fuel s.length (Nat.le_refl _) (by unfold fuel; omega)]
  | false =>
    simp only [Bool.false_eq_true, if_false, h0, Bool.not_false, if_true]
end Go.Dm
end
section
namespace Go.Dm
def pqL (more : Str) : Str → Bool
  | [] => true
  | c :: s => if c == 37 then (match s with
    | a :: b :: r => zeF a && zeF b && pqL more r
    | _ => false) else (zkK c || more.contains c) && pqL more s
theorem zrv (more s : Str) : pqL more (37 :: s) = (match s with | a :: b :: r => zeF a && zeF b && pqL more r | _ => false) := by
  rw [pqL.eq_def]
  match s with
  | [] => rfl
  | [_] => rfl
  | _ :: _ :: _ => rfl
theorem zrw (more : Str) (c : UInt8) (s : Str) (h : (c == 37) = false) : pqL more (c :: s) = ((zkK c || more.contains c) && pqL more s) := by
  rw [pqL.eq_def]; simp only [h, Bool.false_eq_true, if_false]
theorem ztR (l : Str) (c : UInt8) : decide (0 ≤ zgO l c 0) = l.contains c := zq1 l c 0
theorem zl0 (rec1 : Int → Option Bool) (i : Nat) (hi : i < 4000000000) : ze2 rec1 (i : Int) = rec1 ((i + 1 : Nat) : Int) := by
  unfold ze2; rw [zq (by omega), Option.bind_some]
theorem zqa (rec1 : Int → Option Bool) (i : Nat) (t : Bool) (hi : i < 3000000000) : zcS rec1 (i : Int) t = if t = true then rec1 ((i + 3 : Nat) : Int) else some false := by
  unfold zcS
  have i2 : zO (i : Int) 2 = some ((i + 2 : Nat) : Int) := by rw [zcF (by omega) (by omega)]; simp
  rw [i2, Option.bind_some, zl0 rec1 (i + 2) (by omega)]
theorem zl1 (s more : Str) (hs : s.length < 1000000000) (hm : more.contains 37 = false) : zhZ s more = some (pqL more s) := by
  unfold zhZ
  have key : ∀ (n i : Nat), i ≤ s.length → s.length - i < n → za1 s more n (i : Int) = some (pqL more (s.drop i)) := by
    intro n
    induction n with
    | zero => intro i _ h; omega
    | succ n ih =>
      intro i hi h
      rw [za1]
      cases hd : s.drop i with
      | nil =>
        have : i = s.length := by have := congrArg List.length hd; simp at this; omega
        subst this
        simp only [Int.lt_irrefl, decide_false, Bool.false_eq_true, if_false, pqL]
      | cons c t =>
        have hlt : i < s.length := by have := congrArg List.length hd; simp at this; omega
        have hx : s[i]? = some c := by have := congrArg (·[0]?) hd; simpa using this
        have ht : s.drop (i + 1) = t := by rw [← List.drop_drop, hd]; rfl
        have htl : t.length = s.length - (i + 1) := by rw [← ht]; simp
        have i2 : zO (i : Int) 2 = some ((i + 2 : Nat) : Int) := by rw [zcF (by omega) (by omega)]; simp
        have i3 : zO (i : Int) 3 = some ((i + 3 : Nat) : Int) := by rw [zcF (by omega) (by omega)]; simp
        have hih := ih (i + 1) (by omega) (by omega)
        rw [ht] at hih
        have j4 := zl0 (za1 s more n) i (by omega)
        have j3 := zqa (za1 s more n) i
        simp only [Int.ofNat_lt, hlt, decide_true, if_true, zak, hx, Option.bind_some, zmg, strings_IndexByte, ztR, zgq, j4, hih]
        rcases zcg (c == 37) with hc | hc
        · have : c = 37 := by simpa using hc
          subst this
          have hp : zkK 37 = false := by decide
          rw [zrv, hp, hm]
          simp only [Bool.false_eq_true, if_false, beq_self_eq_true, if_true, i2, Option.bind_some, zq (show i < 4611686018427387904 by omega), i3]
          match t, ht, htl with
          | [], ht, htl =>
            have : ¬ ((i + 2 : Nat) : Int) < (s.length : Int) := by simp at htl; omega
            simp only [this, decide_false, Bool.false_eq_true, if_false, j3 false (by omega)]
          | [a], ht, htl =>
            have : ¬ ((i + 2 : Nat) : Int) < (s.length : Int) := by simp at htl; omega
            simp only [this, decide_false, Bool.false_eq_true, if_false, j3 false (by omega)]
          | a :: b :: r, ht, htl =>
            have hlt2 : ((i + 2 : Nat) : Int) < (s.length : Int) := by simp at htl; omega
            have hr : s.drop (i + 3) = r := by
              have : (s.drop (i + 1)).drop 2 = r := by rw [ht]; rfl
              rwa [List.drop_drop] at this
            have hi3 : i + 3 ≤ s.length := by simp at htl; omega
            have hih := ih (i + 3) hi3 (by omega)
            rw [hr] at hih
            have hsub : zgG s ((i + 1 : Nat) : Int) ((i + 3 : Nat) : Int) = some [a, b] := by
              rw [zfy (by omega) hi3, List.drop_take, ht]
              have : i + 3 - (i + 1) = 2 := by omega
              rw [this]; rfl
            simp only [hlt2, decide_true, if_true, hsub, Option.bind_some, zb2 zhr [a, b] (by simp), j3 _ (show i < 3000000000 by omega), hih]
            cases ha : zeF a <;> cases hb : zeF b <;> simp [ha, hb]
        · rw [zrw more c t hc, hc]
          cases zkK c <;> cases hq : more.contains c <;> simp [zcS]
  have := key fuel 0 (Nat.zero_le _) (by unfold fuel; omega)
  simpa using this
theorem zl2 (s more : Str) (hs : s.length < 1000000000) (hm : more.length < 1000000000) : zjd s more = some (pqL more s) := by
  unfold zjd
  have key : ∀ (n : Nat) (s : Str), s.length < n → s.length < 1000000000 → zc0 n s more = some (pqL more s) := by
    intro n
    induction n with
    | zero => intro s h; omega
    | succ n ih =>
      intro s h hs
      rw [zc0]
      cases s with
      | nil => simp [pqL]
      | cons c s =>
        have h1 : ((c :: s == ([] : Str))) = false := rfl
        have e1 : zbB (c :: s) 1 = some s := by
          have := zas (l := c :: s) (i := 1) (by simp)
          simpa using this
        simp only [List.length_cons] at h hs
        simp only [h1, Bool.false_eq_true, if_false, zkW, List.getElem?_cons_zero, Option.bind_some, zn1, zqc _ more hm, ze6, e1, ih s (by omega) (by omega)]
        rcases zcg (c == 37) with hc | hc
        · have : c = 37 := by simpa using hc
          subst this
          rw [zrv]
          match s, h, hs with
          | [], _, _ => simp [zct]
          | [a], _, _ => simp [zct]
          | a :: b :: r, h, hs =>
            have h2 : (2 : Int) < ((37 :: a :: b :: r : Str).length : Int) := by simp only [List.length_cons]; omega
            have e3 : zbB (37 :: a :: b :: r) 3 = some r := by
              have := zas (l := 37 :: a :: b :: r) (i := 3) (by simp)
              simpa using this
            have a1 : sAt (37 :: a :: b :: r) 1 = some a := by simp
            have a2 : sAt (37 :: a :: b :: r) 2 = some b := by simp
            simp only [List.length_cons] at h hs
            simp only [h2, decide_true, if_true, beq_self_eq_true, a1, a2, Option.bind_some, ziw, zct, e3, ih r (by omega) (by omega)]
            cases ha : zeF a <;> cases hb : zeF b <;> simp [ha, hb]
        · rw [zrw more c s hc, hc]
          cases zkK c <;> cases more.contains c <;> simp
  exact key fuel s (zph (by omega)) hs
def zdu (s : Str) : Bool := (([47] : Str).isPrefixOf s) && pqL [47] s
def zdw (s : Str) : Bool := pqL [47, 63] s
theorem znW (s : Str) (hs : s.length < 1000000000) : zhf s = some (zdu s) := by
  unfold zhf zdu
  rw [zdF s [47] hs, Option.bind_some, zl1 s [47] hs (by decide), Option.bind_some]
  cases ([47] : Str).isPrefixOf s <;> simp [zew]
theorem zm2 (s : Str) (hs : s.length < 1000000000) : zgr s = some (zdw s) := by
  unfold zgr zdw
  rw [zl1 s [47, 63] hs (by decide), Option.bind_some]
theorem znX (s : Str) (hs : s.length < 1000000000) : zhn s = some (zdu s) := by
  unfold zhn zdu
  rw [zl2 s [47] hs (by decide)]
  cases s with
  | nil => rfl
  | cons c s =>
    have h2 : (0 : Int) < ((c :: s : Str).length : Int) := by simp only [List.length_cons]; omega
    simp only [h2, decide_true, if_true, zkW, List.getElem?_cons_zero, Option.bind_some, zdl, List.isPrefixOf_cons_cons, List.isPrefixOf_nil_left, Bool.and_true]
    rcases zcg (c == 47) with h | h
    · have : c = 47 := by simpa using h
      subst this; simp
    · have : ((47 : UInt8) == c) = false := by rw [beq_eq_false_iff_ne] at h ⊢; exact fun e => h e.symm
      rw [h, this]; simp
theorem zi9 (s : Str) (hs : s.length < 1000000000) : ze7 s = some (zdw s) := by
  unfold ze7 zdw
  rw [zl2 s [47, 63] hs (by decide), Option.bind_some]
theorem zrU (c : UInt8) : ∀ s : Str, Go.Lib.index s [c] = if zaV [c] s = [] then -1 else ((upto [c] s).length : Int) := by
  intro s
  induction s with
  | nil => rfl
  | cons x s ih =>
    by_cases h : x = c
    · subst h
      rw [zjO, zgi (by simp), zgh (by simp)]; simp
    · rw [zjN h, ih]
      have hx : ([c] : Str).contains x = false := by simp [h]
      rw [zgk hx, zgj hx]
      split
      · rfl
      · rename_i h2
        rw [if_neg (by omega)]
        simp
def zK (c : UInt8) (s : Str) : Str × Str × Bool := (upto [c] s, (zaV [c] s).drop 1, !(zaV [c] s == []))
theorem ziL (s : Str) (c : UInt8) (hs : s.length < 1000000000) : strings_Cut s [c] = some (zK c s) := by
  unfold strings_Cut Go.Lib.cut zK
  rw [if_pos (by omega), zrU]
  congr 1
  by_cases h2 : zaV [c] s = []
  · rw [if_pos h2, if_neg (by omega)]
    have e := zb3 [c] s
    rw [h2, List.append_nil] at e
    rw [h2, e]; rfl
  · have h3 : (zaV [c] s == []) = false := beq_eq_false_iff_ne.2 h2
    rw [h3, if_neg h2, if_pos (by omega)]
    have e : s.drop ((upto [c] s).length + 1) = (zaV [c] s).drop 1 := by rw [← List.drop_drop, zhU]
    simp only [Int.toNat_natCast, zjx, List.length_singleton, e, Bool.not_false]
theorem zm3 (c : UInt8) (s : Str) (h : (zK c s).2.2 = true) : (zK c s).1 ++ c :: (zK c s).2.1 = s := by
  have e := zb3 [c] s
  unfold zK at h ⊢
  simp only [Bool.not_eq_true', beq_eq_false_iff_ne] at h
  cases hf : zaV [c] s with
  | nil => exact absurd hf h
  | cons x r =>
    have := zlk hf
    have hx : x = c := by simpa using this
    subst hx
    rw [hf] at e
    simpa [hf] using e
theorem zis (c : UInt8) (s : Str) (h : (zK c s).2.2 = false) : zK c s = (s, [], false) := by
  have e := zb3 [c] s
  unfold zK at h ⊢
  simp only [Bool.not_eq_false', beq_iff_eq] at h
  rw [h, List.append_nil] at e
  rw [h, e]; rfl
theorem zjy (c : UInt8) (s : Str) : (zK c s).1.length ≤ s.length ∧ (zK c s).2.1.length ≤ s.length := by
  have e := congrArg List.length (zb3 [c] s)
  rw [List.length_append] at e
  unfold zK
  simp only [List.length_drop]
  omega
def znY (s : Str) : Str × Str × Bool × Int :=
  if zdu (zK 63 s).1 && zdw (zK 63 s).2.1 then ((zK 63 s).1, (zK 63 s).2.1, (zK 63 s).2.2, 0) else ([], [], false, 2)
theorem zkJ (s : Str) (hs : s.length < 1000000000) : zh0 s = some (znY s) := by
  unfold zh0 znY
  have := zjy 63 s
  rw [ziL s 63 hs, Option.bind_some, znW _ (by omega), Option.bind_some, zm2 _ (by omega), Option.bind_some]
  cases zdu (zK 63 s).1 <;> cases zdw (zK 63 s).2.1 <;> simp [zfn]
end Go.Dm
end
section
namespace Go.Dm
def zoo : api_Target := ⟨0, [], ⟨0, [], 0⟩, [], [], false⟩
def ziJ (t : api_Target) (s : Str) : api_Target × Bool :=
  if s = [] then (t, true) else
    (⟨t.Kind, t.Scheme, t.Host, if s.head? == some 63 then [] else (znY s).1, (znY (if s.head? == some 63 then 47 :: s else s)).2.1, (znY (if s.head? == some 63 then 47 :: s else s)).2.2.1⟩, (znY (if s.head? == some 63 then 47 :: s else s)).2.2.2 == 0)
theorem zi7 (t : api_Target) (s : Str) (hs : s.length < 900000000) : ze3 t s = some (ziJ t s) := by
  unfold ze3 ziJ
  cases s with
  | nil => rfl
  | cons c r =>
    have h1 : ((c :: r == ([] : Str))) = false := rfl
    rw [h1, if_neg (by decide), if_neg (by simp), show (0 : Int) = ((0 : Nat) : Int) from rfl, zak, List.getElem?_cons_zero, Option.bind_some, List.head?_cons, Option.some_beq_some]
    unfold zdK zdJ
    simp only [List.length_cons] at hs
    cases hc : c == 63 with
    | true =>
      rw [if_pos rfl, if_pos rfl, zal (by simp only [List.length_cons, List.length_nil]; omega), Option.bind_some, show ([47] : Str) ++ c :: r = 47 :: c :: r from rfl, zkJ _ (by simp only [List.length_cons]; omega), Option.bind_some]
      rfl
    | false =>
      rw [if_neg (by decide), if_neg (by decide), zkJ _ (by simp only [List.length_cons]; omega), Option.bind_some, if_neg (by decide)]
      rfl
def ziK : Str := [104, 116, 116, 112]
def zgH : Str := [104, 116, 116, 112, 115]
def zp8 (s : Str) : api_Target × Bool := match zac [58, 47, 47] s with
  | none => (⟨2, low s, ⟨0, [], 0⟩, [], [], false⟩, false)
  | some p => if low p.1 == ziK || low p.1 == zgH then
      (if (zbC (upto [47, 63] p.2)).2 == 0 then ziJ ⟨2, low p.1, (zbC (upto [47, 63] p.2)).1, [], [], false⟩ (zaV [47, 63] p.2) else (⟨2, low p.1, ⟨0, [], 0⟩, [], [], false⟩, false))
    else (⟨2, low p.1, ⟨0, [], 0⟩, [], [], false⟩, false)
theorem zm0 (a b c : Str) (q : Bool) (hb : b.length < 300000000) : zbn (a, b, q) c ((upto [47, 63] b).length : Int) = some (if (zbC (upto [47, 63] b)).2 == 0 then ziJ ⟨2, c, (zbC (upto [47, 63] b)).1, [], [], false⟩ (zaV [47, 63] b) else (⟨2, c, ⟨0, [], 0⟩, [], [], false⟩, false)) := by
  unfold zbn
  have hu := zjw [47, 63] b
  have hf : (zaV [47, 63] b).length ≤ b.length := by
    have := congrArg List.length (zb3 [47, 63] b); rw [List.length_append] at this; omega
  dsimp only
  rw [zeM hu, Option.bind_some, zjx, zfj _ (by omega), Option.bind_some, zas hu, Option.bind_some, zhU, zi7 _ _ (by omega), Option.bind_some]
  cases (zbC (upto [47, 63] b)).2 == 0 <;> rfl
theorem zkl (s : Str) (hs : s.length < 300000000) : zc8 s = some (zp8 s) := by
  unfold zc8 zp8
  rw [zjj s _ (by omega) (by simp), Option.bind_some]
  cases hc : zac [58, 47, 47] s with
  | none =>
    dsimp only
    rw [zge s (by omega), Option.bind_some]
    rfl
  | some p =>
    have e := congrArg List.length (zcf (a := p.1) (b := p.2) hc)
    simp only [List.length_append, List.length_cons, List.length_nil] at e
    have hu := zjw [47, 63] p.2
    dsimp only
    rw [zge p.1 (by omega), Option.bind_some]
    have hj : zaf (p.1, p.2, true) (low p.1) false = some (if (zbC (upto [47, 63] p.2)).2 == 0 then ziJ ⟨2, low p.1, (zbC (upto [47, 63] p.2)).1, [], [], false⟩ (zaV [47, 63] p.2) else (⟨2, low p.1, ⟨0, [], 0⟩, [], [], false⟩, false)) := by
      unfold zaf
      rw [if_neg (by decide)]
      dsimp only
      rw [zgM p.2 [47, 63] (by omega) (by decide) (by decide), Option.bind_some]
      have hj2 := zm0 p.1 p.2 (low p.1) true (by omega)
      by_cases h0 : zaV [47, 63] p.2 = []
      · rw [if_pos h0, decide_eq_true (by omega), if_pos rfl]
        rw [(zd7 _ _).1 h0] at hj2
        exact hj2
      · rw [if_neg h0, decide_eq_false (by omega), if_neg (by decide)]
        exact hj2
    have hj0 : zaf (p.1, p.2, true) (low p.1) true = some (⟨2, low p.1, ⟨0, [], 0⟩, [], [], false⟩, false) := rfl
    rw [hj, hj0, if_neg (by decide)]
    show (if (!(low p.1 == ziK)) = true then zaf (p.1, p.2, true) (low p.1) (!(low p.1 == zgH)) else _) = _
    cases low p.1 == ziK with
    | true => rfl
    | false =>
      cases low p.1 == zgH with
      | true => rw [Bool.not_false, if_pos rfl, Bool.not_true, hj]; rfl
      | false => rw [Bool.not_false, if_pos rfl, hj0]; rfl
def zm1 : Str := [79, 80, 84, 73, 79, 78, 83]
def zi8 : Str := [67, 79, 78, 78, 69, 67, 84]
def ofT (m s : Str) : api_Target × Bool := if s == [42] then (⟨4, [], ⟨0, [], 0⟩, [], [], false⟩, m == zm1) else if ([47] : Str).isPrefixOf s then ziJ ⟨1, [], ⟨0, [], 0⟩, [], [], false⟩ s else zp8 s
theorem zo7 (m s : Str) (hs : s.length < 300000000) : zh1 m s = some (ofT m s) := by
  unfold zh1 ofT
  rw [zdF s [47] (by omega), Option.bind_some, zkl s hs, Option.bind_some, zi7 _ s (by omega), Option.bind_some]
  cases s == [42] <;> cases ([47] : Str).isPrefixOf s <;> rfl
def zhb (m s : Str) : api_Target × Int :=
  if m == zi8 then (if (zbC s).2 == 0 && !decide ((zbC s).1.Port < 0) then (⟨3, [], (zbC s).1, [], [], false⟩, 0) else (zoo, 20))
  else if (ofT m s).2 then ((ofT m s).1, 0) else (zoo, 20)
theorem zmf (m s : Str) (hs : s.length < 300000000) : zfo m s = some (zhb m s) := by
  unfold zfo zhb zc9
  rw [zfj s (by omega), Option.bind_some, zo7 m s hs, Option.bind_some]
  show (if (m == zi8) = true then _ else _) = _
  cases m == zi8 <;> cases (zbC s).2 == 0 <;> cases decide ((zbC s).1.Port < 0) <;> cases (ofT m s).2 <;> rfl
end Go.Dm
end
section
namespace Go.Dm
theorem zqK (c : UInt8) (s : Str) : (zK c s).1 ++ (if (zK c s).2.2 = true then c :: (zK c s).2.1 else []) = s := by
  rcases zcg (zK c s).2.2 with h | h
  · rw [if_pos h]; exact zm3 c s h
  · rw [if_neg (by rw [h]; decide), zis c s h, List.append_nil]
theorem zoP {s : Str} (h : zdu s = true) : ∃ r, s = 47 :: r := by
  unfold zdu at h
  simp only [Bool.and_eq_true] at h
  obtain ⟨r, hr⟩ := List.isPrefixOf_iff_prefix.1 h.1
  exact ⟨r, hr.symm⟩
def zsx : api_Target := ⟨1, [], ⟨0, [], 0⟩, [], [], false⟩
end Go.Dm
end
section
namespace Go.Dm
theorem znL (s : Str) (hs : s.length < 1000000000) : zhl s = some ((upto [63] s).length : Int) := by
  unfold zhl
  have key : ∀ (n i : Nat), i ≤ s.length → s.length - i < n → zbr s n (i : Int) = some ((i + (upto [63] (s.drop i)).length : Nat) : Int) := by
    intro n
    induction n with
    | zero => intro i _ h; omega
    | succ n ih =>
      intro i hi h
      rw [zbr]
      unfold zeC
      rw [zq (by omega), Option.bind_some]
      by_cases hlt : i < s.length
      · have g : s[i]? = some s[i] := List.getElem?_eq_getElem hlt
        rw [decide_eq_true (show (i : Int) < (s.length : Int) by omega), if_pos rfl, zak, g, Option.bind_some, ih (i + 1) (by omega) (by omega), List.drop_eq_getElem_cons hlt]
        by_cases hc : s[i] = 63
        · have h1 : (s[i] == 63) = true := by simp [hc]
          rw [h1, if_neg (by decide), zgh (by simp [hc])]; rfl
        · have h1 : (s[i] == 63) = false := beq_eq_false_iff_ne.2 hc
          rw [h1, Bool.not_false, if_pos rfl, zgj (by simp [hc])]
          congr 2
          simp only [List.length_cons]; omega
      · have : i = s.length := by omega
        subst this
        rw [decide_eq_false (show ¬ ((s.length : Int) < (s.length : Int)) by omega), if_neg (by decide), List.drop_length]
        rfl
  have := key fuel 0 (Nat.zero_le _) (by unfold fuel; omega)
  rw [List.drop_zero, Nat.zero_add] at this
  exact this
theorem ziF (t : api_Target) (s : Str) (hq : t.Query = []) (hs : s.length < 900000000) : zeh t s =
    some (⟨t.Kind, t.Scheme, t.Host, (zK 63 s).1, (zK 63 s).2.1, (zK 63 s).2.2⟩, zdu (zK 63 s).1 && zdw (zK 63 s).2.1) := by
  unfold zeh
  have hu := zjw [63] s
  have hl := zjy 63 s
  have e1 : (zK 63 s).1 = upto [63] s := rfl
  rw [znL s (by omega), Option.bind_some, zeM hu, Option.bind_some, zjx]
  have hj : ∀ q : Str, q.length < 900000000 → zcm t s ((upto [63] s).length : Int) (upto [63] s) q = some (⟨t.Kind, t.Scheme, t.Host, upto [63] s, q, decide ((upto [63] s).length < s.length)⟩, zdu (upto [63] s) && zdw q) := by
    intro q hq
    unfold zcm zda
    rw [znX _ (by omega), Option.bind_some, zi9 q (by omega), Option.bind_some]
    have : decide (((upto [63] s).length : Int) < (s.length : Int)) = decide ((upto [63] s).length < s.length) := decide_eq_decide.2 (by omega)
    rw [this]
    cases zdu (upto [63] s) <;> rfl
  by_cases h0 : zaV [63] s = []
  · have hn := (zd7 _ _).1 h0
    have hc : (zK 63 s).2.2 = false := by unfold zK; rw [h0]; rfl
    rw [decide_eq_false (by omega), if_neg (by decide), hj _ (by rw [hq]; simp), hq, zis 63 s hc, decide_eq_false (by omega)]
    have : upto [63] s = s := by have := zb3 [63] s; rw [h0, List.append_nil] at this; exact this
    rw [this]
  · have hn : (upto [63] s).length < s.length := by
      have : ¬ (upto [63] s).length = s.length := fun h => h0 ((zd7 _ _).2 h)
      omega
    have hc : (zK 63 s).2.2 = true := by unfold zK; simp [h0]
    have hd : s.drop ((upto [63] s).length + 1) = (zK 63 s).2.1 := by rw [← List.drop_drop, zhU]; rfl
    rw [decide_eq_true (by omega), if_pos rfl, zq (by omega), Option.bind_some, zas (by omega), Option.bind_some, hd, hj _ (by omega), decide_eq_true hn, hc, e1]
theorem zrM (c : UInt8) : (zc2 c == 58) = (c == 58) :=
  eq_of_beq (zI (fun c => (zc2 c == 58) == (c == 58)) (by decide +kernel) c)
theorem zoe (c : UInt8) : (zc2 c == 47) = (c == 47) :=
  eq_of_beq (zI (fun c => (zc2 c == 47) == (c == 47)) (by decide +kernel) c)
theorem zlQ {c : UInt8} {t : Str} : ∀ {a b : Str}, c ∉ a → zac (c :: t) (a ++ (c :: t) ++ b) = some (a, b)
  | [], b, _ => by
    show zac (c :: t) (c :: (t ++ b)) = _
    rw [zac, if_pos (by simp [List.isPrefixOf_iff_prefix])]
    simp
  | x :: a, b, h => by
    have hx : c ≠ x := fun e => h (by simp [e])
    show zac (c :: t) (x :: (a ++ (c :: t) ++ b)) = _
    have hp : (c :: t).isPrefixOf (x :: (a ++ (c :: t) ++ b)) = false := by
      rw [List.isPrefixOf_cons_cons, beq_eq_false_iff_ne.2 hx, Bool.false_and]
    rw [zac, hp, if_neg (by decide), zlQ (fun hm => h (by simp [hm]))]
    rfl
theorem zmz (a b : Str) : low (a ++ b) = low a ++ low b := by simp [low]
theorem ztH {u : Str} (h : low u = [58, 47, 47]) : u = [58, 47, 47] := by
  match u, h with
  | [a, b, c], h =>
    simp only [low, List.map_cons, List.map_nil, List.cons.injEq, and_true] at h
    obtain ⟨h1, h2, h3⟩ := h
    have g1 : a = 58 := by have := zrM a; rw [h1] at this; simpa using this.symm
    have g2 : b = 47 := by have := zoe b; rw [h2] at this; simpa using this.symm
    have g3 : c = 47 := by have := zoe c; rw [h3] at this; simpa using this.symm
    rw [g1, g2, g3]
  | [], h => simp [low] at h
  | [_], h => simp [low] at h
  | [_, _], h => simp [low] at h
  | _ :: _ :: _ :: _ :: _, h => simp [low] at h
theorem zqL (sc s : Str) (hsc : (58 : UInt8) ∉ sc) : (sc.length + 3 ≤ s.length ∧ low (s.take (sc.length + 3)) = sc ++ [58, 47, 47]) ↔ ∃ a, zac [58, 47, 47] s = some (a, s.drop (sc.length + 3)) ∧ low a = sc := by
  constructor
  · rintro ⟨h1, h2⟩
    have e : s = s.take sc.length ++ (s.drop sc.length).take 3 ++ s.drop (sc.length + 3) := by
      rw [List.append_assoc, ← List.drop_drop, List.take_append_drop, List.take_append_drop]
    have e2 : s.take (sc.length + 3) = s.take sc.length ++ (s.drop sc.length).take 3 := List.take_add
    rw [e2, zmz] at h2
    obtain ⟨g1, g2⟩ := List.append_inj h2 (by simp [low]; omega)
    have g3 := ztH g2
    have hn : (58 : UInt8) ∉ s.take sc.length := fun hm => by
      have : (58 : UInt8) ∈ low (s.take sc.length) := List.mem_map.2 ⟨58, hm, by decide⟩
      rw [g1] at this; exact hsc this
    refine ⟨s.take sc.length, ?_, g1⟩
    have := zlQ (t := [47, 47]) (b := s.drop (sc.length + 3)) hn
    rw [← g3, ← e, g3] at this
    exact this
  · rintro ⟨a, h1, h2⟩
    have e := zcf h1
    have hal : a.length = sc.length := by rw [← h2]; simp [low]
    have hl : sc.length + 3 ≤ s.length := by have := congrArg List.length e; simp at this; omega
    refine ⟨hl, ?_⟩
    have : s.take (sc.length + 3) = a ++ [58, 47, 47] := by
      rw [e, List.take_left']
      simp [hal]
    rw [this, zmz, h2]
    rfl
def zij (r : api_Target × Bool) : api_Target × Int := if r.2 then (r.1, 0) else (zoo, 20)
def zik (sc r : Str) : api_Target × Int := if (zbC (upto [47, 63] r)).2 == 0 then zij (ziJ ⟨2, sc, (zbC (upto [47, 63] r)).1, [], [], false⟩ (zaV [47, 63] r)) else (zoo, 20)
theorem ztI (q : Str) : zK 63 (47 :: 63 :: q) = ([47], q, true) := by
  unfold zK
  rw [zgj (by decide), zgk (by decide), zgh (by decide), zgi (by decide)]
  rfl
theorem cutQ_q (q : Str) : znY (47 :: 63 :: q) = if zdw q then ([47], q, true, 0) else ([], [], false, 2) := by
  unfold znY
  rw [ztI]
  have : zdu [47] = true := by decide
  rw [this, Bool.true_and]
theorem zlR (rec5 : Int → Option (api_Target × Int)) (sc r : Str) (hr : r.length < 300000000) : zby rec5 sc r ((upto [47, 63] r).length : Int) false = some (zik sc r) := by
  unfold zby zik
  have hu := zjw [47, 63] r
  rw [if_neg (by decide), zeM hu, Option.bind_some, zjx, zhc _ (by omega), Option.bind_some]
  cases (zbC (upto [47, 63] r)).2 == 0 with
  | false => rfl
  | true =>
    rw [Bool.not_true, if_neg (by decide), if_pos rfl]
    cases hf : zaV [47, 63] r with
    | nil =>
      have hn := (zd7 _ _).1 hf
      rw [hn, beq_self_eq_true, if_pos rfl]
      rfl
    | cons c t =>
      have hne : zaV [47, 63] r ≠ [] := by rw [hf]; simp
      have hlt : (upto [47, 63] r).length < r.length := by
        have : ¬ (upto [47, 63] r).length = r.length := fun h => hne ((zd7 _ _).2 h)
        omega
      have hd := zhU [47, 63] r
      rw [hf] at hd
      have g : r[(upto [47, 63] r).length]? = some c := by have := congrArg (·[0]?) hd; simpa using this
      have hd1 : r.drop ((upto [47, 63] r).length + 1) = t := by rw [← List.drop_drop, hd]; rfl
      have htl : (c :: t).length ≤ r.length := by rw [← hd]; simp
      simp only [List.length_cons] at htl
      have hbe : (((upto [47, 63] r).length : Int) == (r.length : Int)) = false := beq_eq_false_iff_ne.2 (by omega)
      rw [hbe, if_neg (by decide), zak, g, Option.bind_some, zq (by omega), Option.bind_some, zas (by omega), Option.bind_some, hd1, zi9 t (by omega), Option.bind_some, zas hu, Option.bind_some, hd, ziF _ _ rfl (by simp only [List.length_cons]; omega), Option.bind_some]
      unfold zdW ziJ zij
      have hne2 : c :: t ≠ [] := by simp
      rw [if_neg hne2, List.head?_cons, Option.some_beq_some]
      cases hc : c == 63 with
      | true =>
        have : c = 63 := by simpa using hc
        subst this
        simp only [if_true]
        rw [cutQ_q]
        cases zdw t <;> rfl
      | false =>
        simp only [Bool.false_eq_true, if_false]
        unfold znY
        cases zdu (zK 63 (c :: t)).1 && zdw (zK 63 (c :: t)).2.1 <;> rfl
theorem zpJ (sc r : Str) (hr : r.length < 300000000) : zau sc r fuel 0 = some (zik sc r) := by
  have hu := zjw [47, 63] r
  have key : ∀ (n i : Nat), i ≤ (upto [47, 63] r).length → (upto [47, 63] r).length - i < n → zau sc r n (i : Int) = some (zik sc r) := by
    intro n
    induction n with
    | zero => intro i _ h; omega
    | succ n ih =>
      intro i hi h
      rw [zau]
      by_cases hlt : i < (upto [47, 63] r).length
      · have g : r[i]? = some (upto [47, 63] r)[i] := by
          have e := List.getElem?_append_left (l₂ := zaV [47, 63] r) hlt
          rw [zb3] at e; rw [e]; exact List.getElem?_eq_getElem hlt
        have hno := zpF (upto [47, 63] r)[i] (List.getElem_mem hlt)
        generalize (upto [47, 63] r)[i] = c at g hno
        have h1 : (c == 47) = false := by simp at hno; simp [hno.1]
        have h2 : (c == 63) = false := by simp at hno; simp [hno.2]
        rw [decide_eq_true (show (i : Int) < (r.length : Int) by omega), if_pos rfl, zak, g, Option.bind_some, Option.bind_some, h1, h2, Bool.not_false, if_pos rfl]
        unfold zby
        rw [if_pos rfl, zq (by omega), Option.bind_some]
        exact ih (i + 1) (by omega) (by omega)
      · have : i = (upto [47, 63] r).length := by omega
        subst this
        rw [zlR _ sc r hr]
        cases hf : zaV [47, 63] r with
        | nil =>
          have hn := (zd7 _ _).1 hf
          rw [decide_eq_false (by omega), if_neg (by decide)]
        | cons c t =>
          have hd := zhU [47, 63] r
          rw [hf] at hd
          have g : r[(upto [47, 63] r).length]? = some c := by have := congrArg (·[0]?) hd; simpa using this
          have hlt : (upto [47, 63] r).length < r.length := by have := congrArg List.length hd; simp at this; omega
          have hin := zlk hf
          rw [decide_eq_true (by omega), if_pos rfl, zak, g, Option.bind_some, Option.bind_some]
          rcases zcg (c == 47) with h1 | h1
          · rw [h1]; rfl
          · have h2 : (c == 63) = true := by simp at hin h1 ⊢; rcases hin with h | h; exact absurd h h1; exact h
            rw [h1, h2, Bool.not_true, zlR _ sc r hr]; rfl
  exact key fuel 0 (Nat.zero_le _) (by unfold fuel; omega)
def zde (sc s : Str) : Bool := decide (sc.length + 3 ≤ s.length) && low (s.take (sc.length + 3)) == sc ++ [58, 47, 47]
theorem zjQ (sc s : Str) (hsc : (58 : UInt8) ∉ sc) : zde sc s = true ↔ ∃ a, zac [58, 47, 47] s = some (a, s.drop (sc.length + 3)) ∧ low a = sc := by
  rw [← zqL sc s hsc]
  unfold zde
  simp
theorem zrp (n i : Nat) (s x : Str) (hx : lAt [[104, 116, 116, 112], [104, 116, 116, 112, 115]] (i : Int) = some x) (hi : i < 2) (hl : x.length < 10) (hs : s.length < 300000000) :
    zaa (n + 1) s (i : Int) = if zde x s = true then some (zik x (s.drop (x.length + 3))) else zaa n s ((i + 1 : Nat) : Int) := by
  rw [zaa]
  have e3 : zO (x.length : Int) 3 = some ((x.length + 3 : Nat) : Int) := by rw [zcF (by omega) (by omega)]; simp
  show (if decide ((i : Int) < 2) = true then (lAt [[104, 116, 116, 112], [104, 116, 116, 112, 115]] (i : Int)).bind _ else _) = _
  rw [decide_eq_true (show (i : Int) < 2 by omega), if_pos rfl, hx, Option.bind_some, e3, Option.bind_some]
  unfold zde zdX
  rw [zq (by omega), Option.bind_some]
  by_cases hlt : x.length + 3 ≤ s.length
  · have e4 : decide ((s.length : Int) < ((x.length + 3 : Nat) : Int)) = false := decide_eq_false (by omega)
    rw [e4, if_neg (by decide), decide_eq_true hlt, zeM hlt, Option.bind_some, zhO _ (by simp; omega), Option.bind_some, zal (by simp; omega), Option.bind_some, zas hlt, Option.bind_some, zpJ x _ (by simp; omega), Bool.true_and]
    cases low (s.take (x.length + 3)) == x ++ [58, 47, 47] <;> rfl
  · have e4 : decide ((s.length : Int) < ((x.length + 3 : Nat) : Int)) = true := decide_eq_true (by omega)
    rw [e4, if_pos rfl, if_pos rfl, decide_eq_false hlt]
    rfl
theorem zmA (a r : Str) (sc : Str) (h : low a = sc) : zij (if (zbC (upto [47, 63] r)).2 == 0 then ziJ ⟨2, low a, (zbC (upto [47, 63] r)).1, [], [], false⟩ (zaV [47, 63] r) else (⟨2, low a, ⟨0, [], 0⟩, [], [], false⟩, false)) = zik sc r := by
  unfold zik
  rw [h]
  cases (zbC (upto [47, 63] r)).2 == 0 <;> rfl
theorem zpK (s : Str) (hs : s.length < 300000000) : zaa fuel s 0 = some (zij (zp8 s)) := by
  have hf : fuel = 999999999999999997 + 1 + 1 + 1 := rfl
  have s1 := zrp (999999999999999997 + 1 + 1) 0 s ziK rfl (by decide) (by decide) hs
  have s2 := zrp (999999999999999997 + 1) 1 s zgH rfl (by decide) (by decide) hs
  have s3 : zaa (999999999999999997 + 1) s ((1 + 1 : Nat) : Int) = some (zoo, 20) := by rw [zaa]; rfl
  have h1 := zjQ ziK s (by decide)
  have h2 := zjQ zgH s (by decide)
  rw [hf, show (0 : Int) = ((0 : Nat) : Int) from rfl, s1, s2, s3]
  unfold zp8
  cases hc : zac [58, 47, 47] s with
  | none =>
    rw [hc] at h1 h2
    have g1 : ¬ zde ziK s = true := fun h => by obtain ⟨a, ha, _⟩ := h1.1 h; cases ha
    have g2 : ¬ zde zgH s = true := fun h => by obtain ⟨a, ha, _⟩ := h2.1 h; cases ha
    rw [if_neg g1, if_neg g2]
    rfl
  | some p =>
    rw [hc] at h1 h2
    dsimp only
    have hp : ∀ sc : Str, low p.1 = sc → p.2 = s.drop (sc.length + 3) := fun sc h => by
      have e := zcf (a := p.1) (b := p.2) hc
      have hal : p.1.length = sc.length := by rw [← h]; simp [low]
      rw [e, ← hal, List.drop_left']
      simp
    by_cases c1 : low p.1 = ziK
    · have g1 : zde ziK s = true := h1.2 ⟨p.1, by rw [← hp _ c1], c1⟩
      rw [if_pos g1, c1]
      have := zmA p.1 p.2 ziK c1
      rw [c1] at this
      rw [if_pos (by decide), this, hp _ c1]
    · have g1 : ¬ zde ziK s = true := fun h => by obtain ⟨a, ha, hb⟩ := h1.1 h; cases ha; exact c1 hb
      rw [if_neg g1]
      by_cases c2 : low p.1 = zgH
      · have g2 : zde zgH s = true := h2.2 ⟨p.1, by rw [← hp _ c2], c2⟩
        have := zmA p.1 p.2 zgH c2
        rw [c2] at this
        rw [if_pos g2, c2, if_pos (by decide), this, hp _ c2]
      · have g2 : ¬ zde zgH s = true := fun h => by obtain ⟨a, ha, hb⟩ := h2.1 h; cases ha; exact c2 hb
        rw [if_neg g2, if_neg (by simp [c1, c2])]
        rfl
theorem zrN {s : Str} (h : ([47] : Str).isPrefixOf s = true) : (zp8 s).2 = false := by
  obtain ⟨r, hr⟩ := List.isPrefixOf_iff_prefix.1 h
  unfold zp8
  cases hc : zac [58, 47, 47] s with
  | none => rfl
  | some p =>
    have e := zcf (a := p.1) (b := p.2) hc
    have hh : low p.1 ≠ ziK ∧ low p.1 ≠ zgH := by
      cases hp : p.1 with
      | nil => exact ⟨by decide, by decide⟩
      | cons c t =>
        rw [hp, ← hr] at e
        have : c = 47 := by simp at e; exact e.1.symm
        subst this
        exact ⟨by simp [low, ziK, zc2], by simp [low, zgH, zc2]⟩
    dsimp only
    rw [if_neg (by simp [hh.1, hh.2])]
theorem zpL (s : Str) (h : ([47] : Str).isPrefixOf s = true) : ziJ zsx s = (if zdu (zK 63 s).1 && zdw (zK 63 s).2.1 then ((⟨1, [], ⟨0, [], 0⟩, (zK 63 s).1, (zK 63 s).2.1, (zK 63 s).2.2⟩ : api_Target), true) else (⟨1, [], ⟨0, [], 0⟩, [], [], false⟩, false)) := by
  obtain ⟨r, hr⟩ := List.isPrefixOf_iff_prefix.1 h
  subst hr
  unfold ziJ
  rw [if_neg (by simp)]
  have hh : (([47] ++ r : Str).head? == some 63) = false := rfl
  rw [hh]
  simp only [Bool.false_eq_true, if_false]
  unfold znY
  cases zdu (zK 63 ([47] ++ r)).1 && zdw (zK 63 ([47] ++ r)).2.1 <;> rfl
theorem zqM {s : Str} (h : ([47] : Str).isPrefixOf s = false) : zdu (zK 63 s).1 = false := by
  rcases zcg (zdu (zK 63 s).1) with h1 | h1
  · obtain ⟨r, hr⟩ := zoP h1
    have ht := zqK 63 s
    rw [hr] at ht
    rw [← ht] at h
    simp at h
  · exact h1
theorem zoR {r : api_Target × Bool} (h : r.2 = false) : zij r = (zoo, 20) := by unfold zij; rw [h]; rfl
theorem ziY (s : Str) (hs : s.length < 300000000) : zbz s false = some (if ([47] : Str).isPrefixOf s then zij (ziJ zsx s) else zij (zp8 s)) := by
  unfold zbz
  rw [if_neg (by decide), ziF _ _ rfl (by omega), Option.bind_some, zpK s hs]
  dsimp only
  cases h : ([47] : Str).isPrefixOf s with
  | true =>
    rw [if_pos rfl, zpL s h]
    cases zdu (zK 63 s).1 && zdw (zK 63 s).2.1 with
    | true => rfl
    | false =>
      rw [zoR (zrN h)]
      rfl
  | false =>
    rw [zqM h, Bool.false_and, if_neg (by decide), if_neg (by decide)]
theorem zmB (m s : Str) (hs : s.length < 300000000) : zgt m s = some (zhb m s) := by
  unfold zgt zhb zdV
  rw [zhc s (by omega), Option.bind_some]
  show (if (m == zi8) = true then _ else _) = _
  cases hm : m == zi8 with
  | true =>
    rw [if_pos rfl, if_pos rfl]
    cases (zbC s).2 == 0 <;> cases decide ((zbC s).1.Port < 0) <;> rfl
  | false =>
    show (if (s == [42]) = true then zbz s (m == zm1) else zbz s false) = some (zij (ofT m s))
    rw [ziY s hs]
    unfold ofT
    cases h : s == [42] with
    | true =>
      have : s = [42] := by simpa using h
      subst this
      cases m == zm1 with
      | true => rfl
      | false => rw [if_pos rfl, ziY [42] (by decide)]; rfl
    | false =>
      cases ([47] : Str).isPrefixOf s <;> rfl

end Go.Dm
end
section
namespace Go.Dm
theorem zf6 (n : Int) (hn : inI n = true) : (zfL 10 n).length ≤ 71 := by
  unfold zfL
  split
  · simp
  · rw [zg1]
    have := zgc.1 hn
    exact zqt (by decide) _ (by omega)
end Go.Dm
end
section
namespace Go.Dm
def zhy (r : Str) : Int × Bool × Str := match r with
  | [] => (0, false, [])
  | c :: t => if zN c then (((c - 48).toNat : Int), true, t) else (0, false, c :: t)
section
variable {s r : Str} {k : Nat}
theorem zp5 (hs : s.length < 1000000000) (h : At s k r) : ∃ k', At s k' (zhy r).2.2 ∧ zaY ⟨scn s k⟩ = some ((zhy r).1, (zhy r).2.1, scn s k') := by
  unfold zaY
  show ∃ k', _ ∧ (zU (scn s k)).bind _ = _
  rw [ztP h, Option.bind_some]
  cases r with
  | nil => exact ⟨k, h, rfl⟩
  | cons c t =>
    have e : zhy (c :: t) = if zN c then (((c - 48).toNat : Int), true, t) else (0, false, c :: t) := rfl
    rw [e]
    show ∃ k', _ ∧ (zW c).bind (fun r6 => zaX ⟨scn s k⟩ (c, true) (!r6)) = _
    rw [zf1, Option.bind_some]
    obtain ⟨k', h1, h2⟩ := zir hs c h
    rw [zb5] at h1
    cases zN c with
    | false => exact ⟨k, h, rfl⟩
    | true =>
      refine ⟨k', h1, ?_⟩
      show (zD (scn s k) c).bind (fun r11 => some (((c - 48).toNat : Int), true, r11.2)) = _
      rw [h2]; rfl
def za5 : Str := [72, 84, 84, 80, 47]
def zeO (r : Str) : Int × Int × Bool × Str :=
  if za5.isPrefixOf r then
    ((zhy (r.drop 5)).1, (zhy (zaD 46 (zhy (r.drop 5)).2.2)).1, (zhy (r.drop 5)).2.1 && zfI 46 (zhy (r.drop 5)).2.2 && (zhy (zaD 46 (zhy (r.drop 5)).2.2)).2.1, (zhy (zaD 46 (zhy (r.drop 5)).2.2)).2.2)
  else (0, 0, false, r)
theorem zmY (hs : s.length < 1000000000) (h : At s k r) : ∃ k', At s k' (zeO r).2.2.2 ∧ zaz ⟨scn s k⟩ = some ((zeO r).1, (zeO r).2.1, (zeO r).2.2.1, scn s k') := by
  unfold zaz
  obtain ⟨k1, h1, e1⟩ := ztQ hs za5 (by decide) h
  show ∃ k', _ ∧ (zbD (scn s k) za5).bind _ = _
  rw [e1, Option.bind_some]
  unfold zeO
  cases hp : za5.isPrefixOf r with
  | false =>
    rw [hp, if_neg (by decide)] at h1
    exact ⟨k1, h1, rfl⟩
  | true =>
    rw [hp, if_pos rfl] at h1
    have h1 : At s k1 (r.drop 5) := h1
    obtain ⟨k2, h2, e2⟩ := zp5 hs h1
    obtain ⟨k3, h3, e3⟩ := zir hs 46 h2
    obtain ⟨k4, h4, e4⟩ := zp5 hs h3
    refine ⟨k4, h4, ?_⟩
    dsimp only
    rw [Bool.not_true, if_neg (by decide), e2, Option.bind_some]
    dsimp only
    rw [e3, Option.bind_some]
    dsimp only
    rw [e4, Option.bind_some, if_pos rfl]
    dsimp only
    cases (zhy (r.drop 5)).2.1 <;> cases zfI 46 (zhy (r.drop 5)).2.2 <;> rfl
def zbI (u : Str) : Int := if (zeO u).2.2.1 && (zeO u).2.2.2 == [] then (if (zeO u).1 == 1 && decide ((zeO u).2.1 ≤ 1) then (zeO u).2.1 else 2) else -1
theorem zru {r : Str} (h : (zhy r).2.1 = true) : ∃ c t, r = c :: t ∧ zN c = true ∧ zhy r = (((c - 48).toNat : Int), true, t) := by
  cases r with
  | nil => cases h
  | cons c t =>
    unfold zhy at h ⊢
    dsimp only at h ⊢
    cases hc : zN c with
    | false => rw [hc] at h; cases h
    | true => exact ⟨c, t, rfl, hc, by simp⟩
theorem zkG {r : Str} (h : (zeO r).2.2.1 = true) : ∃ a b t, r = za5 ++ a :: 46 :: b :: t ∧ zN a = true ∧ zN b = true ∧ zeO r = (((a - 48).toNat : Int), ((b - 48).toNat : Int), true, t) := by
  unfold zeO at h ⊢
  cases hp : za5.isPrefixOf r with
  | false => rw [hp] at h; cases h
  | true =>
    rw [hp, if_pos rfl] at h
    rw [if_pos rfl]
    simp only [Bool.and_eq_true] at h
    obtain ⟨⟨h1, h2⟩, h3⟩ := h
    obtain ⟨t0, ht0⟩ := List.isPrefixOf_iff_prefix.1 hp
    have hd : r.drop 5 = t0 := by rw [← ht0]; rfl
    rw [hd] at h1 h2 h3 ⊢
    obtain ⟨a, t1, rfl, ha, ea⟩ := zru h1
    rw [ea] at h2 h3 ⊢
    have hb := zfQ h2
    dsimp only at h2 h3 hb ⊢
    obtain ⟨b, t, e, hbd, eb⟩ := zru h3
    rw [e] at hb
    rw [eb]
    refine ⟨a, b, t, by rw [← ht0, hb], ha, hbd, ?_⟩
    simp [h2]
theorem zi4 {c : UInt8} (h : zN c = true) (h1 : (c - 48).toNat ≤ 1) : c = 48 ∨ c = 49 := by
  have := zI (fun c => !(zN c && decide ((c - 48).toNat ≤ 1)) || (c == 48 || c == 49)) (by decide +kernel) c
  rw [h] at this
  simpa [h1] using this
theorem zg9 {u : Str} (h : 0 ≤ zbI u) (h2 : (zbI u == 2) = false) : (u = za5 ++ [49, 46, 48] ∧ zbI u = 0) ∨ (u = za5 ++ [49, 46, 49] ∧ zbI u = 1) := by
  unfold zbI at *
  cases hc : (zeO u).2.2.1 && (zeO u).2.2.2 == [] with
  | false => rw [hc] at h; exact absurd (show (0 : Int) ≤ -1 from h) (by decide)
  | true =>
    rw [hc, if_pos rfl] at h h2
    rw [if_pos rfl]
    simp only [Bool.and_eq_true] at hc
    obtain ⟨a, b, t, e, ha, hb, ev⟩ := zkG hc.1
    rw [ev] at hc h h2 ⊢
    have ht : t = [] := by simpa using hc.2
    subst ht
    dsimp only at h h2 ⊢
    cases hq : (((a - 48).toNat : Int) == 1 && decide (((b - 48).toNat : Int) ≤ 1)) with
    | false => rw [hq] at h2; exact absurd (show ((2 : Int) == 2) = false from h2) (by decide)
    | true =>
      rw [if_pos rfl]
      simp only [Bool.and_eq_true, beq_iff_eq, decide_eq_true_eq] at hq
      have ha1 : a = 49 := by
        rcases zi4 ha (by omega) with h | h
        · subst h; exact absurd hq.1 (by decide)
        · exact h
      subst ha1
      rcases zi4 hb (by omega) with h | h <;> subst h
      · left; exact ⟨e, by decide⟩
      · right; exact ⟨e, by decide⟩
theorem zha (u : Str) (hu : u.length < 1000000000) : zch u = some (zbI u == 2) := by
  unfold zch
  rw [zhH, Option.bind_some]
  obtain ⟨k', h, e⟩ := zmY hu (At.zero u)
  rw [e, Option.bind_some]
  dsimp only
  rw [zsJ h]
  unfold zbI zaS
  have h1 : decide ((zeO u).2.1 ≤ 1) = !decide (1 < (zeO u).2.1) := by
    rw [Bool.eq_iff_iff]; simp
  rw [h1]
  cases hv : (zeO u).2.2.1 with
  | false => rfl
  | true =>
    rw [if_pos rfl, Option.bind_some, Bool.true_and]
    cases (zeO u).2.2.2 == [] with
    | false => rfl
    | true =>
      rw [if_pos rfl, if_pos rfl]
      obtain ⟨a, b, t, _, ha, hb, ev⟩ := zkG hv
      rw [ev]
      dsimp only
      cases ((a - 48).toNat : Int) == 1 with
      | false => rfl
      | true =>
        rw [Bool.not_true, if_neg (by decide), Bool.true_and]
        by_cases h2 : (1 : Int) < ((b - 48).toNat : Int)
        · rw [decide_eq_true h2]; rfl
        · rw [decide_eq_false h2, Bool.not_false, if_pos rfl]
          have : (((b - 48).toNat : Int) == 2) = false := beq_eq_false_iff_ne.2 (by omega)
          rw [this]
def zdB (r : Str) : Int × Bool × Str := ((zeO r).2.1, (zeO r).2.2.1 && (zeO r).1 == 1 && decide ((zeO r).2.1 ≤ 1), (zeO r).2.2.2)
theorem zp6 (hs : s.length < 1000000000) (h : At s k r) : ∃ k', At s k' (zdB r).2.2 ∧ za0 ⟨scn s k⟩ = some ((zdB r).1, (zdB r).2.1, scn s k') := by
  unfold za0 zdB
  obtain ⟨k', h1, e⟩ := zmY hs h
  refine ⟨k', h1, ?_⟩
  rw [e, Option.bind_some]
  dsimp only
  cases (zeO r).2.2.1 <;> cases (zeO r).1 == 1 <;> rfl
theorem zom (r : Str) : ((zdB r).2.1 && (zdB r).2.2 == []) = (decide (0 ≤ zbI r) && !(zbI r == 2)) ∧ ((zdB r).2.1 = true → (zdB r).2.2 = [] → (zdB r).1 = zbI r) := by
  unfold zdB zbI
  dsimp only
  cases hv : (zeO r).2.2.1 with
  | false => exact ⟨rfl, fun h => by cases h⟩
  | true =>
    obtain ⟨a, b, t, _, ha, hb, ev⟩ := zkG hv
    rw [ev]
    dsimp only
    rw [Bool.true_and, Bool.true_and]
    cases hq : (((a - 48).toNat : Int) == 1 && decide (((b - 48).toNat : Int) ≤ 1)) with
    | false =>
      refine ⟨?_, fun h => by cases h⟩
      cases t == [] <;> rfl
    | true =>
      simp only [Bool.and_eq_true, decide_eq_true_eq] at hq
      refine ⟨?_, fun _ h => ?_⟩
      · cases t == [] with
        | false => rfl
        | true =>
          rw [if_pos rfl, if_pos rfl]
          have : (((b - 48).toNat : Int) == 2) = false := beq_eq_false_iff_ne.2 (by omega)
          rw [this, decide_eq_true (by omega)]; rfl
      · subst h; rfl
end
def zcI : api_Head := ⟨0, [], [], 0, [], 0, []⟩
def zon (s : Str) : Nat := match zgp s 32 s.length with
  | none => 0
  | some k => k + 1
theorem zqZ (s : Str) (hs : s.length < 300000000) : ∃ r, zaq s 32 = some r ∧ zO r 1 = some (zon s : Int) ∧ zon s ≤ s.length := by
  rw [zhY s 32 (by omega)]
  unfold zon
  cases hl : zgp s 32 s.length with
  | none => exact ⟨-1, rfl, by decide, Nat.zero_le _⟩
  | some k =>
    have := (zjb hl).1
    exact ⟨k, rfl, zq (by omega), by show k + 1 ≤ s.length; omega⟩
def zi5 (s : Str) : Str := s.drop (zon s)
def zkj (s : Str) : Str := s.takeWhile za4
def zlZ (s : Str) : Str := s.dropWhile za4
def zmd (s : Str) : Str := (zaD 32 (zlZ s)).takeWhile (fun b => !(b == 32))
def zhz (s : Str) : Str := (zaD 32 (zlZ s)).dropWhile (fun b => !(b == 32))
def zp7 (s : Str) : Bool := !(zkj s == []) && zfI 32 (zlZ s) && zfI 32 (zhz s) && ((zdB (zaD 32 (zhz s))).2.1 && (zdB (zaD 32 (zhz s))).2.2 == []) && (zhb (zkj s) (zmd s)).2 == 0
def zme (s : Str) : api_Head × Int := if zbI (zi5 s) == 2 then (zcI, 26) else if zp7 s then (⟨1, zkj s, zmd s, 0, [], (zdB (zaD 32 (zhz s))).1, []⟩, 0) else (zcI, 20)
theorem zi6 (s : Str) (hs : s.length < 300000000) : zcq s = some (zme s) := by
  unfold zcq zme zi5
  obtain ⟨r, e0, hi⟩ := zqZ s hs
  rw [e0, Option.bind_some]
  generalize zon s = n at hi
  rw [hi.1, Option.bind_some, zas hi.2, Option.bind_some, zha _ (by simp; omega), Option.bind_some]
  cases zbI (s.drop n) == 2 with
  | true => rfl
  | false =>
    rw [if_neg (by decide), if_neg (by decide), zhH, Option.bind_some]
    have hs' : s.length < 1000000000 := by omega
    obtain ⟨k1, h1, e1⟩ := zp4 hs' (At.zero s)
    obtain ⟨k2, h2, e2⟩ := zir hs' 32 h1
    obtain ⟨k3, h3, e3⟩ := zi3 (f := zbO) (p := fun b => !(b == 32)) (fun b => rfl) hs' h2
    obtain ⟨k4, h4, e4⟩ := zir hs' 32 h3
    obtain ⟨k5, h5, e5⟩ := zp6 hs' h4
    rw [e1, Option.bind_some]
    dsimp only
    rw [e2, Option.bind_some]
    dsimp only
    rw [e3, Option.bind_some]
    dsimp only
    rw [e4, Option.bind_some]
    dsimp only
    have hl := h2.le_len
    have hl2 := ziD (fun b => !(b == 32)) (zaD 32 (s.dropWhile za4))
    rw [e5, Option.bind_some, zmf _ _ (by omega), Option.bind_some]
    dsimp only
    rw [zsJ h5, Option.bind_some]
    unfold zV zp7 zmd zkj zhz zlZ
    cases s.takeWhile za4 == [] <;> cases zfI 32 (s.dropWhile za4) <;> cases zfI 32 ((zaD 32 (s.dropWhile za4)).dropWhile (fun b => !(b == 32))) <;> cases (zdB (zaD 32 ((zaD 32 (s.dropWhile za4)).dropWhile (fun b => !(b == 32))))).2.1 <;> cases (zdB (zaD 32 ((zaD 32 (s.dropWhile za4)).dropWhile (fun b => !(b == 32))))).2.2 == [] <;> cases (zhb (s.takeWhile za4) ((zaD 32 (s.dropWhile za4)).takeWhile (fun b => !(b == 32)))).2 == 0 <;> rfl
theorem zgd {p : UInt8 → Bool} {s : Str} {x : UInt8} (h : x ∈ s.takeWhile p) : p x = true := by
  induction s with
  | nil => cases h
  | cons c s ih =>
    rw [List.takeWhile_cons] at h
    split at h
    · rename_i hc
      rcases List.mem_cons.1 h with rfl | h
      · exact hc
      · exact ih h
    · cases h
theorem zsK {x : UInt8} (h : za4 x = true) : x ≠ 32 := by rintro rfl; revert h; decide
theorem zkk {s : Str} (h : zp7 s = true) : ∃ v, s = zkj s ++ 32 :: (zmd s ++ 32 :: v) ∧ (32 : UInt8) ∉ zkj s ∧ (32 : UInt8) ∉ zmd s ∧ zkj s ≠ [] ∧ (zkj s).all za4 = true ∧ 0 ≤ zbI v ∧ (zbI v == 2) = false ∧ (zdB (zaD 32 (zhz s))).1 = zbI v ∧ ((zhb (zkj s) (zmd s)).2 == 0) = true := by
  unfold zp7 at h
  simp only [Bool.and_eq_true, Bool.not_eq_true', beq_eq_false_iff_ne] at h
  obtain ⟨⟨⟨⟨h1, h2⟩, h3⟩, h4, h5⟩, h6⟩ := h
  have e1 : zkj s ++ zlZ s = s := List.takeWhile_append_dropWhile
  have e2 := zfQ h2
  have e3 : zmd s ++ zhz s = zaD 32 (zlZ s) := List.takeWhile_append_dropWhile
  have e4 := zfQ h3
  have hm := zom (zaD 32 (zhz s))
  have hk : (decide (0 ≤ zbI (zaD 32 (zhz s))) && !(zbI (zaD 32 (zhz s)) == 2)) = true := by rw [← hm.1, h4, Bool.true_and]; exact h5
  simp only [Bool.and_eq_true, decide_eq_true_eq, Bool.not_eq_true'] at hk
  refine ⟨zaD 32 (zhz s), ?_, ?_, ?_, h1, ?_, hk.1, hk.2, hm.2 h4 (by simpa using h5), h6⟩
  · rw [← e4, e3, ← e2, e1]
  · exact fun hx => zsK (zgd hx) rfl
  · exact fun hx => by have := zgd hx; simp at this
  · exact List.all_eq_true.2 fun x hx => zgd hx
def zmZ (s : Str) : Str := (zaD 32 (zdB s).2.2).takeWhile zN
def zkH (s : Str) : Str := (zaD 32 (zdB s).2.2).dropWhile zN
def zo6 (s : Str) : Bool := (zdB s).2.1 && zfI 32 (zdB s).2.2 && zfI 32 (zkH s) && ((zmZ s).length : Int) == 3 && (zaj 10 (zmZ s) 599).2 == 0 && !decide ((zaj 10 (zmZ s) 599).1 < 100) && (zaD 32 (zkH s)).all zem
def znS (s : Str) : api_Head × Int := if zbI (zK 32 s).1 == 2 then (zcI, 26) else if zo6 s then (⟨2, [], [], (zaj 10 (zmZ s) 599).1, zaD 32 (zkH s), (zdB s).1, []⟩, 0) else (zcI, 20)
theorem zjJ (s : Str) (hs : s.length < 300000000) : zcM s = some (znS s) := by
  unfold zcM znS
  have hcl := zjy 32 s
  rw [ziL s 32 (by omega), Option.bind_some, zha _ (by omega), Option.bind_some]
  cases zbI (zK 32 s).1 == 2 with
  | true => rfl
  | false =>
    rw [if_neg (by decide), if_neg (by decide), zhH, Option.bind_some]
    have hs' : s.length < 1000000000 := by omega
    obtain ⟨k1, h1, e1⟩ := zp6 hs' (At.zero s)
    obtain ⟨k2, h2, e2⟩ := zir hs' 32 h1
    obtain ⟨k3, h3, e3⟩ := zi3 zf1 hs' h2
    obtain ⟨k4, h4, e4⟩ := zir hs' 32 h3
    rw [e1, Option.bind_some]
    dsimp only
    rw [e2, Option.bind_some]
    dsimp only
    rw [e3, Option.bind_some]
    dsimp only
    have hl := h2.le_len
    have hl2 := ziD zN (zaD 32 (zdB s).2.2)
    have hl4 := h4.le_len
    rw [e4, Option.bind_some, zeY _ _ (by omega) (by decide) (by decide), Option.bind_some]
    dsimp only
    rw [zml h4, Option.bind_some, zb2 zf2 _ (by omega), Option.bind_some]
    unfold zS zo6 zkH zmZ
    dsimp only
    rw [zml h4, Option.bind_some]
    cases (zdB s).2.1 <;> cases zfI 32 (zdB s).2.2 <;> cases zfI 32 ((zaD 32 (zdB s).2.2).dropWhile zN) <;> cases (((zaD 32 (zdB s).2.2).takeWhile zN).length : Int) == 3 <;> cases (zaj 10 ((zaD 32 (zdB s).2.2).takeWhile zN) 599).2 == 0 <;> cases decide ((zaj 10 ((zaD 32 (zdB s).2.2).takeWhile zN) 599).1 < 100) <;> cases (zaD 32 ((zaD 32 (zdB s).2.2).dropWhile zN)).all zem <;> rfl
def zb6 (kind : Int) (s : Str) : api_Head × Int := if !(kind == 1) && !(kind == 2) then (zcI, 1) else if s.any ([13, 10] : Str).contains then (zcI, 24) else if kind == 1 then zme s else znS s
theorem zeP (kind : Int) (s : Str) (hs : s.length < 300000000) : zbL kind s = some (zb6 kind s) := by
  unfold zbL zca zb6
  rw [zfg s [13, 10] (by omega) (by decide) (by decide), Option.bind_some, zi6 s hs, Option.bind_some, zjJ s hs, Option.bind_some]
  cases kind == 1 <;> cases kind == 2 <;> cases s.any ([13, 10] : Str).contains <;> rfl

end Go.Dm
end
section
namespace Go.Dm
theorem zsN {v : Str} (h : 0 ≤ zbI v) (h2 : (zbI v == 2) = false) : (32 : UInt8) ∉ v := by
  rcases zg9 h h2 with ⟨h, _⟩ | ⟨h, _⟩ <;> rw [h] <;> decide
theorem zqd {m t v : Str} (h1 : (32 : UInt8) ∉ m) (h2 : (32 : UInt8) ∉ t) (h3 : (32 : UInt8) ∉ v) : zh 32 (m ++ 32 :: (t ++ 32 :: v)) = [m, t, v] := by
  rw [zdD _ h1, zdD _ h2, zff h3]
theorem zkS (c : UInt8) : ∀ (x y : Str), zh c (x ++ c :: y) = zh c x ++ zh c y
  | [], y => by rw [List.nil_append, zay, if_pos rfl]; rfl
  | z :: x, y => by
    rw [List.cons_append, zay, zay, zkS c x y]
    split
    · rfl
    · cases h : zh c x with
      | nil => exact absurd h (zba c x)
      | cons a l => rfl
theorem zji {c : UInt8} : ∀ {s x : Str}, zh c s = [x] → x = s
  | [], x, h => by rw [zh] at h; cases h; rfl
  | y :: s, x, h => by
    rw [zay] at h
    split at h
    · injection h with h1 h2
      exact absurd h2 (zba c s)
    · cases h3 : zh c s with
      | nil => exact absurd h3 (zba c s)
      | cons a l =>
        rw [h3] at h
        injection h with h1 h2
        subst h2
        have := zji h3
        rw [← h1, this]; rfl
theorem znc (s : Str) : (zme s = (zcI, 26) ∨ zme s = (zcI, 20)) ∨ zp7 s = true ∧ zme s = (⟨1, zkj s, zmd s, 0, [], (zdB (zaD 32 (zhz s))).1, []⟩, 0) := by
  unfold zme
  split
  · exact .inl (.inl rfl)
  · cases h : zp7 s with
    | true => exact .inr ⟨rfl, rfl⟩
    | false => exact .inl (.inr rfl)
end Go.Dm
end
