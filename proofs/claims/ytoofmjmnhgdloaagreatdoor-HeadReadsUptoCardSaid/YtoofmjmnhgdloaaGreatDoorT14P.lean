/-
  The models' words: partial operations as functions into Option. No program in sight.
  The models of the functions: written by a program (wip/gen) off the translation. No program in sight.
  The library's functions as the models say them, and as the library's contracts say them. No program in sight.
  Plain tools for the laws: the partial operations at natural numbers, loops over lists. No program in sight.
  Layer 1 (bytes): what the program's and the reference's models come to.
  Layer 3 (numbers): reading and writing: the program's and the document's come to the same. No program in sight.
-/
import Derived.Lib.ItoaNum
import Derived.Lib.SplitLaws
import Derived.Lib.SlTrimSet
import Derived.Lib.Join
import Derived.Lib.IndexMore
import Derived.Lib.Bytealg
import Derived.Lib.Index
import Derived.Lib.IndexAny
section
namespace Go.Dm
abbrev Str := List UInt8

def inI (n : Int) : Bool := decide (-9223372036854775808 ≤ n) && decide (n ≤ 9223372036854775807)
theorem zhc {n : Int} : inI n = true ↔ -9223372036854775808 ≤ n ∧ n ≤ 9223372036854775807 := by simp [inI]

def zE (m n : Int) : Option Int := if inI (m + n) then some (m + n) else none
def zeh (m n : Int) : Option Int := if inI (m - n) then some (m - n) else none
def zou (m n : Int) : Option Int := if inI (m * n) then some (m * n) else none
def zov (m n : Int) : Option Int := if 0 ≤ m ∧ 1 ≤ n ∧ inI (m / n) = true then some (m / n) else none
def zqe (m n : Int) : Option Int := if 0 ≤ m ∧ 1 ≤ n ∧ inI (m % n) = true then some (m % n) else none
def sAt (l : Str) (i : Int) : Option UInt8 := if 0 ≤ i then l[i.toNat]? else none
def sTo (l : Str) (h : Int) : Option Str := if 0 ≤ h ∧ h ≤ l.length then some (l.take h.toNat) else none
def zbq (l : Str) (i : Int) : Option Str := if 0 ≤ i ∧ i ≤ l.length then some (l.drop i.toNat) else none
def zeK (l : Str) (i h : Int) : Option Str := if 0 ≤ i ∧ i ≤ h ∧ h ≤ l.length then some ((l.take h.toNat).drop i.toNat) else none
def zht (l m : Str) : Option Str := if l.length + m.length ≤ 9223372036854775807 then some (l ++ m) else none
def lAt {α : Type} (l : List α) (i : Int) : Option α := if 0 ≤ i then l[i.toNat]? else none
def zpj {α : Type} (l : List α) (i : Int) : Option (List α) := if 0 ≤ i ∧ i ≤ l.length then some (l.drop i.toNat) else none
def zbr (n m bytes : Nat) : Bool := decide (n + m ≤ 9223372036854775807) && decide ((n + m) * bytes ≤ 140737488355328)
theorem og {α : Type} {b : Bool} {x : Option α} {r : α} (h : (if b = true then x else none) = some r) : b = true ∧ x = some r := by
  cases b with
  | false => cases h
  | true => exact ⟨rfl, h⟩
theorem zct (b : Bool) : b = true ∨ b = false := by cases b <;> simp
theorem ob {α β : Type} {m : Option α} {f : α → Option β} {r : β} (h : m.bind f = some r) : ∃ x, m = some x ∧ f x = some r := by
  cases m with
  | none => cases h
  | some x => exact ⟨x, rfl, h⟩
theorem it {α : Type} {b : Bool} {x y : Option α} {r : α} (hb : b = true) (h : (if b = true then x else y) = some r) : x = some r := by rwa [if_pos hb] at h
theorem ie {α : Type} {b : Bool} {x y : Option α} {r : α} (hb : b = false) (h : (if b = true then x else y) = some r) : y = some r := by rwa [if_neg (by simp [hb])] at h

def zlj : Str → Str → Bool
  | _, [] => false
  | [], _ :: _ => true
  | a :: x, b :: y => a < b || (a == b && zlj x y)
def fuel : Nat := 1000000000000000000
end Go.Dm
end
section
set_option linter.unusedVariables false
set_option maxRecDepth 10000
namespace Go.Dm
structure api_Field where
  Name : Str
  Value : Str
deriving DecidableEq
structure api_Head where
  Kind : Int
  Method : Str
  Target : Str
  Code : Int
  Reason : Str
  Minor : Int
  Fields : List api_Field
deriving DecidableEq
structure scan_Scanner where
  f_s : Str
  f_at : Int
deriving DecidableEq
structure startline_line where
  Scanner : scan_Scanner
deriving DecidableEq
structure api_Host where
  Kind : Int
  Name : Str
  Port : Int
deriving DecidableEq
structure api_Target where
  Kind : Int
  Scheme : Str
  Host : api_Host
  Path : Str
  Query : Str
  HasQuery : Bool
deriving DecidableEq
structure bag_Bag where
  f_l : List api_Field
deriving DecidableEq
structure quill_Quill where
  f_b : List UInt8
  f_most : Int
deriving DecidableEq
structure head_printer where
  Quill : quill_Quill
  f_full : Bool
deriving DecidableEq
def zgu : Str → UInt8 → Nat → Int
  | [], _, _ => -1
  | x :: l, c, k => if x == c then (k : Int) else zgu l c (k + 1)
def strings_IndexByte (s : Str) (c : UInt8) : Option Int := some (zgu s c 0)
def zjZ : Str → Str → Bool
  | _, [] => true
  | [], _ :: _ => false
  | x :: s, y :: t => x == y && zjZ s t
def zgO : Str → Str → Nat → Int
  | s, t, k => if zjZ s t then (k : Int) else match s with
    | [] => -1
    | _ :: s => zgO s t (k + 1)
def strings_Index (s t : Str) : Option Int := if s.length < 4294967281 then some (zgO s t 0) else none
def strings_Cut (s t : Str) : Option (Str × Str × Bool) := if s.length < 4294967281 then some (Go.Lib.cut s t) else none
def ziX : Str → Str → Nat → Int
  | [], _, _ => -1
  | x :: l, cs, k => if cs.contains x then (k : Int) else ziX l cs (k + 1)
def strings_IndexAny (s cs : Str) : Option Int := if s.length < 4294967281 ∧ cs.length < 4294967281 ∧ cs.all (fun c => c.toNat < 128) then some (ziX s cs 0) else none
def strings_Split (s sep : Str) : Option (List Str) := if s.length < 4294967281 ∧ 1 ≤ sep.length then some (Go.Lib.splitK sep 0 (Go.Lib.countB ⟨s.toArray⟩ ⟨sep.toArray⟩) s) else none
def zi (c : UInt8) : Str → List Str
  | [] => [[]]
  | x :: s => if x = c then [] :: zi c s else match zi c s with
    | [] => [[x]]
    | h :: t => (x :: h) :: t
def zds (n b : Int) : Option Str := if inI n = true ∧ b = 10 then some (Go.Lib.itoa n) else none
def zd3 (s cs : Str) : Option Str := if s.length < 4294967281 ∧ cs.length < 4294967281 ∧ cs.all (fun c => c.toNat < 128) then some (Go.Lib.trimS s cs) else none
def strings_Join (l : List Str) (sep : Str) : Option Str := if l.length ≤ 140737488355328 ∧ (Go.Lib.join l sep).length ≤ 140737488355328 then some (Go.Lib.join l sep) else none
def strings_ContainsAny (x_s : Str) (x_chars : Str) : Option Bool :=
  (strings_IndexAny x_s x_chars).bind fun r2 =>
  some (decide (0 ≤ r2))

def zG (x_s : Str) (x_c : UInt8) : Nat → Int → Option Int
  | 0, _ => none
  | n + 1, i4 =>
  if (decide (0 ≤ i4)) then ((sAt x_s i4).bind fun b8 =>
  if (b8 == x_c) then (some i4) else ((zeh i4 1).bind fun i13 =>
  (zG x_s x_c n) i13)) else (some (-1))

def za1 (x_s : Str) (x_c : UInt8) : Option Int :=
  (zeh (x_s.length : Int) 1).bind fun i2 =>
  zG x_s x_c fuel i2

def zaq (x_s : Str) (x_c : UInt8) : Option Int :=
  (za1 x_s x_c).bind fun r2 =>
  some r2

def zgP (x_s : Str) : Option scan_Scanner :=
  some (⟨x_s, 0⟩ : scan_Scanner)

def zQ (x_c : scan_Scanner) : Option Str :=
  (zbq x_c.f_s x_c.f_at).bind fun s4 =>
  some s4

def zan (t4 : Bool) : Option Bool :=
  some t4

def stringslite_HasPrefix (x_s : Str) (x_prefix : Str) : Option Bool :=
  if (decide ((x_prefix.length : Int) ≤ (x_s.length : Int))) then ((sTo x_s (x_prefix.length : Int)).bind fun s3 =>
  zan (s3 == x_prefix)) else (zan false)

def strings_HasPrefix (x_s : Str) (x_prefix : Str) : Option Bool :=
  (stringslite_HasPrefix x_s x_prefix).bind fun r2 =>
  some r2

def zbG (x_c : scan_Scanner) (x_t : Str) : Option (Bool × scan_Scanner) :=
  (zQ x_c).bind fun r2 =>
  (strings_HasPrefix r2 x_t).bind fun r3 =>
  if (!r3) then (some (false, x_c)) else ((zE x_c.f_at (x_t.length : Int)).bind fun i9 =>
  some ((true, (⟨x_c.f_s, i9⟩ : scan_Scanner))))

def zaU (x_c : scan_Scanner) : Option Bool :=
  (zQ x_c).bind fun r2 =>
  some (r2 == [])

def zU (x_c : scan_Scanner) : Option (UInt8 × Bool) :=
  (zaU x_c).bind fun r2 =>
  if r2 then (some (0, false)) else ((sAt x_c.f_s x_c.f_at).bind fun b7 =>
  some (b7, true))

def zd4 (t3 : Bool) : Option Bool :=
  some t3

def zX (x_b : UInt8) : Option Bool :=
  if (decide (48 ≤ x_b)) then (zd4 (decide (x_b ≤ 57))) else (zd4 false)

def zbx (x_c : scan_Scanner) (t5 : Bool) : Option (Bool × scan_Scanner) :=
  if t5 then (some (false, x_c)) else ((zE x_c.f_at 1).bind fun i9 =>
  some ((true, (⟨x_c.f_s, i9⟩ : scan_Scanner))))

def zC (x_c : scan_Scanner) (x_b : UInt8) : Option (Bool × scan_Scanner) :=
  (zU x_c).bind fun r2 =>
  if (!r2.2) then (zbx x_c true) else (zbx x_c (!(r2.1 == x_b)))

def zaV (x_p : startline_line) (r3 : UInt8 × Bool) (t7 : Bool) : Option (Int × Bool × scan_Scanner) :=
  if t7 then (some (0, false, x_p.Scanner)) else ((zC x_p.Scanner r3.1).bind fun r11 =>
  some ((((r3.1 - 48).toNat : Int), true, r11.2)))

def zaW (x_p : startline_line) : Option (Int × Bool × scan_Scanner) :=
  (zU x_p.Scanner).bind fun r3 =>
  if (!r3.2) then (zaV x_p r3 true) else ((zX r3.1).bind fun r6 =>
  zaV x_p r3 (!r6))

def zaB (r9 : Int × Bool × scan_Scanner) (r15 : Int × Bool × scan_Scanner) (t20 : Bool) : Option (Int × Int × Bool × scan_Scanner) :=
  some (r9.1, r15.1, t20, r15.2.2)

def zaz (x_p : startline_line) : Option (Int × Int × Bool × scan_Scanner) :=
  (zbG x_p.Scanner [72, 84, 84, 80, 47]).bind fun r3 =>
  if (!r3.1) then (some (0, 0, false, r3.2)) else ((zaW (⟨r3.2⟩ : startline_line)).bind fun r9 =>
  (zC r9.2.2 46).bind fun r12 =>
  (zaW (⟨r12.2⟩ : startline_line)).bind fun r15 =>
  if r9.2.1 then (if r12.1 then (zaB r9 r15 r15.2.1) else (zaB r9 r15 false)) else (zaB r9 r15 false))

def zaR (t13 : Bool) : Option Bool :=
  some t13

def zcl (x_s : Str) : Option Bool :=
  (zgP x_s).bind fun r2 =>
  (zaz (⟨r2⟩ : startline_line)).bind fun r6 =>
  if r6.2.2.1 then ((zaU r6.2.2.2).bind fun r10 =>
  if r10 then (if (!(r6.1 == 1)) then (zaR true) else (zaR (decide (1 < r6.2.1)))) else (zaR false)) else (zaR false)

def zeG (x_c : scan_Scanner) : Option Int :=
  some x_c.f_at

def zbj (r2 : Int) (s14 : Str) (i15 : Int) : Option (Str × scan_Scanner) :=
  (zeK s14 r2 i15).bind fun s18 =>
  some ((s18, (⟨s14, i15⟩ : scan_Scanner)))

def zaF (rec1 : Str → Int → Option (Str × scan_Scanner)) (r2 : Int) (s4 : Str) (i5 : Int) (t10 : Bool) : Option (Str × scan_Scanner) :=
  if t10 then (zbj r2 s4 i5) else ((zE i5 1).bind fun i13 =>
  rec1 s4 i13)

def zN (x_is : UInt8 → Option Bool) (r2 : Int) : Nat → Str → Int → Option (Str × scan_Scanner)
  | 0, _, _ => none
  | n + 1, s4, i5 =>
  (zU (⟨s4, i5⟩ : scan_Scanner)).bind fun r6 =>
  if (!r6.2) then (zaF (zN x_is r2 n) r2 s4 i5 true) else ((x_is r6.1).bind fun r9 =>
  zaF (zN x_is r2 n) r2 s4 i5 (!r9))

def zai (x_c : scan_Scanner) (x_is : UInt8 → Option Bool) : Option (Str × scan_Scanner) :=
  (zeG x_c).bind fun r2 =>
  zN x_is r2 fuel x_c.f_s x_c.f_at

def ze9 (x_b : UInt8) (t3 : Bool) : Option UInt8 :=
  if t3 then (some (x_b + 32)) else (some x_b)

def zaE (x_b : UInt8) : Option UInt8 :=
  if (decide (65 ≤ x_b)) then (ze9 x_b (decide (x_b ≤ 90))) else (ze9 x_b false)

def zd5 (t5 : Bool) : Option Bool :=
  some t5

def zfX (x_b : UInt8) : Option Bool :=
  (zaE x_b).bind fun r2 =>
  if (decide (97 ≤ r2)) then ((zaE x_b).bind fun r4 =>
  zd5 (decide (r4 ≤ 122))) else (zd5 false)

def zgA (x_b : UInt8) (x_l : Str) : Option Bool :=
  (strings_IndexByte x_l x_b).bind fun r2 =>
  some (decide (0 ≤ r2))

def zcJ (t7 : Bool) : Option Bool :=
  some t7

def zbV (x_b : UInt8) : Option Bool :=
  (zfX x_b).bind fun r2 =>
  if r2 then (zcJ true) else ((zX x_b).bind fun r4 =>
  if r4 then (zcJ true) else ((zgA x_b [33, 35, 36, 37, 38, 39, 42, 43, 45, 46, 94, 95, 96, 124, 126]).bind fun r6 =>
  zcJ r6))

def zbm (x_c : scan_Scanner) : Option (Str × Bool × scan_Scanner) :=
  (zai x_c zbV).bind fun r2 =>
  some ((r2.1, !(r2.1 == []), r2.2))

def zbO (x_b : UInt8) : Option Bool :=
  some (!(x_b == 32))

def zaX (r3 : Int × Int × Bool × scan_Scanner) (t8 : Bool) : Option (Int × Bool × scan_Scanner) :=
  some (r3.2.1, t8, r3.2.2.2)

def zaY (x_p : startline_line) : Option (Int × Bool × scan_Scanner) :=
  (zaz x_p).bind fun r3 =>
  if r3.2.2.1 then (if (r3.1 == 1) then (zaX r3 (decide (r3.2.1 ≤ 1))) else (zaX r3 false)) else (zaX r3 false)

def zbQ (rec1 : Int → Option Bool) (x_is : UInt8 → Option Bool) (i3 : Int) (x7 : Str) : Nat → Int → Option Bool
  | 0, _ => none
  | n + 1, i12 =>
  if (decide (i12 < (x7.length : Int))) then ((sAt x7 i12).bind fun b17 =>
  (x_is b17).bind fun r18 =>
  if (!r18) then (some false) else ((zE i12 1).bind fun i23 =>
  (zbQ rec1 x_is i3 x7 n) i23)) else ((zE i3 1).bind fun i25 =>
  rec1 i25)

def zbR (x_is : UInt8 → Option Bool) (x_l : List Str) : Nat → Int → Option Bool
  | 0, _ => none
  | n + 1, i3 =>
  if (decide (i3 < (x_l.length : Int))) then ((lAt x_l i3).bind fun x7 =>
  zbQ (zbR x_is x_l n) x_is i3 x7 fuel 0) else (some true)

def zcm (x_is : UInt8 → Option Bool) (x_l : List Str) : Option Bool :=
  zbR x_is x_l fuel 0

def zeq (x_b : UInt8) : Option Int :=
  (zX x_b).bind fun r2 =>
  if r2 then (some (((x_b - 48).toNat : Int))) else ((zaE x_b).bind fun r7 =>
  (zE (((r7 - 97).toNat : Int)) 10).bind fun i8 =>
  some i8)

def zcn (rec2 : Int → Int → Option (Int × Int)) (x_base : Int) (i11 : Int) (i12 : Int) (r18 : Int) (t23 : Bool) : Option (Int × Int) :=
  if t23 then (some (0, 7)) else ((zou i11 x_base).bind fun i27 =>
  (zE i27 r18).bind fun i28 =>
  (zE i12 1).bind fun i30 =>
  rec2 i28 i30)

def zax (x_s : Str) (x_base : Int) (x_most : Int) : Nat → Int → Int → Option (Int × Int)
  | 0, _, _ => none
  | n + 1, i11, i12 =>
  if (decide (i12 < (x_s.length : Int))) then ((sAt x_s i12).bind fun b17 =>
  (zeq b17).bind fun r18 =>
  if (decide (x_most < r18)) then (zcn (zax x_s x_base x_most n) x_base i11 i12 r18 true) else ((zeh x_most r18).bind fun i21 =>
  (zov i21 x_base).bind fun i22 =>
  zcn (zax x_s x_base x_most n) x_base i11 i12 r18 (decide (i22 < i11)))) else (some (i11, 0))

def zco (x_s : Str) (x_base : Int) (x_most : Int) (t5 : Bool) : Option (Int × Int) :=
  if t5 then (some (0, 2)) else (zax x_s x_base x_most fuel 0 0)

def zfa (x_s : Str) (x_base : Int) (x_most : Int) (x_is : UInt8 → Option Bool) : Option (Int × Int) :=
  if (x_s == []) then (zco x_s x_base x_most true) else ((zcm x_is ([x_s] : List Str)).bind fun r4 =>
  zco x_s x_base x_most (!r4))

def zbJ (x_s : Str) (x_most : Int) : Option (Int × Int) :=
  (zfa x_s 10 x_most zX).bind fun r2 =>
  some (r2.1, r2.2)

def zgv (x_n : Int) (x_base : Int) : Option Str :=
  if (decide (x_n < 0)) then (some []) else ((zds x_n x_base).bind fun r6 =>
  some r6)

def zcX (x_n : Int) : Option Str :=
  (zgv x_n 10).bind fun r2 =>
  some r2

def zbH (t6 : Bool) : Option Bool :=
  some t6

def zb6 (x_s : Str) (x_most : Int) : Option Bool :=
  (zbJ x_s x_most).bind fun r2 =>
  if (r2.2 == 0) then ((zcX r2.1).bind fun r5 =>
  zbH (r5 == x_s)) else (zbH false)

def zdf (s : Str) : Option Bool := if s.length < 1000000000 then ((zi 46 s).mapM (fun x => zb6 x 255)).bind fun bs => some (bs.all id && decide ((bs.length : Int) = 4)) else none

def zdB (t7 : Bool) : Option Bool :=
  some t7

def zbW (x_b : UInt8) : Option Bool :=
  (zX x_b).bind fun r2 =>
  if r2 then (zdB true) else ((zaE x_b).bind fun r4 =>
  if (decide (97 ≤ r4)) then ((zaE x_b).bind fun r6 =>
  zdB (decide (r6 ≤ 102))) else (zdB false))

def zbn (rec1 : Int → Int → Option Int) (i13 : Int) (i36 : Int) : Option Int :=
  (zE i13 1).bind fun i37 =>
  rec1 i36 i37

def zaS (rec1 : Int → Int → Option Int) (i12 : Int) (i13 : Int) (t32 : Bool) : Option Int :=
  if t32 then ((zE i12 1).bind fun i34 =>
  zbn rec1 i13 i34) else (some (-1))

def zaT (rec1 : Int → Int → Option Int) (i12 : Int) (i13 : Int) (x17 : Str) (t25 : Bool) : Option Int :=
  if t25 then ((zE i12 2).bind fun i27 =>
  zbn rec1 i13 i27) else (if (decide (1 ≤ (x17.length : Int))) then (if (decide ((x17.length : Int) ≤ 4)) then ((zcm zbW ([x17] : List Str)).bind fun r31 =>
  zaS rec1 i12 i13 r31) else (zaS rec1 i12 i13 false)) else (zaS rec1 i12 i13 false))

def zH (x_last : Bool) (r6 : List Str) : Nat → Int → Int → Option Int
  | 0, _, _ => none
  | n + 1, i12, i13 =>
  if (decide (i13 < (r6.length : Int))) then ((lAt r6 i13).bind fun x17 =>
  if x_last then ((zeh (r6.length : Int) 1).bind fun i22 =>
  if (i13 == i22) then ((zdf x17).bind fun r24 =>
  zaT (zH x_last r6 n) i12 i13 x17 r24) else (zaT (zH x_last r6 n) i12 i13 x17 false)) else (zaT (zH x_last r6 n) i12 i13 x17 false)) else (some i12)

def zbK (x_s : Str) (x_last : Bool) : Option Int :=
  if (x_s == []) then (some 0) else ((strings_Split x_s [58]).bind fun r6 =>
  zH x_last r6 fuel 0 0)

def zbg (t15 : Bool) : Option Bool :=
  some t15

def zd6 (x_s : Str) : Option Bool :=
  (strings_Cut x_s [58, 58]).bind fun r2 =>
  if (!r2.2.2) then ((zbK x_s true).bind fun r6 =>
  some (r6 == 8)) else ((zbK r2.1 false).bind fun r9 =>
  (zbK r2.2.1 true).bind fun r10 =>
  if (decide (0 ≤ r9)) then (if (decide (0 ≤ r10)) then ((zE r9 r10).bind fun i14 =>
  zbg (decide (i14 ≤ 7))) else (zbg false)) else (zbg false))

def zaa (t8 : Bool) : Option Bool :=
  some t8

def zd7 (x_s : Str) : Option Bool :=
  if (decide (3 ≤ (x_s.length : Int))) then ((sAt x_s 0).bind fun b3 =>
  if (b3 == 37) then ((zeK x_s 1 3).bind fun s5 =>
  (zcm zbW ([s5] : List Str)).bind fun r7 =>
  zaa r7) else (zaa false)) else (zaa false)

def zbk (t7 : Bool) : Option Bool :=
  some t7

def zbo (x_b : UInt8) : Option Bool :=
  (zfX x_b).bind fun r2 =>
  if r2 then (zbk true) else ((zX x_b).bind fun r4 =>
  if r4 then (zbk true) else ((zgA x_b [45, 46, 95, 126]).bind fun r6 =>
  zbk r6))

def zeU (x_b : UInt8) : Option Bool :=
  (zgA x_b [33, 36, 38, 39, 40, 41, 42, 43, 44, 59, 61]).bind fun r2 =>
  some r2

def zcK (rec1 : Str → Option Bool) (s6 : Str) (t19 : Bool) : Option Bool :=
  if t19 then ((zbq s6 1).bind fun s21 =>
  rec1 s21) else (some false)

def zao : Nat → Str → Option Bool
  | 0, _ => none
  | n + 1, s6 =>
  if (!(s6 == [])) then ((zd7 s6).bind fun r10 =>
  if r10 then ((zbq s6 3).bind fun s13 =>
  (zao n) s13) else ((sAt s6 0).bind fun b14 =>
  (zbo b14).bind fun r15 =>
  if r15 then (zcK (zao n) s6 true) else ((sAt s6 0).bind fun b17 =>
  (zeU b17).bind fun r18 =>
  zcK (zao n) s6 r18))) else (some true)

def zer (x_s : Str) : Option Bool :=
  if (x_s == []) then (some false) else (zao fuel x_s)

def zb7 (i24 : Int) (s25 : Str) : Option (api_Host × Bool) :=
  some (((⟨i24, s25, (-1)⟩ : api_Host), !(i24 == 0)))

def zby (x_s : Str) (t14 : Bool) : Option (api_Host × Bool) :=
  if t14 then ((zeh (x_s.length : Int) 1).bind fun i16 =>
  (zeK x_s 1 i16).bind fun s17 =>
  zb7 3 s17) else ((zdf x_s).bind fun r18 =>
  if r18 then (zb7 2 x_s) else ((zer x_s).bind fun r21 =>
  if r21 then (zb7 1 x_s) else (zb7 0 x_s)))

def zeV (x_s : Str) : Option (api_Host × Bool) :=
  if (decide (2 < (x_s.length : Int))) then ((sAt x_s 0).bind fun b6 =>
  if (b6 == 91) then ((zeh (x_s.length : Int) 1).bind fun i8 =>
  (sAt x_s i8).bind fun b9 =>
  if (b9 == 93) then ((zeh (x_s.length : Int) 1).bind fun i11 =>
  (zeK x_s 1 i11).bind fun s12 =>
  (zd6 s12).bind fun r13 =>
  zby x_s r13) else (zby x_s false)) else (zby x_s false)) else (zby x_s false)

def zcu (x_s : Str) (r10 : Int) (r17 : api_Host × Bool) (t24 : Bool) : Option (api_Host × Int) :=
  if t24 then (some (((⟨0, [], 0⟩ : api_Host), 27))) else ((zE r10 1).bind fun i28 =>
  (zbq x_s i28).bind fun s29 =>
  (zbJ s29 65535).bind fun r30 =>
  some (((⟨r17.1.Kind, r17.1.Name, r30.1⟩ : api_Host), 0)))

def zb8 (x_s : Str) : Option (api_Host × Int) :=
  (zeV x_s).bind fun r3 =>
  if r3.2 then (some (r3.1, 0)) else ((zaq x_s 58).bind fun r10 =>
  if (decide (r10 < 0)) then (some (((⟨0, [], 0⟩ : api_Host), 27))) else ((sTo x_s r10).bind fun s16 =>
  (zeV s16).bind fun r17 =>
  if (!r17.2) then (zcu x_s r10 r17 true) else ((zE r10 1).bind fun i21 =>
  (zbq x_s i21).bind fun s22 =>
  (zb6 s22 65535).bind fun r23 =>
  zcu x_s r10 r17 (!r23))))

def zeM (s : Str) : Option Str := if s.length < 4294967281 then s.mapM zaE else none

def zc6 (t7 : Bool) : Option Bool :=
  some t7

def zfb (x_b : UInt8) : Option Bool :=
  (zbo x_b).bind fun r2 =>
  if r2 then (zc6 true) else ((zeU x_b).bind fun r4 =>
  if r4 then (zc6 true) else ((zgA x_b [58, 64]).bind fun r6 =>
  zc6 r6))

def zeW (rec1 : Int → Option Bool) (i27 : Int) : Option Bool :=
  (zE i27 1).bind fun i28 =>
  rec1 i28

def zcS (rec1 : Int → Option Bool) (i3 : Int) (t23 : Bool) : Option Bool :=
  if t23 then ((zE i3 2).bind fun i25 =>
  zeW rec1 i25) else (some false)

def zf8 (rec1 : Int → Option Bool) (x_s : Str) (i3 : Int) (t12 : Bool) : Option Bool :=
  if t12 then (zeW rec1 i3) else ((sAt x_s i3).bind fun b14 =>
  if (b14 == 37) then ((zE i3 2).bind fun i16 =>
  if (decide (i16 < (x_s.length : Int))) then ((zE i3 1).bind fun i18 =>
  (zE i3 3).bind fun i19 =>
  (zeK x_s i18 i19).bind fun s20 =>
  (zcm zbW ([s20] : List Str)).bind fun r22 =>
  zcS rec1 i3 r22) else (zcS rec1 i3 false)) else (zcS rec1 i3 false))

def zaZ (x_s : Str) (x_more : Str) : Nat → Int → Option Bool
  | 0, _ => none
  | n + 1, i3 =>
  if (decide (i3 < (x_s.length : Int))) then ((sAt x_s i3).bind fun b7 =>
  (zfb b7).bind fun r8 =>
  if r8 then (zf8 (zaZ x_s x_more n) x_s i3 true) else ((sAt x_s i3).bind fun b10 =>
  (strings_IndexByte x_more b10).bind fun r11 =>
  zf8 (zaZ x_s x_more n) x_s i3 (decide (0 ≤ r11)))) else (some true)

def zhH (x_s : Str) (x_more : Str) : Option Bool :=
  zaZ x_s x_more fuel 0

def zes (t5 : Bool) : Option Bool :=
  some t5

def zgQ (x_s : Str) : Option Bool :=
  (strings_HasPrefix x_s [47]).bind fun r2 =>
  if r2 then ((zhH x_s [47]).bind fun r4 =>
  zes r4) else (zes false)

def zf9 (x_s : Str) : Option Bool :=
  (zhH x_s [47, 63]).bind fun r2 =>
  some r2

def zfc (r2 : Str × Str × Bool) (t7 : Bool) : Option (Str × Str × Bool × Int) :=
  if t7 then (some ([], [], false, 2)) else (some (r2.1, r2.2.1, r2.2.2, 0))

def zhI (x_s : Str) : Option (Str × Str × Bool × Int) :=
  (strings_Cut x_s [63]).bind fun r2 =>
  (zgQ r2.1).bind fun r4 =>
  if (!r4) then (zfc r2 true) else ((zf9 r2.2.1).bind fun r6 =>
  zfc r2 (!r6))

def zdC (x_t : api_Target) (r15 : Str × Str × Bool × Int) (s19 : Str) : Option (api_Target × Bool) :=
  some (((⟨x_t.Kind, x_t.Scheme, x_t.Host, s19, r15.2.1, r15.2.2.1⟩ : api_Target), r15.2.2.2 == 0))

def zdD (x_t : api_Target) (b9 : UInt8) (s14 : Str) : Option (api_Target × Bool) :=
  (zhI s14).bind fun r15 =>
  if (b9 == 63) then (zdC x_t r15 []) else (zdC x_t r15 r15.1)

def zeX (x_t : api_Target) (x_s : Str) : Option (api_Target × Bool) :=
  if (x_s == []) then (some (x_t, true)) else ((sAt x_s 0).bind fun b9 =>
  if (b9 == 63) then ((zht [47] x_s).bind fun s13 =>
  zdD x_t b9 s13) else (zdD x_t b9 x_s))

def zbp (r3 : Str × Str × Bool) (r5 : Str) (i18 : Int) : Option (api_Target × Bool) :=
  (sTo r3.2.1 i18).bind fun s19 =>
  (zb8 s19).bind fun r20 =>
  if (!(r20.2 == 0)) then (some (((⟨2, r5, (⟨0, [], 0⟩ : api_Host), [], [], false⟩ : api_Target), false))) else ((zbq r3.2.1 i18).bind fun s28 =>
  (zeX (⟨2, r5, r20.1, [], [], false⟩ : api_Target) s28).bind fun r29 =>
  some (r29.1, r29.2))

def zaj (r3 : Str × Str × Bool) (r5 : Str) (t10 : Bool) : Option (api_Target × Bool) :=
  if t10 then (some (((⟨2, r5, (⟨0, [], 0⟩ : api_Host), [], [], false⟩ : api_Target), false))) else ((strings_IndexAny r3.2.1 [47, 63]).bind fun r14 =>
  if (decide (r14 < 0)) then (zbp r3 r5 (r3.2.1.length : Int)) else (zbp r3 r5 r14))

def zc7 (x_s : Str) : Option (api_Target × Bool) :=
  (strings_Cut x_s [58, 47, 47]).bind fun r3 =>
  (zeM r3.1).bind fun r5 =>
  if (!r3.2.2) then (zaj r3 r5 true) else (if (!(r5 == [104, 116, 116, 112])) then (zaj r3 r5 (!(r5 == [104, 116, 116, 112, 115]))) else (zaj r3 r5 false))

def zhJ (x_method : Str) (x_s : Str) : Option (api_Target × Bool) :=
  if (x_s == [42]) then (some (((⟨4, [], (⟨0, [], 0⟩ : api_Host), [], [], false⟩ : api_Target), x_method == [79, 80, 84, 73, 79, 78, 83]))) else ((strings_HasPrefix x_s [47]).bind fun r7 =>
  if (!r7) then ((zc7 x_s).bind fun r10 =>
  some (r10.1, r10.2)) else ((zeX ((⟨1, [], (⟨0, [], 0⟩ : api_Host), [], [], false⟩ : api_Target)) x_s).bind fun r13 =>
  some (r13.1, r13.2)))

def zc8 (r5 : api_Host × Int) (t9 : Bool) : Option (api_Target × Int) :=
  if t9 then (some (((⟨0, [], (⟨0, [], 0⟩ : api_Host), [], [], false⟩ : api_Target), 20))) else (some (((⟨3, [], r5.1, [], [], false⟩ : api_Target), 0)))

def zfd (x_method : Str) (x_s : Str) : Option (api_Target × Int) :=
  if (x_method == [67, 79, 78, 78, 69, 67, 84]) then ((zb8 x_s).bind fun r5 =>
  if (!(r5.2 == 0)) then (zc8 r5 true) else (zc8 r5 (decide (r5.1.Port < 0)))) else ((zhJ x_method x_s).bind fun r15 =>
  if (!r15.2) then (some (((⟨0, [], (⟨0, [], 0⟩ : api_Host), [], [], false⟩ : api_Target), 20))) else (some (r15.1, 0)))

def zV (r17 : Str × Bool × scan_Scanner) (r23 : Str × scan_Scanner) (r29 : Int × Bool × scan_Scanner) (t41 : Bool) : Option (api_Head × Int) :=
  if t41 then (some (((⟨0, [], [], 0, [], 0, []⟩ : api_Head), 20))) else (some (((⟨1, r17.1, r23.1, 0, [], r29.1, []⟩ : api_Head), 0)))

def zcv (x_a0 : Str) : Option (api_Head × Int) :=
  (zaq x_a0 32).bind fun r5 =>
  (zE r5 1).bind fun i6 =>
  (zbq x_a0 i6).bind fun s7 =>
  (zcl s7).bind fun r8 =>
  if r8 then (some (((⟨0, [], [], 0, [], 0, []⟩ : api_Head), 26))) else ((zgP x_a0).bind fun r13 =>
  (zbm r13).bind fun r17 =>
  (zC r17.2.2 32).bind fun r20 =>
  (zai r20.2 zbO).bind fun r23 =>
  (zC r23.2 32).bind fun r26 =>
  (zaY (⟨r26.2⟩ : startline_line)).bind fun r29 =>
  (zfd r17.1 r23.1).bind fun r32 =>
  if (!r17.2.1) then (zV r17 r23 r29 true) else (if (!r20.1) then (zV r17 r23 r29 true) else (if (!r26.1) then (zV r17 r23 r29 true) else (if (!r29.2.1) then (zV r17 r23 r29 true) else ((zaU r29.2.2).bind fun r39 =>
  if (!r39) then (zV r17 r23 r29 true) else (zV r17 r23 r29 (!(r32.2 == 0))))))))

def zcY (t3 : Bool) : Option Bool :=
  some t3

def zgo (x_b : UInt8) : Option Bool :=
  if (decide (32 < x_b)) then (zcY (decide (x_b < 127))) else (zcY false)

def zd8 (t3 : Bool) : Option Bool :=
  some t3

def zcE (x_b : UInt8) : Option Bool :=
  if (x_b == 32) then (zd8 true) else (zd8 (x_b == 9))

def zcL (t6 : Bool) : Option Bool :=
  some t6

def zaH (x_b : UInt8) : Option Bool :=
  (zgo x_b).bind fun r2 =>
  if r2 then (zcL true) else ((zcE x_b).bind fun r4 =>
  if r4 then (zcL true) else (zcL (decide (127 < x_b))))

def zT (r14 : Int × Bool × scan_Scanner) (r23 : Bool × scan_Scanner) (r26 : Int × Int) (t37 : Bool) : Option (api_Head × Int) :=
  if t37 then (some (((⟨0, [], [], 0, [], 0, []⟩ : api_Head), 20))) else ((zQ r23.2).bind fun r41 =>
  some (((⟨2, [], [], r26.1, r41, r14.1, []⟩ : api_Head), 0)))

def zcM (x_a0 : Str) : Option (api_Head × Int) :=
  (strings_Cut x_a0 [32]).bind fun r3 =>
  (zcl r3.1).bind fun r5 =>
  if r5 then (some (((⟨0, [], [], 0, [], 0, []⟩ : api_Head), 26))) else ((zgP x_a0).bind fun r10 =>
  (zaY (⟨r10⟩ : startline_line)).bind fun r14 =>
  (zC r14.2.2 32).bind fun r17 =>
  (zai r17.2 zX).bind fun r20 =>
  (zC r20.2 32).bind fun r23 =>
  (zbJ r20.1 599).bind fun r26 =>
  if (!r14.2.1) then (zT r14 r23 r26 true) else (if (!r17.1) then (zT r14 r23 r26 true) else (if (!r23.1) then (zT r14 r23 r26 true) else (if (!((r20.1.length : Int) == 3)) then (zT r14 r23 r26 true) else (if (!(r26.2 == 0)) then (zT r14 r23 r26 true) else (if (decide (r26.1 < 100)) then (zT r14 r23 r26 true) else ((zQ r23.2).bind fun r34 =>
  (zcm zaH ([r34] : List Str)).bind fun r36 =>
  zT r14 r23 r26 (!r36))))))))

def zb9 (x_kind : Int) (x_s : Str) (t4 : Bool) : Option (api_Head × Int) :=
  if t4 then (some (((⟨0, [], [], 0, [], 0, []⟩ : api_Head), 1))) else ((strings_ContainsAny x_s [13, 10]).bind fun r7 =>
  if r7 then (some (((⟨0, [], [], 0, [], 0, []⟩ : api_Head), 24))) else (if (x_kind == 1) then ((zcv x_s).bind fun r13 =>
  some (r13.1, r13.2)) else ((zcM x_s).bind fun r18 =>
  some (r18.1, r18.2))))

def zbL (x_kind : Int) (x_s : Str) : Option (api_Head × Int) :=
  if (!(x_kind == 1)) then (zb9 x_kind x_s (!(x_kind == 2))) else (zb9 x_kind x_s false)

def zap (x_c : scan_Scanner) : Option (Str × scan_Scanner) :=
  (zai x_c zcE).bind fun r2 =>
  some (r2.1, r2.2)

def zca (r17 : Str × Bool × scan_Scanner) (r20 : Str × scan_Scanner) (t26 : Bool) (s27 : Str) (i28 : Int) : Option (api_Field × Int) :=
  if t26 then (some (((⟨[], []⟩ : api_Field), 21))) else (if (!(r20.1 == [])) then (some (((⟨[], []⟩ : api_Field), 22))) else ((zQ (⟨s27, i28⟩ : scan_Scanner)).bind fun r34 =>
  (zcm zaH ([r34] : List Str)).bind fun r36 =>
  if (!r36) then (some (((⟨[], []⟩ : api_Field), 25))) else ((zQ (⟨s27, i28⟩ : scan_Scanner)).bind fun r41 =>
  (zd3 r41 [32, 9]).bind fun r42 =>
  some (((⟨r17.1, r42⟩ : api_Field), 0)))))

def zcp (x_s : Str) : Option (api_Field × Int) :=
  (strings_ContainsAny x_s [13, 10]).bind fun r3 =>
  if r3 then (some (((⟨[], []⟩ : api_Field), 24))) else ((zgP x_s).bind fun r8 =>
  (zap r8).bind fun r11 =>
  if (!(r11.1 == [])) then (some (((⟨[], []⟩ : api_Field), 23))) else ((zbm r11.2).bind fun r17 =>
  (zap r17.2.2).bind fun r20 =>
  if (!r17.2.1) then (zca r17 r20 true r20.2.f_s r20.2.f_at) else ((zC r20.2 58).bind fun r24 =>
  zca r17 r20 (!r24.1) r24.2.f_s r24.2.f_at)))

def zI (x_s : List api_Field) : Option (List api_Field) :=
  if zbr 0 x_s.length 32 then (some x_s) else none

def zlQ (x_l : List api_Field) : Option bag_Bag :=
  (zI x_l).bind fun r2 =>
  some (⟨r2⟩ : bag_Bag)

def zgw (x_b : bag_Bag) : Option (List api_Field) :=
  (zI x_b.f_l).bind fun r4 =>
  some r4

def zgR (x_a : Str) (x_b : Str) : Option Bool :=
  (zeM x_a).bind fun r2 =>
  (zeM x_b).bind fun r3 =>
  some (r2 == r3)

def zcw (rec1 : (List Str) → Int → Option (List Str)) (i10 : Int) (l28 : List Str) : Option (List Str) :=
  (zE i10 1).bind fun i29 =>
  rec1 l28 i29

def zar (x_name : Str) (r3 : List api_Field) : Nat → (List Str) → Int → Option (List Str)
  | 0, _, _ => none
  | n + 1, l9, i10 =>
  if (decide (i10 < (r3.length : Int))) then ((lAt r3 i10).bind fun x14 =>
  (zgR x14.Name x_name).bind fun r19 =>
  if r19 then (if zbr l9.length 1 16 then (zcw (zar x_name r3 n) i10 (l9 ++ ([x14.Value] : List Str))) else none) else (zcw (zar x_name r3 n) i10 l9)) else (some l9)

def zdE (x_b : bag_Bag) (x_name : Str) : Option (List Str) :=
  (zgw x_b).bind fun r3 =>
  zar x_name r3 fuel [] 0

def zet (rec2 : Int → Option Bool) (i21 : Int) (t33 : Bool) : Option Bool :=
  if t33 then (some false) else ((zE i21 1).bind fun i37 =>
  rec2 i37)

def zbs (r11 : List Str) : Nat → Int → Option Bool
  | 0, _ => none
  | n + 1, i21 =>
  if (decide (i21 < (r11.length : Int))) then ((lAt r11 i21).bind fun x25 =>
  (zb8 x25).bind fun r29 =>
  if (!(r29.2 == 0)) then (zet (zbs r11 n) i21 (!(x25 == []))) else (zet (zbs r11 n) i21 false)) else (some true)

def zcF (r11 : List Str) (t16 : Bool) : Option Bool :=
  if t16 then (some false) else (zbs r11 fuel 0)

def zgS (x_h : api_Head) : Option Bool :=
  if (!(x_h.Kind == 1)) then (some true) else ((zlQ x_h.Fields).bind fun r7 =>
  (zdE r7 [72, 111, 115, 116]).bind fun r11 =>
  if (decide (1 < (r11.length : Int))) then (zcF r11 true) else (zcF r11 (decide ((r11.length : Int) < x_h.Minor))))

def zfD (x_h : api_Head) : Option Int :=
  if (decide (100 < (x_h.Fields.length : Int))) then (some 3) else ((zgS x_h).bind fun r6 =>
  if (!r6) then (some 27) else (some 0))

def zeu (i75 : Int) (s76 : Str) (s77 : Str) (i78 : Int) (s79 : Str) (i80 : Int) (l83 : List api_Field) : Option (api_Head × Int) :=
  (zfD (⟨i75, s76, s77, i78, s79, i80, l83⟩ : api_Head)).bind fun r84 =>
  if (!(r84 == 0)) then (some (((⟨0, [], [], 0, [], 0, []⟩ : api_Head), r84))) else (some (((⟨i75, s76, s77, i78, s79, i80, l83⟩ : api_Head), 0)))

def zcG (l41 : List Str) : Nat → Int → Str → Str → Int → Str → Int → (List api_Field) → Int → Option (api_Head × Int)
  | 0, _, _, _, _, _, _, _, _ => none
  | n + 1, i45, s46, s47, i48, s49, i50, l53, i54 =>
  if (decide (i54 < (l41.length : Int))) then ((lAt l41 i54).bind fun x58 =>
  (zcp x58).bind fun r62 =>
  if (!(r62.2 == 0)) then (some (((⟨0, [], [], 0, [], 0, []⟩ : api_Head), r62.2))) else (if zbr l53.length 1 32 then ((zE i54 1).bind fun i74 =>
  (zcG l41 n) i45 s46 s47 i48 s49 i50 (l53 ++ [r62.1]) i74) else none)) else (zeu i45 s46 s47 i48 s49 i50 l53)

def zdg (x_a0 : Int) (x_a1 : Str) (r12 : Int) (t19 : Bool) : Option (api_Head × Int) :=
  if t19 then (some (((⟨0, [], [], 0, [], 0, []⟩ : api_Head), 6))) else ((sTo x_a1 r12).bind fun s23 =>
  (strings_Split s23 [13, 10]).bind fun r24 =>
  (lAt r24 0).bind fun x28 =>
  (zbL x_a0 x28).bind fun r31 =>
  if (!(r31.2 == 0)) then (some (((⟨0, [], [], 0, [], 0, []⟩ : api_Head), r31.2))) else ((zpj r24 1).bind fun l41 =>
  zcG l41 fuel r31.1.Kind r31.1.Method r31.1.Target r31.1.Code r31.1.Reason r31.1.Minor r31.1.Fields 0))

def zfE (x_a0 : Int) (x_a1 : Str) (x_a2 : Int) : Option (api_Head × Int) :=
  (zbL x_a0 []).bind fun r3 =>
  if (r3.2 == 1) then (some (((⟨0, [], [], 0, [], 0, []⟩ : api_Head), r3.2))) else ((strings_Index x_a1 [13, 10, 13, 10]).bind fun r12 =>
  if (decide (x_a2 < (x_a1.length : Int))) then (some (((⟨0, [], [], 0, [], 0, []⟩ : api_Head), 3))) else (if (decide (r12 < 0)) then (zdg x_a0 x_a1 r12 true) else ((zE r12 4).bind fun i18 =>
  zdg x_a0 x_a1 r12 (!(i18 == (x_a1.length : Int))))))

def zbt (t9 : Bool) : Option Bool :=
  some t9

def zid (x_a : api_Head) (x_b : api_Head) : Option Bool :=
  if (x_a.Kind == x_b.Kind) then (if (x_a.Method == x_b.Method) then (if (x_a.Target == x_b.Target) then (if (x_a.Minor == x_b.Minor) then (if (x_a.Code == x_b.Code) then (zbt (x_a.Reason == x_b.Reason)) else (zbt false)) else (zbt false)) else (zbt false)) else (zbt false)) else (zbt false)

def zbX (x_a : List api_Field) (x_b : List api_Field) : Nat → Int → Option Bool
  | 0, _ => none
  | n + 1, i7 =>
  if (decide (i7 < (x_a.length : Int))) then ((lAt x_a i7).bind fun x11 =>
  (lAt x_b i7).bind fun x14 =>
  if (!(x11 == x14)) then (some false) else ((zE i7 1).bind fun i21 =>
  (zbX x_a x_b n) i21)) else (some true)

def zgT (x_a : List api_Field) (x_b : List api_Field) : Option Bool :=
  if (!((x_a.length : Int) == (x_b.length : Int))) then (some false) else (zbX x_a x_b fuel 0)

def zev (t7 : Bool) : Option Bool :=
  some t7

def zgU (x_a : api_Head) (x_b : api_Head) : Option Bool :=
  (zid x_a x_b).bind fun r4 =>
  if r4 then ((zgT x_a.Fields x_b.Fields).bind fun r6 =>
  zev r6) else (zev false)

def zdF (rec1 : (List Str) → Int → Int → Option (List Str)) (i9 : Int) (l25 : List Str) (i26 : Int) : Option (List Str) :=
  (zE i9 1).bind fun i27 =>
  rec1 l25 i26 i27

def za9 (x_s : Str) (x_c : UInt8) : Nat → (List Str) → Int → Int → Option (List Str)
  | 0, _, _, _ => none
  | n + 1, l7, i8, i9 =>
  if (decide (i9 < (x_s.length : Int))) then ((sAt x_s i9).bind fun b13 =>
  if (b13 == x_c) then ((zeK x_s i8 i9).bind fun s16 =>
  if zbr l7.length 1 16 then ((zE i9 1).bind fun i22 =>
  zdF (za9 x_s x_c n) i9 (l7 ++ ([s16] : List Str)) i22) else none) else (zdF (za9 x_s x_c n) i9 l7 i8)) else ((zbq x_s i8).bind fun s29 =>
  if zbr l7.length 1 16 then (some (l7 ++ ([s29] : List Str))) else none)

def zdG (x_s : Str) (x_c : UInt8) : Option (List Str) :=
  za9 x_s x_c fuel [] 0 0

def zcT (x_b : UInt8) (x_l : Str) : Nat → Int → Option Bool
  | 0, _ => none
  | n + 1, i3 =>
  if (decide (i3 < (x_l.length : Int))) then ((sAt x_l i3).bind fun b7 =>
  if (b7 == x_b) then (some true) else ((zE i3 1).bind fun i12 =>
  (zcT x_b x_l n) i12)) else (some false)

def zew (x_b : UInt8) (x_l : Str) : Option Bool :=
  zcT x_b x_l fuel 0

def zcU (x_b : UInt8) : Option Bool :=
  (zew x_b [48, 49, 50, 51, 52, 53, 54, 55, 56, 57]).bind fun r2 =>
  some r2

def za0 (x_s : Str) (t12 : Bool) : Option Int :=
  if t12 then (some (-1)) else ((zbq x_s 5).bind fun s16 =>
  if (s16 == [49, 46, 48]) then (some 0) else ((zbq x_s 5).bind fun s21 =>
  if (s21 == [49, 46, 49]) then (some 1) else (some 2)))

def zbY (x_s : Str) : Option Int :=
  if (!((x_s.length : Int) == 8)) then (za0 x_s true) else ((sTo x_s 5).bind fun s3 =>
  if (!(s3 == [72, 84, 84, 80, 47])) then (za0 x_s true) else ((sAt x_s 5).bind fun b5 =>
  (zcU b5).bind fun r6 =>
  if (!r6) then (za0 x_s true) else ((sAt x_s 6).bind fun b8 =>
  if (!(b8 == 46)) then (za0 x_s true) else ((sAt x_s 7).bind fun b10 =>
  (zcU b10).bind fun r11 =>
  za0 x_s (!r11)))))

def zhK (x_b : UInt8) : Option Bool :=
  (zew x_b [97, 98, 99, 100, 101, 102, 103, 104, 105, 106, 107, 108, 109, 110, 111, 112, 113, 114, 115, 116, 117, 118, 119, 120, 121, 122, 65, 66, 67, 68, 69, 70, 71, 72, 73, 74, 75, 76, 77, 78, 79, 80, 81, 82, 83, 84, 85, 86, 87, 88, 89, 90, 48, 49, 50, 51, 52, 53, 54, 55, 56, 57, 33, 35, 36, 37, 38, 39, 42, 43, 45, 46, 94, 95, 96, 124, 126]).bind fun r2 =>
  some r2

def zbz (x_s : Str) : Nat → Int → Option Bool
  | 0, _ => none
  | n + 1, i3 =>
  if (decide (i3 < (x_s.length : Int))) then ((sAt x_s i3).bind fun b7 =>
  (zhK b7).bind fun r8 =>
  if (!r8) then (some false) else ((zE i3 1).bind fun i13 =>
  (zbz x_s n) i13)) else (some (decide (0 < (x_s.length : Int))))

def zdH (x_s : Str) : Option Bool :=
  zbz x_s fuel 0

def zdI (rec1 : Int → Option Int) (i5 : Int) (t12 : Bool) : Option Int :=
  if t12 then (some i5) else ((zE i5 1).bind fun i16 =>
  rec1 i16)

def zF (x_b : UInt8) (x_base : Int) : Nat → Int → Option Int
  | 0, _ => none
  | n + 1, i5 =>
  if (decide (i5 < x_base)) then ((sAt [48, 49, 50, 51, 52, 53, 54, 55, 56, 57, 97, 98, 99, 100, 101, 102] i5).bind fun b9 =>
  if (b9 == x_b) then (zdI (zF x_b x_base n) i5 true) else ((sAt [48, 49, 50, 51, 52, 53, 54, 55, 56, 57, 65, 66, 67, 68, 69, 70] i5).bind fun b11 =>
  zdI (zF x_b x_base n) i5 (b11 == x_b))) else (some (-1))

def zcx (x_b : UInt8) (x_base : Int) : Option Int :=
  zF x_b x_base fuel 0

def zbA : Nat → Int → Int → Option Str
  | 0, _, _ => none
  | n + 1, x_n, x_base =>
  if (decide (x_n < x_base)) then ((zE x_n 1).bind fun i5 =>
  (zeK [48, 49, 50, 51, 52, 53, 54, 55, 56, 57, 97, 98, 99, 100, 101, 102] x_n i5).bind fun s6 =>
  some s6) else ((zov x_n x_base).bind fun i9 =>
  ((zbA n) i9 x_base).bind fun r10 =>
  (zqe x_n x_base).bind fun i11 =>
  (zqe x_n x_base).bind fun i12 =>
  (zE i12 1).bind fun i13 =>
  (zeK [48, 49, 50, 51, 52, 53, 54, 55, 56, 57, 97, 98, 99, 100, 101, 102] i11 i13).bind fun s14 =>
  (zht r10 s14).bind fun s15 =>
  some s15)

def zcZ (x_n : Int) (x_base : Int) : Option Str := zbA fuel x_n x_base

def zdJ (rec1 : Str → Int → Option (Str × Bool)) (i5 : Int) (s21 : Str) : Option (Str × Bool) :=
  (zE i5 1).bind fun i22 =>
  rec1 s21 i22

def zdK (rec1 : Str → Int → Option (Str × Bool)) (x_base : Int) (s4 : Str) (i5 : Int) (r10 : Int) (t17 : Bool) : Option (Str × Bool) :=
  if t17 then ((zcZ r10 x_base).bind fun r19 =>
  (zht s4 r19).bind fun s20 =>
  zdJ rec1 i5 s20) else (zdJ rec1 i5 s4)

def zdL (x_s : Str) (s26 : Str) : Option (Str × Bool) :=
  some ((s26, !(x_s == [])))

def zaI (x_s : Str) (x_base : Int) : Nat → Str → Int → Option (Str × Bool)
  | 0, _, _ => none
  | n + 1, s4, i5 =>
  if (decide (i5 < (x_s.length : Int))) then ((sAt x_s i5).bind fun b9 =>
  (zcx b9 x_base).bind fun r10 =>
  if (decide (r10 < 0)) then (some ([], false)) else (if (!(s4 == [])) then (zdK (zaI x_s x_base n) x_base s4 i5 r10 true) else (zdK (zaI x_s x_base n) x_base s4 i5 r10 (decide (0 < r10))))) else (if (s4 == []) then (zdL x_s [48]) else (zdL x_s s4))

def zga (x_s : Str) (x_base : Int) : Option (Str × Bool) :=
  zaI x_s x_base fuel [] 0

def zbZ (t4 : Bool) : Option Bool :=
  some t4

def zgV (x_a : Str) (x_b : Str) : Option Bool :=
  if (decide ((x_a.length : Int) < (x_b.length : Int))) then (zbZ true) else (if ((x_a.length : Int) == (x_b.length : Int)) then (zbZ (zlj x_a x_b)) else (zbZ false))

def zb0 (x_base : Int) (r2 : Str × Bool) : Nat → Int → Int → Option (Int × Int)
  | 0, _, _ => none
  | n + 1, i17, i18 =>
  if (decide (i18 < (r2.1.length : Int))) then ((zou i17 x_base).bind fun i22 =>
  (sAt r2.1 i18).bind fun b23 =>
  (zcx b23 x_base).bind fun r24 =>
  (zE i22 r24).bind fun i25 =>
  (zE i18 1).bind fun i27 =>
  (zb0 x_base r2 n) i25 i27) else (some (i17, 0))

def zdh (x_base : Int) (r2 : Str × Bool) (t11 : Bool) : Option (Int × Int) :=
  if t11 then (some (0, 7)) else (zb0 x_base r2 fuel 0 0)

def zfF (x_s : Str) (x_base : Int) (x_most : Int) : Option (Int × Int) :=
  (zga x_s x_base).bind fun r2 =>
  if (!r2.2) then (some (0, 2)) else (if (decide (x_most < 0)) then (zdh x_base r2 true) else ((zcZ x_most x_base).bind fun r9 =>
  (zgV r9 r2.1).bind fun r10 =>
  zdh x_base r2 r10))

def zgW (x_n : Int) (x_base : Int) : Option Str :=
  if (decide (x_n < 0)) then (some []) else ((zcZ x_n x_base).bind fun r6 =>
  some r6)

def zcN (r6 : Int × Int) (t10 : Bool) : Option Int :=
  if t10 then (some (-1)) else (some r6.1)

def zeY (x_s : Str) (x_most : Int) : Option Int :=
  if (decide (5 < (x_s.length : Int))) then (some (-1)) else ((zfF x_s 10 x_most).bind fun r6 =>
  if (!(r6.2 == 0)) then (zcN r6 true) else ((zgW r6.1 10).bind fun r9 =>
  zcN r6 (!(r9 == x_s))))

def zb1 (r2 : List Str) : Nat → Int → Option Bool
  | 0, _ => none
  | n + 1, i7 =>
  if (decide (i7 < (r2.length : Int))) then ((lAt r2 i7).bind fun x11 =>
  (zeY x11 255).bind fun r14 =>
  if (decide (r14 < 0)) then (some false) else ((zE i7 1).bind fun i19 =>
  (zb1 r2 n) i19)) else (some ((r2.length : Int) == 4))

def zfG (x_s : Str) : Option Bool :=
  (zdG x_s 46).bind fun r2 =>
  zb1 r2 fuel 0

def zd9 (x_b : UInt8) : Option Bool :=
  (zew x_b [48, 49, 50, 51, 52, 53, 54, 55, 56, 57, 97, 98, 99, 100, 101, 102, 65, 66, 67, 68, 69, 70]).bind fun r2 =>
  some r2

def zcO (rec1 : Int → Int → Option Bool) (i9 : Int) (i55 : Int) : Option Bool :=
  (zE i9 1).bind fun i56 =>
  rec1 i55 i56

def zdM (rec1 : Int → Int → Option Bool) (i8 : Int) (i9 : Int) (t50 : Bool) : Option Bool :=
  if t50 then (some false) else ((zE i8 1).bind fun i54 =>
  zcO rec1 i9 i54)

def zbB (rec1 : Int → Int → Option Bool) (r2 : List Str) (i8 : Int) (i9 : Int) : Nat → Int → Option Bool
  | 0, _ => none
  | n + 1, i25 =>
  (lAt r2 i9).bind fun x26 =>
  if (decide (i25 < (x26.length : Int))) then ((lAt r2 i9).bind fun x32 =>
  (sAt x32 i25).bind fun b35 =>
  (zd9 b35).bind fun r36 =>
  if (!r36) then (some false) else ((zE i25 1).bind fun i41 =>
  (zbB rec1 r2 i8 i9 n) i41)) else ((lAt r2 i9).bind fun x43 =>
  if (decide ((x43.length : Int) < 1)) then (zdM rec1 i8 i9 true) else ((lAt r2 i9).bind fun x47 =>
  zdM rec1 i8 i9 (decide (4 < (x47.length : Int)))))

def zcP (rec1 : Int → Int → Option Bool) (r2 : List Str) (i8 : Int) (i9 : Int) (t19 : Bool) : Option Bool :=
  if t19 then ((zE i8 2).bind fun i21 =>
  zcO rec1 i9 i21) else (zbB rec1 r2 i8 i9 fuel 0)

def zac (r2 : List Str) : Nat → Int → Int → Option Bool
  | 0, _, _ => none
  | n + 1, i8, i9 =>
  if (decide (i9 < (r2.length : Int))) then ((zeh (r2.length : Int) 1).bind fun i13 =>
  if (i9 == i13) then ((lAt r2 i9).bind fun x15 =>
  (zfG x15).bind fun r18 =>
  zcP (zac r2 n) r2 i8 i9 r18) else (zcP (zac r2 n) r2 i8 i9 false)) else (some (i8 == 8))

def zeZ (x_s : Str) : Option Bool :=
  (zdG x_s 58).bind fun r2 =>
  zac r2 fuel 0 0

def zfe (rec4 : Str → Int → Option Bool) (i24 : Int) (s31 : Str) : Option Bool :=
  (zht s31 [48]).bind fun s32 =>
  (zE i24 1).bind fun i34 =>
  rec4 s32 i34

def zea (rec3 : Int → Option Bool) (i16 : Int) (s44 : Str) : Option Bool :=
  (zeZ s44).bind fun r45 =>
  if r45 then (some true) else ((zE i16 1).bind fun i50 =>
  rec3 i50)

def zbS (rec3 : Int → Option Bool) (x_s : Str) (i3 : Int) (i16 : Int) : Nat → Str → Int → Option Bool
  | 0, _, _ => none
  | n + 1, s23, i24 =>
  if (decide (i24 < i16)) then (if (!(s23 == [])) then ((zht s23 [58]).bind fun s30 =>
  zfe (zbS rec3 x_s i3 i16 n) i24 s30) else (zfe (zbS rec3 x_s i3 i16 n) i24 s23)) else ((zE i3 2).bind fun i36 =>
  (zbq x_s i36).bind fun s37 =>
  if (!(s37 == [])) then ((zht s23 [58]).bind fun s40 =>
  (zE i3 2).bind fun i41 =>
  (zbq x_s i41).bind fun s42 =>
  (zht s40 s42).bind fun s43 =>
  zea rec3 i16 s43) else (zea rec3 i16 s23))

def zaO (x_s : Str) (i3 : Int) : Nat → Int → Option Bool
  | 0, _ => none
  | n + 1, i16 =>
  if (decide (i16 ≤ 8)) then ((sTo x_s i3).bind fun s20 =>
  zbS (zaO x_s i3 n) x_s i3 i16 fuel s20 0) else (some false)

def zff (rec1 : Int → Option Bool) (x_s : Str) (i3 : Int) (t12 : Bool) : Option Bool :=
  if t12 then ((zE i3 1).bind fun i54 =>
  rec1 i54) else (zaO x_s i3 fuel 1)

def zbT (x_s : Str) : Nat → Int → Option Bool
  | 0, _ => none
  | n + 1, i3 =>
  (zE i3 1).bind fun i4 =>
  if (decide (i4 < (x_s.length : Int))) then ((sAt x_s i3).bind fun b8 =>
  if (!(b8 == 58)) then (zff (zbT x_s n) x_s i3 true) else ((zE i3 1).bind fun i10 =>
  (sAt x_s i10).bind fun b11 =>
  zff (zbT x_s n) x_s i3 (!(b11 == 58)))) else ((zeZ x_s).bind fun r56 =>
  some r56)

def zgB (x_s : Str) : Option Bool :=
  zbT x_s fuel 0

def zb2 (x_b : UInt8) : Option Bool :=
  (zew x_b [97, 98, 99, 100, 101, 102, 103, 104, 105, 106, 107, 108, 109, 110, 111, 112, 113, 114, 115, 116, 117, 118, 119, 120, 121, 122, 65, 66, 67, 68, 69, 70, 71, 72, 73, 74, 75, 76, 77, 78, 79, 80, 81, 82, 83, 84, 85, 86, 87, 88, 89, 90, 48, 49, 50, 51, 52, 53, 54, 55, 56, 57, 45, 46, 95, 126]).bind fun r2 =>
  some r2

def zgC (x_b : UInt8) : Option Bool :=
  (zew x_b [33, 36, 38, 39, 40, 41, 42, 43, 44, 59, 61]).bind fun r2 =>
  some r2

def zdi (rec1 : Int → Option Bool) (i34 : Int) : Option Bool :=
  (zE i34 1).bind fun i35 =>
  rec1 i35

def zbu (rec1 : Int → Option Bool) (i3 : Int) (t19 : Bool) : Option Bool :=
  if t19 then (some false) else ((zE i3 2).bind fun i23 =>
  zdi rec1 i23)

def zex (rec1 : Int → Option Bool) (i3 : Int) (t31 : Bool) : Option Bool :=
  if t31 then (some false) else (zdi rec1 i3)

def zY (x_s : Str) : Nat → Int → Option Bool
  | 0, _ => none
  | n + 1, i3 =>
  if (decide (i3 < (x_s.length : Int))) then ((sAt x_s i3).bind fun b7 =>
  if (b7 == 37) then ((zE i3 2).bind fun i10 =>
  if (decide ((x_s.length : Int) ≤ i10)) then (zbu (zY x_s n) i3 true) else ((zE i3 1).bind fun i12 =>
  (sAt x_s i12).bind fun b13 =>
  (zd9 b13).bind fun r14 =>
  if (!r14) then (zbu (zY x_s n) i3 true) else ((zE i3 2).bind fun i16 =>
  (sAt x_s i16).bind fun b17 =>
  (zd9 b17).bind fun r18 =>
  zbu (zY x_s n) i3 (!r18)))) else ((sAt x_s i3).bind fun b26 =>
  (zb2 b26).bind fun r27 =>
  if (!r27) then ((sAt x_s i3).bind fun b29 =>
  (zgC b29).bind fun r30 =>
  zex (zY x_s n) i3 (!r30)) else (zex (zY x_s n) i3 false))) else (some (decide (0 < (x_s.length : Int))))

def zgX (x_s : Str) : Option Bool :=
  zY x_s fuel 0

def zcV (x_s : Str) (t12 : Bool) : Option api_Host :=
  if t12 then ((zeh (x_s.length : Int) 1).bind fun i14 =>
  (zeK x_s 1 i14).bind fun s15 =>
  some ((⟨3, s15, (-1)⟩ : api_Host))) else ((zfG x_s).bind fun r18 =>
  if r18 then (some ((⟨2, x_s, (-1)⟩ : api_Host))) else ((zgX x_s).bind fun r23 =>
  if r23 then (some ((⟨1, x_s, (-1)⟩ : api_Host))) else (some (⟨0, [], 0⟩ : api_Host))))

def zhL (x_s : Str) : Option api_Host :=
  if (decide (2 < (x_s.length : Int))) then ((sAt x_s 0).bind fun b4 =>
  if (b4 == 91) then ((zeh (x_s.length : Int) 1).bind fun i6 =>
  (sAt x_s i6).bind fun b7 =>
  if (b7 == 93) then ((zeh (x_s.length : Int) 1).bind fun i9 =>
  (zeK x_s 1 i9).bind fun s10 =>
  (zgB s10).bind fun r11 =>
  zcV x_s r11) else (zcV x_s false)) else (zcV x_s false)) else (zcV x_s false)

def zdN (r21 : api_Host) (r25 : Int) (t28 : Bool) : Option (api_Host × Int) :=
  if t28 then (some (((⟨0, [], 0⟩ : api_Host), 27))) else (some (((⟨r21.Kind, r21.Name, r25⟩ : api_Host), 0)))

def zcb (x_s : Str) : Nat → Int → Option (api_Host × Int)
  | 0, _ => none
  | n + 1, i12 =>
  if (decide (0 ≤ i12)) then ((sAt x_s i12).bind fun b16 =>
  if (!(b16 == 58)) then ((zeh i12 1).bind fun i35 =>
  (zcb x_s n) i35) else ((sTo x_s i12).bind fun s20 =>
  (zhL s20).bind fun r21 =>
  (zE i12 1).bind fun i23 =>
  (zbq x_s i23).bind fun s24 =>
  (zeY s24 65535).bind fun r25 =>
  if (r21.Kind == 0) then (zdN r21 r25 true) else (zdN r21 r25 (decide (r25 < 0))))) else (some (((⟨0, [], 0⟩ : api_Host), 27)))

def zcW (x_s : Str) : Option (api_Host × Int) :=
  (zhL x_s).bind fun r3 =>
  if (!(r3.Kind == 0)) then (some (r3, 0)) else ((zeh (x_s.length : Int) 1).bind fun i10 =>
  zcb x_s fuel i10)

def zey (rec1 : Int → Option Int) (i3 : Int) (t6 : Bool) : Option Int :=
  if t6 then ((zE i3 1).bind fun i9 =>
  rec1 i9) else (some i3)

def zbv (x_s : Str) : Nat → Int → Option Int
  | 0, _ => none
  | n + 1, i3 =>
  if (decide (i3 < (x_s.length : Int))) then ((sAt x_s i3).bind fun b5 =>
  zey (zbv x_s n) i3 (!(b5 == 63))) else (zey (zbv x_s n) i3 false)

def zgY (x_s : Str) : Option Int :=
  zbv x_s fuel 0

def zdj (t7 : Bool) : Option Bool :=
  some t7

def zgZ (x_b : UInt8) : Option Bool :=
  (zb2 x_b).bind fun r2 =>
  if r2 then (zdj true) else ((zgC x_b).bind fun r4 =>
  if r4 then (zdj true) else (if (x_b == 58) then (zdj true) else (zdj (x_b == 64))))

def zcy (t18 : Bool) : Option Bool :=
  some t18

def ze0 (t30 : Bool) : Option Bool :=
  some t30

def zc0 : Nat → Str → Str → Option Bool
  | 0, _, _ => none
  | n + 1, x_s, x_more =>
  if (x_s == []) then (some true) else ((sAt x_s 0).bind fun b6 =>
  if (b6 == 37) then (if (decide (2 < (x_s.length : Int))) then ((sAt x_s 1).bind fun b10 =>
  (zd9 b10).bind fun r11 =>
  if r11 then ((sAt x_s 2).bind fun b13 =>
  (zd9 b13).bind fun r14 =>
  if r14 then ((zbq x_s 3).bind fun s16 =>
  ((zc0 n) s16 x_more).bind fun r17 =>
  zcy r17) else (zcy false)) else (zcy false)) else (zcy false)) else ((sAt x_s 0).bind fun b20 =>
  (zgZ b20).bind fun r21 =>
  if r21 then ((zbq x_s 1).bind fun s23 =>
  ((zc0 n) s23 x_more).bind fun r24 =>
  ze0 r24) else ((sAt x_s 0).bind fun b25 =>
  (zew b25 x_more).bind fun r26 =>
  if r26 then ((zbq x_s 1).bind fun s28 =>
  ((zc0 n) s28 x_more).bind fun r29 =>
  ze0 r29) else (ze0 false))))

def ziY (x_s : Str) (x_more : Str) : Option Bool := zc0 fuel x_s x_more

def zdk (t6 : Bool) : Option Bool :=
  some t6

def zg0 (x_s : Str) : Option Bool :=
  if (decide (0 < (x_s.length : Int))) then ((sAt x_s 0).bind fun b3 =>
  if (b3 == 47) then ((ziY x_s [47]).bind fun r5 =>
  zdk r5) else (zdk false)) else (zdk false)

def ze1 (x_s : Str) : Option Bool :=
  (ziY x_s [47, 63]).bind fun r2 =>
  some r2

def zc9 (x_t : api_Target) (x_s : Str) (r4 : Int) (s6 : Str) (s13 : Str) (t17 : Bool) : Option (api_Target × Bool) :=
  some (((⟨x_t.Kind, x_t.Scheme, x_t.Host, s6, s13, decide (r4 < (x_s.length : Int))⟩ : api_Target), t17))

def zcq (x_t : api_Target) (x_s : Str) (r4 : Int) (s6 : Str) (s13 : Str) : Option (api_Target × Bool) :=
  (zg0 s6).bind fun r14 =>
  if r14 then ((ze1 s13).bind fun r16 =>
  zc9 x_t x_s r4 s6 s13 r16) else (zc9 x_t x_s r4 s6 s13 false)

def zeb (x_t : api_Target) (x_s : Str) : Option (api_Target × Bool) :=
  (zgY x_s).bind fun r4 =>
  (sTo x_s r4).bind fun s6 =>
  if (decide (r4 < (x_s.length : Int))) then ((zE r4 1).bind fun i11 =>
  (zbq x_s i11).bind fun s12 =>
  zcq x_t x_s r4 s6 s12) else (zcq x_t x_s r4 s6 x_t.Query)

def zez (rec2 : Str → Int → Option Str) (i14 : Int) (s24 : Str) : Option Str :=
  (zE i14 1).bind fun i25 =>
  rec2 s24 i25

def za3 (rec1 : Str → Int → Option Str) (x_s : Str) (s4 : Str) (i5 : Int) : Nat → Str → Int → Option Str
  | 0, _, _ => none
  | n + 1, s13, i14 =>
  if (decide (i14 < 26)) then ((sAt [65, 66, 67, 68, 69, 70, 71, 72, 73, 74, 75, 76, 77, 78, 79, 80, 81, 82, 83, 84, 85, 86, 87, 88, 89, 90] i14).bind fun b18 =>
  (sAt x_s i5).bind fun b19 =>
  if (b18 == b19) then ((zE i14 1).bind fun i22 =>
  (zeK [97, 98, 99, 100, 101, 102, 103, 104, 105, 106, 107, 108, 109, 110, 111, 112, 113, 114, 115, 116, 117, 118, 119, 120, 121, 122] i14 i22).bind fun s23 =>
  zez (za3 rec1 x_s s4 i5 n) i14 s23) else (zez (za3 rec1 x_s s4 i5 n) i14 s13)) else ((zht s4 s13).bind fun s27 =>
  (zE i5 1).bind fun i29 =>
  rec1 s27 i29)

def za4 (x_s : Str) : Nat → Str → Int → Option Str
  | 0, _, _ => none
  | n + 1, s4, i5 =>
  if (decide (i5 < (x_s.length : Int))) then ((zE i5 1).bind fun i9 =>
  (zeK x_s i5 i9).bind fun s10 =>
  za3 (za4 x_s n) x_s s4 i5 fuel s10 0) else (some s4)

def zeN (x_s : Str) : Option Str :=
  za4 x_s fuel [] 0

def zdO (r5 : api_Host × Int) (t9 : Bool) : Option (api_Target × Int) :=
  if t9 then (some (((⟨0, [], (⟨0, [], 0⟩ : api_Host), [], [], false⟩ : api_Target), 20))) else (some (((⟨3, [], r5.1, [], [], false⟩ : api_Target), 0)))

def zdP (t84 : Bool) (i85 : Int) (s86 : Str) (i87 : Int) (s88 : Str) (i89 : Int) (s90 : Str) (s91 : Str) (t92 : Bool) : Option (api_Target × Int) :=
  if (!t84) then (some (((⟨0, [], (⟨0, [], 0⟩ : api_Host), [], [], false⟩ : api_Target), 20))) else (some (((⟨i85, s86, (⟨i87, s88, i89⟩ : api_Host), s90, s91, t92⟩ : api_Target), 0)))

def zbC (rec5 : Int → Option (api_Target × Int)) (x34 : Str) (s47 : Str) (i50 : Int) (t55 : Bool) : Option (api_Target × Int) :=
  if t55 then ((zE i50 1).bind fun i58 =>
  rec5 i58) else ((sTo s47 i50).bind fun s60 =>
  (zcW s60).bind fun r61 =>
  if (!(r61.2 == 0)) then (some (((⟨0, [], (⟨0, [], 0⟩ : api_Host), [], [], false⟩ : api_Target), 20))) else (if (i50 == (s47.length : Int)) then (some (((⟨2, x34, r61.1, [], [], false⟩ : api_Target), 0))) else ((sAt s47 i50).bind fun b74 =>
  if (b74 == 63) then ((zE i50 1).bind fun i78 =>
  (zbq s47 i78).bind fun s79 =>
  (ze1 s79).bind fun r81 =>
  zdP r81 2 x34 r61.1.Kind r61.1.Name r61.1.Port [] s79 true) else ((zbq s47 i50).bind fun s82 =>
  (zeb (⟨2, x34, r61.1, [], [], false⟩ : api_Target) s82).bind fun r83 =>
  zdP r83.2 r83.1.Kind r83.1.Scheme r83.1.Host.Kind r83.1.Host.Name r83.1.Host.Port r83.1.Path r83.1.Query r83.1.HasQuery))))

def zat (x34 : Str) (s47 : Str) : Nat → Int → Option (api_Target × Int)
  | 0, _ => none
  | n + 1, i50 =>
  if (decide (i50 < (s47.length : Int))) then ((sAt s47 i50).bind fun b52 =>
  if (!(b52 == 47)) then ((sAt s47 i50).bind fun b54 =>
  zbC (zat x34 s47 n) x34 s47 i50 (!(b54 == 63))) else (zbC (zat x34 s47 n) x34 s47 i50 false)) else (zbC (zat x34 s47 n) x34 s47 i50 false)

def zdQ (rec3 : Str → Int → Option (api_Target × Int)) (s29 : Str) (i30 : Int) (x34 : Str) (i38 : Int) (t44 : Bool) : Option (api_Target × Int) :=
  if t44 then ((zE i30 1).bind fun i99 =>
  rec3 s29 i99) else ((zbq s29 i38).bind fun s47 =>
  zat x34 s47 fuel 0)

def zad : Nat → Str → Int → Option (api_Target × Int)
  | 0, _, _ => none
  | n + 1, s29, i30 =>
  if (decide (i30 < ((([[104, 116, 116, 112], [104, 116, 116, 112, 115]] : List Str).length : Int)))) then ((lAt ([[104, 116, 116, 112], [104, 116, 116, 112, 115]] : List Str) i30).bind fun x34 =>
  (zE (x34.length : Int) 3).bind fun i38 =>
  if (decide ((s29.length : Int) < i38)) then (zdQ (zad n) s29 i30 x34 i38 true) else ((sTo s29 i38).bind fun s41 =>
  (zeN s41).bind fun r42 =>
  (zht x34 [58, 47, 47]).bind fun s43 =>
  zdQ (zad n) s29 i30 x34 i38 (!(r42 == s43)))) else (some (((⟨0, [], (⟨0, [], 0⟩ : api_Host), [], [], false⟩ : api_Target), 20)))

def zbD (x_a1 : Str) (t16 : Bool) : Option (api_Target × Int) :=
  if t16 then (some (((⟨4, [], (⟨0, [], 0⟩ : api_Host), [], [], false⟩ : api_Target), 0))) else ((zeb ((⟨1, [], (⟨0, [], 0⟩ : api_Host), [], [], false⟩ : api_Target)) x_a1).bind fun r20 =>
  if r20.2 then (some (r20.1, 0)) else (zad fuel x_a1 0))

def zgb (x_a0 : Str) (x_a1 : Str) : Option (api_Target × Int) :=
  if (x_a0 == [67, 79, 78, 78, 69, 67, 84]) then ((zcW x_a1).bind fun r5 =>
  if (!(r5.2 == 0)) then (zdO r5 true) else (zdO r5 (decide (r5.1.Port < 0)))) else (if (x_a1 == [42]) then (zbD x_a1 (x_a0 == [79, 80, 84, 73, 79, 78, 83])) else (zbD x_a1 false))

def zdR (t4 : Bool) : Option Bool :=
  some t4

def ze2 (x_b : UInt8) : Option Bool :=
  if (decide (32 ≤ x_b)) then (if (!(x_b == 127)) then (zdR true) else (zdR (x_b == 9))) else (zdR (x_b == 9))

def zdS (rec2 : Int → Option (api_Head × Int)) (i9 : Int) (t16 : Bool) : Option (api_Head × Int) :=
  if t16 then (some (((⟨0, [], [], 0, [], 0, []⟩ : api_Head), 24))) else ((zE i9 1).bind fun i20 =>
  rec2 i20)

def zau (r22 : List Str) (r32 : Int) (t44 : Bool) : Option (api_Head × Int) :=
  if t44 then (some (((⟨0, [], [], 0, [], 0, []⟩ : api_Head), 20))) else ((lAt r22 0).bind fun x48 =>
  (lAt r22 1).bind fun x51 =>
  (zgb x48 x51).bind fun r54 =>
  if (!(r54.2 == 0)) then (some (((⟨0, [], [], 0, [], 0, []⟩ : api_Head), 20))) else ((lAt r22 0).bind fun x61 =>
  (lAt r22 1).bind fun x64 =>
  some (((⟨1, x61, x64, 0, [], r32, []⟩ : api_Head), 0))))

def zdT (r72 : Int) (r90 : Int × Int) (s92 : Str) (t108 : Bool) : Option (api_Head × Int) :=
  if t108 then (some (((⟨0, [], [], 0, [], 0, []⟩ : api_Head), 20))) else (some (((⟨2, [], [], r90.1, s92, r72, []⟩ : api_Head), 0)))

def zbE (r72 : Int) (r90 : Int × Int) (s92 : Str) : Nat → Int → Option (api_Head × Int)
  | 0, _ => none
  | n + 1, i95 =>
  if (decide (i95 < (s92.length : Int))) then ((sAt s92 i95).bind fun b99 =>
  (ze2 b99).bind fun r100 =>
  if (!r100) then (some (((⟨0, [], [], 0, [], 0, []⟩ : api_Head), 20))) else ((zE i95 1).bind fun i105 =>
  (zbE r72 r90 s92 n) i105)) else (if (!(r90.2 == 0)) then (zdT r72 r90 s92 true) else (zdT r72 r90 s92 (decide (r90.1 < 100))))

def zav (x_a1 : Str) (r22 : List Str) (r72 : Int) (t83 : Bool) : Option (api_Head × Int) :=
  if t83 then (some (((⟨0, [], [], 0, [], 0, []⟩ : api_Head), 20))) else ((lAt r22 1).bind fun x87 =>
  (zfF x87 10 599).bind fun r90 =>
  (zbq x_a1 13).bind fun s92 =>
  zbE r72 r90 s92 fuel 0)

def zaJ (x_a0 : Int) (x_a1 : Str) : Nat → Int → Option (api_Head × Int)
  | 0, _ => none
  | n + 1, i9 =>
  if (decide (i9 < (x_a1.length : Int))) then ((sAt x_a1 i9).bind fun b13 =>
  if (b13 == 13) then (zdS (zaJ x_a0 x_a1 n) i9 true) else ((sAt x_a1 i9).bind fun b15 =>
  zdS (zaJ x_a0 x_a1 n) i9 (b15 == 10))) else ((zdG x_a1 32).bind fun r22 =>
  if (x_a0 == 1) then ((zeh (r22.length : Int) 1).bind fun i28 =>
  (lAt r22 i28).bind fun x29 =>
  (zbY x29).bind fun r32 =>
  if (r32 == 2) then (some (((⟨0, [], [], 0, [], 0, []⟩ : api_Head), 26))) else (if (!((r22.length : Int) == 3)) then (zau r22 r32 true) else (if (decide (r32 < 0)) then (zau r22 r32 true) else ((lAt r22 0).bind fun x40 =>
  (zdH x40).bind fun r43 =>
  zau r22 r32 (!r43))))) else ((lAt r22 0).bind fun x69 =>
  (zbY x69).bind fun r72 =>
  if (r72 == 2) then (some (((⟨0, [], [], 0, [], 0, []⟩ : api_Head), 26))) else (if (decide ((r22.length : Int) < 3)) then (zav x_a1 r22 r72 true) else (if (decide (r72 < 0)) then (zav x_a1 r22 r72 true) else ((lAt r22 1).bind fun x80 =>
  zav x_a1 r22 r72 (!((x80.length : Int) == 3)))))))

def zdU (x_a0 : Int) (x_a1 : Str) (t4 : Bool) : Option (api_Head × Int) :=
  if t4 then (some (((⟨0, [], [], 0, [], 0, []⟩ : api_Head), 1))) else (zaJ x_a0 x_a1 fuel 0)

def zgc (x_a0 : Int) (x_a1 : Str) : Option (api_Head × Int) :=
  if (!(x_a0 == 1)) then (zdU x_a0 x_a1 (!(x_a0 == 2))) else (zdU x_a0 x_a1 false)

def zfg (t3 : Bool) : Option Bool :=
  some t3

def zdV (x_b : UInt8) : Option Bool :=
  if (x_b == 32) then (zfg true) else (zfg (x_b == 9))

def zdl (rec3 : Str → Option Str) (s11 : Str) (t16 : Bool) : Option Str :=
  if t16 then ((zeh (s11.length : Int) 1).bind fun i19 =>
  (sTo s11 i19).bind fun s20 =>
  rec3 s20) else (some s11)

def za5 : Nat → Str → Option Str
  | 0, _ => none
  | n + 1, s11 =>
  if (decide (0 < (s11.length : Int))) then ((zeh (s11.length : Int) 1).bind fun i13 =>
  (sAt s11 i13).bind fun b14 =>
  (zdV b14).bind fun r15 =>
  zdl (za5 n) s11 r15) else (zdl (za5 n) s11 false)

def zdm (rec1 : Str → Option Str) (s2 : Str) (t6 : Bool) : Option Str :=
  if t6 then ((zbq s2 1).bind fun s9 =>
  rec1 s9) else (za5 fuel s2)

def za6 : Nat → Str → Option Str
  | 0, _ => none
  | n + 1, s2 =>
  if (decide (0 < (s2.length : Int))) then ((sAt s2 0).bind fun b4 =>
  (zdV b4).bind fun r5 =>
  zdm (za6 n) s2 r5) else (zdm (za6 n) s2 false)

def zfH (x_s : Str) : Option Str :=
  za6 fuel x_s

def zbM (x_s : Str) : Nat → Int → Option Bool
  | 0, _ => none
  | n + 1, i3 =>
  if (decide (i3 < (x_s.length : Int))) then ((sAt x_s i3).bind fun b7 =>
  (ze2 b7).bind fun r8 =>
  if (!r8) then (some false) else ((zE i3 1).bind fun i13 =>
  (zbM x_s n) i13)) else (some true)

def zfh (x_s : Str) : Option Bool :=
  zbM x_s fuel 0

def zdW (rec1 : Int → Option (api_Field × Int)) (i4 : Int) (t11 : Bool) : Option (api_Field × Int) :=
  if t11 then (some (((⟨[], []⟩ : api_Field), 24))) else ((zE i4 1).bind fun i15 =>
  rec1 i15)

def zdX (x_a0 : Str) (i25 : Int) (r34 : Str) (t38 : Bool) : Option (api_Field × Int) :=
  if t38 then (some (((⟨[], []⟩ : api_Field), 21))) else (if (decide ((r34.length : Int) < i25)) then (some (((⟨[], []⟩ : api_Field), 22))) else ((zE i25 1).bind fun i46 =>
  (zbq x_a0 i46).bind fun s47 =>
  (zfh s47).bind fun r48 =>
  if (!r48) then (some (((⟨[], []⟩ : api_Field), 25))) else ((zE i25 1).bind fun i53 =>
  (zbq x_a0 i53).bind fun s54 =>
  (zfH s54).bind fun r55 =>
  some (((⟨r34, r55⟩ : api_Field), 0)))))

def zcc (rec4 : Int → Option (api_Field × Int)) (x_a0 : Str) (i25 : Int) (t28 : Bool) : Option (api_Field × Int) :=
  if t28 then ((zE i25 1).bind fun i31 =>
  rec4 i31) else ((sTo x_a0 i25).bind fun s33 =>
  (zfH s33).bind fun r34 =>
  if (i25 == (x_a0.length : Int)) then (zdX x_a0 i25 r34 true) else ((zdH r34).bind fun r37 =>
  zdX x_a0 i25 r34 (!r37)))

def zaw (x_a0 : Str) : Nat → Int → Option (api_Field × Int)
  | 0, _ => none
  | n + 1, i25 =>
  if (decide (i25 < (x_a0.length : Int))) then ((sAt x_a0 i25).bind fun b27 =>
  zcc (zaw x_a0 n) x_a0 i25 (!(b27 == 58))) else (zcc (zaw x_a0 n) x_a0 i25 false)

def zcd (x_a0 : Str) (t20 : Bool) : Option (api_Field × Int) :=
  if t20 then (some (((⟨[], []⟩ : api_Field), 23))) else (zaw x_a0 fuel 0)

def zba (x_a0 : Str) : Nat → Int → Option (api_Field × Int)
  | 0, _ => none
  | n + 1, i4 =>
  if (decide (i4 < (x_a0.length : Int))) then ((sAt x_a0 i4).bind fun b8 =>
  if (b8 == 13) then (zdW (zba x_a0 n) i4 true) else ((sAt x_a0 i4).bind fun b10 =>
  zdW (zba x_a0 n) i4 (b10 == 10))) else (if (decide (0 < (x_a0.length : Int))) then ((sAt x_a0 0).bind fun b18 =>
  (zdV b18).bind fun r19 =>
  zcd x_a0 r19) else (zcd x_a0 false))

def zgd (x_a0 : Str) : Option (api_Field × Int) :=
  zba x_a0 fuel 0

def zc1 (x_b : Str) : Nat → Int → Option Int
  | 0, _ => none
  | n + 1, i3 =>
  (zE i3 4).bind fun i4 =>
  if (decide (i4 ≤ (x_b.length : Int))) then ((zE i3 4).bind fun i8 =>
  (zeK x_b i3 i8).bind fun s9 =>
  if (s9 == [13, 10, 13, 10]) then ((zE i3 4).bind fun i12 =>
  some i12) else ((zE i3 1).bind fun i15 =>
  (zc1 x_b n) i15)) else (some (-1))

def zhM (x_b : Str) : Option Int :=
  zc1 x_b fuel 0

def ziZ (x_f : api_Field) (x_name : Str) : Option Bool :=
  (zeN x_f.Name).bind fun r3 =>
  (zeN x_name).bind fun r4 =>
  some (r3 == r4)

def zda (rec1 : (List Str) → Int → Option (List Str)) (i7 : Int) (l26 : List Str) : Option (List Str) :=
  (zE i7 1).bind fun i27 =>
  rec1 l26 i27

def zaP (x_l : List api_Field) (x_name : Str) : Nat → (List Str) → Int → Option (List Str)
  | 0, _, _ => none
  | n + 1, l6, i7 =>
  if (decide (i7 < (x_l.length : Int))) then ((lAt x_l i7).bind fun x11 =>
  (ziZ x11 x_name).bind fun r14 =>
  if r14 then ((lAt x_l i7).bind fun x17 =>
  if zbr l6.length 1 16 then (zda (zaP x_l x_name n) i7 (l6 ++ ([x17.Value] : List Str))) else none) else (zda (zaP x_l x_name n) i7 l6)) else (some l6)

def zec (x_l : List api_Field) (x_name : Str) : Option (List Str) :=
  zaP x_l x_name fuel [] 0

def zdY (r11 : List Str) (t25 : Bool) : Option Int :=
  if t25 then ((lAt r11 0).bind fun x27 =>
  (zcW x27).bind fun r30 =>
  some r30.2) else (some 0)

def zak (r11 : List Str) (t17 : Bool) : Option Int :=
  if t17 then (some 27) else (if ((r11.length : Int) == 1) then ((lAt r11 0).bind fun x22 =>
  zdY r11 (!(x22 == []))) else (zdY r11 false))

def zge (x_h : api_Head) : Option Int :=
  if (decide (100 < (x_h.Fields.length : Int))) then (some 3) else (if (x_h.Kind == 2) then (some 0) else ((zec x_h.Fields [104, 111, 115, 116]).bind fun r11 =>
  if (decide (1 < (r11.length : Int))) then (zak r11 true) else (if (x_h.Minor == 1) then (zak r11 ((r11.length : Int) == 0)) else (zak r11 false))))

def zce (rec3 : (List api_Field) → Int → Str → Str → Int → Str → Int → Bool → Int → Int → Option (api_Head × Int)) (i34 : Int) (t73 : Bool) (i74 : Int) (i75 : Int) (s76 : Str) (s77 : Str) (i78 : Int) (s79 : Str) (i80 : Int) (l83 : List api_Field) : Option (api_Head × Int) :=
  (zE i34 1).bind fun i84 =>
  rec3 l83 i75 s76 s77 i78 s79 i80 t73 i74 i84

def zdZ (i85 : Int) (s86 : Str) (s87 : Str) (i88 : Int) (s89 : Str) (i90 : Int) (l93 : List api_Field) : Option (api_Head × Int) :=
  (zge (⟨i85, s86, s87, i88, s89, i90, l93⟩ : api_Head)).bind fun r94 =>
  if (!(r94 == 0)) then (some (((⟨0, [], [], 0, [], 0, []⟩ : api_Head), r94))) else (some (((⟨i85, s86, s87, i88, s89, i90, l93⟩ : api_Head), 0)))

def zD (x_a0 : Int) (x_a1 : Str) : Nat → (List api_Field) → Int → Str → Str → Int → Str → Int → Bool → Int → Int → Option (api_Head × Int)
  | 0, _, _, _, _, _, _, _, _, _, _ => none
  | n + 1, l25, i26, s27, s28, i29, s30, i31, t32, i33, i34 =>
  (zE i34 3).bind fun i35 =>
  if (decide (i35 < (x_a1.length : Int))) then ((zE i34 2).bind fun i39 =>
  (zeK x_a1 i34 i39).bind fun s40 =>
  if (!(s40 == [13, 10])) then (zce (zD x_a0 x_a1 n) i34 t32 i33 i26 s27 s28 i29 s30 i31 l25) else ((zeK x_a1 i33 i34).bind fun s44 =>
  (zE i34 2).bind fun i46 =>
  if t32 then ((zgc x_a0 s44).bind fun r50 =>
  if (!(r50.2 == 0)) then (some (((⟨0, [], [], 0, [], 0, []⟩ : api_Head), r50.2))) else (zce (zD x_a0 x_a1 n) i34 false i46 r50.1.Kind r50.1.Method r50.1.Target r50.1.Code r50.1.Reason r50.1.Minor r50.1.Fields)) else ((zgd s44).bind fun r62 =>
  if (!(r62.2 == 0)) then (some (((⟨0, [], [], 0, [], 0, []⟩ : api_Head), r62.2))) else (if zbr l25.length 1 32 then (zce (zD x_a0 x_a1 n) i34 t32 i46 i26 s27 s28 i29 s30 i31 (l25 ++ [r62.1])) else none)))) else (zdZ i26 s27 s28 i29 s30 i31 l25)

def zcQ (x_a0 : Int) (x_a1 : Str) (t14 : Bool) : Option (api_Head × Int) :=
  if t14 then (some (((⟨0, [], [], 0, [], 0, []⟩ : api_Head), 6))) else (zD x_a0 x_a1 fuel [] 0 [] [] 0 [] 0 true 0 0)

def zcR (x_a0 : Int) (x_a1 : Str) (x_a2 : Int) (t4 : Bool) : Option (api_Head × Int) :=
  if t4 then (some (((⟨0, [], [], 0, [], 0, []⟩ : api_Head), 1))) else (if (decide (x_a2 < (x_a1.length : Int))) then (some (((⟨0, [], [], 0, [], 0, []⟩ : api_Head), 3))) else (if (decide ((x_a1.length : Int) < 4)) then (zcQ x_a0 x_a1 true) else ((zhM x_a1).bind fun r13 =>
  zcQ x_a0 x_a1 (!(r13 == (x_a1.length : Int))))))

def zgf (x_a0 : Int) (x_a1 : Str) (x_a2 : Int) : Option (api_Head × Int) :=
  if (!(x_a0 == 1)) then (zcR x_a0 x_a1 x_a2 (!(x_a0 == 2))) else (zcR x_a0 x_a1 x_a2 false)

def zie (x_sep : Str) (x_l : List Str) : Option Str :=
  (strings_Join x_l x_sep).bind fun r2 =>
  some r2

def zdt (s14 : Str) (t30 : Bool) : Option (Str × Int) :=
  if t30 then (some ([], 20)) else (some (s14, 0))

def zbb (s14 : Str) (r15 : api_Head × Int) (t28 : Bool) : Option (Str × Int) :=
  if (!(r15.2 == 0)) then (zdt s14 true) else (zdt s14 (!t28))

def zdu (x_a0 : api_Head) (s14 : Str) : Option (Str × Int) :=
  (zbL x_a0.Kind s14).bind fun r15 =>
  if (r15.2 == 1) then (some ([], r15.2)) else (if (r15.1.Method == x_a0.Method) then (if (r15.1.Target == x_a0.Target) then (if (r15.1.Minor == x_a0.Minor) then (if (r15.1.Code == x_a0.Code) then (zbb s14 r15 (r15.1.Reason == x_a0.Reason)) else (zbb s14 r15 false)) else (zbb s14 r15 false)) else (zbb s14 r15 false)) else (zbb s14 r15 false))

def zfi (x_a0 : api_Head) : Option (Str × Int) :=
  (zcX x_a0.Minor).bind fun r3 =>
  (zht [72, 84, 84, 80, 47, 49, 46] r3).bind fun s4 =>
  (zie [32] ([x_a0.Method, x_a0.Target, s4] : List Str)).bind fun r7 =>
  if (x_a0.Kind == 2) then ((zcX x_a0.Code).bind fun r11 =>
  (zie [32] ([s4, r11, x_a0.Reason] : List Str)).bind fun r13 =>
  zdu x_a0 r13) else (zdu x_a0 r7)

def zfj (t5 : Bool) : Option Bool :=
  some t5

def zi0 (x_s : Str) : Option Bool :=
  if (!(x_s == [])) then ((zcm zbV ([x_s] : List Str)).bind fun r4 =>
  zfj r4) else (zfj false)

def zc2 (t11 : Bool) : Option Int :=
  if t11 then (some 25) else (some 0)

def zeH (x_f : api_Field) : Option Int :=
  (zi0 x_f.Name).bind fun r3 =>
  if (!r3) then (some 21) else ((zcm zaH ([x_f.Value] : List Str)).bind fun r8 =>
  if (!r8) then (zc2 true) else ((zd3 x_f.Value [32, 9]).bind fun r10 =>
  zc2 (!(r10 == x_f.Value))))

def zeA (x_h : api_Head) : Nat → Int → Option Int
  | 0, _ => none
  | n + 1, i10 =>
  if (decide (i10 < (x_h.Fields.length : Int))) then ((lAt x_h.Fields i10).bind fun x14 =>
  (zeH x14).bind fun r19 =>
  if (!(r19 == 0)) then (some r19) else ((zE i10 1).bind fun i25 =>
  (zeA x_h n) i25)) else ((zfD x_h).bind fun r27 =>
  some r27)

def zj0 (x_h : api_Head) : Option Int :=
  (zfi x_h).bind fun r3 =>
  if (!(r3.2 == 0)) then (some r3.2) else (zeA x_h fuel 0)

def zkV (x_most : Int) : Option quill_Quill :=
  some (⟨[], max x_most 0⟩ : quill_Quill)

def zfI (x_q : quill_Quill) : Option Int :=
  (zeh x_q.f_most (x_q.f_b.length : Int)).bind fun i4 =>
  some i4

def zeO (l44 : List UInt8) (i45 : Int) : Option (Int × quill_Quill) :=
  some ((0, (⟨l44, i45⟩ : quill_Quill)))

def zcf (x_l : List Str) : Nat → (List UInt8) → Int → Int → Option (Int × quill_Quill)
  | 0, _, _, _ => none
  | n + 1, l27, i28, i29 =>
  if (decide (i29 < (x_l.length : Int))) then ((lAt x_l i29).bind fun x33 =>
  if zbr l27.length x33.length 1 then ((zE i29 1).bind fun i41 =>
  (zcf x_l n) (l27 ++ x33) i28 i41) else none) else (zeO l27 i28)

def zcg (x_q : quill_Quill) (x_l : List Str) : Nat → Int → Int → Option (Int × quill_Quill)
  | 0, _, _ => none
  | n + 1, i7, i8 =>
  if (decide (i8 < (x_l.length : Int))) then ((lAt x_l i8).bind fun x12 =>
  if (decide (i7 < (x12.length : Int))) then (some (10, x_q)) else ((zeh i7 (x12.length : Int)).bind fun i20 =>
  (zE i8 1).bind fun i22 =>
  (zcg x_q x_l n) i20 i22)) else (zcf x_l fuel x_q.f_b x_q.f_most 0)

def zgp (x_q : quill_Quill) (x_l : List Str) : Option (Int × quill_Quill) :=
  (zfI x_q).bind fun r4 =>
  zcg x_q x_l fuel r4 0

def zfJ (x_q : quill_Quill) (x_l : List Str) : Option (Int × quill_Quill) :=
  if zbr 0 x_l.length 16 then (if zbr x_l.length 1 16 then ((zgp x_q (x_l ++ ([[13, 10]] : List Str))).bind fun r10 =>
  some (r10.1, r10.2)) else none) else none

def zcz (x_p : head_printer) (x_s : Str) : Option head_printer :=
  (zfJ x_p.Quill ([x_s] : List Str)).bind fun r2 =>
  if (!(r2.1 == 0)) then (some (⟨r2.2, true⟩ : head_printer)) else (some (⟨r2.2, x_p.f_full⟩ : head_printer))

def zg1 (x_f : api_Field) : Option (Str × Int) :=
  (zeH x_f).bind fun r3 =>
  if (!(r3 == 0)) then (some ([], r3)) else (if (x_f.Value == []) then ((zht x_f.Name [58]).bind fun s11 =>
  some (s11, 0)) else ((zht x_f.Name [58, 32]).bind fun s14 =>
  (zht s14 x_f.Value).bind fun s15 =>
  some (s15, 0)))

def zfK (x_q : quill_Quill) : Option Str :=
  some x_q.f_b

def zhw (t45 : Bool) (l48 : List UInt8) (i49 : Int) : Option (Str × Int) :=
  (zcz ((⟨(⟨l48, i49⟩ : quill_Quill), t45⟩ : head_printer)) []).bind fun r50 =>
  if r50.f_full then (some ([], 3)) else ((zfK r50.Quill).bind fun r59 =>
  some (r59, 0))

def zeB (x_h : api_Head) : Nat → Bool → (List UInt8) → Int → Int → Option (Str × Int)
  | 0, _, _, _, _ => none
  | n + 1, t23, l26, i27, i28 =>
  if (decide (i28 < (x_h.Fields.length : Int))) then ((lAt x_h.Fields i28).bind fun x32 =>
  (zg1 x32).bind fun r37 =>
  (zcz ((⟨(⟨l26, i27⟩ : quill_Quill), t23⟩ : head_printer)) r37.1).bind fun r39 =>
  (zE i28 1).bind fun i44 =>
  (zeB x_h n) r39.f_full r39.Quill.f_b r39.Quill.f_most i44) else (zhw t23 l26 i27)

def zj1 (x_h : api_Head) (x_limit : Int) : Option (Str × Int) :=
  (zj0 x_h).bind fun r3 =>
  if (!(r3 == 0)) then (some ([], r3)) else ((zkV x_limit).bind fun r9 =>
  (zfi x_h).bind fun r15 =>
  (zcz (⟨r9, false⟩ : head_printer) r15.1).bind fun r17 =>
  zeB x_h fuel r17.f_full r17.Quill.f_b r17.Quill.f_most 0)

def zd0 (t11 : Bool) : Option Bool :=
  some t11

def zhe : Option Bool :=
  (zfE 1 [71, 69, 84, 32, 47, 32, 72, 84, 84, 80, 47, 49, 46, 49, 13, 10, 72, 111, 115, 116, 58, 97, 32, 13, 10, 13, 10] 99).bind fun r2 =>
  (zj1 r2.1 99).bind fun r7 =>
  if (r2.2 == 0) then (if (r7.2 == 0) then (zd0 (r7.1 == [71, 69, 84, 32, 47, 32, 72, 84, 84, 80, 47, 49, 46, 49, 13, 10, 72, 111, 115, 116, 58, 32, 97, 13, 10, 13, 10])) else (zd0 false)) else (zd0 false)

def zs (x_s1 : List api_Field) (x_s2 : List api_Field) : Nat → Int → Option Bool
  | 0, _ => none
  | n + 1, i7 =>
  if (decide (i7 < (x_s1.length : Int))) then ((lAt x_s1 i7).bind fun x12 =>
  (lAt x_s2 i7).bind fun x15 =>
  if (!(x12 == x15)) then (some false) else ((zE i7 1).bind fun i22 =>
  (zs x_s1 x_s2 n) i22)) else (some true)

def zS (x_s1 : List api_Field) (x_s2 : List api_Field) : Option Bool :=
  if (!((x_s1.length : Int) == (x_s2.length : Int))) then (some false) else (zs x_s1 x_s2 fuel 0)

def zbw (t11 : Bool) : Option Bool :=
  some t11

def zhN (x_a : api_Head) (x_b : api_Head) : Option Bool :=
  if (x_a.Kind == x_b.Kind) then (if (x_a.Method == x_b.Method) then (if (x_a.Target == x_b.Target) then (if (x_a.Minor == x_b.Minor) then (if (x_a.Code == x_b.Code) then (if (x_a.Reason == x_b.Reason) then ((zS x_a.Fields x_b.Fields).bind fun r10 =>
  zbw r10) else (zbw false)) else (zbw false)) else (zbw false)) else (zbw false)) else (zbw false)) else (zbw false)

def zch (t23 : Bool) : Option Bool :=
  some t23

def zeI (x_kind : Int) (x_s : Str) (x_limit : Int) : Option Bool :=
  (zhe).bind fun r2 =>
  if (!r2) then (some false) else ((sTo x_s (min (x_s.length : Int) 3000)).bind fun s7 =>
  (zfE x_kind s7 x_limit).bind fun r9 =>
  (zgf x_kind s7 x_limit).bind fun r14 =>
  (zgU r9.1 r14.1).bind fun r19 =>
  if r19 then (if (r9.2 == r14.2) then ((zhN r9.1 r14.1).bind fun r22 =>
  zch r22) else (zch false)) else (zch false))

end Go.Dm
end
section
namespace Go.Dm
theorem zl2 (b : Bool) (v : Int) (k : Nat) (h : -1 ≤ v) : (if b = true then (k : Int) else if v = -1 then -1 else v + ((k + 1 : Nat) : Int)) =
    if (if b = true then 0 else if (v == -1) = true then -1 else v + 1) = -1 then -1 else (if b = true then 0 else if (v == -1) = true then -1 else v + 1) + (k : Int) := by
  cases b with
  | true => simp
  | false =>
    by_cases hm : v = -1
    · subst hm; simp
    · have h2 : ¬ (v + 1 = -1) := by omega
      have h3 : (v == -1) = false := beq_eq_false_iff_ne.2 hm
      rw [h3]
      simp only [Bool.false_eq_true, if_false, if_neg hm, if_neg h2]
      omega
theorem zlg : ∀ (l : Str) (c : UInt8) (k : Nat), zgu l c k = if Go.Lib.indexByte l c = -1 then -1 else Go.Lib.indexByte l c + k
  | [], _, _ => rfl
  | x :: l, c, k => by
    rw [zgu, Go.Lib.indexByte, zlg l c (k + 1)]
    exact zl2 _ _ k (Go.Lib.indexByte_ge l c)
theorem zl3 (x y : UInt8) : (x == y) = (y == x) := by
  by_cases h : x = y
  · subst h; rfl
  · rw [beq_eq_false_iff_ne.2 h, beq_eq_false_iff_ne.2 (Ne.symm h)]
theorem zl4 : ∀ (s t : Str), zjZ s t = t.isPrefixOf s
  | s, [] => by cases s <;> rfl
  | [], y :: t => rfl
  | x :: s, y :: t => by
    rw [zjZ, List.isPrefixOf, zl4 s t, zl3 x y]
theorem zl5 : ∀ (l t : Str) (k : Nat), zgO l t k = if Go.Lib.index l t = -1 then -1 else Go.Lib.index l t + k
  | [], t, k => by
    rw [zgO, Go.Lib.index]
    cases t <;> simp [zjZ]
  | x :: l, t, k => by
    rw [zgO, Go.Lib.index, zl4]
    simp only [zl5 l t (k + 1)]
    exact zl2 _ _ k (Go.Lib.index_ge l t)
theorem zl6 : ∀ (l cs : Str) (k : Nat), ziX l cs k = if Go.Lib.indexAny l cs = -1 then -1 else Go.Lib.indexAny l cs + k
  | [], _, _ => rfl
  | x :: l, cs, k => by
    rw [ziX, Go.Lib.indexAny, zl6 l cs (k + 1)]
    exact zl2 _ _ k (Go.Lib.indexAny_ge cs l)
theorem zpc (l : Str) (c : UInt8) : zgu l c 0 = Go.Lib.indexByte l c := by
  rw [zlg]; have := Go.Lib.indexByte_ge l c; split <;> omega
theorem zl7 (l t : Str) : zgO l t 0 = Go.Lib.index l t := by
  rw [zl5]; have := Go.Lib.index_ge l t; split <;> omega
theorem zqd (l cs : Str) : ziX l cs 0 = Go.Lib.indexAny l cs := by
  rw [zl6]; have := Go.Lib.indexAny_ge cs l; split <;> omega
end Go.Dm
end
section
namespace Go.Dm
@[simp] theorem zab (l : Str) (i : Nat) : sAt l (i : Int) = l[i]? := by simp [sAt]
@[simp] theorem zi5 (l : Str) : sAt l 0 = l[0]? := by simp [sAt]
@[simp] theorem sAt_one (l : Str) : sAt l 1 = l[1]? := by simp [sAt]
@[simp] theorem sAt_two (l : Str) : sAt l 2 = l[2]? := by simp [sAt]
@[simp] theorem zed {α : Type} (l : List α) (i : Nat) : lAt l (i : Int) = l[i]? := by simp [lAt]
@[simp] theorem zr7 {α : Type} (l : List α) : lAt l 0 = l[0]? := by simp [lAt]
theorem zbi {m n : Int} (h1 : -9223372036854775808 ≤ m + n) (h2 : m + n ≤ 9223372036854775807) : zE m n = some (m + n) := by simp [zE, inI, h1, h2]
theorem zee {m n : Int} (h1 : -9223372036854775808 ≤ m - n) (h2 : m - n ≤ 9223372036854775807) : zeh m n = some (m - n) := by simp [zeh, inI, h1, h2]
theorem zqT {m n : Int} (h1 : -9223372036854775808 ≤ m * n) (h2 : m * n ≤ 9223372036854775807) : zou m n = some (m * n) := by simp [zou, inI, h1, h2]
theorem zq {i : Nat} (h : i < 4611686018427387904) : zE (i : Int) 1 = some ((i + 1 : Nat) : Int) := by
  rw [zbi (by omega) (by omega)]; simp
theorem zr8 {i k : Nat} (h : i + k < 4611686018427387904) : zE (i : Int) (k : Int) = some ((i + k : Nat) : Int) := by
  rw [zbi (by omega) (by omega)]; simp
theorem zef {l : Str} {h : Nat} (hh : h ≤ l.length) : sTo l (h : Int) = some (l.take h) := by simp [sTo, hh]
theorem zag {l : Str} {i : Nat} (hh : i ≤ l.length) : zbq l (i : Int) = some (l.drop i) := by simp [zbq, hh]
theorem zdb {l : Str} {i h : Nat} (h1 : i ≤ h) (h2 : h ≤ l.length) : zeK l (i : Int) (h : Int) = some ((l.take h).drop i) := by simp [zeK, h1, h2]
theorem zfY {l m : Str} (h : l.length + m.length ≤ 9223372036854775807) : zht l m = some (l ++ m) := by simp [zht, h]
theorem zoM {n : Nat} (h : n < 1000000000000000000) : n < fuel := h

theorem znV {α β : Type} (l : List α) (L : Nat → Int → Option β) (F : α → Option β → Option β) (E : Option β)
    (hE : ∀ n, L (n + 1) (l.length : Int) = E) (hL : ∀ n (i : Nat) x, i < l.length → l[i]? = some x → L (n + 1) (i : Int) = F x (L n ((i + 1 : Nat) : Int))) :
    ∀ (n i : Nat), i ≤ l.length → l.length - i < n → L n (i : Int) = (l.drop i).foldr F E
  | 0, _, _, h => by omega
  | n + 1, i, hi, h => by
    by_cases hlt : i < l.length
    · rw [hL n i _ hlt (List.getElem?_eq_getElem hlt), znV l L F E hE hL n (i + 1) (by omega) (by omega), List.drop_eq_getElem_cons hlt]
      rfl
    · have : i = l.length := by omega
      subst this
      rw [hE, List.drop_length]
      rfl
theorem zg3 {α β : Type} (l : List α) (L : Nat → Int → Option β) (F : α → Option β → Option β) (E : Option β) (hl : l.length < 1000000000000000000)
    (hE : ∀ n, L (n + 1) (l.length : Int) = E) (hL : ∀ n (i : Nat) x, i < l.length → l[i]? = some x → L (n + 1) (i : Int) = F x (L n ((i + 1 : Nat) : Int))) : L fuel 0 = l.foldr F E := by
  have := znV l L F E hE hL fuel 0 (Nat.zero_le _) (zoM (by omega))
  simpa using this
theorem zih {n m b : Nat} (h : (n + m) * b ≤ 140737488355328) (h2 : n + m ≤ 140737488355328) : zbr n m b = true := by
  simp only [zbr, Bool.and_eq_true, decide_eq_true_eq]; exact ⟨by omega, h⟩

theorem zM (p : UInt8 → Bool) (h : (List.range 256).all (fun n => p (UInt8.ofNat n)) = true) (b : UInt8) : p b = true := by
  have := List.all_eq_true.1 h b.toNat (by simpa using b.toNat_lt)
  simpa using this
theorem zri {α : Type} (p : α → Bool) (l : List α) : l.foldr (fun x r => if p x = true then r else some false) (some true) = some (l.all p) := by
  induction l with
  | nil => rfl
  | cons x l ih => simp only [List.foldr_cons, ih, List.all_cons]; cases p x <;> simp
theorem zr9 {α : Type} (p : α → Bool) (l : List α) : l.foldr (fun x r => if p x = true then some true else r) (some false) = some (l.any p) := by
  induction l with
  | nil => rfl
  | cons x l ih => simp only [List.foldr_cons, ih, List.any_cons]; cases p x <;> simp
theorem zs8 (s : Str) (k : Nat) : sTo s (min (s.length : Int) (k : Int)) = some (s.take k) := by
  have e : min (s.length : Int) (k : Int) = ((min s.length k : Nat) : Int) := by omega
  rw [e, zef (Nat.min_le_left _ _)]
  congr 1
  rcases Nat.le_total s.length k with h | h
  · rw [Nat.min_eq_left h, List.take_length, List.take_of_length_le h]
  · rw [Nat.min_eq_right h]
end Go.Dm
end
section
namespace Go.Dm
def zO (b : UInt8) : Bool := decide (48 ≤ b) && decide (b ≤ 57)
def zc3 (b : UInt8) : UInt8 := if 65 ≤ b ∧ b ≤ 90 then b + 32 else b
def zr5 (b : UInt8) : Bool := decide (97 ≤ zc3 b) && decide (zc3 b ≤ 122)
def zeC (b : UInt8) : Bool := zO b || decide (97 ≤ zc3 b) && decide (zc3 b ≤ 102)
def zhx (b : UInt8) : Bool := zr5 b || zO b || ([45, 46, 95, 126] : Str).contains b
def znr (b : UInt8) : Bool := ([33, 36, 38, 39, 40, 41, 42, 43, 44, 59, 61] : Str).contains b
def zkp (b : UInt8) : Bool := zhx b || znr b || b == 58 || b == 64

theorem zqn (l : Str) (c : UInt8) (k : Nat) : decide (0 ≤ zgu l c k) = l.contains c := by
  induction l generalizing k with
  | nil => simp [zgu]
  | cons x l ih =>
    simp only [zgu, List.contains_cons]
    by_cases h : x = c
    · simp [h]
    · have h' : (c == x) = false := by simp; exact fun e => h e.symm
      simp [h, h', ih]
theorem zmB (b : UInt8) : zaE b = some (zc3 b) :=
  of_decide_eq_true (zM (fun b => decide (zaE b = some (zc3 b))) (by decide +kernel) b)
theorem zfL (b : UInt8) : zX b = some (zO b) :=
  of_decide_eq_true (zM (fun b => decide (zX b = some (zO b))) (by decide +kernel) b)
theorem zg2 (b : UInt8) : zbW b = some (zeC b) :=
  of_decide_eq_true (zM (fun b => decide (zbW b = some (zeC b))) (by decide +kernel) b)
theorem zlH (b : UInt8) : zfb b = some (zkp b) :=
  of_decide_eq_true (zM (fun b => decide (zfb b = some (zkp b))) (by decide +kernel) b)
theorem zmC (b : UInt8) : zcU b = some (zO b) :=
  of_decide_eq_true (zM (fun b => decide (zcU b = some (zO b))) (by decide +kernel) b)
theorem zig (b : UInt8) : zd9 b = some (zeC b) :=
  of_decide_eq_true (zM (fun b => decide (zd9 b = some (zeC b))) (by decide +kernel) b)
theorem zns (b : UInt8) : zgZ b = some (zkp b) :=
  of_decide_eq_true (zM (fun b => decide (zgZ b = some (zkp b))) (by decide +kernel) b)

theorem zoD (b : UInt8) (l : Str) : l.any (fun x => x == b) = l.contains b := by
  induction l with
  | nil => rfl
  | cons x l ih =>
    simp only [List.any_cons, List.contains_cons, ih]
    congr 1
    rw [Bool.eq_iff_iff, beq_iff_eq, beq_iff_eq]; exact eq_comm
theorem zpE (b : UInt8) (l : Str) (hl : l.length < 1000000000) : zew b l = some (l.contains b) := by
  unfold zew
  rw [zg3 l (zcT b l) (fun x r => if (x == b) = true then some true else r) (some false) (by omega)]
  · rw [zr9, zoD]
  · intro n; rw [zcT]; simp only [Int.lt_irrefl, decide_false, Bool.false_eq_true, if_false]
  · intro n i x hi hx
    rw [zcT]
    simp only [Int.ofNat_lt, hi, decide_true, if_true, zab, hx, Option.bind_some, zq (show i < 4611686018427387904 by omega)]

theorem zdn {p : UInt8 → Bool} {f : UInt8 → Option Bool} (hf : ∀ b, f b = some (p b)) (s : Str) (hs : s.length < 1000000000) : zcm f [s] = some (s.all p) := by
  unfold zcm
  have h2 : ∀ (rec1 : Int → Option Bool) (i : Int), zbQ rec1 f i s fuel 0 = s.foldr (fun x r => if p x = true then r else some false) ((zE i 1).bind rec1) := by
    intro rec1 i
    refine zg3 s (zbQ rec1 f i s) _ _ (by omega) ?_ ?_
    · intro n; rw [zbQ]; simp only [Int.lt_irrefl, decide_false, Bool.false_eq_true, if_false]
    · intro n k x hk hx
      rw [zbQ]
      simp only [Int.ofNat_lt, hk, decide_true, if_true, zab, hx, Option.bind_some, hf, zq (show k < 4611686018427387904 by omega)]
      cases p x <;> rfl
  rw [zg3 [s] (zbR f [s]) (fun x r => x.foldr (fun x r => if p x = true then r else some false) r) (some true) (by simp)]
  · simp only [List.foldr_cons, List.foldr_nil]
    exact zri p s
  · intro n; rw [zbR]; simp only [Int.lt_irrefl, decide_false, Bool.false_eq_true, if_false]
  · intro n i x hi hx
    have hi0 : i = 0 := by simp at hi; exact hi
    subst hi0
    simp at hx; subst hx
    rw [zbR]
    simp [h2, zbi]
def zbc (b : UInt8) : Bool := zr5 b || zO b || ([33, 35, 36, 37, 38, 39, 42, 43, 45, 46, 94, 95, 96, 124, 126] : Str).contains b
def zfs (b : UInt8) : Bool := decide (32 ≤ b) && !(b == 127) || b == 9
theorem zkY (b : UInt8) : zbV b = some (zbc b) :=
  of_decide_eq_true (zM (fun b => decide (zbV b = some (zbc b))) (by decide +kernel) b)
theorem zhR (b : UInt8) : zaH b = some (zfs b) :=
  of_decide_eq_true (zM (fun b => decide (zaH b = some (zfs b))) (by decide +kernel) b)
theorem ziC (b : UInt8) : zbo b = some (zhx b) :=
  of_decide_eq_true (zM (fun b => decide (zbo b = some (zhx b))) (by decide +kernel) b)
theorem zmD (b : UInt8) : zeU b = some (znr b) :=
  of_decide_eq_true (zM (fun b => decide (zeU b = some (znr b))) (by decide +kernel) b)
theorem zoE (b : UInt8) : zhK b = some (zbc b) :=
  of_decide_eq_true (zM (fun b => decide (zhK b = some (zbc b))) (by decide +kernel) b)
theorem zi2 (b : UInt8) : ze2 b = some (zfs b) :=
  of_decide_eq_true (zM (fun b => decide (ze2 b = some (zfs b))) (by decide +kernel) b)
theorem zjt (b : UInt8) : zb2 b = some (zhx b) :=
  of_decide_eq_true (zM (fun b => decide (zb2 b = some (zhx b))) (by decide +kernel) b)
theorem zoF (b : UInt8) : zgC b = some (znr b) :=
  of_decide_eq_true (zM (fun b => decide (zgC b = some (znr b))) (by decide +kernel) b)
theorem zjH {α : Type} (p : α → Bool) (l : List α) (e : Bool) : l.foldr (fun x r => if p x = true then r else some false) (some e) = some (l.all p && e) := by
  induction l with
  | nil => simp
  | cons x l ih => simp only [List.foldr_cons, ih, List.all_cons]; cases p x <;> simp
def zgg (s : Str) : Bool := s.all zbc && !(s == [])
theorem zi3 (s : Str) (hs : s.length < 1000000000) : zdH s = some (zgg s) := by
  unfold zdH
  rw [zg3 s (zbz s) (fun x r => if zbc x = true then r else some false) (some (!(s == []))) (by omega)]
  · rw [zjH]; rfl
  · intro n; rw [zbz]; simp only [Int.lt_irrefl, decide_false, Bool.false_eq_true, if_false]
    cases s <;> simp
  · intro n i x hi hx
    rw [zbz]
    simp only [Int.ofNat_lt, hi, decide_true, if_true, zab, hx, Option.bind_some, zoE, zq (show i < 4611686018427387904 by omega)]
    cases zbc x <;> rfl
end Go.Dm
end
section
namespace Go.Dm
def zaQ (b : Nat) (l : List Nat) : Nat := l.foldl (fun n d => n * b + d) 0
theorem zn3 (b : Nat) (l : List Nat) : ∀ n, l.foldl (fun n d => n * b + d) n = n * b ^ l.length + zaQ b l := by
  unfold zaQ
  induction l with
  | nil => intro n; simp
  | cons x l ih =>
    intro n
    rw [List.foldl_cons, ih, List.foldl_cons, ih (0 * b + x), List.length_cons, Nat.pow_succ, Nat.add_mul, Nat.zero_mul, Nat.zero_add, Nat.mul_assoc, Nat.mul_comm b, Nat.add_assoc]
theorem zsw (b : Nat) : zaQ b [] = 0 := rfl
theorem zgD (b x : Nat) (l : List Nat) : zaQ b (x :: l) = x * b ^ l.length + zaQ b l := by
  have := zn3 b l (0 * b + x)
  rw [Nat.zero_mul, Nat.zero_add] at this
  rw [← this]; unfold zaQ; rw [List.foldl_cons, Nat.zero_mul, Nat.zero_add]
theorem zk6 (b x : Nat) (l : List Nat) : zaQ b (l ++ [x]) = zaQ b l * b + x := by
  unfold zaQ; rw [List.foldl_append]; rfl
theorem zlR {b : Nat} (hb : 0 < b) : ∀ {l : List Nat}, (∀ d ∈ l, d < b) → zaQ b l < b ^ l.length
  | [], _ => by simp [zaQ]
  | x :: l, h => by
    have h1 := h x (List.mem_cons_self ..)
    have h2 := zlR hb (l := l) fun d hd => h d (List.mem_cons_of_mem _ hd)
    rw [zgD, List.length_cons, Nat.pow_succ]
    have : (x + 1) * b ^ l.length ≤ b * b ^ l.length := Nat.mul_le_mul_right _ h1
    rw [Nat.add_mul, Nat.one_mul] at this
    rw [Nat.mul_comm (b ^ l.length) b]; omega
def zhm (b : Nat) : Nat → Nat → List Nat
  | 0, n => [n % b]
  | k + 1, n => if n < b then [n] else zhm b k (n / b) ++ [n % b]
def zfr (b n : Nat) : List Nat := zhm b 70 n
theorem zj6 {b n k : Nat} (hb : 2 ≤ b) (h : n < 2 ^ (k + 1)) : n / b < 2 ^ k := by
  rw [Nat.div_lt_iff_lt_mul (by omega)]
  calc n < 2 ^ (k + 1) := h
    _ = 2 ^ k * 2 := Nat.pow_succ ..
    _ ≤ 2 ^ k * b := Nat.mul_le_mul_left _ hb
theorem zj7 {b : Nat} (hb : 2 ≤ b) : ∀ (k m n : Nat), k ≤ m → n < 2 ^ (k + 1) → zhm b m n = zhm b k n
  | 0, 0, n, _, _ => rfl
  | 0, m + 1, n, _, h => by
    have hn : n < b := by have : n < 2 := by simpa using h
                          omega
    show zhm b (m + 1) n = [n % b]
    rw [zhm, if_pos hn, Nat.mod_eq_of_lt hn]
  | k + 1, 0, n, h, _ => by omega
  | k + 1, m + 1, n, hm, h => by
    rw [zhm, zhm]
    split
    · rfl
    · rw [zj7 hb k m (n / b) (by omega) (zj6 hb h)]
theorem zhX {b n : Nat} (hb : 2 ≤ b) (hn : b ≤ n) (h : n < 2 ^ 64) : zfr b n = zfr b (n / b) ++ [n % b] := by
  have h1 := zj7 hb 64 70 n (by decide) (Nat.lt_of_lt_of_le h (Nat.pow_le_pow_right (by decide) (by decide)))
  have h2 := zj7 hb 63 70 (n / b) (by decide) (zj6 hb (Nat.lt_of_lt_of_le h (Nat.pow_le_pow_right (by decide) (by decide))))
  unfold zfr
  rw [h1, h2, zhm, if_neg (by omega)]
theorem zc4 {b n : Nat} (hn : n < b) : zfr b n = [n] := by unfold zfr; rw [zhm, if_pos hn]
theorem zkJ {b : Nat} (hb : 2 ≤ b) {P : Nat → Prop} (h0 : ∀ n, n < b → P n) (h1 : ∀ n, b ≤ n → n < 2 ^ 64 → P (n / b) → P n) : ∀ n, n < 2 ^ 64 → P n := by
  intro n
  induction n using Nat.strongRecOn with
  | _ n ih =>
    intro hn
    by_cases h : n < b
    · exact h0 n h
    · have : n / b < n := Nat.div_lt_self (by omega) (by omega)
      exact h1 n (by omega) hn (ih _ this (by omega))
theorem zpT {b : Nat} (hb : 2 ≤ b) : ∀ n, n < 2 ^ 64 → zaQ b (zfr b n) = n :=
  zkJ hb (fun n h => by rw [zc4 h]; simp [zaQ]) fun n h hn ih => by
    rw [zhX hb h hn, zk6, ih, Nat.mul_comm]; exact Nat.div_add_mod n b
theorem zty {b : Nat} (hb : 2 ≤ b) : ∀ n, n < 2 ^ 64 → ∀ d ∈ zfr b n, d < b :=
  zkJ hb (fun n h d hd => by rw [zc4 h] at hd; simp at hd; omega) fun n h hn ih d hd => by
    rw [zhX hb h hn] at hd
    rcases List.mem_append.1 hd with hd | hd
    · exact ih d hd
    · simp at hd; subst hd; exact Nat.mod_lt _ (by omega)
theorem zoV {b n : Nat} : zfr b n ≠ [] := by
  unfold zfr; rw [zhm]; split <;> simp
theorem zn4 {b : Nat} (hb : 2 ≤ b) : ∀ n, n < 2 ^ 64 → n = 0 ∨ (zfr b n).head? ≠ some 0 :=
  zkJ hb (fun n h => by
    rw [zc4 h]; by_cases e : n = 0
    · exact .inl e
    · exact .inr (by simpa using e)) fun n h hn ih => by
    right
    rw [zhX hb h hn]
    rcases ih with h0 | h0
    · have : b ≤ n := h
      have : 0 < n / b := Nat.div_pos h (by omega)
      omega
    · cases hd : zfr b (n / b) with
      | nil => exact absurd hd zoV
      | cons x l => rw [hd] at h0; simpa using h0
theorem zsx {b : Nat} (hb : 2 ≤ b) : ∀ n, n < 2 ^ 64 → (zfr b n).length ≤ 71 := by
  have : ∀ k n, (zhm b k n).length ≤ k + 1 := by
    intro k
    induction k with
    | zero => intro n; simp [zhm]
    | succ k ih => intro n; rw [zhm]; split
                   · simp
                   · simp; exact ih _
  intro n _; exact this 70 n
def zmU : List Nat → List Nat → Bool
  | _, [] => false
  | [], _ :: _ => true
  | x :: l, y :: m => decide (x < y) || (x == y && zmU l m)
theorem zqY {b : Nat} (hb : 0 < b) : ∀ (l m : List Nat), l.length = m.length → (∀ d ∈ l, d < b) → (∀ d ∈ m, d < b) → zmU l m = decide (zaQ b l < zaQ b m)
  | [], [], _, _, _ => by simp [zmU]
  | [], _ :: _, h, _, _ => by simp at h
  | _ :: _, [], h, _, _ => by simp at h
  | x :: l, y :: m, h, hl, hm => by
    have e : l.length = m.length := by simpa using h
    have h1 := zlR hb (l := l) fun d hd => hl d (List.mem_cons_of_mem _ hd)
    have h2 := zlR hb (l := m) fun d hd => hm d (List.mem_cons_of_mem _ hd)
    rw [zmU, zqY hb l m e (fun d hd => hl d (List.mem_cons_of_mem _ hd)) (fun d hd => hm d (List.mem_cons_of_mem _ hd)), zgD, zgD, e]
    rw [e] at h1
    rcases Nat.lt_trichotomy x y with hxy | hxy | hxy
    · have : (x + 1) * b ^ m.length ≤ y * b ^ m.length := Nat.mul_le_mul_right _ hxy
      rw [Nat.add_mul, Nat.one_mul] at this
      have h3 : x * b ^ m.length + zaQ b l < y * b ^ m.length + zaQ b m := by omega
      simp [hxy, h3]
    · subst hxy; simp
    · have : (y + 1) * b ^ m.length ≤ x * b ^ m.length := Nat.mul_le_mul_right _ hxy
      rw [Nat.add_mul, Nat.one_mul] at this
      have h3 : ¬ x * b ^ m.length + zaQ b l < y * b ^ m.length + zaQ b m := by omega
      have h4 : ¬ x < y := by omega
      have h5 : (x == y) = false := beq_eq_false_iff_ne.2 (by omega)
      simp [h3, h4, h5]
def dch (d : Nat) : UInt8 := if d < 10 then UInt8.ofNat (48 + d) else UInt8.ofNat (87 + d)
def zw (l : List Nat) : Str := l.map dch
def wor (c : UInt8) : Nat := if zO c then (c - 48).toNat else (zc3 c - 97).toNat + 10
def zhn (b : Nat) (c : UInt8) : Bool := if b = 10 then zO c else zeC c
theorem zrs : ∀ d : Nat, d < 16 → (wor (dch d) = d ∧ zeC (dch d) = true ∧ (d < 10 → zO (dch d) = true)) := by decide
theorem dch_lt : ∀ d : Nat, d < 16 → ∀ e : Nat, e < 16 → (decide (dch d < dch e) = decide (d < e) ∧ (dch d == dch e) = (d == e)) := by decide
theorem zlw : ∀ (l m : List Nat), (∀ d ∈ l, d < 16) → (∀ d ∈ m, d < 16) → zlj (zw l) (zw m) = zmU l m
  | [], [], _, _ => rfl
  | [], _ :: _, _, _ => rfl
  | _ :: _, [], _, _ => rfl
  | x :: l, y :: m, hl, hm => by
    have ih := zlw l m (fun d hd => hl d (List.mem_cons_of_mem _ hd)) (fun d hd => hm d (List.mem_cons_of_mem _ hd))
    obtain ⟨h1, h2⟩ := dch_lt x (hl x (List.mem_cons_self ..)) y (hm y (List.mem_cons_self ..))
    show (decide (dch x < dch y) || (dch x == dch y && zlj (zw l) (zw m))) = _
    rw [h1, h2, ih, zmU]
theorem zk7 (b : UInt8) : zeq b = some (wor b : Int) :=
  of_decide_eq_true (zM (fun b => decide (zeq b = some (wor b : Int))) (by decide +kernel) b)
theorem zsy (c : UInt8) : (zO c = true → wor c < 10) ∧ (zeC c = true → wor c < 16) :=
  of_decide_eq_true (zM (fun c => decide ((zO c = true → wor c < 10) ∧ (zeC c = true → wor c < 16))) (by decide +kernel) c)
theorem zmV (c : UInt8) (b : Int) (n : Nat) {i : Int} (hn : n ≤ fuel) (h : (zF c b n i).isSome = true) : zF c b fuel i = zF c b n i := by
  obtain ⟨k, hk⟩ : ∃ k, fuel = n + k := ⟨fuel - n, by omega⟩
  rw [hk]
  clear hk hn
  induction n generalizing i with
  | zero => simp [zF] at h
  | succ n ih =>
    rw [Nat.add_right_comm, zF, zF]
    rw [zF] at h
    split
    · rename_i hlt
      rw [if_pos hlt] at h
      cases hs : sAt [48, 49, 50, 51, 52, 53, 54, 55, 56, 57, 97, 98, 99, 100, 101, 102] i with
      | none => rfl
      | some x =>
        rw [hs] at h
        simp only [Option.bind_some] at h ⊢
        split
        · rfl
        · rename_i hne
          rw [if_neg hne] at h
          cases hs2 : sAt [48, 49, 50, 51, 52, 53, 54, 55, 56, 57, 65, 66, 67, 68, 69, 70] i with
          | none => rfl
          | some y =>
            rw [hs2] at h
            simp only [Option.bind_some, zdI] at h ⊢
            split
            · rfl
            · rename_i hne2
              rw [if_neg hne2] at h
              cases hi : zE i 1 with
              | none => rfl
              | some j => rw [hi] at h; exact ih h
    · rfl
theorem zmW (c : UInt8) : zcx c 10 = some (if zO c then (wor c : Int) else -1) := by
  have h1 : zF c 10 20 0 = some (if zO c then (wor c : Int) else -1) := of_decide_eq_true (zM (fun c => decide (zF c 10 20 0 = some (if zO c then (wor c : Int) else -1))) (by decide +kernel) c)
  unfold zcx
  rw [← h1]
  exact zmV c 10 20 (by decide) (by rw [h1]; rfl)
theorem zmX (c : UInt8) : zcx c 16 = some (if zeC c then (wor c : Int) else -1) := by
  have h1 : zF c 16 20 0 = some (if zeC c then (wor c : Int) else -1) := of_decide_eq_true (zM (fun c => decide (zF c 16 20 0 = some (if zeC c then (wor c : Int) else -1))) (by decide +kernel) c)
  unfold zcx
  rw [← h1]
  exact zmV c 16 20 (by decide) (by rw [h1]; rfl)
def zfO (b : Nat) : Prop := b = 10 ∨ b = 16
theorem zfO.two {b : Nat} (h : zfO b) : 2 ≤ b ∧ b ≤ 16 := by rcases h with rfl | rfl <;> omega
theorem zjb {b : Nat} (hb : zfO b) (c : UInt8) : zcx c (b : Int) = some (if zhn b c then (wor c : Int) else -1) := by
  rcases hb with rfl | rfl
  · exact zmW c
  · exact zmX c
theorem zmY {b : Nat} (hb : zfO b) {c : UInt8} (h : zhn b c = true) : wor c < b := by
  rcases hb with rfl | rfl
  · exact (zsy c).1 h
  · exact (zsy c).2 h
theorem zmZ : ∀ d : Nat, d < 16 → zeK [48, 49, 50, 51, 52, 53, 54, 55, 56, 57, 97, 98, 99, 100, 101, 102] (d : Int) ((d + 1 : Nat) : Int) = some [dch d] := by decide
theorem zpU {b : Nat} (hb : zfO b) : ∀ (k m n : Nat), k ≤ m → n < 2 ^ (k + 1) → k < 63 → zbA (m + 1) (n : Int) (b : Int) = some (zw (zfr b n)) := by
  obtain ⟨h2, h16⟩ := hb.two
  intro k
  induction k with
  | zero =>
    intro m n _ h _
    have hn : n < b := by have : n < 2 := by simpa using h
                          omega
    rw [zbA, zc4 hn]
    simp only [Int.ofNat_lt, hn, decide_true, if_true, zq (show n < 4611686018427387904 by omega), Option.bind_some, zmZ n (by omega)]
    rfl
  | succ k ih =>
    intro m n hm h hk
    obtain ⟨m, rfl⟩ : ∃ j, m = j + 1 := ⟨m - 1, by omega⟩
    have hbig : n < 2 ^ 64 := Nat.lt_of_lt_of_le h (Nat.pow_le_pow_right (by decide) (by omega))
    have hq : ∀ q : Nat, q ≤ n → inI (q : Int) = true := fun q hq => zhc.2 (by
      have : n < 2 ^ 63 := Nat.lt_of_lt_of_le h (Nat.pow_le_pow_right (by decide) (by omega))
      omega)
    rw [zbA]
    by_cases hn : n < b
    · rw [zc4 hn]
      simp only [Int.ofNat_lt, hn, decide_true, if_true, zq (show n < 4611686018427387904 by omega), Option.bind_some, zmZ n (by omega)]
      rfl
    · have e1 : zov (n : Int) (b : Int) = some ((n / b : Nat) : Int) := by
        unfold zov
        rw [if_pos ⟨by omega, by omega, by rw [← Int.natCast_ediv]; exact hq _ (Nat.div_le_self n b)⟩, Int.natCast_ediv]
      have e2 : zqe (n : Int) (b : Int) = some ((n % b : Nat) : Int) := by
        unfold zqe
        rw [if_pos ⟨by omega, by omega, by rw [← Int.natCast_emod]; exact hq _ (Nat.mod_le n b)⟩, Int.natCast_emod]
      have hlt : n % b < b := Nat.mod_lt _ (by omega)
      have hlen := zsx h2 (n / b) (by have := Nat.div_le_self n b; omega)
      have hn' : ¬ decide ((n : Int) < (b : Int)) = true := by simp; omega
      have e3 := ih m (n / b) (by omega) (zj6 h2 h) (by omega)
      have e4 := zmZ (n % b) (by omega)
      have e5 := zq (i := n % b) (by omega)
      have e6 := zhX h2 (show b ≤ n by omega) hbig
      generalize n / b = q at *
      generalize n % b = r at *
      have e7 : zht (zw (zfr b q)) [dch r] = some (zw (zfr b q) ++ [dch r]) := zfY (by simp [zw]; omega)
      rw [if_neg hn', e1, Option.bind_some, e3, Option.bind_some, e2, Option.bind_some, Option.bind_some, e5, Option.bind_some, e4, Option.bind_some, e7, Option.bind_some, e6]
      simp [zw]
theorem zgq {b : Nat} (hb : zfO b) (n : Nat) (hn : n < 2 ^ 63) : zcZ (n : Int) (b : Int) = some (zw (zfr b n)) := by
  unfold zcZ
  obtain ⟨m, hm⟩ : ∃ m, fuel = m + 1 := ⟨999999999999999999, rfl⟩
  rw [hm]
  exact zpU hb 62 m n (by unfold fuel at hm; omega) (by omega) (by omega)
def ziB (b : Nat) (n : Int) : Str := if n < 0 then [] else zw (zfr b n.toNat)
theorem znA {b : Nat} (hb : zfO b) (n : Int) (hn : inI n = true) : zgW n (b : Int) = some (ziB b n) := by
  obtain ⟨h1, h2⟩ := zhc.1 hn
  unfold zgW ziB
  by_cases h : n < 0
  · simp [h]
  · obtain ⟨k, rfl⟩ : ∃ k : Nat, n = k := ⟨n.toNat, by omega⟩
    simp [h, zgq hb k (by omega)]
theorem dec_eq : ∀ n, n < 2 ^ 64 → Go.Lib.decDigits n = zw (zfr 10 n) :=
  zkJ (b := 10) (by decide) (fun n h => by rw [Go.Lib.decDigits, dif_pos h, zc4 h]; simp [zw, dch, h]) fun n h hn ih => by
    rw [Go.Lib.decDigits, dif_neg (by omega), ih, zhX (by decide) h hn]
    have : n % 10 < 10 := Nat.mod_lt _ (by decide)
    simp [zw, dch, this]
theorem zlJ (n : Int) (hn : inI n = true) : zcX n = some (ziB 10 n) := by
  obtain ⟨h1, h2⟩ := zhc.1 hn
  unfold zcX zgv ziB
  by_cases h : n < 0
  · simp [h]
  · obtain ⟨k, rfl⟩ : ∃ k : Nat, n = k := ⟨n.toNat, by omega⟩
    have hk : ¬ ((k : Int) < 0) := by omega
    simp [hk, zds, hn, Go.Lib.itoa, dec_eq k (by omega)]
def vals (s : Str) : List Nat := s.map wor
def zam (b : Nat) (s : Str) (most : Int) : Int × Int :=
  if (s == [] || !s.all (zhn b)) = true then (0, 2) else if most < (zaQ b (vals s) : Int) then (0, 7) else (((zaQ b (vals s) : Nat) : Int), 0)
theorem ztz {b : Nat} (hb : zfO b) {s : Str} (h : s.all (zhn b) = true) : ∀ d ∈ vals s, d < b := by
  intro d hd
  obtain ⟨c, hc, rfl⟩ := List.mem_map.1 hd
  exact zmY hb (List.all_eq_true.1 h c hc)
theorem zn5 {b : Nat} (hb : 1 ≤ b) (l m : List Nat) : zaQ b l ≤ zaQ b (l ++ m) := by
  unfold zaQ
  rw [List.foldl_append]
  generalize l.foldl (fun n d => n * b + d) 0 = n
  rw [zn3]
  have : 1 ≤ b ^ m.length := Nat.one_le_pow _ _ hb
  have := Nat.le_mul_of_pos_right n this
  omega
theorem zqz {b : Nat} (hb : zfO b) (s : Str) (most : Int) (hs : s.length < 1000000000) (hd : s.all (zhn b) = true) (hm : most < 4611686018427387904) (hm0 : -4611686018427387904 < most) (hne : s ≠ []) :
    zax s (b : Int) most fuel 0 0 = some (if most < (zaQ b (vals s) : Int) then (0, 7) else (((zaQ b (vals s) : Nat) : Int), 0)) := by
  obtain ⟨h2, h16⟩ := hb.two
  have key : ∀ (n i v : Nat), i ≤ s.length → s.length - i < n → v = zaQ b (vals (s.take i)) → (i = 0 ∨ (v : Int) ≤ most) → (i < s.length ∨ (v : Int) ≤ most) →
      zax s (b : Int) most n (v : Int) (i : Int) = some (if most < (zaQ b (vals s) : Int) then (0, 7) else (((zaQ b (vals s) : Nat) : Int), 0)) := by
    intro n
    induction n with
    | zero => intro i v _ h; omega
    | succ n ih =>
      intro i v hi h hv h0 h1
      rw [zax]
      by_cases hlt : i < s.length
      · have hx : s[i]? = some s[i] := List.getElem?_eq_getElem hlt
        have hw : wor s[i] < b := zmY hb (List.all_eq_true.1 hd _ (List.getElem_mem hlt))
        have htk : vals (s.take (i + 1)) = vals (s.take i) ++ [wor s[i]] := by
          unfold vals
          rw [List.take_succ_eq_append_getElem hlt, List.map_append]; rfl
        have hv' : zaQ b (vals (s.take (i + 1))) = v * b + wor s[i] := by rw [htk, zk6, ← hv]
        have hle : zaQ b (vals (s.take (i + 1))) ≤ zaQ b (vals s) := by
          have := zn5 (b := b) (by omega) (vals (s.take (i + 1))) (vals (s.drop (i + 1)))
          unfold vals at this ⊢
          rwa [← List.map_append, List.take_append_drop] at this
        simp only [Int.ofNat_lt, hlt, decide_true, if_true, zab, hx, Option.bind_some, zk7]
        by_cases hov : most < (wor s[i] : Int)
        · have : most < (zaQ b (vals s) : Int) := by
            have := Nat.zero_le (v * b); omega
          simp [hov, zcn, this]
        · have hsub : zeh most (wor s[i] : Int) = some (most - (wor s[i] : Int)) := zee (by omega) (by omega)
          have hdv : zov (most - (wor s[i] : Int)) (b : Int) = some ((most - (wor s[i] : Int)) / (b : Int)) := by
            unfold zov
            have h5 : 0 ≤ (most - (wor s[i] : Int)) / (b : Int) := Int.ediv_nonneg (by omega) (by omega)
            have h6 : (most - (wor s[i] : Int)) / (b : Int) ≤ most - (wor s[i] : Int) := Int.ediv_le_self _ (by omega)
            rw [if_pos ⟨by omega, by omega, by rw [zhc]; omega⟩]
          have hiff : (most - (wor s[i] : Int)) / (b : Int) < (v : Int) ↔ most < ((v * b + wor s[i] : Nat) : Int) := by
            rw [Int.ediv_lt_iff_lt_mul (by omega)]
            push_cast
            omega
          simp only [hov, decide_false, Bool.false_eq_true, if_false, hsub, hdv, Option.bind_some, zcn]
          by_cases hov2 : (most - (wor s[i] : Int)) / (b : Int) < (v : Int)
          · have h7 : most < (zaQ b (vals s) : Int) := by have := hiff.1 hov2; omega
            simp [hov2, h7]
          · have h7 : ((v * b + wor s[i] : Nat) : Int) ≤ most := by have := (not_congr hiff).1 hov2; omega
            have hmul : zou (v : Int) (b : Int) = some ((v * b : Nat) : Int) := by
              rw [zqT (by rw [← Int.natCast_mul]; omega) (by rw [← Int.natCast_mul]; omega), Int.natCast_mul]
            have hadd : zE ((v * b : Nat) : Int) (wor s[i] : Int) = some ((v * b + wor s[i] : Nat) : Int) := by
              rw [zbi (by omega) (by omega)]; simp
            simp only [hov2, decide_false, Bool.false_eq_true, if_false, hmul, hadd, Option.bind_some, zq (show i < 4611686018427387904 by omega)]
            exact ih (i + 1) (v * b + wor s[i]) (by omega) (by omega) hv'.symm (.inr h7) (.inr h7)
      · have : i = s.length := by omega
        subst this
        rw [List.take_length] at hv
        have h8 : ¬ most < (zaQ b (vals s) : Int) := by rw [← hv]; rcases h1 with h1 | h1 <;> omega
        simp [h8, hv]
  have := key fuel 0 0 (Nat.zero_le _) (by unfold fuel; omega) (by simp [vals, zaQ]) (.inl rfl) (.inl (by cases s with | nil => exact absurd rfl hne | cons _ _ => simp))
  simpa using this
theorem zlK {b : Nat} (hb : zfO b) (s : Str) (most : Int) (hs : s.length < 1000000000) (hm : most < 4611686018427387904) (hm0 : -4611686018427387904 < most) {f : UInt8 → Option Bool} (hf : ∀ c, f c = some (zhn b c)) :
    zfa s (b : Int) most f = some (zam b s most) := by
  unfold zfa zam
  rcases zct (s == []) with h | h
  · rw [h]; simp [zco]
  · rw [h]
    rw [zdn hf s hs]
    simp only [Bool.false_eq_true, if_false, Option.bind_some, zco, Bool.false_or]
    rcases zct (s.all (zhn b)) with h2 | h2
    · rw [h2]
      simp only [Bool.not_true, Bool.false_eq_true, if_false]
      exact zqz hb s most hs h2 hm hm0 (by simpa using h)
    · rw [h2]; simp
theorem zeS (s : Str) (most : Int) (hs : s.length < 1000000000) (hm : most < 4611686018427387904) (hm0 : -4611686018427387904 < most) : zbJ s most = some (zam 10 s most) := by
  unfold zbJ
  have := zlK (.inl rfl) s most hs hm hm0 (f := zX) zfL
  rw [show ((10 : Nat) : Int) = 10 from rfl] at this
  rw [this]; rfl
def zgk : List Nat → List Nat
  | 0 :: l => zgk l
  | l => l
theorem zk8 (b : Nat) : ∀ l, zaQ b (zgk l) = zaQ b l
  | [] => rfl
  | 0 :: l => by rw [zgk, zk8 b l, zgD, Nat.zero_mul, Nat.zero_add]
  | (n + 1) :: l => rfl
theorem zm0 : ∀ l, (zgk l).head? ≠ some 0
  | [] => by simp [zgk]
  | 0 :: l => by rw [zgk]; exact zm0 l
  | (n + 1) :: l => by simp [zgk]
theorem zn6 : ∀ {l : List Nat} {d : Nat}, d ∈ zgk l → d ∈ l
  | [], _, h => h
  | 0 :: l, d, h => by rw [zgk] at h; exact List.mem_cons_of_mem _ (zn6 h)
  | (n + 1) :: l, _, h => h
theorem zn7 : ∀ l, (zgk l).length ≤ l.length
  | [] => Nat.le_refl _
  | 0 :: l => by rw [zgk]; have := zn7 l; simp; omega
  | (n + 1) :: l => Nat.le_refl _
def zgl (l : List Nat) : List Nat := if zgk l = [] then [0] else zgk l
theorem zsz {b : Nat} (hb : zfO b) (s : Str) (hs : s.length < 1000000000) :
    zga s (b : Int) = some (if s.all (zhn b) then (zw (zgl (vals s)), !(s == [])) else ([], false)) := by
  obtain ⟨h2, h16⟩ := hb.two
  unfold zga
  have key : ∀ (n i : Nat) (acc : List Nat), i ≤ s.length → s.length - i < n → acc.length ≤ i → (acc = [] ∨ acc.head? ≠ some 0) →
      zaI s (b : Int) n (zw acc) (i : Int) = some (if (s.drop i).all (zhn b) then (zw (if acc = [] then zgl (vals (s.drop i)) else acc ++ vals (s.drop i)), !(s == [])) else ([], false)) := by
    intro n
    induction n with
    | zero => intro i acc _ h; omega
    | succ n ih =>
      intro i acc hi h ha h0
      rw [zaI]
      by_cases hlt : i < s.length
      · have hx : s[i]? = some s[i] := List.getElem?_eq_getElem hlt
        rw [List.drop_eq_getElem_cons hlt]
        generalize hc : s[i] = c at hx ⊢
        simp only [Int.ofNat_lt, hlt, decide_true, if_true, zab, hx, Option.bind_some, zjb hb, List.all_cons]
        rcases zct (zhn b c) with hdg | hdg
        · have hw := zmY hb hdg
          have hw0 : ¬ ((wor c : Int) < 0) := by omega
          have hdig : zcZ (wor c : Int) (b : Int) = some [dch (wor c)] := by
            rw [zgq hb _ (by omega), zc4 hw]; rfl
          have hcat : zht (zw acc) [dch (wor c)] = some (zw (acc ++ [wor c])) := by
            rw [zfY (by simp [zw]; omega)]; simp [zw]
          simp only [hdg, if_true, hw0, decide_false, Bool.false_eq_true, if_false, zdK, zdJ, hdig, hcat, Option.bind_some, zq (show i < 4611686018427387904 by omega), Bool.true_and]
          have hvc : vals (c :: s.drop (i + 1)) = wor c :: vals (s.drop (i + 1)) := rfl
          cases acc with
          | nil =>
            by_cases hz : wor c = 0
            · have hz' : ¬ (0 < (wor c : Int)) := by omega
              simp only [show (zw [] == ([] : Str)) = true from rfl, Bool.not_true, Bool.false_eq_true, if_false, hz', decide_false]
              have := ih (i + 1) [] (by omega) (by omega) (by simp) (.inl rfl)
              rw [show zw [] = ([] : Str) from rfl] at this ⊢
              rw [this]
              simp only [if_true, hvc, hz, zgl, zgk]
            · have hz' : 0 < (wor c : Int) := by omega
              simp only [show (zw [] == ([] : Str)) = true from rfl, Bool.not_true, Bool.false_eq_true, if_false, hz', decide_true, if_true]
              rw [ih (i + 1) ([] ++ [wor c]) (by omega) (by omega) (by simp) (.inr (by simpa using hz))]
              obtain ⟨m, hm⟩ : ∃ m, wor c = m + 1 := ⟨wor c - 1, by omega⟩
              simp [hvc, zgl, hm, zgk]
          | cons y acc =>
            simp only [show (zw (y :: acc) == ([] : Str)) = false from rfl, Bool.not_false, if_true]
            have hy : (y :: acc ++ [wor c]) = [] ∨ (y :: acc ++ [wor c]).head? ≠ some 0 := by
              right
              rcases h0 with h0 | h0
              · cases h0
              · simpa using h0
            rw [ih (i + 1) (y :: acc ++ [wor c]) (by omega) (by omega) (by simp at ha ⊢; omega) hy]
            simp [hvc]
        · simp [hdg]
      · have : i = s.length := by omega
        subst this
        simp only [Int.lt_irrefl, decide_false, Bool.false_eq_true, if_false, List.drop_length, List.all_nil, if_true, zdL]
        cases acc with
        | nil => simp [zw, zgl, vals, zgk, dch]
        | cons y acc => simp [zw, vals]
  have := key fuel 0 [] (Nat.zero_le _) (by unfold fuel; omega) (by simp) (.inl rfl)
  simpa [zw] using this
theorem zpV {b : Nat} (hb : 0 < b) {l : List Nat} (h : ∀ d ∈ l, d < b) : zgl l ≠ [] ∧ (∀ d ∈ zgl l, d < b) ∧ (zgl l = [0] ∨ (zgl l).head? ≠ some 0) ∧ zaQ b (zgl l) = zaQ b l ∧ (zgl l).length ≤ l.length + 1 := by
  unfold zgl
  by_cases e : zgk l = []
  · rw [if_pos e]
    have := zk8 b l
    rw [e, zsw] at this
    refine ⟨by simp, fun d hd => by simp at hd; omega, .inl rfl, by simp [zaQ] at this ⊢; exact this, by simp⟩
  · rw [if_neg e]
    exact ⟨e, fun d hd => h d (zn6 hd), .inr (zm0 l), zk8 b l, by have := zn7 l; omega⟩
theorem zsA {b : Nat} (hb : 2 ≤ b) (l m : List Nat) (hl0 : l ≠ []) (hm0 : m ≠ []) (hl : ∀ d ∈ l, d < b) (hm : ∀ d ∈ m, d < b) (zl : l = [0] ∨ l.head? ≠ some 0) (zm : m = [0] ∨ m.head? ≠ some 0) :
    (decide (l.length < m.length) || (l.length == m.length && zmU l m)) = decide (zaQ b l < zaQ b m) := by
  have low : ∀ x : List Nat, x ≠ [] → x.head? ≠ some 0 → b ^ (x.length - 1) ≤ zaQ b x := by
    intro x hx h0
    cases x with
    | nil => exact absurd rfl hx
    | cons y t =>
      have hy : 1 ≤ y := by
        rcases Nat.eq_zero_or_pos y with e | e
        · subst e; simp at h0
        · exact e
      rw [zgD, List.length_cons, Nat.add_sub_cancel]
      have := Nat.mul_le_mul_right (b ^ t.length) hy
      rw [Nat.one_mul] at this; omega
  have cmp : ∀ x y : List Nat, x ≠ [] → y ≠ [] → (∀ d ∈ x, d < b) → (y = [0] ∨ y.head? ≠ some 0) → x.length < y.length → zaQ b x < zaQ b y := by
    intro x y hx hy hxd zy h
    have hyh : y.head? ≠ some 0 := by
      rcases zy with e | e
      · have : 1 ≤ x.length := by cases x with | nil => exact absurd rfl hx | cons _ _ => simp
        rw [e] at h
        have h' : x.length < 1 := h
        omega
      · exact e
    have h1 := zlR (b := b) (by omega) hxd
    have h2 := low y hy hyh
    have h3 : b ^ x.length ≤ b ^ (y.length - 1) := Nat.pow_le_pow_right (by omega) (by omega)
    omega
  rcases Nat.lt_trichotomy l.length m.length with h | h | h
  · have := cmp l m hl0 hm0 hl zm h
    simp [h, this]
  · rw [h, zqY (b := b) (by omega) l m h hl hm]; simp
  · have h1 := cmp m l hm0 hl0 hm zl h
    have h2 : ¬ l.length < m.length := by omega
    have h3 : (l.length == m.length) = false := beq_eq_false_iff_ne.2 (by omega)
    have h4 : ¬ zaQ b l < zaQ b m := by omega
    simp [h2, h3, h4]
theorem zhY (l : List Nat) : (zw l).length = l.length := by simp [zw]
theorem zk9 {b : Nat} (hb : zfO b) (l : List Nat) (q : Bool) (hl : ∀ d ∈ l, d < b) (hlen : l.length < 2000000000) (hv : zaQ b l < 4611686018427387904) :
    zb0 (b : Int) (zw l, q) fuel 0 0 = some (((zaQ b l : Nat) : Int), 0) := by
  obtain ⟨h2, h16⟩ := hb.two
  have key : ∀ (n i v : Nat), i ≤ l.length → l.length - i < n → v = zaQ b (l.take i) → zb0 (b : Int) (zw l, q) n (v : Int) (i : Int) = some (((zaQ b l : Nat) : Int), 0) := by
    intro n
    induction n with
    | zero => intro i v _ h; omega
    | succ n ih =>
      intro i v hi h hvv
      rw [zb0]
      by_cases hlt : i < l.length
      · have hx : (zw l)[i]? = some (dch l[i]) := by simp [zw, hlt]
        have hd : l[i] < b := hl _ (List.getElem_mem hlt)
        obtain ⟨w1, w2, w3⟩ := zrs l[i] (by omega)
        have hdg : zhn b (dch l[i]) = true := by
          rcases hb with rfl | rfl
          · exact w3 hd
          · exact w2
        have hv' : zaQ b (l.take (i + 1)) = v * b + l[i] := by
          rw [List.take_succ_eq_append_getElem hlt, zk6, ← hvv]
        have hle : zaQ b (l.take (i + 1)) ≤ zaQ b l := by
          have := zn5 (b := b) (by omega) (l.take (i + 1)) (l.drop (i + 1))
          rwa [List.take_append_drop] at this
        have hmul : zou (v : Int) (b : Int) = some ((v * b : Nat) : Int) := by
          rw [zqT (by rw [← Int.natCast_mul]; omega) (by rw [← Int.natCast_mul]; omega), Int.natCast_mul]
        have hadd : zE ((v * b : Nat) : Int) (l[i] : Int) = some ((v * b + l[i] : Nat) : Int) := by
          rw [zbi (by omega) (by omega)]; simp
        simp only [zhY, Int.ofNat_lt, hlt, decide_true, if_true, hmul, Option.bind_some, zab, hx, zjb hb, hdg, w1, hadd, zq (show i < 4611686018427387904 by omega)]
        exact ih (i + 1) _ (by omega) (by omega) hv'.symm
      · have : i = l.length := by omega
        subst this
        rw [List.take_length] at hvv
        simp [zhY, hvv]
  have := key fuel 0 0 (Nat.zero_le _) (by unfold fuel; omega) (by simp [zaQ])
  simpa using this
theorem zjM {b : Nat} (hb : zfO b) (s : Str) (most : Int) (hs : s.length < 1000000000) (hm : most < 4611686018427387904) (hm0 : -4611686018427387904 < most) : zfF s (b : Int) most = some (zam b s most) := by
  obtain ⟨h2, h16⟩ := hb.two
  unfold zfF zam
  rw [zsz hb s hs, Option.bind_some]
  rcases zct (s.all (zhn b)) with hd | hd
  · rw [hd]
    simp only [if_true, Bool.not_true, Bool.or_false]
    rcases zct (s == []) with he | he
    · rw [he]; simp
    · rw [he]
      have hv := ztz hb hd
      obtain ⟨c1, c2, c3, c4, c5⟩ := zpV (b := b) (by omega) hv
      have hlen : (vals s).length = s.length := by simp [vals]
      simp only [Bool.not_false, Bool.not_true, Bool.false_eq_true, if_false]
      by_cases hneg : most < 0
      · have h7 : most < (zaQ b (vals s) : Int) := by omega
        simp [hneg, h7, zdh]
      · obtain ⟨k, rfl⟩ : ∃ k : Nat, most = k := ⟨most.toNat, by omega⟩
        have hk : k < 2 ^ 64 := by omega
        have hless : zgV (zw (zfr b k)) (zw (zgl (vals s))) = some (decide (k < zaQ b (vals s))) := by
          unfold zgV
          have d1 := zty h2 k hk
          have d3 : zfr b k = [0] ∨ (zfr b k).head? ≠ some 0 := by
            rcases zn4 h2 k hk with e | e
            · left; subst e; exact zc4 (by omega)
            · exact .inr e
          have := zsA h2 (zfr b k) (zgl (vals s)) zoV c1 d1 c2 d3 c3
          rw [zpT h2 k hk, c4] at this
          rw [← this, zhY, zhY, zlw _ _ (fun d hd => by have := d1 d hd; omega) (fun d hd => by have := c2 d hd; omega)]
          by_cases h1 : (zfr b k).length < (zgl (vals s)).length
          · simp [h1, zbZ]
          · by_cases h3 : (zfr b k).length = (zgl (vals s)).length
            · simp [h3, zbZ]
            · have h4 : (((zfr b k).length : Int) == ((zgl (vals s)).length : Int)) = false := beq_eq_false_iff_ne.2 (by omega)
              simp [h1, h3, h4, zbZ]
        simp only [hneg, decide_false, Bool.false_eq_true, if_false, zgq hb k (by omega), Option.bind_some, hless, zdh]
        by_cases h7 : k < zaQ b (vals s)
        · have h8 : (k : Int) < (zaQ b (vals s) : Int) := by omega
          simp [h7, h8]
        · have h8 : ¬ ((k : Int) < (zaQ b (vals s) : Int)) := by omega
          simp only [h7, decide_false, Bool.false_eq_true, if_false, h8]
          rw [zk9 hb _ _ c2 (by omega) (by rw [c4]; omega), c4]
  · rw [hd]; simp
end Go.Dm
end
section
namespace Go.Dm
def low (s : Str) : Str := s.map zc3
theorem zfW (s : Str) (hs : s.length < 1000000000) : zeM s = some (low s) := by
  unfold zeM
  rw [if_pos (by omega)]
  unfold low
  clear hs
  induction s with
  | nil => rfl
  | cons x s ih => simp [List.mapM_cons, zmB, ih]
theorem upAt : ∀ j : Nat, j < 26 → (([65, 66, 67, 68, 69, 70, 71, 72, 73, 74, 75, 76, 77, 78, 79, 80, 81, 82, 83, 84, 85, 86, 87, 88, 89, 90] : Str)[j]? = some (UInt8.ofNat (65 + j)) ∧
    zeK [97, 98, 99, 100, 101, 102, 103, 104, 105, 106, 107, 108, 109, 110, 111, 112, 113, 114, 115, 116, 117, 118, 119, 120, 121, 122] (j : Int) ((j + 1 : Nat) : Int) = some [UInt8.ofNat (97 + j)]) := by decide
theorem zkU (rec1 : Str → Int → Option Str) (t : Str) (s4 : Str) (i : Nat) (x : UInt8) (hx : t[i]? = some x) : ∀ (k j n : Nat) (s : Str), j + k = 26 → k < n →
    za3 rec1 t s4 (i : Int) n s (j : Int) = (zht s4 (if 65 + j ≤ x.toNat ∧ x.toNat < 91 then [x + 32] else s)).bind fun s27 => (zE (i : Int) 1).bind fun i29 => rec1 s27 i29 := by
  intro k
  induction k with
  | zero =>
    intro j n s hj hn
    obtain ⟨n, rfl⟩ : ∃ m, n = m + 1 := ⟨n - 1, by omega⟩
    obtain rfl : j = 26 := by omega
    have h0 : ¬ (65 + 26 ≤ x.toNat ∧ x.toNat < 91) := by omega
    rw [za3, if_neg h0]
    rfl
  | succ k ih =>
    intro j n s hj hn
    obtain ⟨n, rfl⟩ : ∃ m, n = m + 1 := ⟨n - 1, by omega⟩
    obtain ⟨h1, h2⟩ := upAt j (by omega)
    have hj26 : (j : Int) < 26 := by omega
    rw [za3]
    simp only [hj26, decide_true, if_true, zab, h1, hx, Option.bind_some, zq (show j < 4611686018427387904 by omega), h2, zez]
    rw [ih (j + 1) n _ (by omega) (by omega), ih (j + 1) n _ (by omega) (by omega)]
    by_cases he : UInt8.ofNat (65 + j) = x
    · subst he
      have e1 : (UInt8.ofNat (65 + j)).toNat = 65 + j := by simp; omega
      have e2 : UInt8.ofNat (97 + j) = UInt8.ofNat (65 + j) + 32 := by
        apply UInt8.toNat_inj.1; simp; omega
      simp only [beq_self_eq_true, if_true, e1]
      rw [if_neg (by omega), if_pos (by omega), e2]
    · have hb : (UInt8.ofNat (65 + j) == x) = false := beq_eq_false_iff_ne.2 he
      have hne : x.toNat ≠ 65 + j := fun e => he (by apply UInt8.toNat_inj.1; simp; omega)
      simp only [hb, Bool.false_eq_true, if_false]
      have : (65 + (j + 1) ≤ x.toNat ∧ x.toNat < 91) ↔ (65 + j ≤ x.toNat ∧ x.toNat < 91) := by omega
      simp only [this]
theorem zrc (x : UInt8) : (if 65 ≤ x.toNat ∧ x.toNat < 91 then [x + 32] else [x]) = [zc3 x] := by
  have hi : (65 ≤ x ∧ x ≤ 90) ↔ (65 ≤ x.toNat ∧ x.toNat < 91) := by
    have h1 : (65 ≤ x) ↔ (65 ≤ x.toNat) := Iff.rfl
    have h2 : (x ≤ 90) ↔ (x.toNat ≤ 90) := Iff.rfl
    rw [h1, h2]; omega
  unfold zc3
  by_cases h : 65 ≤ x.toNat ∧ x.toNat < 91
  · rw [if_pos h, if_pos (hi.2 h)]
  · rw [if_neg h, if_neg (fun e => h (hi.1 e))]
theorem zhv (s : Str) (hs : s.length < 1000000000) : zeN s = some (low s) := by
  unfold zeN
  have key : ∀ (n i : Nat) (acc : Str), acc.length = i → i ≤ s.length → s.length - i < n → za4 s n acc (i : Int) = some (acc ++ low (s.drop i)) := by
    intro n
    induction n with
    | zero => intro i acc _ _ h; omega
    | succ n ih =>
      intro i acc ha hi h
      rw [za4]
      by_cases hlt : i < s.length
      · have hx : s[i]? = some s[i] := List.getElem?_eq_getElem hlt
        have e1 : (s.take (i + 1)).drop i = [s[i]] := by
          rw [List.drop_take, List.drop_eq_getElem_cons hlt, show i + 1 - i = 1 by omega]
          rfl
        have h2 := zkU (za4 s n) s acc i s[i] hx 26 0 fuel [s[i]] rfl (by unfold fuel; omega)
        simp only [Int.natCast_zero, Nat.add_zero, zrc] at h2
        simp only [Int.ofNat_lt, hlt, decide_true, if_true, zq (show i < 4611686018427387904 by omega), Option.bind_some, zdb (show i ≤ i + 1 by omega) (show i + 1 ≤ s.length by omega), e1, h2, zfY (show acc.length + [zc3 s[i]].length ≤ 9223372036854775807 by simp; omega)]
        rw [ih (i + 1) _ (by simp [ha]) (by omega) (by omega), List.drop_eq_getElem_cons hlt]
        show some ((acc ++ [zc3 s[i]]) ++ low (s.drop (i + 1))) = some (acc ++ (zc3 s[i] :: low (s.drop (i + 1))))
        rw [List.append_assoc]
        rfl
      · have : i = s.length := by omega
        subst this
        simp [low]
  have := key fuel 0 [] rfl (Nat.zero_le _) (by unfold fuel; omega)
  simpa using this
theorem znm (a b : Str) (ha : a.length < 1000000000) (hb : b.length < 1000000000) : zgR a b = some (low a == low b) := by
  unfold zgR
  rw [zfW a ha, zfW b hb]; rfl
end Go.Dm
end
section
namespace Go.Dm
def upto (cs s : Str) : Str := s.takeWhile (fun c => !cs.contains c)
def z8 (cs s : Str) : Str := s.dropWhile (fun c => !cs.contains c)
theorem zbl (cs s : Str) : upto cs s ++ z8 cs s = s := List.takeWhile_append_dropWhile
theorem zh2 (cs s : Str) : (upto cs s).length ≤ s.length := by
  have := congrArg List.length (zbl cs s); simp at this; omega
theorem zhC (cs s : Str) : s.take (upto cs s).length = upto cs s := by
  have h := zbl cs s
  conv => lhs; arg 2; rw [← h]
  exact List.take_left
theorem zfA (cs s : Str) : s.drop (upto cs s).length = z8 cs s := by
  have h := zbl cs s
  conv => lhs; arg 2; rw [← h]
  exact List.drop_left
theorem zcs (cs s : Str) : z8 cs s = [] ↔ (upto cs s).length = s.length := by
  have h := congrArg List.length (zbl cs s)
  simp only [List.length_append] at h
  rw [← List.length_eq_zero_iff]; omega
theorem zji {cs s : Str} {c : UInt8} {r : Str} (h : z8 cs s = c :: r) : cs.contains c = true := by
  have := List.head?_dropWhile_not (fun c => !cs.contains c) s
  unfold z8 at h
  rw [h] at this
  simpa using this
theorem zlY {cs s : Str} : ∀ c ∈ upto cs s, cs.contains c = false := by
  intro c hc
  have h : (upto cs s).all (fun c => !cs.contains c) = true := List.all_takeWhile
  have := List.all_eq_true.1 h c hc
  simpa using this
theorem zf0 {cs s : Str} {x : UInt8} (h : cs.contains x = true) : upto cs (x :: s) = [] := by
  unfold upto; rw [List.takeWhile_cons_of_neg (by rw [h]; simp)]
theorem zf1 {cs s : Str} {x : UInt8} (h : cs.contains x = true) : z8 cs (x :: s) = x :: s := by
  unfold z8; rw [List.dropWhile_cons_of_neg (by rw [h]; simp)]
theorem zf2 {cs s : Str} {x : UInt8} (h : cs.contains x = false) : upto cs (x :: s) = x :: upto cs s := by
  unfold upto; rw [List.takeWhile_cons_of_pos (by rw [h]; rfl)]
theorem zf3 {cs s : Str} {x : UInt8} (h : cs.contains x = false) : z8 cs (x :: s) = z8 cs s := by
  unfold z8; rw [List.dropWhile_cons_of_pos (by rw [h]; rfl)]

theorem znD (cs : Str) : ∀ (s : Str) (k : Nat), ziX s cs k = if z8 cs s = [] then -1 else ((k + (upto cs s).length : Nat) : Int)
  | [], k => by simp [ziX, z8]
  | x :: s, k => by
    simp only [ziX]
    by_cases h : cs.contains x = true
    · rw [if_pos h, zf0 h, zf1 h]; simp
    · have h' : cs.contains x = false := by simpa using h
      rw [if_neg h, znD cs s (k + 1)]
      rw [zf3 h', zf2 h', List.length_cons]
      split
      · rfl
      · congr 1; omega
theorem zom (s p : Str) (hs : s.length < 1000000000) : stringslite_HasPrefix s p = some (p.isPrefixOf s) := by
  unfold stringslite_HasPrefix
  by_cases h : p.length ≤ s.length
  · have h' : (p.length : Int) ≤ (s.length : Int) := by omega
    simp only [h', decide_true, if_true, zef h, Option.bind_some, zan]
    congr 1
    rw [Bool.eq_iff_iff, beq_iff_eq, List.isPrefixOf_iff_prefix, List.prefix_iff_eq_take]
    exact eq_comm
  · have h' : ¬ (p.length : Int) ≤ (s.length : Int) := by omega
    simp only [h', decide_false, Bool.false_eq_true, if_false, zan]
    congr 1
    rw [eq_comm, Bool.eq_false_iff]
    intro hp
    rw [List.isPrefixOf_iff_prefix] at hp
    exact h hp.length_le
theorem zdz (s p : Str) (hs : s.length < 1000000000) : strings_HasPrefix s p = some (p.isPrefixOf s) := by
  unfold strings_HasPrefix
  rw [zom s p hs]; rfl
theorem zgr (s cs : Str) (hs : s.length < 1000000000) (hc : cs.length < 1000000000) (ha : cs.all (fun c => c.toNat < 128) = true) :
    strings_IndexAny s cs = some (if z8 cs s = [] then -1 else ((upto cs s).length : Int)) := by
  unfold strings_IndexAny
  rw [if_pos ⟨by omega, by omega, ha⟩, znD, Nat.zero_add]
theorem zo6 (cs s : Str) : z8 cs s = [] ↔ s.any cs.contains = false := by
  induction s with
  | nil => simp [z8]
  | cons x s ih =>
    rcases zct (cs.contains x) with h | h
    · rw [zf1 h, List.any_cons, h]; simp
    · rw [zf3 h, ih, List.any_cons, h, Bool.false_or]
theorem ze6 (s cs : Str) (hs : s.length < 1000000000) (hc : cs.length < 1000000000) (ha : cs.all (fun c => c.toNat < 128) = true) : strings_ContainsAny s cs = some (s.any cs.contains) := by
  unfold strings_ContainsAny
  rw [zgr s cs hs hc ha, Option.bind_some]
  rcases zct (s.any cs.contains) with h | h
  · have e : ¬ z8 cs s = [] := fun e => by rw [(zo6 cs s).1 e] at h; cases h
    rw [if_neg e, h]; simp
  · rw [if_pos ((zo6 cs s).2 h), h]; rfl

end Go.Dm
end
section
namespace Go.Dm
def scn (s : Str) (k : Nat) : scan_Scanner := ⟨s, (k : Int)⟩
theorem zhl (s : Str) : zgP s = some (scn s 0) := rfl
theorem zqy (s : Str) (k : Nat) : zeG (scn s k) = some (k : Int) := rfl
theorem zkH {s : Str} {k : Nat} (h : k ≤ s.length) : zQ (scn s k) = some (s.drop k) := by
  unfold zQ scn
  rw [zag h]; rfl
theorem zja {s : Str} {k : Nat} (h : k ≤ s.length) : zaU (scn s k) = some (s.drop k == []) := by
  unfold zaU
  rw [zkH h]; rfl
theorem zhz {s : Str} {k : Nat} (h : k ≤ s.length) (hd : s.drop k = []) : zU (scn s k) = some (0, false) := by
  unfold zU
  rw [zja h, hd]; rfl
theorem zg8 {s : Str} {k : Nat} {x : UInt8} {r : Str} (h : k ≤ s.length) (hd : s.drop k = x :: r) : zU (scn s k) = some (x, true) := by
  unfold zU
  rw [zja h, hd]
  have hx : s[k]? = some x := by
    have := congrArg (·[0]?) hd
    simpa using this
  simp [scn, hx]
theorem zny {s : Str} {k : Nat} (b : UInt8) (h : k ≤ s.length) (hd : s.drop k = []) : zC (scn s k) b = some (false, scn s k) := by
  unfold zC
  rw [zhz h hd]; rfl
theorem zmT {s : Str} {k : Nat} {x : UInt8} {r : Str} (b : UInt8) (h : k ≤ s.length) (hs : s.length < 1000000000) (hd : s.drop k = x :: r) : zC (scn s k) b = some (x == b, if x == b then scn s (k + 1) else scn s k) := by
  unfold zC
  rw [zg8 h hd]
  simp only [Option.bind_some, Bool.not_true, Bool.false_eq_true, if_false, zbx]
  rcases zct (x == b) with hb | hb
  · rw [hb]; simp [scn, zq (show k < 4611686018427387904 by omega)]
  · rw [hb]; simp
theorem zkI {s : Str} {k : Nat} {x : UInt8} {r : Str} (hd : s.drop k = x :: r) : k < s.length ∧ s.drop (k + 1) = r := by
  have hl : k < s.length := by
    rcases Nat.lt_or_ge k s.length with h | h
    · exact h
    · rw [List.drop_eq_nil_of_le h] at hd; cases hd
  refine ⟨hl, ?_⟩
  rw [List.drop_eq_getElem_cons hl] at hd
  exact (List.cons.inj hd).2
theorem znz {f : UInt8 → Option Bool} {p : UInt8 → Bool} (hf : ∀ b, f b = some (p b)) {s : Str} {k : Nat} (hs : s.length < 1000000000) (hk : k ≤ s.length) :
    zai (scn s k) f = some ((s.drop k).takeWhile p, scn s (k + ((s.drop k).takeWhile p).length)) := by
  unfold zai
  rw [zqy, Option.bind_some]
  show zN f k fuel s k = _
  have key : ∀ (n i : Nat), k ≤ i → i ≤ s.length → s.length - i < n → zN f k n s i = some ((s.take (i + ((s.drop i).takeWhile p).length)).drop k, scn s (i + ((s.drop i).takeWhile p).length)) := by
    intro n
    induction n with
    | zero => intro i _ _ h; omega
    | succ n ih =>
      intro i hki hi h
      rw [zN]
      have e : (⟨s, (i : Int)⟩ : scan_Scanner) = scn s i := rfl
      rw [e]
      cases hd : s.drop i with
      | nil =>
        rw [zhz hi hd]
        simp [zaF, zbj, zdb hki hi, scn]
      | cons x r =>
        obtain ⟨hlt, hr⟩ := zkI hd
        rw [zg8 hi hd]
        simp only [Option.bind_some, Bool.not_true, Bool.false_eq_true, if_false, hf, zaF, zq (show i < 4611686018427387904 by omega), ih (i + 1) (by omega) (by omega) (by omega), hr, List.takeWhile_cons]
        rcases zct (p x) with hp | hp
        · rw [hp]; simp [Nat.add_assoc, Nat.add_comm 1]
        · rw [hp]; simp [zbj, zdb hki hi, scn]
  rw [key fuel k (Nat.le_refl _) hk (by unfold fuel; omega)]
  congr 2
  rw [List.drop_take, Nat.add_sub_cancel_left]
  have := List.takeWhile_prefix (l := s.drop k) p
  exact (List.prefix_iff_eq_take.1 this).symm
theorem zio (p : UInt8 → Bool) (s : Str) : (s.takeWhile p).length ≤ s.length := (List.takeWhile_prefix p).length_le
theorem zrr (p : UInt8 → Bool) (s : Str) (k : Nat) (hk : k ≤ s.length) : s.drop (k + ((s.drop k).takeWhile p).length) = (s.drop k).dropWhile p ∧ k + ((s.drop k).takeWhile p).length ≤ s.length := by
  refine ⟨?_, ?_⟩
  · rw [← List.drop_drop]
    generalize s.drop k = t
    have h := List.takeWhile_append_dropWhile (p := p) (l := t)
    conv => lhs; arg 2; rw [← h]
    exact List.drop_left
  · have := zio p (s.drop k)
    rw [List.length_drop] at this; omega
end Go.Dm
end
section
namespace Go.Dm
structure At (s : Str) (k : Nat) (r : Str) : Prop where
  le : k ≤ s.length
  drop : s.drop k = r
theorem At.zero (s : Str) : At s 0 s := ⟨Nat.zero_le _, rfl⟩
theorem At.len {s : Str} {k : Nat} {r : Str} (h : At s k r) : k + r.length = s.length := by
  have := congrArg List.length h.drop
  rw [List.length_drop] at this
  have := h.le
  omega
theorem At.le_len {s : Str} {k : Nat} {r : Str} (h : At s k r) : r.length ≤ s.length := by have := h.len; omega
theorem At.next {s : Str} {k : Nat} {r : Str} (h : At s k r) (n : Nat) (hn : n ≤ r.length) : At s (k + n) (r.drop n) :=
  ⟨by have := h.len; omega, by rw [← List.drop_drop, h.drop]⟩
def peekR : Str → UInt8 × Bool
  | [] => (0, false)
  | x :: _ => (x, true)
def zfv (b : UInt8) (r : Str) : Bool := r.head? == some b
def zaD (b : UInt8) (r : Str) : Str := if zfv b r then r.drop 1 else r
theorem zdA (b x : UInt8) (r : Str) : zfv b (x :: r) = (x == b) := Option.some_beq_some ..
theorem zb4 (b : UInt8) (r : Str) : zaD b (b :: r) = r := by unfold zaD; rw [zdA, beq_self_eq_true, if_pos rfl]; rfl
theorem zfC {b : UInt8} {r : Str} (h : zfv b r = true) : r = b :: zaD b r := by
  cases r with
  | nil => cases h
  | cons x r =>
    rw [zdA] at h
    have : x = b := by simpa using h
    subst this
    rw [zb4]
section
variable {s r : Str} {k : Nat}
theorem zr2 (h : At s k r) : zaU (scn s k) = some (r == []) := by rw [zja h.le, h.drop]
theorem zlP (h : At s k r) : zQ (scn s k) = some r := by rw [zkH h.le, h.drop]
theorem zs5 (h : At s k r) : zU (scn s k) = some (peekR r) := by
  cases r with
  | nil => exact zhz h.le h.drop
  | cons x r => exact zg8 h.le h.drop
theorem zia (hs : s.length < 1000000000) (b : UInt8) (h : At s k r) : ∃ k', At s k' (zaD b r) ∧ zC (scn s k) b = some (zfv b r, scn s k') := by
  cases r with
  | nil => exact ⟨k, h, zny b h.le h.drop⟩
  | cons x r =>
    rw [zmT b h.le hs h.drop, zdA]
    unfold zaD
    rw [zdA]
    cases x == b with
    | true => exact ⟨k + 1, h.next 1 (by simp), rfl⟩
    | false => exact ⟨k, h, rfl⟩
theorem ziO {f : UInt8 → Option Bool} {p : UInt8 → Bool} (hf : ∀ b, f b = some (p b)) (hs : s.length < 1000000000) (h : At s k r) : ∃ k', At s k' (r.dropWhile p) ∧ zai (scn s k) f = some (r.takeWhile p, scn s k') := by
  have e := znz hf hs h.le
  rw [h.drop] at e
  have hd := zrr p s k h.le
  rw [h.drop] at hd
  exact ⟨_, ⟨hd.2, hd.1⟩, e⟩
theorem zpw (hs : s.length < 1000000000) (h : At s k r) : ∃ k', At s k' (r.dropWhile zbc) ∧ zbm (scn s k) = some (r.takeWhile zbc, !(r.takeWhile zbc == []), scn s k') := by
  obtain ⟨k', h1, h2⟩ := ziO zkY hs h
  refine ⟨k', h1, ?_⟩
  unfold zbm
  rw [h2]; rfl
theorem zs6 (hs : s.length < 1000000000) (t : Str) (ht : t.length < 1000000000) (h : At s k r) : ∃ k', At s k' (if t.isPrefixOf r then r.drop t.length else r) ∧ zbG (scn s k) t = some (t.isPrefixOf r, scn s k') := by
  unfold zbG
  have := h.le_len
  rw [zlP h, Option.bind_some, zdz r t (by omega), Option.bind_some]
  cases hp : t.isPrefixOf r with
  | false => exact ⟨k, h, rfl⟩
  | true =>
    have hl := (List.isPrefixOf_iff_prefix.1 hp).length_le
    have hk := h.len
    rw [if_pos rfl]
    show ∃ k', At s k' (r.drop t.length) ∧ ((zE (k : Int) (t.length : Int)).bind fun i9 => some (true, (⟨s, i9⟩ : scan_Scanner))) = _
    rw [zbi (by omega) (by omega), Option.bind_some]
    exact ⟨k + t.length, h.next _ hl, by unfold scn; simp⟩
end
end Go.Dm
end
section
namespace Go.Dm
theorem za7 (c : UInt8) (s : Str) : zi c s ≠ [] := by
  cases s with
  | nil => simp [zi]
  | cons x s =>
    unfold zi
    split
    · simp
    · split <;> simp
theorem zjv {b c : UInt8} {l : Str} (h : b ≠ c) : Go.Lib.index (b :: l) [c] = if Go.Lib.index l [c] = -1 then -1 else Go.Lib.index l [c] + 1 := by
  have hp : ([c] : List UInt8).isPrefixOf (b :: l) = false := by simp [List.isPrefixOf, Ne.symm h]
  rw [Go.Lib.index, hp]; simp
theorem zjw (c : UInt8) (l : Str) : Go.Lib.index (c :: l) [c] = 0 := by
  rw [Go.Lib.index]; simp [List.isPrefixOf]
theorem zjP (c : UInt8) : ∀ (s : Str) (k : Nat), Go.Lib.count s [c] = k → Go.Lib.splitK [c] 0 k s = zi c s
  | [], k, h => by
    rw [Go.Lib.count_one] at h
    simp at h; subst h; rfl
  | b :: l, k, h => by
    by_cases hb : b = c
    · subst hb
      rw [Go.Lib.count_cons_eq] at h
      obtain ⟨m, rfl⟩ : ∃ m, k = m + 1 := ⟨k - 1, by omega⟩
      have ih := zjP b l m (by omega)
      unfold Go.Lib.splitK
      rw [zjw]
      simp [zi, ih]
    · rw [Go.Lib.count_cons_ne b c l hb] at h
      have ih := zjP c l k h
      unfold zi
      rw [if_neg hb, ← ih]
      cases k with
      | zero => simp [Go.Lib.splitK]
      | succ k =>
        unfold Go.Lib.splitK
        rw [zjv hb]
        have hge := Go.Lib.index_ge l [c]
        by_cases hm : Go.Lib.index l [c] = -1
        · rw [Go.Lib.count_miss hm] at h; omega
        · obtain ⟨j, hj⟩ : ∃ j : Nat, Go.Lib.index l [c] = j := ⟨(Go.Lib.index l [c]).toNat, by omega⟩
          have e1 : ¬ ((j : Int) + 1 = -1) := by omega
          have e2 : ¬ ((j : Int) = -1) := by omega
          have e3 : ((j : Int) + 1).toNat = j + 1 := by omega
          rw [hj]
          simp [e1, e2, e3, Nat.add_right_comm j 1 1]
theorem zkQ (s : Str) (c : UInt8) (hs : s.length < 1000000000) : strings_Split s [c] = some (zi c s) := by
  unfold strings_Split
  rw [if_pos ⟨by omega, by simp⟩]
  rw [zjP c s _ rfl]
def zcD (p : Str) : List Str → List Str
  | [] => [p]
  | h :: t => (p ++ h) :: t
theorem zay (c x : UInt8) (s : Str) : zi c (x :: s) = if x = c then [] :: zi c s else zcD [x] (zi c s) := by
  rw [zi]
  split
  · rfl
  · cases h : zi c s <;> rfl
theorem zgE (l : List Str) (h : l ≠ []) : zcD [] l = l := by
  cases l with
  | nil => exact absurd rfl h
  | cons a t => rfl
theorem zhq (p q : Str) (l : List Str) (h : l ≠ []) : zcD p (zcD q l) = zcD (p ++ q) l := by
  cases l with
  | nil => exact absurd rfl h
  | cons a t => simp [zcD]
theorem ziF (c : UInt8) : ∀ (a s : Str), c ∉ a → zi c (a ++ s) = zcD a (zi c s)
  | [], s, _ => (zgE _ (za7 c s)).symm
  | x :: a, s, h => by
    have hx : ¬ x = c := fun e => h (by simp [e])
    rw [List.cons_append, zay, if_neg hx, ziF c a s (fun e => h (List.mem_cons_of_mem _ e)), zhq _ _ _ (za7 c s)]
    rfl
theorem ze5 {c : UInt8} {a : Str} (h : c ∉ a) : zi c a = [a] := by
  have := ziF c a [] h
  simpa [zi, zcD] using this
theorem zdx {c : UInt8} {a : Str} (s : Str) (h : c ∉ a) : zi c (a ++ c :: s) = a :: zi c s := by
  rw [ziF c a _ h, zay, if_pos rfl]
  simp [zcD]
theorem zcr {c : UInt8} : ∀ {s p : Str}, p ∈ zi c s → c ∉ p ∧ p.length ≤ s.length ∧ ∀ x ∈ p, x ∈ s
  | [], p, h => by
    simp [zi] at h; subst h; simp
  | x :: s, p, h => by
    rw [zay] at h
    split at h
    · rcases List.mem_cons.1 h with rfl | h
      · simp
      · obtain ⟨h1, h2, h3⟩ := zcr h
        exact ⟨h1, by simp; omega, fun y hy => List.mem_cons_of_mem _ (h3 y hy)⟩
    · rename_i hx
      cases hl : zi c s with
      | nil => exact absurd hl (za7 c s)
      | cons a t =>
        rw [hl] at h
        rcases List.mem_cons.1 h with rfl | h
        · obtain ⟨h1, h2, h3⟩ := zcr (c := c) (s := s) (p := a) (by rw [hl]; simp)
          refine ⟨?_, by simp; omega, ?_⟩
          · simp only [List.singleton_append, List.mem_cons, not_or]; exact ⟨fun e => hx e.symm, h1⟩
          · intro y hy
            simp only [List.singleton_append, List.mem_cons] at hy ⊢
            rcases hy with hy | hy
            · exact .inl hy
            · exact .inr (h3 y hy)
        · obtain ⟨h1, h2, h3⟩ := zcr (c := c) (s := s) (p := p) (by rw [hl]; exact List.mem_cons_of_mem _ h)
          exact ⟨h1, by simp; omega, fun y hy => List.mem_cons_of_mem _ (h3 y hy)⟩
theorem zdy (c : UInt8) : ∀ s : Str, (zi c s).length ≤ s.length + 1
  | [] => by simp [zi]
  | x :: s => by
    have ih := zdy c s
    rw [zay]
    split
    · simp; omega
    · cases hl : zi c s with
      | nil => exact absurd hl (za7 c s)
      | cons a t => rw [hl] at ih; simp [zcD] at ih ⊢; omega
theorem zgF (s : Str) (c : UInt8) (hs : s.length < 1000000000) : zdG s c = some (zi c s) := by
  unfold zdG
  have key : ∀ (n i k : Nat) (acc : List Str), k ≤ i → i ≤ s.length → acc.length ≤ i → s.length - i < n → za9 s c n acc (k : Int) (i : Int) = some (acc ++ zcD ((s.take i).drop k) (zi c (s.drop i))) := by
    intro n
    induction n with
    | zero => intro i k acc _ _ _ h; omega
    | succ n ih =>
      intro i k acc hk hi ha h
      rw [za9]
      by_cases hlt : i < s.length
      · have hx : s[i]? = some s[i] := List.getElem?_eq_getElem hlt
        have ht : (s.take (i + 1)).drop k = (s.take i).drop k ++ [s[i]] := by
          rw [List.take_succ_eq_append_getElem hlt, List.drop_append_of_le_length (by simp; omega)]
        simp only [Int.ofNat_lt, hlt, decide_true, if_true, zab, hx, Option.bind_some, zdF, zq (show i < 4611686018427387904 by omega), zdb hk hi]
        rw [List.drop_eq_getElem_cons hlt, zay]
        by_cases he : s[i] = c
        · simp only [he, beq_self_eq_true, if_true, zih (n := acc.length) (m := 1) (b := 16) (by omega) (by omega)]
          rw [ih (i + 1) (i + 1) _ (by omega) (by omega) (by simp; omega) (by omega)]
          have e0 : (s.take (i + 1)).drop (i + 1) = [] := by simp
          rw [e0, zgE _ (za7 _ _)]
          simp [zcD]
        · have hb : (s[i] == c) = false := beq_eq_false_iff_ne.2 he
          simp only [hb, Bool.false_eq_true, if_false, he]
          rw [ih (i + 1) k _ (by omega) (by omega) (by omega) (by omega), ht, zhq _ _ _ (za7 _ _)]
      · have : i = s.length := by omega
        subst this
        simp only [Int.lt_irrefl, decide_false, Bool.false_eq_true, if_false, zag hk, Option.bind_some, zih (n := acc.length) (m := 1) (b := 16) (by omega) (by omega), if_true]
        simp [zi, zcD]
  have := key fuel 0 0 [] (Nat.le_refl _) (Nat.zero_le _) (Nat.le_refl _) (by unfold fuel; omega)
  simp only [Int.natCast_zero, List.nil_append, List.take_zero, List.drop_nil, List.drop_zero] at this
  rw [this, zgE _ (za7 _ _)]
end Go.Dm
end
section
namespace Go.Dm
theorem zr4 {b : Nat} : ∀ {x : List Nat}, x ≠ [] → x.head? ≠ some 0 → b ^ (x.length - 1) ≤ zaQ b x
  | [], h, _ => absurd rfl h
  | y :: t, _, h0 => by
    have hy : 1 ≤ y := by
      rcases Nat.eq_zero_or_pos y with e | e
      · subst e; simp at h0
      · exact e
    rw [zgD, List.length_cons, Nat.add_sub_cancel]
    have := Nat.mul_le_mul_right (b ^ t.length) hy
    rw [Nat.one_mul] at this; omega
theorem zqm {k n : Nat} (hk : 1 ≤ k) (h64 : n < 2 ^ 64) (hn : n < 10 ^ k) : (zfr 10 n).length ≤ k := by
  rcases zn4 (b := 10) (by decide) n h64 with e | e
  · subst e; rw [zc4 (by decide)]; exact hk
  · have h1 := zr4 (b := 10) zoV e
    rw [zpT (by decide) n h64] at h1
    rcases Nat.lt_or_ge k (zfr 10 n).length with h | h
    · have : 10 ^ k ≤ 10 ^ ((zfr 10 n).length - 1) := Nat.pow_le_pow_right (by decide) (by omega)
      omega
    · exact h
def zcH (s : Str) (most : Int) : Bool := (zam 10 s most).2 == 0 && ziB 10 (zam 10 s most).1 == s
theorem zhO {b : Nat} {s : Str} {most : Int} (h : (zam b s most).2 = 0) (hm : most < 4611686018427387904) : 0 ≤ (zam b s most).1 ∧ (zam b s most).1 ≤ most ∧ inI (zam b s most).1 = true := by
  unfold zam at *
  split at h
  · cases h
  · rename_i h1
    rw [if_neg h1]
    split at h
    · cases h
    · rename_i h2
      rw [if_neg h2]
      refine ⟨by simp only; omega, by simp only; omega, by rw [zhc]; simp only; omega⟩
theorem zhf (s : Str) (most : Int) (hs : s.length < 1000000000) (hm : most < 4611686018427387904) (hm0 : -4611686018427387904 < most) : zb6 s most = some (zcH s most) := by
  unfold zb6 zcH
  rw [zeS s most hs hm hm0, Option.bind_some]
  by_cases h : (zam 10 s most).2 = 0
  · have hi := (zhO h hm).2.2
    simp [h, zlJ _ hi, zbH]
  · simp [h, zbH]
theorem zi1 (s : Str) (most : Int) (hs : s.length < 1000000000) (hm : most < 100000) (hm0 : -4611686018427387904 < most) : zeY s most = some (if zcH s most then (zam 10 s most).1 else -1) := by
  unfold zeY
  have hR := zjM (b := 10) (.inl rfl) s most hs (by omega) hm0
  rw [show ((10 : Nat) : Int) = 10 from rfl] at hR
  by_cases hl : 5 < (s.length : Int)
  · have : zcH s most = false := by
      rw [Bool.eq_false_iff]
      intro h
      unfold zcH at h
      simp only [Bool.and_eq_true, beq_iff_eq] at h
      obtain ⟨h1, h2⟩ := h
      obtain ⟨g1, g2, g3⟩ := zhO (b := 10) h1 (by omega)
      have hlen := congrArg List.length h2
      unfold ziB at hlen
      rw [if_neg (by omega), zhY] at hlen
      have := zqm (k := 5) (n := (zam 10 s most).1.toNat) (by decide) (by omega) (by omega)
      omega
    simp [hl, this]
  · simp only [hl, decide_false, Bool.false_eq_true, if_false, hR, Option.bind_some]
    unfold zcH
    by_cases h : (zam 10 s most).2 = 0
    · have hi := (zhO h (by omega)).2.2
      have hT := znA (b := 10) (.inl rfl) _ hi
      rw [show ((10 : Nat) : Int) = 10 from rfl] at hT
      simp only [h, beq_self_eq_true, Bool.not_true, Bool.false_eq_true, if_false, hT, Option.bind_some, zcN, Bool.true_and]
      rcases zct (ziB 10 (zam 10 s most).1 == s) with h2 | h2 <;> rw [h2] <;> simp
    · have h' : ((zam 10 s most).2 == 0) = false := beq_eq_false_iff_ne.2 h
      simp [h', zcN]
def zeP (s : Str) : Bool := (zi 46 s).all (fun x => zcH x 255) && decide (((zi 46 s).length : Int) = 4)
theorem znS {α β : Type} {f : α → Option β} {g : α → β} : ∀ {l : List α}, (∀ x ∈ l, f x = some (g x)) → l.mapM f = some (l.map g)
  | [], _ => rfl
  | x :: l, h => by
    rw [List.mapM_cons, h x (List.mem_cons_self ..), znS fun y hy => h y (List.mem_cons_of_mem _ hy)]; rfl
theorem zhP (s : Str) (hs : s.length < 1000000000) : zdf s = some (zeP s) := by
  unfold zdf zeP
  rw [if_pos hs, znS (g := fun x => zcH x 255) fun x hx => zhf x 255 (by have := (zcr hx).2.1; omega) (by decide) (by decide)]
  simp only [Option.bind_some, List.length_map, List.all_map]
  rfl
theorem zjG (s : Str) (hs : s.length < 1000000000) : zfG s = some (zeP s) := by
  unfold zfG zeP
  rw [zgF s 46 hs, Option.bind_some]
  have hlen := zdy 46 s
  have hm := fun x (h : x ∈ zi 46 s) => (zcr h).2.1
  generalize zi 46 s = l at *
  rw [zg3 l (zb1 l) (fun x r => if zcH x 255 = true then r else some false) (some (decide ((l.length : Int) = 4))) (by omega)]
  · exact zjH _ _ _
  · intro n; rw [zb1]; simp only [Int.lt_irrefl, decide_false, Bool.false_eq_true, if_false]
    rw [show ((l.length : Int) == 4) = decide ((l.length : Int) = 4) from rfl]
  · intro n i x hi hx
    have hxl := hm x (List.mem_of_getElem? hx)
    rw [zb1]
    simp only [Int.ofNat_lt, hi, decide_true, if_true, zed, hx, Option.bind_some, zi1 x 255 (by omega) (by decide) (by decide), zq (show i < 4611686018427387904 by omega)]
    rcases zct (zcH x 255) with h | h
    · have h2 : (zam 10 x 255).2 = 0 := by unfold zcH at h; simp at h; exact h.1
      have h3 := (zhO h2 (by decide)).1
      have h4 : ¬ (zam 10 x 255).1 < 0 := by omega
      rw [h]; simp [h4]
    · rw [h]; simp
def zhQ : Str → Bool
  | [] => true
  | c :: s => if c == 37 then (match s with
    | a :: b :: r => zeC a && zeC b && zhQ r
    | _ => false) else (zhx c || znr c) && zhQ s
theorem znT (s : Str) : zhQ (37 :: s) = (match s with | a :: b :: r => zeC a && zeC b && zhQ r | _ => false) := by
  rw [zhQ.eq_def]
  match s with
  | [] => rfl
  | [_] => rfl
  | _ :: _ :: _ => rfl
theorem znU (c : UInt8) (s : Str) (h : (c == 37) = false) : zhQ (c :: s) = ((zhx c || znr c) && zhQ s) := by
  rw [zhQ.eq_def]; simp only [h, Bool.false_eq_true, if_false]
def zif (s : Str) : Bool := !(s == []) && zhQ s
theorem zkW (s : Str) (hs : s.length < 1000000000) : zer s = some (zif s) := by
  unfold zer zif
  rcases zct (s == []) with h0 | h0
  · rw [h0]; simp
  rw [h0]
  simp only [Bool.false_eq_true, if_false, Bool.not_false, Bool.true_and]
  have key : ∀ (n : Nat) (s : Str), s.length < n → s.length < 1000000000 → zao n s = some (zhQ s) := by
    intro n
    induction n with
    | zero => intro s h; omega
    | succ n ih =>
      intro s h hs
      rw [zao]
      cases s with
      | nil => simp [zhQ]
      | cons c s =>
        have h1 : ((c :: s == ([] : Str))) = false := rfl
        have e1 : zbq (c :: s) 1 = some s := by
          have := zag (l := c :: s) (i := 1) (by simp)
          simpa using this
        simp only [List.length_cons] at h hs
        simp only [h1, Bool.not_false, if_true, zd7, zi5, List.getElem?_cons_zero, Option.bind_some, ziC, zmD, zcK, e1, ih s (by omega) (by omega), Bool.false_eq_true, if_false]
        rcases zct (c == 37) with hc | hc
        · have : c = 37 := by simpa using hc
          subst this
          have hu : zhx 37 = false := by decide
          have hb : znr 37 = false := by decide
          rw [znT]
          match s, h, hs with
          | [], _, _ => simp [hu, hb, zaa]
          | [a], _, _ => simp [hu, hb, zaa]
          | a :: b :: r, h, hs =>
            have h2 : (3 : Int) ≤ ((37 :: a :: b :: r : Str).length : Int) := by simp only [List.length_cons]; omega
            have e3 : zbq (37 :: a :: b :: r) 3 = some r := by
              have := zag (l := 37 :: a :: b :: r) (i := 3) (by simp)
              simpa using this
            have e2 : zeK (37 :: a :: b :: r) 1 3 = some [a, b] := by
              have := zdb (l := 37 :: a :: b :: r) (i := 1) (h := 3) (by decide) (by simp)
              simpa using this
            simp only [List.length_cons] at h hs
            simp only [h2, decide_true, if_true, beq_self_eq_true, e2, Option.bind_some, zdn zg2 [a, b] (by simp), zaa, e3, ih r (by omega) (by omega), hu, hb, Bool.false_eq_true, if_false]
            cases ha : zeC a <;> cases hb : zeC b <;> simp [ha, hb]
        · rw [znU c s hc, hc]
          simp only [Bool.false_eq_true, if_false, zaa]
          have : (if (decide ((3 : Int) ≤ ((c :: s).length : Int))) = true then some false else some false) = some false := by split <;> rfl
          rw [this]
          simp only [Option.bind_some, Bool.false_eq_true, if_false]
          cases hp : zhx c <;> cases hq : znr c <;> simp
  exact key fuel s (zoM (by omega)) hs
theorem zkX (rec1 : Int → Option Bool) (i : Nat) (t : Bool) (hi : i < 4000000000) : zbu rec1 (i : Int) t = if t = true then some false else rec1 ((i + 3 : Nat) : Int) := by
  unfold zbu zdi
  have i2 : zE (i : Int) 2 = some ((i + 2 : Nat) : Int) := by rw [zbi (by omega) (by omega)]; simp
  have i3 : zE ((i + 2 : Nat) : Int) 1 = some ((i + 3 : Nat) : Int) := zq (i := i + 2) (by omega)
  rw [i2, Option.bind_some, i3, Option.bind_some]
theorem znq (s : Str) (hs : s.length < 1000000000) : zgX s = some (zif s) := by
  unfold zgX zif
  have key : ∀ (n i : Nat), i ≤ s.length → s.length - i < n → zY s n (i : Int) = some (zhQ (s.drop i) && !(s == [])) := by
    intro n
    induction n with
    | zero => intro i _ h; omega
    | succ n ih =>
      intro i hi h
      rw [zY]
      cases hd : s.drop i with
      | nil =>
        have : i = s.length := by have := congrArg List.length hd; simp at this; omega
        subst this
        simp only [Int.lt_irrefl, decide_false, Bool.false_eq_true, if_false, zhQ, Bool.true_and]
        cases s <;> simp
      | cons c t =>
        have hlt : i < s.length := by have := congrArg List.length hd; simp at this; omega
        have hx : s[i]? = some c := by have := congrArg (·[0]?) hd; simpa using this
        have ht : s.drop (i + 1) = t := by rw [← List.drop_drop, hd]; rfl
        have htl : t.length = s.length - (i + 1) := by rw [← ht]; simp
        have i2 : zE (i : Int) 2 = some ((i + 2 : Nat) : Int) := by rw [zbi (by omega) (by omega)]; simp
        simp only [Int.ofNat_lt, hlt, decide_true, if_true, zab, hx, Option.bind_some, zq (show i < 4611686018427387904 by omega), i2]
        rcases zct (c == 37) with hc | hc
        · have : c = 37 := by simpa using hc
          subst this
          rw [znT]
          match t, ht, htl with
          | [], ht, htl =>
            have : (s.length : Int) ≤ ((i + 2 : Nat) : Int) := by simp at htl; omega
            simp only [beq_self_eq_true, if_true, this, decide_true, zbu, Bool.false_and]
          | [a], ht, htl =>
            have : (s.length : Int) ≤ ((i + 2 : Nat) : Int) := by simp at htl; omega
            simp only [beq_self_eq_true, if_true, this, decide_true, zbu, Bool.false_and]
          | a :: b :: r, ht, htl =>
            have hlt2 : ¬ (s.length : Int) ≤ ((i + 2 : Nat) : Int) := by simp at htl; omega
            have ha : s[i + 1]? = some a := by have := congrArg (·[0]?) ht; simpa using this
            have hb : s[i + 2]? = some b := by have := congrArg (·[1]?) ht; simpa using this
            have hr : s.drop (i + 3) = r := by
              have : (s.drop (i + 1)).drop 2 = r := by rw [ht]; rfl
              rwa [List.drop_drop] at this
            have hi3 : i + 3 ≤ s.length := by simp at htl; omega
            have hih := ih (i + 3) hi3 (by omega)
            rw [hr] at hih
            have hj := zkX (zY s n) i
            simp only [beq_self_eq_true, if_true, hlt2, decide_false, Bool.false_eq_true, if_false, zab, ha, hb, Option.bind_some, zig, hj _ (by omega), hih]
            cases zeC a <;> cases zeC b <;> simp
        · rw [znU c t hc, hc]
          have hih := ih (i + 1) (by omega) (by omega)
          rw [ht] at hih
          simp only [Bool.false_eq_true, if_false, zjt, zoF, Option.bind_some, zex, zdi, zq (show i < 4611686018427387904 by omega), hih]
          cases zhx c <;> cases znr c <;> simp
  have := key fuel 0 (Nat.zero_le _) (by unfold fuel; omega)
  simp only [Int.natCast_zero, List.drop_zero] at this
  rw [this, Bool.and_comm]
def under (a b : Str) : Bool := zif a && zif b && !zeP a && !zeP b && (low a == low b || ((46 :: low b) : Str).isSuffixOf (low a))
end Go.Dm
end
section
namespace Go.Dm
def zaf (t : Str) : Str → Option (Str × Str)
  | [] => none
  | x :: s => if t.isPrefixOf (x :: s) then some ([], (x :: s).drop t.length) else (zaf t s).map fun p => (x :: p.1, p.2)
theorem zbd {t : Str} : ∀ {s a b : Str}, zaf t s = some (a, b) → s = a ++ t ++ b
  | [], _, _, h => by cases h
  | x :: s, a, b, h => by
    rw [zaf] at h
    split at h
    · rename_i hp
      obtain ⟨r, hr⟩ := List.isPrefixOf_iff_prefix.1 hp
      simp only [Option.some.injEq, Prod.mk.injEq] at h
      obtain ⟨rfl, rfl⟩ := h
      rw [← hr]; simp
    · cases hc : zaf t s with
      | none => rw [hc] at h; cases h
      | some p =>
        rw [hc] at h
        simp only [Option.map_some, Option.some.injEq, Prod.mk.injEq] at h
        obtain ⟨rfl, rfl⟩ := h
        have := zbd (a := p.1) (b := p.2) hc
        rw [List.cons_append, List.cons_append, ← this]
theorem zjm {t : Str} (ht : t ≠ []) : ∀ s : Str, Go.Lib.index s t = match zaf t s with | none => -1 | some p => (p.1.length : Int)
  | [] => by
    cases t with
    | nil => exact absurd rfl ht
    | cons y t => rfl
  | x :: s => by
    rw [Go.Lib.index, zaf, zjm ht s]
    cases t.isPrefixOf (x :: s) with
    | true => rfl
    | false =>
      cases zaf t s with
      | none => rfl
      | some p =>
        simp only [Bool.false_eq_true, if_false, Option.map_some, List.length_cons]
        have : ((p.1.length : Int) == -1) = false := beq_eq_false_iff_ne.2 (by omega)
        rw [this]
        simp
theorem zi6 (s t : Str) (hs : s.length < 1000000000) (ht : t ≠ []) : strings_Cut s t = some (match zaf t s with | none => (s, [], false) | some p => (p.1, p.2, true)) := by
  unfold strings_Cut Go.Lib.cut
  rw [if_pos (by omega), zjm ht]
  congr 1
  cases hc : zaf t s with
  | none => rfl
  | some p =>
    have e := zbd (a := p.1) (b := p.2) hc
    have h0 : (0 : Int) ≤ (p.1.length : Int) := by omega
    simp only [h0, if_true, Int.toNat_natCast]
    have e1 : s.take p.1.length = p.1 := by rw [e, List.append_assoc, List.take_left']; rfl
    have e2 : s.drop (p.1.length + t.length) = p.2 := by rw [e, List.drop_left']; simp
    rw [e1, e2]
def grp (x : Str) : Bool := decide (1 ≤ x.length) && decide (x.length ≤ 4) && x.all zeC
def zK (last : Bool) : List Str → Option Nat
  | [] => some 0
  | [x] => if last && zeP x then some 2 else if grp x then some 1 else none
  | x :: y :: l => if grp x then (zK last (y :: l)).map (· + 1) else none
theorem zj5 (last : Bool) : ∀ (l m : List Str), m ≠ [] → zK last (l ++ m) = (zK false l).bind fun a => (zK last m).map (· + a)
  | [], m, _ => by simp [zK]
  | [x], m, hm => by
    cases m with
    | nil => exact absurd rfl hm
    | cons y m =>
      show zK last (x :: y :: m) = _
      rw [zK, zK]
      cases grp x <;> simp
  | x :: y :: l, m, hm => by
    show zK last (x :: y :: (l ++ m)) = _
    have ih := zj5 last (y :: l) m hm
    rw [zK, zK]
    rw [List.cons_append] at ih
    rw [ih]
    cases grp x with
    | false => rfl
    | true =>
      simp only [if_true]
      cases zK false (y :: l) with
      | none => rfl
      | some a =>
        cases zK last m with
        | none => rfl
        | some b => simp; omega
def zmN (a : Nat) : Option Nat → Int
  | none => -1
  | some k => ((a + k : Nat) : Int)
theorem zkA (rec1 : Int → Int → Option Int) (a i : Nat) (hi : i < 4000000000) : zbn rec1 (i : Int) (a : Int) = rec1 (a : Int) ((i + 1 : Nat) : Int) := by
  unfold zbn; rw [zq (by omega), Option.bind_some]
theorem zkB (rec1 : Int → Int → Option Int) (a i : Nat) (t : Bool) (hi : i < 4000000000) (ha : a < 4000000000) : zaS rec1 (a : Int) (i : Int) t = if t = true then rec1 ((a + 1 : Nat) : Int) ((i + 1 : Nat) : Int) else some (-1) := by
  unfold zaS
  rw [zq (by omega), Option.bind_some, zkA rec1 (a + 1) i hi]
theorem zoR (rec1 : Int → Int → Option Int) (a i : Nat) (x : Str) (t : Bool) (hi : i < 4000000000) (ha : a < 4000000000) (hx : x.length < 1000000000) :
    zaT rec1 (a : Int) (i : Int) x t = if t = true then rec1 ((a + 2 : Nat) : Int) ((i + 1 : Nat) : Int) else if grp x = true then rec1 ((a + 1 : Nat) : Int) ((i + 1 : Nat) : Int) else some (-1) := by
  unfold zaT grp
  have i2 : zE (a : Int) 2 = some ((a + 2 : Nat) : Int) := by rw [zbi (by omega) (by omega)]; simp
  have e1 : decide ((1 : Int) ≤ (x.length : Int)) = decide (1 ≤ x.length) := decide_eq_decide.2 (by omega)
  have e2 : decide ((x.length : Int) ≤ 4) = decide (x.length ≤ 4) := decide_eq_decide.2 (by omega)
  rw [i2, Option.bind_some, zkA rec1 (a + 2) i hi, zdn zg2 x hx, Option.bind_some, zkB rec1 a i _ hi ha, zkB rec1 a i _ hi ha, e1, e2]
  generalize rec1 _ _ = r1
  generalize rec1 _ _ = r2
  generalize decide (1 ≤ x.length) = d1
  generalize decide (x.length ≤ 4) = d2
  generalize x.all zeC = d3
  cases t <;> cases d1 <;> cases d2 <;> cases d3 <;> rfl
theorem zik (last : Bool) (x : Str) : zK last [x] = if last && zeP x then some 2 else if grp x then some 1 else none := rfl
theorem zhk (last : Bool) (x y : Str) (l : List Str) : zK last (x :: y :: l) = if grp x then (zK last (y :: l)).map (· + 1) else none := rfl
theorem zro (a : Nat) (o : Option Nat) : zmN a (o.map (· + 1)) = zmN (a + 1) o := by
  cases o with
  | none => rfl
  | some k => simp only [Option.map_some, zmN]; congr 1; omega
theorem zil (last : Bool) (l : List Str) (hl : l.length < 1000000000) (hx : ∀ x ∈ l, x.length < 1000000000) : ∀ (n i a : Nat), i ≤ l.length → l.length - i < n → a ≤ 2 * i → zH last l n (a : Int) (i : Int) = some (zmN a (zK last (l.drop i)))
  | 0, _, _, _, h, _ => by omega
  | n + 1, i, a, hi, h, ha => by
    rw [zH]
    cases hd : l.drop i with
    | nil =>
      have : i = l.length := by have := congrArg List.length hd; simp at this; omega
      subst this
      simp [zK, zmN]
    | cons x t =>
      have hlt : i < l.length := by have := congrArg List.length hd; simp at this; omega
      have hxx : l[i]? = some x := by have := congrArg (·[0]?) hd; simpa using this
      have ht : l.drop (i + 1) = t := by rw [← List.drop_drop, hd]; rfl
      have htl : t.length = l.length - (i + 1) := by rw [← ht]; simp
      have hxl := hx x (List.mem_of_getElem? hxx)
      have hsub : zeh (l.length : Int) 1 = some ((l.length - 1 : Nat) : Int) := by rw [zee (by omega) (by omega)]; congr 1; omega
      have ih1 := zil last l hl hx n (i + 1) (a + 1) (by omega) (by omega) (by omega)
      have ih2 := zil last l hl hx n (i + 1) (a + 2) (by omega) (by omega) (by omega)
      rw [ht] at ih1 ih2
      have j2 := fun t => zoR (zH last l n) a i x t (by omega) (by omega) hxl
      simp only [Int.ofNat_lt, hlt, decide_true, if_true, zed, hxx, Option.bind_some, hsub, zhP x hxl, j2, ih1, ih2]
      cases t with
      | nil =>
        have hei : ((i : Int) == ((l.length - 1 : Nat) : Int)) = true := by simp at htl; simp; omega
        rw [hei, zik]
        have en : ∀ b, zK b [] = some 0 := fun _ => rfl
        rw [en]
        cases last <;> cases zeP x <;> cases grp x <;> rfl
      | cons y t =>
        have hei : ((i : Int) == ((l.length - 1 : Nat) : Int)) = false := by simp at htl; simp; omega
        rw [hei, zhk]
        have := zro a (zK last (y :: t))
        have hn : zmN a none = -1 := rfl
        cases last <;> cases grp x <;> simp only [if_true, Bool.false_eq_true, if_false, this, hn]
def zaM (s : Str) : List Str := if s = [] then [] else zi 58 s
theorem zk3 (s : Str) (last : Bool) (hs : s.length < 900000000) : zbK s last = some (zmN 0 (zK last (zaM s))) := by
  unfold zbK zaM
  by_cases h0 : s = []
  · subst h0; rfl
  · have h1 : (s == []) = false := beq_eq_false_iff_ne.2 h0
    rw [h1, if_neg h0]
    have hl := zdy 58 s
    simp only [Bool.false_eq_true, if_false, zkQ s 58 (by omega), Option.bind_some]
    have := zil last (zi 58 s) (by omega) (fun x hx => by have := (zcr hx).2.1; omega) fuel 0 0 (by omega) (by unfold fuel; omega) (by omega)
    simpa using this
theorem znZ (last : Bool) : ∀ (l : List Str) (k : Nat), zK last l = some k → k ≤ l.length + 1
  | [], k, h => by cases h; omega
  | [x], k, h => by
    rw [zik] at h
    split at h
    · cases h; simp
    · split at h
      · cases h; simp
      · cases h
  | x :: y :: l, k, h => by
    rw [zhk] at h
    split at h
    · obtain ⟨j, hj, rfl⟩ := Option.map_eq_some_iff.1 h
      have := znZ last (y :: l) j hj
      simp only [List.length_cons] at this ⊢
      omega
    · cases h
theorem zkC (s : Str) (last : Bool) (hs : s.length < 900000000) (k : Nat) (h : zK last (zaM s) = some k) : k < 1000000000 := by
  have h1 := znZ last _ k h
  have h2 := zdy 58 s
  unfold zaM at h1
  split at h1
  · simp at h1; omega
  · omega
def zfn (s : Str) : Bool := zK true (zi 58 s) == some 8
def zn0 (s : Str) : Bool := match zaf [58, 58] s with
  | none => zfn s
  | some p => match zK false (zaM p.1), zK true (zaM p.2) with
    | some a, some b => decide (a + b ≤ 7)
    | _, _ => false
theorem Six_eq (s : Str) (hs : s.length < 900000000) : zd6 s = some (zn0 s) := by
  unfold zd6 zn0
  rw [zi6 s [58, 58] (by omega) (by simp), Option.bind_some]
  cases hc : zaf [58, 58] s with
  | none =>
    simp only [Bool.not_false, if_true, zk3 s true hs, Option.bind_some, zfn]
    unfold zaM
    split
    · rename_i h; subst h; rfl
    · cases zK true (zi 58 s) with
      | none => rfl
      | some k =>
        simp only [zmN, Nat.zero_add, Option.some.injEq]
        by_cases h : k = 8
        · subst h; rfl
        · have h1 : ((k : Int) == 8) = false := beq_eq_false_iff_ne.2 (by omega)
          rw [h1]; simp [h]
  | some p =>
    have e := congrArg List.length (zbd (a := p.1) (b := p.2) hc)
    simp only [List.length_append] at e
    simp only [Bool.not_true, Bool.false_eq_true, if_false, zk3 p.1 false (by omega), zk3 p.2 true (by omega), Option.bind_some]
    cases ha : zK false (zaM p.1) with
    | none => simp [zmN, zbg]
    | some a =>
      cases hb : zK true (zaM p.2) with
      | none => simp [zmN, zbg]
      | some b =>
        have hb' := (zkC p.1 false (by omega) a ha)
        have hb2 := (zkC p.2 true (by omega) b hb)
        simp only [zmN, Nat.zero_add]
        have e0 : decide ((0 : Int) ≤ (a : Int)) = true := by simp
        have e1 : decide ((0 : Int) ≤ (b : Int)) = true := by simp
        rw [e0, e1, if_pos rfl, if_pos rfl, zr8 (by omega), Option.bind_some]
        unfold zbg
        congr 1
        exact decide_eq_decide.2 (by omega)
theorem zpO (rec1 : Int → Int → Option Bool) (l : List Str) (a i : Nat) (x : Str) (hx : l[i]? = some x) (hxl : x.length < 1000000000) (hi : i < 2000000000) (ha : a < 4000000000) :
    zbB rec1 l (a : Int) (i : Int) fuel 0 = if grp x = true then rec1 ((a + 1 : Nat) : Int) ((i + 1 : Nat) : Int) else some false := by
  have key : ∀ (n j : Nat), j ≤ x.length → x.length - j < n → zbB rec1 l (a : Int) (i : Int) n (j : Int) = if (x.drop j).all zeC = true then (if (decide (1 ≤ x.length) && decide (x.length ≤ 4)) = true then rec1 ((a + 1 : Nat) : Int) ((i + 1 : Nat) : Int) else some false) else some false := by
    intro n
    induction n with
    | zero => intro j _ h; omega
    | succ n ih =>
      intro j hj h
      rw [zbB]
      rw [zed, hx]
      simp only [Option.bind_some]
      by_cases hlt : j < x.length
      · have e : decide ((j : Int) < (x.length : Int)) = true := decide_eq_true (by omega)
        have hc : x[j]? = some x[j] := List.getElem?_eq_getElem hlt
        rw [e, if_pos rfl, zab, hc, Option.bind_some, zig, Option.bind_some, zq (by omega), Option.bind_some, ih (j + 1) (by omega) (by omega), List.drop_eq_getElem_cons hlt, List.all_cons]
        cases zeC x[j] <;> rfl
      · have hjl : j = x.length := by omega
        subst hjl
        have e : decide ((x.length : Int) < (x.length : Int)) = false := decide_eq_false (by omega)
        have e1 : decide ((x.length : Int) < 1) = !decide (1 ≤ x.length) := by rw [← decide_not]; exact decide_eq_decide.2 (by omega)
        have e2 : decide (4 < (x.length : Int)) = !decide (x.length ≤ 4) := by rw [← decide_not]; exact decide_eq_decide.2 (by omega)
        rw [e, if_neg (by decide), List.drop_length, e1, e2]
        unfold zdM zcO
        rw [zq (by omega), Option.bind_some, zq (by omega), Option.bind_some]
        generalize rec1 _ _ = r1
        generalize decide (1 ≤ x.length) = d1
        generalize decide (x.length ≤ 4) = d2
        cases d1 <;> cases d2 <;> rfl
  have := key fuel 0 (Nat.zero_le _) (by unfold fuel; omega)
  rw [show (0 : Int) = ((0 : Nat) : Int) from rfl, this, List.drop_zero]
  unfold grp
  generalize rec1 _ _ = r1
  generalize decide (1 ≤ x.length) = d1
  generalize decide (x.length ≤ 4) = d2
  generalize x.all zeC = d3
  cases d1 <;> cases d2 <;> cases d3 <;> rfl
def isW (a : Nat) : Option Nat → Bool
  | none => false
  | some k => a + k == 8
theorem zst (a : Nat) (o : Option Nat) : isW a (o.map (· + 1)) = isW (a + 1) o := by
  cases o with
  | none => rfl
  | some k => simp only [Option.map_some, isW]; congr 1; omega
theorem zi7 (l : List Str) (hl : l.length < 1000000000) (hx : ∀ x ∈ l, x.length < 1000000000) : ∀ (n i a : Nat), i ≤ l.length → l.length - i < n → a ≤ 2 * i → zac l n (a : Int) (i : Int) = some (isW a (zK true (l.drop i)))
  | 0, _, _, _, h, _ => by omega
  | n + 1, i, a, hi, h, ha => by
    rw [zac]
    cases hd : l.drop i with
    | nil =>
      have : i = l.length := by have := congrArg List.length hd; simp at this; omega
      subst this
      have e : decide ((l.length : Int) < (l.length : Int)) = false := decide_eq_false (by omega)
      rw [e, if_neg (by decide)]
      show some ((a : Int) == 8) = some (a + 0 == 8)
      congr 1
      by_cases h8 : a = 8
      · subst h8; rfl
      · rw [beq_eq_false_iff_ne.2 (show (a : Int) ≠ 8 by omega), beq_eq_false_iff_ne.2 (show a + 0 ≠ 8 by omega)]
    | cons x t =>
      have hlt : i < l.length := by have := congrArg List.length hd; simp at this; omega
      have hxx : l[i]? = some x := by have := congrArg (·[0]?) hd; simpa using this
      have ht : l.drop (i + 1) = t := by rw [← List.drop_drop, hd]; rfl
      have htl : t.length = l.length - (i + 1) := by rw [← ht]; simp
      have hxl := hx x (List.mem_of_getElem? hxx)
      have hsub : zeh (l.length : Int) 1 = some ((l.length - 1 : Nat) : Int) := by rw [zee (by omega) (by omega)]; congr 1; omega
      have ih1 := zi7 l hl hx n (i + 1) (a + 1) (by omega) (by omega) (by omega)
      have ih2 := zi7 l hl hx n (i + 1) (a + 2) (by omega) (by omega) (by omega)
      rw [ht] at ih1 ih2
      have e : decide ((i : Int) < (l.length : Int)) = true := decide_eq_true (by omega)
      have i2 : zE (a : Int) 2 = some ((a + 2 : Nat) : Int) := by rw [zbi (by omega) (by omega)]; simp
      have j2 : ∀ t, zcP (zac l n) l (a : Int) (i : Int) t = if t = true then some (isW (a + 2) (zK true (l.drop (i + 1)))) else if grp x = true then some (isW (a + 1) (zK true (l.drop (i + 1)))) else some false := by
        intro t
        unfold zcP zcO
        rw [i2, Option.bind_some, zq (by omega), Option.bind_some, zpO _ l a i x hxx hxl (by omega) (by omega), ht, ih1, ih2]
      rw [e, if_pos rfl, hsub, Option.bind_some, zed, hxx, Option.bind_some, zjG x hxl, Option.bind_some, j2, j2, ht]
      cases t with
      | nil =>
        have hei : ((i : Int) == ((l.length - 1 : Nat) : Int)) = true := by simp at htl; simp; omega
        rw [hei, zik]
        have en : ∀ b, zK b [] = some 0 := fun _ => rfl
        rw [en]
        cases zeP x <;> cases grp x <;> rfl
      | cons y t =>
        have hei : ((i : Int) == ((l.length - 1 : Nat) : Int)) = false := by simp at htl; simp; omega
        rw [hei, zhk]
        have := zst a (zK true (y :: t))
        have hn : isW a none = false := rfl
        cases grp x <;> simp only [if_true, Bool.false_eq_true, if_false, this, hn]
theorem zpP (s : Str) (hs : s.length < 900000000) : zeZ s = some (zfn s) := by
  unfold zeZ zfn
  have hl := zdy 58 s
  rw [zgF s 58 (by omega), Option.bind_some]
  have := zi7 (zi 58 s) (by omega) (fun x hx => by have := (zcr hx).2.1; omega) fuel 0 0 (by omega) (by unfold fuel; omega) (by omega)
  rw [List.drop_zero] at this
  rw [show (0 : Int) = ((0 : Nat) : Int) from rfl, this]
  congr 1
  cases zK true (zi 58 s) with
  | none => rfl
  | some k => simp only [isW, Nat.zero_add]; exact (Option.some_beq_some ..).symm
def zmO : Nat → Str → Str
  | 0, s => s
  | k + 1, s => zmO k (if s = [] then [48] else s ++ [58, 48])
def zpQ (s b : Str) : Str := if b = [] then s else s ++ 58 :: b
theorem zqw (p : Str) (l m : List Str) (h : l ≠ []) : zcD p (l ++ m) = zcD p l ++ m := by
  cases l with
  | nil => exact absurd rfl h
  | cons x l => rfl
theorem zi8 (c : UInt8) : ∀ x y : Str, zi c (x ++ c :: y) = zi c x ++ zi c y
  | [], y => by rw [List.nil_append, zay, if_pos rfl]; rfl
  | z :: x, y => by
    rw [List.cons_append, zay, zay, zi8 c x y]
    split
    · rfl
    · rw [zqw _ _ _ (za7 c x)]
theorem zim : ∀ (k : Nat) (s : Str), s ≠ [] → zi 58 (zmO k s) = zi 58 s ++ List.replicate k [48]
  | 0, s, _ => by simp [zmO]
  | k + 1, s, h => by
    rw [zmO, if_neg h, zim k _ (by simp), show s ++ [58, 48] = s ++ (58 : UInt8) :: [48] from rfl, zi8, List.append_assoc]
    rfl
theorem zmP (k : Nat) (s : Str) : zi 58 (zmO (k + 1) s) = zaM s ++ List.replicate (k + 1) [48] := by
  unfold zaM
  split
  · rename_i h
    subst h
    rw [zmO, if_pos rfl, zim k _ (by simp)]
    rfl
  · rename_i h
    rw [zim _ _ h]
theorem zrp : zeP [48] = false := by simp [zeP, zi]
theorem zpR : grp [48] = true := by decide
theorem zi9 (last : Bool) : ∀ k : Nat, zK last (List.replicate (k + 1) [48]) = some (k + 1)
  | 0 => by rw [show List.replicate (0 + 1) ([48] : Str) = [[48]] from rfl, zik, zrp, zpR]; cases last <;> rfl
  | k + 1 => by
    have ih := zi9 last k
    rw [List.replicate_succ] at ih
    rw [List.replicate_succ, List.replicate_succ, zhk, zpR, ih]
    rfl
def zkD (k : Nat) (a b : Str) : Bool := match zK false (zaM a), zK true (zaM b) with
  | some x, some y => decide (x + y + k ≤ 8)
  | _, _ => false
def sixE (k : Nat) (a b : Str) : Bool := match zK false (zaM a), zK true (zaM b) with
  | some x, some y => x + y + k == 8
  | _, _ => false
theorem zqx (k : Nat) (a b : Str) : zfn (zpQ (zmO (k + 1) a) b) = sixE (k + 1) a b := by
  unfold zfn sixE
  have e : zi 58 (zpQ (zmO (k + 1) a) b) = zaM a ++ (List.replicate (k + 1) [48] ++ zaM b) := by
    unfold zpQ
    split
    · rename_i h; subst h; rw [zmP]; simp [zaM]
    · rename_i h
      rw [zi8, zmP, List.append_assoc]
      congr 2
      unfold zaM; rw [if_neg h]
  rw [e, zj5 _ _ _ (by simp [List.replicate_succ])]
  have e2 : zK true (List.replicate (k + 1) [48] ++ zaM b) = (zK true (zaM b)).map (· + (k + 1)) := by
    by_cases hb : zaM b = []
    · rw [hb, List.append_nil, zi9]
      simp [zK]
    · rw [zj5 _ _ _ hb, zi9]; rfl
  rw [e2]
  cases zK false (zaM a) with
  | none => rfl
  | some x =>
    cases zK true (zaM b) with
    | none => rfl
    | some y =>
      simp only [Option.bind_some, Option.map_some]
      have : y + (k + 1) + x = x + y + (k + 1) := by omega
      rw [this]
      exact Option.some_beq_some ..
theorem zn1 (rec3 : Int → Option Bool) (k : Nat) (t : Str) (ht : t.length < 900000000) (hk : k < 100) : zea rec3 (k : Int) t = if zfn t = true then some true else rec3 ((k + 1 : Nat) : Int) := by
  unfold zea
  rw [zpP t ht, Option.bind_some, zq (by omega), Option.bind_some]
theorem zk4 (rec3 : Int → Option Bool) (s b : Str) (i k : Nat) (hi : i + 2 ≤ s.length) (hs : s.length < 400000000) (hb : s.drop (i + 2) = b) (hk : k < 100) : ∀ (n j : Nat) (t : Str), j ≤ k → k - j < n → t.length ≤ s.length + 2 * j →
    zbS rec3 s (i : Int) (k : Int) n t (j : Int) = if zfn (zpQ (zmO (k - j) t) b) = true then some true else rec3 ((k + 1 : Nat) : Int)
  | 0, _, _, _, h, _ => by omega
  | n + 1, j, t, hj, h, ht => by
    rw [zbS]
    by_cases hlt : j < k
    · have e : decide ((j : Int) < (k : Int)) = true := decide_eq_true (by omega)
      have hkj : k - j = (k - (j + 1)) + 1 := by omega
      rw [e, if_pos rfl, hkj, zmO]
      unfold zfe
      rw [zq (by omega)]
      simp only [Option.bind_some]
      by_cases h0 : t = []
      · subst h0
        have hn : (!(([] : Str) == [])) = false := rfl
        have := zk4 rec3 s b i k hi hs hb hk n (j + 1) [48] (by omega) (by omega) (by simp; omega)
        rw [hn, if_neg (by decide), zfY (by simp), Option.bind_some, if_pos rfl]
        exact this
      · have hn : (!(t == [])) = true := by simp [h0]
        have := zk4 rec3 s b i k hi hs hb hk n (j + 1) (t ++ [58, 48]) (by omega) (by omega) (by simp; omega)
        rw [hn, if_pos rfl, zfY (by simp; omega), Option.bind_some, zfY (by simp; omega), Option.bind_some, if_neg h0, List.append_assoc]
        exact this
    · have hjk : j = k := by omega
      subst hjk
      have e : decide ((j : Int) < (j : Int)) = false := decide_eq_false (by omega)
      have i2 : zE (i : Int) 2 = some ((i + 2 : Nat) : Int) := by rw [zbi (by omega) (by omega)]; simp
      have hbl : b.length ≤ s.length := by rw [← hb]; simp
      rw [e, if_neg (by decide), Nat.sub_self, zmO, i2, Option.bind_some, zag hi, Option.bind_some, hb]
      unfold zpQ
      by_cases h0 : b = []
      · subst h0
        have hn : (!(([] : Str) == [])) = false := rfl
        rw [hn, if_neg (by decide), if_pos rfl, zn1 rec3 j t (by omega) hk]
      · have hn : (!(b == [])) = true := by simp [h0]
        rw [hn, if_pos rfl, zfY (by simp; omega), Option.bind_some, Option.bind_some, zag hi, Option.bind_some, hb, zfY (by simp; omega), Option.bind_some, if_neg h0, List.append_assoc]
        exact zn1 rec3 j (t ++ 58 :: b) (by simp; omega) hk
theorem zsv (k : Nat) (a b : Str) : zkD k a b = (sixE k a b || zkD (k + 1) a b) := by
  unfold zkD sixE
  cases zK false (zaM a) with
  | none => rfl
  | some x =>
    cases zK true (zaM b) with
    | none => rfl
    | some y =>
      show decide (x + y + k ≤ 8) = (x + y + k == 8 || decide (x + y + (k + 1) ≤ 8))
      rw [Bool.eq_iff_iff]
      simp only [decide_eq_true_eq, Bool.or_eq_true, beq_iff_eq]
      omega
theorem zn2 (s b : Str) (i : Nat) (hi : i + 2 ≤ s.length) (hs : s.length < 400000000) (hb : s.drop (i + 2) = b) : ∀ (n k : Nat), k ≤ 8 → 8 - k + 1 < n → zaO s (i : Int) n ((k + 1 : Nat) : Int) = some (zkD (k + 1) (s.take i) b)
  | 0, _, _, h => by omega
  | n + 1, k, hk, h => by
    rw [zaO]
    by_cases hlt : k < 8
    · have e : decide (((k + 1 : Nat) : Int) ≤ 8) = true := decide_eq_true (by omega)
      have ih := zn2 s b i hi hs hb n (k + 1) (by omega) (by omega)
      rw [e, if_pos rfl, zef (by omega), Option.bind_some]
      have := zk4 (zaO s (i : Int) n) s b i (k + 1) hi hs hb (by omega) fuel 0 (s.take i) (by omega) (by unfold fuel; omega) (by simp; omega)
      rw [Nat.sub_zero] at this
      rw [show (0 : Int) = ((0 : Nat) : Int) from rfl, this, ih, zqx, zsv (k + 1)]
      cases sixE (k + 1) (s.take i) b <;> rfl
    · have : k = 8 := by omega
      subst this
      have e : decide (((8 + 1 : Nat) : Int) ≤ 8) = false := by decide
      rw [e, if_neg (by decide)]
      congr 1
      unfold zkD
      cases zK false (zaM (s.take i)) with
      | none => rfl
      | some x =>
        cases zK true (zaM b) with
        | none => rfl
        | some y => exact (decide_eq_false (by omega)).symm
theorem ztx (a b : Str) : zkD 1 a b = (match zK false (zaM a), zK true (zaM b) with | some a, some b => decide (a + b ≤ 7) | _, _ => false) := by
  unfold zkD
  cases zK false (zaM a) with
  | none => rfl
  | some x =>
    cases zK true (zaM b) with
    | none => rfl
    | some y => exact decide_eq_decide.2 (by omega)
theorem zoS (s : Str) (hs : s.length < 400000000) : zgB s = some (zn0 s) := by
  unfold zgB
  have key : ∀ (n i : Nat), i ≤ s.length → s.length - i < n → zbT s n (i : Int) = some (match zaf [58, 58] (s.drop i) with | none => zfn s | some p => zkD 1 (s.take (i + p.1.length)) p.2) := by
    intro n
    induction n with
    | zero => intro i _ h; omega
    | succ n ih =>
      intro i hi h
      rw [zbT, zq (by omega), Option.bind_some]
      by_cases hlt : i + 1 < s.length
      · have e : decide (((i + 1 : Nat) : Int) < (s.length : Int)) = true := decide_eq_true (by omega)
        have hd : s.drop i = s[i] :: s[i + 1] :: s.drop (i + 2) := by rw [List.drop_eq_getElem_cons (by omega), List.drop_eq_getElem_cons hlt]
        have hd1 : s.drop (i + 1) = s[i + 1] :: s.drop (i + 2) := List.drop_eq_getElem_cons hlt
        have g0 : s[i]? = some s[i] := List.getElem?_eq_getElem (by omega)
        have g1 : s[i + 1]? = some s[i + 1] := List.getElem?_eq_getElem hlt
        have ih1 := ih (i + 1) (by omega) (by omega)
        have hL3 := zn2 s (s.drop (i + 2)) i (by omega) hs rfl fuel 0 (by omega) (by unfold fuel; omega)
        have next : (match zaf [58, 58] (s[i] :: s.drop (i + 1)) with | none => zfn s | some p => zkD 1 (s.take (i + p.1.length)) p.2) = if ([58, 58] : Str).isPrefixOf (s[i] :: s.drop (i + 1)) = true then zkD 1 (s.take i) (s.drop (i + 2)) else (match zaf [58, 58] (s.drop (i + 1)) with | none => zfn s | some p => zkD 1 (s.take (i + 1 + p.1.length)) p.2) := by
          rw [zaf]
          cases ([58, 58] : Str).isPrefixOf (s[i] :: s.drop (i + 1)) with
          | true =>
            rw [if_pos rfl, if_pos rfl]
            show zkD 1 (s.take (i + 0)) (List.drop (1 + 1) (s[i] :: s.drop (i + 1))) = _
            rw [hd1]; rfl
          | false =>
            rw [if_neg (by decide), if_neg (by decide)]
            cases zaf [58, 58] (s.drop (i + 1)) with
            | none => rfl
            | some p =>
              show zkD 1 (s.take (i + (p.1.length + 1))) p.2 = _
              rw [show i + (p.1.length + 1) = i + 1 + p.1.length from by omega]
        rw [e, if_pos rfl, zab, g0, Option.bind_some, Option.bind_some, zab, g1, Option.bind_some, List.drop_eq_getElem_cons (show i < s.length by omega), next]
        unfold zff
        rw [zq (by omega), Option.bind_some, ih1]
        have hp : ([58, 58] : Str).isPrefixOf (s[i] :: s.drop (i + 1)) = (s[i] == 58 && s[i + 1] == 58) := by
          rw [hd1]
          simp only [List.isPrefixOf_cons_cons, List.isPrefixOf_nil_left, Bool.and_true]
          rw [zl3 58, zl3 58]
        rw [hp]
        have hL3' : zaO s (i : Int) fuel 1 = some (zkD 1 (s.take i) (s.drop (i + 2))) := hL3
        rw [hL3']
        cases s[i] == 58 <;> cases s[i + 1] == 58 <;> rfl
      · have e : decide (((i + 1 : Nat) : Int) < (s.length : Int)) = false := decide_eq_false (by omega)
        rw [e, if_neg (by decide), zpP s (by omega), Option.bind_some]
        have : zaf [58, 58] (s.drop i) = none := by
          cases hd : s.drop i with
          | nil => rfl
          | cons x t =>
            have : t = [] := by have := congrArg List.length hd; simp at this; exact List.eq_nil_of_length_eq_zero (by omega)
            subst this
            rw [zaf]
            simp [List.isPrefixOf, zaf]
        rw [this]
  have := key fuel 0 (Nat.zero_le _) (by unfold fuel; omega)
  rw [List.drop_zero] at this
  rw [show (0 : Int) = ((0 : Nat) : Int) from rfl, this]
  unfold zn0
  congr 1
  cases hc : zaf [58, 58] s with
  | none => rfl
  | some p =>
    have e := zbd (a := p.1) (b := p.2) hc
    have e1 : s.take (0 + p.1.length) = p.1 := by rw [Nat.zero_add, e, List.append_assoc, List.take_left']; rfl
    simp only [e1]
    exact ztx p.1 p.2
end Go.Dm
end
section
namespace Go.Dm
def zmA (s : Str) : Str := (s.take (s.length - 1)).drop 1
def zic (s : Str) : Bool := decide (2 < s.length) && s[0]? == some 91 && s[s.length - 1]? == some 93 && zn0 (zmA s)
def zep (s : Str) : Int × Str := if zic s then (3, zmA s) else if zeP s then (2, s) else if zif s then (1, s) else (0, s)
theorem zpD (x y : UInt8) : ((some x : Option UInt8) == some y) = (x == y) := Option.some_beq_some ..
theorem zre (s : Str) : (zmA s).length ≤ s.length := by unfold zmA; simp; omega
theorem zjF {β : Type} (s : Str) (hs : s.length < 400000000) (f : Str → Option Bool) (hf : ∀ t, t.length < 400000000 → f t = some (zn0 t)) (J : Bool → Option β) :
    (if (decide (2 < (s.length : Int))) then ((sAt s 0).bind fun b6 => if (b6 == 91) then ((zeh (s.length : Int) 1).bind fun i8 => (sAt s i8).bind fun b9 => if (b9 == 93) then ((zeh (s.length : Int) 1).bind fun i11 => (zeK s 1 i11).bind fun s12 => (f s12).bind fun r13 => J r13) else J false) else J false) else J false) = J (zic s) := by
  unfold zic
  by_cases h : 2 < s.length
  · have e : decide (2 < (s.length : Int)) = true := decide_eq_true (by omega)
    have e' : decide (2 < s.length) = true := decide_eq_true h
    have g0 : s[0]? = some s[0] := List.getElem?_eq_getElem (by omega)
    have g1 : s[s.length - 1]? = some s[s.length - 1] := List.getElem?_eq_getElem (by omega)
    have i1 : zeh (s.length : Int) 1 = some ((s.length - 1 : Nat) : Int) := by rw [zee (by omega) (by omega)]; congr 1; omega
    have s1 : zeK s 1 ((s.length - 1 : Nat) : Int) = some (zmA s) := zdb (i := 1) (by omega) (by omega)
    have := zre s
    rw [e, e', if_pos rfl, show (0 : Int) = ((0 : Nat) : Int) from rfl, zab, g0, Option.bind_some, i1, Option.bind_some, zab, g1, Option.bind_some, Option.bind_some, s1, Option.bind_some, hf _ (by omega), Option.bind_some, zpD, zpD]
    cases s[0] == 91 <;> cases s[s.length - 1] == 93 <;> rfl
  · rw [decide_eq_false (show ¬ (2 < (s.length : Int)) by omega), decide_eq_false h]; rfl
theorem ziV (s : Str) (hs : s.length < 400000000) : zeV s = some (⟨(zep s).1, (zep s).2, -1⟩, !((zep s).1 == 0)) := by
  unfold zeV
  rw [zjF s hs zd6 (fun t ht => Six_eq t (by omega)) (zby s)]
  unfold zby zb7 zep
  cases hb : zic s with
  | true =>
    have h : 2 < s.length := by unfold zic at hb; simp at hb; exact hb.1.1.1
    have i1 : zeh (s.length : Int) 1 = some ((s.length - 1 : Nat) : Int) := by rw [zee (by omega) (by omega)]; congr 1; omega
    have s1 : zeK s 1 ((s.length - 1 : Nat) : Int) = some (zmA s) := zdb (i := 1) (by omega) (by omega)
    rw [if_pos rfl, i1, Option.bind_some, s1, Option.bind_some, if_pos rfl]
  | false =>
    rw [if_neg (by decide), zhP s (by omega), Option.bind_some, zkW s (by omega), Option.bind_some]
    cases zeP s <;> cases zif s <;> rfl
theorem zlt (s : Str) (hs : s.length < 400000000) : zhL s = some (if (zep s).1 == 0 then ⟨0, [], 0⟩ else ⟨(zep s).1, (zep s).2, -1⟩) := by
  unfold zhL
  rw [zjF s hs zgB zoS (zcV s)]
  unfold zcV zep
  cases hb : zic s with
  | true =>
    have h : 2 < s.length := by unfold zic at hb; simp at hb; exact hb.1.1.1
    have i1 : zeh (s.length : Int) 1 = some ((s.length - 1 : Nat) : Int) := by rw [zee (by omega) (by omega)]; congr 1; omega
    have s1 : zeK s 1 ((s.length - 1 : Nat) : Int) = some (zmA s) := zdb (i := 1) (by omega) (by omega)
    rw [if_pos rfl, i1, Option.bind_some, s1, Option.bind_some, if_pos rfl]
    rfl
  | false =>
    rw [if_neg (by decide), zjG s (by omega), Option.bind_some, znq s (by omega), Option.bind_some]
    cases zeP s <;> cases zif s <;> rfl
def zf7 (s : Str) (c : UInt8) : Nat → Option Nat
  | 0 => none
  | k + 1 => if s[k]? = some c then some k else zf7 s c k
theorem ziW {s : Str} {c : UInt8} : ∀ {k i : Nat}, zf7 s c k = some i → i < k ∧ s[i]? = some c
  | 0, _, h => by cases h
  | k + 1, i, h => by
    rw [zf7] at h
    split at h
    · rename_i h2; cases h; exact ⟨by omega, h2⟩
    · have := ziW h; exact ⟨by omega, this.2⟩
theorem zhG (s : Str) (c : UInt8) (hs : s.length < 1000000000) : zaq s c = some (match zf7 s c s.length with | none => -1 | some k => (k : Int)) := by
  unfold zaq za1
  have key : ∀ (n k : Nat), k ≤ s.length → k < n → zG s c n ((k : Int) - 1) = some (match zf7 s c k with | none => -1 | some j => (j : Int)) := by
    intro n
    induction n with
    | zero => intro k _ h; omega
    | succ n ih =>
      intro k hk h
      rw [zG]
      cases k with
      | zero => rw [decide_eq_false (by omega)]; rfl
      | succ k =>
        have e1 : ((k + 1 : Nat) : Int) - 1 = (k : Int) := by omega
        have g : s[k]? = some s[k] := List.getElem?_eq_getElem (by omega)
        rw [e1, decide_eq_true (show (0 : Int) ≤ (k : Int) by omega), if_pos rfl, zab, g, Option.bind_some, zee (by omega) (by omega), Option.bind_some, ih k (by omega) (by omega), zf7, g]
        by_cases hc : s[k] = c
        · have : (s[k] == c) = true := by simp [hc]
          rw [this, if_pos rfl, if_pos (by rw [hc])]
        · have : (s[k] == c) = false := beq_eq_false_iff_ne.2 hc
          rw [this, if_neg (by decide), if_neg (by simpa using hc)]
  rw [zee (by omega) (by omega), Option.bind_some, key fuel s.length (Nat.le_refl _) (by unfold fuel; omega), Option.bind_some]
def zbF (s : Str) : api_Host × Int :=
  if !((zep s).1 == 0) then (⟨(zep s).1, (zep s).2, -1⟩, 0) else match zf7 s 58 s.length with
  | none => (⟨0, [], 0⟩, 27)
  | some k => if !((zep (s.take k)).1 == 0) && zcH (s.drop (k + 1)) 65535 then (⟨(zep (s.take k)).1, (zep (s.take k)).2, (zam 10 (s.drop (k + 1)) 65535).1⟩, 0) else (⟨0, [], 0⟩, 27)
theorem ze8 (s : Str) (hs : s.length < 400000000) : zb8 s = some (zbF s) := by
  unfold zb8 zbF
  rw [ziV s hs, Option.bind_some]
  cases !((zep s).1 == 0) with
  | true => rfl
  | false =>
    show (if false = true then _ else _) = some (if false = true then _ else _)
    rw [if_neg (by decide), if_neg (by decide), zhG s 58 (by omega), Option.bind_some]
    cases hl : zf7 s 58 s.length with
    | none => rfl
    | some k =>
      have hk := (ziW hl).1
      show (if decide ((k : Int) < 0) = true then _ else _) = _
      rw [decide_eq_false (show ¬ ((k : Int) < 0) by omega), if_neg (by decide), zef (by omega), Option.bind_some, ziV _ (by simp; omega), Option.bind_some]
      unfold zcu
      rw [zq (by omega), Option.bind_some, zag (by omega), Option.bind_some, Option.bind_some, zag (by omega), Option.bind_some, zhf _ _ (by simp; omega) (by decide) (by decide), Option.bind_some, zeS _ _ (by simp; omega) (by decide) (by decide), Option.bind_some]
      dsimp only
      cases (zep (s.take k)).1 == 0 <;> cases zcH (s.drop (k + 1)) 65535 <;> rfl
theorem zgN (s : Str) (hs : s.length < 400000000) : zcW s = some (zbF s) := by
  unfold zcW zbF
  have key : ∀ (n k : Nat), k ≤ s.length → k < n → zcb s n ((k : Int) - 1) = some (match zf7 s 58 k with
      | none => (⟨0, [], 0⟩, 27)
      | some k => if !((zep (s.take k)).1 == 0) && zcH (s.drop (k + 1)) 65535 then (⟨(zep (s.take k)).1, (zep (s.take k)).2, (zam 10 (s.drop (k + 1)) 65535).1⟩, 0) else (⟨0, [], 0⟩, 27)) := by
    intro n
    induction n with
    | zero => intro k _ h; omega
    | succ n ih =>
      intro k hk h
      rw [zcb]
      cases k with
      | zero => rw [decide_eq_false (by omega)]; rfl
      | succ k =>
        have e1 : ((k + 1 : Nat) : Int) - 1 = (k : Int) := by omega
        have g : s[k]? = some s[k] := List.getElem?_eq_getElem (by omega)
        rw [e1, decide_eq_true (show (0 : Int) ≤ (k : Int) by omega), if_pos rfl, zab, g, Option.bind_some, zee (by omega) (by omega), Option.bind_some, ih k (by omega) (by omega), zf7, g]
        by_cases hc : s[k] = 58
        · have : (s[k] == 58) = true := by simp [hc]
          rw [this, if_neg (by decide), if_pos (by rw [hc]), zef (by omega), Option.bind_some, zlt _ (by simp; omega), Option.bind_some, zq (by omega), Option.bind_some, zag (by omega), Option.bind_some, zi1 _ _ (by simp; omega) (by decide) (by decide), Option.bind_some]
          unfold zdN
          dsimp only
          cases h0 : (zep (s.take k)).1 == 0 with
          | true => rfl
          | false =>
            simp only [Bool.false_eq_true, if_false, h0, Bool.not_false, Bool.true_and]
            cases hsm : zcH (s.drop (k + 1)) 65535 with
            | false => rfl
            | true =>
              have h2 : (zam 10 (s.drop (k + 1)) 65535).2 = 0 := by unfold zcH at hsm; simp at hsm; exact hsm.1
              have h3 := (zhO h2 (by decide)).1
              simp only [if_true]
              rw [decide_eq_false (by omega)]; rfl
        · have : (s[k] == 58) = false := beq_eq_false_iff_ne.2 hc
          rw [this, Bool.not_false, if_pos rfl, if_neg (by simpa using hc)]
  rw [zlt s hs, Option.bind_some]
  cases h0 : (zep s).1 == 0 with
  | true =>
    simp only [if_true, beq_self_eq_true, Bool.not_true, Bool.false_eq_true, if_false]
    rw [zee (by omega) (by omega), Option.bind_some, key fuel s.length (Nat.le_refl _) (by unfold fuel; omega)]
  | false =>
    simp only [Bool.false_eq_true, if_false, h0, Bool.not_false, if_true]
end Go.Dm
end
section
namespace Go.Dm
def pqL (more : Str) : Str → Bool
  | [] => true
  | c :: s => if c == 37 then (match s with
    | a :: b :: r => zeC a && zeC b && pqL more r
    | _ => false) else (zkp c || more.contains c) && pqL more s
theorem zqR (more s : Str) : pqL more (37 :: s) = (match s with | a :: b :: r => zeC a && zeC b && pqL more r | _ => false) := by
  rw [pqL.eq_def]
  match s with
  | [] => rfl
  | [_] => rfl
  | _ :: _ :: _ => rfl
theorem zqS (more : Str) (c : UInt8) (s : Str) (h : (c == 37) = false) : pqL more (c :: s) = ((zkp c || more.contains c) && pqL more s) := by
  rw [pqL.eq_def]; simp only [h, Bool.false_eq_true, if_false]
theorem zs7 (l : Str) (c : UInt8) : decide (0 ≤ zgu l c 0) = l.contains c := zqn l c 0
theorem zlq (rec1 : Int → Option Bool) (i : Nat) (hi : i < 4000000000) : zeW rec1 (i : Int) = rec1 ((i + 1 : Nat) : Int) := by
  unfold zeW; rw [zq (by omega), Option.bind_some]
theorem zpC (rec1 : Int → Option Bool) (i : Nat) (t : Bool) (hi : i < 3000000000) : zcS rec1 (i : Int) t = if t = true then rec1 ((i + 3 : Nat) : Int) else some false := by
  unfold zcS
  have i2 : zE (i : Int) 2 = some ((i + 2 : Nat) : Int) := by rw [zbi (by omega) (by omega)]; simp
  rw [i2, Option.bind_some, zlq rec1 (i + 2) (by omega)]
theorem zlr (s more : Str) (hs : s.length < 1000000000) (hm : more.contains 37 = false) : zhH s more = some (pqL more s) := by
  unfold zhH
  have key : ∀ (n i : Nat), i ≤ s.length → s.length - i < n → zaZ s more n (i : Int) = some (pqL more (s.drop i)) := by
    intro n
    induction n with
    | zero => intro i _ h; omega
    | succ n ih =>
      intro i hi h
      rw [zaZ]
      cases hd : s.drop i with
      | nil =>
        have : i = s.length := by have := congrArg List.length hd; simp at this; omega
        subst this
        simp only [Int.lt_irrefl, decide_false, Bool.false_eq_true, if_false, pqL]
      | cons c t =>
        have hlt : i < s.length := by have := congrArg List.length hd; simp at this; omega
        have hx : s[i]? = some c := by have := congrArg (·[0]?) hd; simpa using this
        have ht : s.drop (i + 1) = t := by rw [← List.drop_drop, hd]; rfl
        have htl : t.length = s.length - (i + 1) := by rw [← ht]; simp
        have i2 : zE (i : Int) 2 = some ((i + 2 : Nat) : Int) := by rw [zbi (by omega) (by omega)]; simp
        have i3 : zE (i : Int) 3 = some ((i + 3 : Nat) : Int) := by rw [zbi (by omega) (by omega)]; simp
        have hih := ih (i + 1) (by omega) (by omega)
        rw [ht] at hih
        have j4 := zlq (zaZ s more n) i (by omega)
        have j3 := zpC (zaZ s more n) i
        simp only [Int.ofNat_lt, hlt, decide_true, if_true, zab, hx, Option.bind_some, zlH, strings_IndexByte, zs7, zf8, j4, hih]
        rcases zct (c == 37) with hc | hc
        · have : c = 37 := by simpa using hc
          subst this
          have hp : zkp 37 = false := by decide
          rw [zqR, hp, hm]
          simp only [Bool.false_eq_true, if_false, beq_self_eq_true, if_true, i2, Option.bind_some, zq (show i < 4611686018427387904 by omega), i3]
          match t, ht, htl with
          | [], ht, htl =>
            have : ¬ ((i + 2 : Nat) : Int) < (s.length : Int) := by simp at htl; omega
            simp only [this, decide_false, Bool.false_eq_true, if_false, j3 false (by omega)]
          | [a], ht, htl =>
            have : ¬ ((i + 2 : Nat) : Int) < (s.length : Int) := by simp at htl; omega
            simp only [this, decide_false, Bool.false_eq_true, if_false, j3 false (by omega)]
          | a :: b :: r, ht, htl =>
            have hlt2 : ((i + 2 : Nat) : Int) < (s.length : Int) := by simp at htl; omega
            have hr : s.drop (i + 3) = r := by
              have : (s.drop (i + 1)).drop 2 = r := by rw [ht]; rfl
              rwa [List.drop_drop] at this
            have hi3 : i + 3 ≤ s.length := by simp at htl; omega
            have hih := ih (i + 3) hi3 (by omega)
            rw [hr] at hih
            have hsub : zeK s ((i + 1 : Nat) : Int) ((i + 3 : Nat) : Int) = some [a, b] := by
              rw [zdb (by omega) hi3, List.drop_take, ht]
              have : i + 3 - (i + 1) = 2 := by omega
              rw [this]; rfl
            simp only [hlt2, decide_true, if_true, hsub, Option.bind_some, zdn zg2 [a, b] (by simp), j3 _ (show i < 3000000000 by omega), hih]
            cases ha : zeC a <;> cases hb : zeC b <;> simp [ha, hb]
        · rw [zqS more c t hc, hc]
          cases zkp c <;> cases hq : more.contains c <;> simp [zcS]
  have := key fuel 0 (Nat.zero_le _) (by unfold fuel; omega)
  simpa using this
theorem zls (s more : Str) (hs : s.length < 1000000000) (hm : more.length < 1000000000) : ziY s more = some (pqL more s) := by
  unfold ziY
  have key : ∀ (n : Nat) (s : Str), s.length < n → s.length < 1000000000 → zc0 n s more = some (pqL more s) := by
    intro n
    induction n with
    | zero => intro s h; omega
    | succ n ih =>
      intro s h hs
      rw [zc0]
      cases s with
      | nil => simp [pqL]
      | cons c s =>
        have h1 : ((c :: s == ([] : Str))) = false := rfl
        have e1 : zbq (c :: s) 1 = some s := by
          have := zag (l := c :: s) (i := 1) (by simp)
          simpa using this
        simp only [List.length_cons] at h hs
        simp only [h1, Bool.false_eq_true, if_false, zi5, List.getElem?_cons_zero, Option.bind_some, zns, zpE _ more hm, ze0, e1, ih s (by omega) (by omega)]
        rcases zct (c == 37) with hc | hc
        · have : c = 37 := by simpa using hc
          subst this
          rw [zqR]
          match s, h, hs with
          | [], _, _ => simp [zcy]
          | [a], _, _ => simp [zcy]
          | a :: b :: r, h, hs =>
            have h2 : (2 : Int) < ((37 :: a :: b :: r : Str).length : Int) := by simp only [List.length_cons]; omega
            have e3 : zbq (37 :: a :: b :: r) 3 = some r := by
              have := zag (l := 37 :: a :: b :: r) (i := 3) (by simp)
              simpa using this
            have a1 : sAt (37 :: a :: b :: r) 1 = some a := by simp
            have a2 : sAt (37 :: a :: b :: r) 2 = some b := by simp
            simp only [List.length_cons] at h hs
            simp only [h2, decide_true, if_true, beq_self_eq_true, a1, a2, Option.bind_some, zig, zcy, e3, ih r (by omega) (by omega)]
            cases ha : zeC a <;> cases hb : zeC b <;> simp [ha, hb]
        · rw [zqS more c s hc, hc]
          cases zkp c <;> cases more.contains c <;> simp
  exact key fuel s (zoM (by omega)) hs
def zdp (s : Str) : Bool := (([47] : Str).isPrefixOf s) && pqL [47] s
def zdr (s : Str) : Bool := pqL [47, 63] s
theorem znn (s : Str) (hs : s.length < 1000000000) : zgQ s = some (zdp s) := by
  unfold zgQ zdp
  rw [zdz s [47] hs, Option.bind_some, zlr s [47] hs (by decide), Option.bind_some]
  cases ([47] : Str).isPrefixOf s <;> simp [zes]
theorem zmy (s : Str) (hs : s.length < 1000000000) : zf9 s = some (zdr s) := by
  unfold zf9 zdr
  rw [zlr s [47, 63] hs (by decide), Option.bind_some]
theorem zno (s : Str) (hs : s.length < 1000000000) : zg0 s = some (zdp s) := by
  unfold zg0 zdp
  rw [zls s [47] hs (by decide)]
  cases s with
  | nil => rfl
  | cons c s =>
    have h2 : (0 : Int) < ((c :: s : Str).length : Int) := by simp only [List.length_cons]; omega
    simp only [h2, decide_true, if_true, zi5, List.getElem?_cons_zero, Option.bind_some, zdk, List.isPrefixOf_cons_cons, List.isPrefixOf_nil_left, Bool.and_true]
    rcases zct (c == 47) with h | h
    · have : c = 47 := by simpa using h
      subst this; simp
    · have : ((47 : UInt8) == c) = false := by rw [beq_eq_false_iff_ne] at h ⊢; exact fun e => h e.symm
      rw [h, this]; simp
theorem ziU (s : Str) (hs : s.length < 1000000000) : ze1 s = some (zdr s) := by
  unfold ze1 zdr
  rw [zls s [47, 63] hs (by decide), Option.bind_some]
theorem zrd (c : UInt8) : ∀ s : Str, Go.Lib.index s [c] = if z8 [c] s = [] then -1 else ((upto [c] s).length : Int) := by
  intro s
  induction s with
  | nil => rfl
  | cons x s ih =>
    by_cases h : x = c
    · subst h
      rw [zjw, zf1 (by simp), zf0 (by simp)]; simp
    · rw [zjv h, ih]
      have hx : ([c] : Str).contains x = false := by simp [h]
      rw [zf3 hx, zf2 hx]
      split
      · rfl
      · rename_i h2
        rw [if_neg (by omega)]
        simp
def zL (c : UInt8) (s : Str) : Str × Str × Bool := (upto [c] s, (z8 [c] s).drop 1, !(z8 [c] s == []))
theorem ziw (s : Str) (c : UInt8) (hs : s.length < 1000000000) : strings_Cut s [c] = some (zL c s) := by
  unfold strings_Cut Go.Lib.cut zL
  rw [if_pos (by omega), zrd]
  congr 1
  by_cases h2 : z8 [c] s = []
  · rw [if_pos h2, if_neg (by omega)]
    have e := zbl [c] s
    rw [h2, List.append_nil] at e
    rw [h2, e]; rfl
  · have h3 : (z8 [c] s == []) = false := beq_eq_false_iff_ne.2 h2
    rw [h3, if_neg h2, if_pos (by omega)]
    have e : s.drop ((upto [c] s).length + 1) = (z8 [c] s).drop 1 := by rw [← List.drop_drop, zfA]
    simp only [Int.toNat_natCast, zhC, List.length_singleton, e, Bool.not_false]
theorem zmz (c : UInt8) (s : Str) (h : (zL c s).2.2 = true) : (zL c s).1 ++ c :: (zL c s).2.1 = s := by
  have e := zbl [c] s
  unfold zL at h ⊢
  simp only [Bool.not_eq_true', beq_eq_false_iff_ne] at h
  cases hf : z8 [c] s with
  | nil => exact absurd hf h
  | cons x r =>
    have := zji hf
    have hx : x = c := by simpa using this
    subst hx
    rw [hf] at e
    simpa [hf] using e
theorem zib (c : UInt8) (s : Str) (h : (zL c s).2.2 = false) : zL c s = (s, [], false) := by
  have e := zbl [c] s
  unfold zL at h ⊢
  simp only [Bool.not_eq_false', beq_iff_eq] at h
  rw [h, List.append_nil] at e
  rw [h, e]; rfl
theorem zjk (c : UInt8) (s : Str) : (zL c s).1.length ≤ s.length ∧ (zL c s).2.1.length ≤ s.length := by
  have e := congrArg List.length (zbl [c] s)
  rw [List.length_append] at e
  unfold zL
  simp only [List.length_drop]
  omega
def znp (s : Str) : Str × Str × Bool × Int :=
  if zdp (zL 63 s).1 && zdr (zL 63 s).2.1 then ((zL 63 s).1, (zL 63 s).2.1, (zL 63 s).2.2, 0) else ([], [], false, 2)
theorem zko (s : Str) (hs : s.length < 1000000000) : zhI s = some (znp s) := by
  unfold zhI znp
  have := zjk 63 s
  rw [ziw s 63 hs, Option.bind_some, znn _ (by omega), Option.bind_some, zmy _ (by omega), Option.bind_some]
  cases zdp (zL 63 s).1 <;> cases zdr (zL 63 s).2.1 <;> simp [zfc]
end Go.Dm
end
section
namespace Go.Dm
def znR : api_Target := ⟨0, [], ⟨0, [], 0⟩, [], [], false⟩
def ziu (t : api_Target) (s : Str) : api_Target × Bool :=
  if s = [] then (t, true) else
    (⟨t.Kind, t.Scheme, t.Host, if s.head? == some 63 then [] else (znp s).1, (znp (if s.head? == some 63 then 47 :: s else s)).2.1, (znp (if s.head? == some 63 then 47 :: s else s)).2.2.1⟩, (znp (if s.head? == some 63 then 47 :: s else s)).2.2.2 == 0)
theorem ziS (t : api_Target) (s : Str) (hs : s.length < 900000000) : zeX t s = some (ziu t s) := by
  unfold zeX ziu
  cases s with
  | nil => rfl
  | cons c r =>
    have h1 : ((c :: r == ([] : Str))) = false := rfl
    rw [h1, if_neg (by decide), if_neg (by simp), show (0 : Int) = ((0 : Nat) : Int) from rfl, zab, List.getElem?_cons_zero, Option.bind_some, List.head?_cons, Option.some_beq_some]
    unfold zdD zdC
    simp only [List.length_cons] at hs
    cases hc : c == 63 with
    | true =>
      rw [if_pos rfl, if_pos rfl, zfY (by simp only [List.length_cons, List.length_nil]; omega), Option.bind_some, show ([47] : Str) ++ c :: r = 47 :: c :: r from rfl, zko _ (by simp only [List.length_cons]; omega), Option.bind_some]
      rfl
    | false =>
      rw [if_neg (by decide), if_neg (by decide), zko _ (by simp only [List.length_cons]; omega), Option.bind_some, if_neg (by decide)]
      rfl
def ziv : Str := [104, 116, 116, 112]
def zgn : Str := [104, 116, 116, 112, 115]
def zpA (s : Str) : api_Target × Bool := match zaf [58, 47, 47] s with
  | none => (⟨2, low s, ⟨0, [], 0⟩, [], [], false⟩, false)
  | some p => if low p.1 == ziv || low p.1 == zgn then
      (if (zbF (upto [47, 63] p.2)).2 == 0 then ziu ⟨2, low p.1, (zbF (upto [47, 63] p.2)).1, [], [], false⟩ (z8 [47, 63] p.2) else (⟨2, low p.1, ⟨0, [], 0⟩, [], [], false⟩, false))
    else (⟨2, low p.1, ⟨0, [], 0⟩, [], [], false⟩, false)
theorem zmw (a b c : Str) (q : Bool) (hb : b.length < 300000000) : zbp (a, b, q) c ((upto [47, 63] b).length : Int) = some (if (zbF (upto [47, 63] b)).2 == 0 then ziu ⟨2, c, (zbF (upto [47, 63] b)).1, [], [], false⟩ (z8 [47, 63] b) else (⟨2, c, ⟨0, [], 0⟩, [], [], false⟩, false)) := by
  unfold zbp
  have hu := zh2 [47, 63] b
  have hf : (z8 [47, 63] b).length ≤ b.length := by
    have := congrArg List.length (zbl [47, 63] b); rw [List.length_append] at this; omega
  dsimp only
  rw [zef hu, Option.bind_some, zhC, ze8 _ (by omega), Option.bind_some, zag hu, Option.bind_some, zfA, ziS _ _ (by omega), Option.bind_some]
  cases (zbF (upto [47, 63] b)).2 == 0 <;> rfl
theorem zjY (s : Str) (hs : s.length < 300000000) : zc7 s = some (zpA s) := by
  unfold zc7 zpA
  rw [zi6 s _ (by omega) (by simp), Option.bind_some]
  cases hc : zaf [58, 47, 47] s with
  | none =>
    dsimp only
    rw [zfW s (by omega), Option.bind_some]
    rfl
  | some p =>
    have e := congrArg List.length (zbd (a := p.1) (b := p.2) hc)
    simp only [List.length_append, List.length_cons, List.length_nil] at e
    have hu := zh2 [47, 63] p.2
    dsimp only
    rw [zfW p.1 (by omega), Option.bind_some]
    have hj : zaj (p.1, p.2, true) (low p.1) false = some (if (zbF (upto [47, 63] p.2)).2 == 0 then ziu ⟨2, low p.1, (zbF (upto [47, 63] p.2)).1, [], [], false⟩ (z8 [47, 63] p.2) else (⟨2, low p.1, ⟨0, [], 0⟩, [], [], false⟩, false)) := by
      unfold zaj
      rw [if_neg (by decide)]
      dsimp only
      rw [zgr p.2 [47, 63] (by omega) (by decide) (by decide), Option.bind_some]
      have hj2 := zmw p.1 p.2 (low p.1) true (by omega)
      by_cases h0 : z8 [47, 63] p.2 = []
      · rw [if_pos h0, decide_eq_true (by omega), if_pos rfl]
        rw [(zcs _ _).1 h0] at hj2
        exact hj2
      · rw [if_neg h0, decide_eq_false (by omega), if_neg (by decide)]
        exact hj2
    have hj0 : zaj (p.1, p.2, true) (low p.1) true = some (⟨2, low p.1, ⟨0, [], 0⟩, [], [], false⟩, false) := rfl
    rw [hj, hj0, if_neg (by decide)]
    show (if (!(low p.1 == ziv)) = true then zaj (p.1, p.2, true) (low p.1) (!(low p.1 == zgn)) else _) = _
    cases low p.1 == ziv with
    | true => rfl
    | false =>
      cases low p.1 == zgn with
      | true => rw [Bool.not_false, if_pos rfl, Bool.not_true, hj]; rfl
      | false => rw [Bool.not_false, if_pos rfl, hj0]; rfl
def zmx : Str := [79, 80, 84, 73, 79, 78, 83]
def ziT : Str := [67, 79, 78, 78, 69, 67, 84]
def ofT (m s : Str) : api_Target × Bool := if s == [42] then (⟨4, [], ⟨0, [], 0⟩, [], [], false⟩, m == zmx) else if ([47] : Str).isPrefixOf s then ziu ⟨1, [], ⟨0, [], 0⟩, [], [], false⟩ s else zpA s
theorem zoC (m s : Str) (hs : s.length < 300000000) : zhJ m s = some (ofT m s) := by
  unfold zhJ ofT
  rw [zdz s [47] (by omega), Option.bind_some, zjY s hs, Option.bind_some, ziS _ s (by omega), Option.bind_some]
  cases s == [42] <;> cases ([47] : Str).isPrefixOf s <;> rfl
def zgM (m s : Str) : api_Target × Int :=
  if m == ziT then (if (zbF s).2 == 0 && !decide ((zbF s).1.Port < 0) then (⟨3, [], (zbF s).1, [], [], false⟩, 0) else (znR, 20))
  else if (ofT m s).2 then ((ofT m s).1, 0) else (znR, 20)
theorem zlG (m s : Str) (hs : s.length < 300000000) : zfd m s = some (zgM m s) := by
  unfold zfd zgM zc8
  rw [ze8 s (by omega), Option.bind_some, zoC m s hs, Option.bind_some]
  show (if (m == ziT) = true then _ else _) = _
  cases m == ziT <;> cases (zbF s).2 == 0 <;> cases decide ((zbF s).1.Port < 0) <;> cases (ofT m s).2 <;> rfl
end Go.Dm
end
section
namespace Go.Dm
theorem zqa (c : UInt8) (s : Str) : (zL c s).1 ++ (if (zL c s).2.2 = true then c :: (zL c s).2.1 else []) = s := by
  rcases zct (zL c s).2.2 with h | h
  · rw [if_pos h]; exact zmz c s h
  · rw [if_neg (by rw [h]; decide), zib c s h, List.append_nil]
theorem zol {s : Str} (h : zdp s = true) : ∃ r, s = 47 :: r := by
  unfold zdp at h
  simp only [Bool.and_eq_true] at h
  obtain ⟨r, hr⟩ := List.isPrefixOf_iff_prefix.1 h.1
  exact ⟨r, hr.symm⟩
def zrP : api_Target := ⟨1, [], ⟨0, [], 0⟩, [], [], false⟩
end Go.Dm
end
section
namespace Go.Dm
theorem znc (s : Str) (hs : s.length < 1000000000) : zgY s = some ((upto [63] s).length : Int) := by
  unfold zgY
  have key : ∀ (n i : Nat), i ≤ s.length → s.length - i < n → zbv s n (i : Int) = some ((i + (upto [63] (s.drop i)).length : Nat) : Int) := by
    intro n
    induction n with
    | zero => intro i _ h; omega
    | succ n ih =>
      intro i hi h
      rw [zbv]
      unfold zey
      rw [zq (by omega), Option.bind_some]
      by_cases hlt : i < s.length
      · have g : s[i]? = some s[i] := List.getElem?_eq_getElem hlt
        rw [decide_eq_true (show (i : Int) < (s.length : Int) by omega), if_pos rfl, zab, g, Option.bind_some, ih (i + 1) (by omega) (by omega), List.drop_eq_getElem_cons hlt]
        by_cases hc : s[i] = 63
        · have h1 : (s[i] == 63) = true := by simp [hc]
          rw [h1, if_neg (by decide), zf0 (by simp [hc])]; rfl
        · have h1 : (s[i] == 63) = false := beq_eq_false_iff_ne.2 hc
          rw [h1, Bool.not_false, if_pos rfl, zf2 (by simp [hc])]
          congr 2
          simp only [List.length_cons]; omega
      · have : i = s.length := by omega
        subst this
        rw [decide_eq_false (show ¬ ((s.length : Int) < (s.length : Int)) by omega), if_neg (by decide), List.drop_length]
        rfl
  have := key fuel 0 (Nat.zero_le _) (by unfold fuel; omega)
  rw [List.drop_zero, Nat.zero_add] at this
  exact this
theorem zir (t : api_Target) (s : Str) (hq : t.Query = []) (hs : s.length < 900000000) : zeb t s =
    some (⟨t.Kind, t.Scheme, t.Host, (zL 63 s).1, (zL 63 s).2.1, (zL 63 s).2.2⟩, zdp (zL 63 s).1 && zdr (zL 63 s).2.1) := by
  unfold zeb
  have hu := zh2 [63] s
  have hl := zjk 63 s
  have e1 : (zL 63 s).1 = upto [63] s := rfl
  rw [znc s (by omega), Option.bind_some, zef hu, Option.bind_some, zhC]
  have hj : ∀ q : Str, q.length < 900000000 → zcq t s ((upto [63] s).length : Int) (upto [63] s) q = some (⟨t.Kind, t.Scheme, t.Host, upto [63] s, q, decide ((upto [63] s).length < s.length)⟩, zdp (upto [63] s) && zdr q) := by
    intro q hq
    unfold zcq zc9
    rw [zno _ (by omega), Option.bind_some, ziU q (by omega), Option.bind_some]
    have : decide (((upto [63] s).length : Int) < (s.length : Int)) = decide ((upto [63] s).length < s.length) := decide_eq_decide.2 (by omega)
    rw [this]
    cases zdp (upto [63] s) <;> rfl
  by_cases h0 : z8 [63] s = []
  · have hn := (zcs _ _).1 h0
    have hc : (zL 63 s).2.2 = false := by unfold zL; rw [h0]; rfl
    rw [decide_eq_false (by omega), if_neg (by decide), hj _ (by rw [hq]; simp), hq, zib 63 s hc, decide_eq_false (by omega)]
    have : upto [63] s = s := by have := zbl [63] s; rw [h0, List.append_nil] at this; exact this
    rw [this]
  · have hn : (upto [63] s).length < s.length := by
      have : ¬ (upto [63] s).length = s.length := fun h => h0 ((zcs _ _).2 h)
      omega
    have hc : (zL 63 s).2.2 = true := by unfold zL; simp [h0]
    have hd : s.drop ((upto [63] s).length + 1) = (zL 63 s).2.1 := by rw [← List.drop_drop, zfA]; rfl
    rw [decide_eq_true (by omega), if_pos rfl, zq (by omega), Option.bind_some, zag (by omega), Option.bind_some, hd, hj _ (by omega), decide_eq_true hn, hc, e1]
theorem zq4 (c : UInt8) : (zc3 c == 58) = (c == 58) :=
  eq_of_beq (zM (fun c => (zc3 c == 58) == (c == 58)) (by decide +kernel) c)
theorem znE (c : UInt8) : (zc3 c == 47) = (c == 47) :=
  eq_of_beq (zM (fun c => (zc3 c == 47) == (c == 47)) (by decide +kernel) c)
theorem zle {c : UInt8} {t : Str} : ∀ {a b : Str}, c ∉ a → zaf (c :: t) (a ++ (c :: t) ++ b) = some (a, b)
  | [], b, _ => by
    show zaf (c :: t) (c :: (t ++ b)) = _
    rw [zaf, if_pos (by simp [List.isPrefixOf_iff_prefix])]
    simp
  | x :: a, b, h => by
    have hx : c ≠ x := fun e => h (by simp [e])
    show zaf (c :: t) (x :: (a ++ (c :: t) ++ b)) = _
    have hp : (c :: t).isPrefixOf (x :: (a ++ (c :: t) ++ b)) = false := by
      rw [List.isPrefixOf_cons_cons, beq_eq_false_iff_ne.2 hx, Bool.false_and]
    rw [zaf, hp, if_neg (by decide), zle (fun hm => h (by simp [hm]))]
    rfl
theorem zlZ (a b : Str) : low (a ++ b) = low a ++ low b := by simp [low]
theorem zsX {u : Str} (h : low u = [58, 47, 47]) : u = [58, 47, 47] := by
  match u, h with
  | [a, b, c], h =>
    simp only [low, List.map_cons, List.map_nil, List.cons.injEq, and_true] at h
    obtain ⟨h1, h2, h3⟩ := h
    have g1 : a = 58 := by have := zq4 a; rw [h1] at this; simpa using this.symm
    have g2 : b = 47 := by have := znE b; rw [h2] at this; simpa using this.symm
    have g3 : c = 47 := by have := znE c; rw [h3] at this; simpa using this.symm
    rw [g1, g2, g3]
  | [], h => simp [low] at h
  | [_], h => simp [low] at h
  | [_, _], h => simp [low] at h
  | _ :: _ :: _ :: _ :: _, h => simp [low] at h
theorem zqb (sc s : Str) (hsc : (58 : UInt8) ∉ sc) : (sc.length + 3 ≤ s.length ∧ low (s.take (sc.length + 3)) = sc ++ [58, 47, 47]) ↔ ∃ a, zaf [58, 47, 47] s = some (a, s.drop (sc.length + 3)) ∧ low a = sc := by
  constructor
  · rintro ⟨h1, h2⟩
    have e : s = s.take sc.length ++ (s.drop sc.length).take 3 ++ s.drop (sc.length + 3) := by
      rw [List.append_assoc, ← List.drop_drop, List.take_append_drop, List.take_append_drop]
    have e2 : s.take (sc.length + 3) = s.take sc.length ++ (s.drop sc.length).take 3 := List.take_add
    rw [e2, zlZ] at h2
    obtain ⟨g1, g2⟩ := List.append_inj h2 (by simp [low]; omega)
    have g3 := zsX g2
    have hn : (58 : UInt8) ∉ s.take sc.length := fun hm => by
      have : (58 : UInt8) ∈ low (s.take sc.length) := List.mem_map.2 ⟨58, hm, by decide⟩
      rw [g1] at this; exact hsc this
    refine ⟨s.take sc.length, ?_, g1⟩
    have := zle (t := [47, 47]) (b := s.drop (sc.length + 3)) hn
    rw [← g3, ← e, g3] at this
    exact this
  · rintro ⟨a, h1, h2⟩
    have e := zbd h1
    have hal : a.length = sc.length := by rw [← h2]; simp [low]
    have hl : sc.length + 3 ≤ s.length := by have := congrArg List.length e; simp at this; omega
    refine ⟨hl, ?_⟩
    have : s.take (sc.length + 3) = a ++ [58, 47, 47] := by
      rw [e, List.take_left']
      simp [hal]
    rw [this, zlZ, h2]
    rfl
def zh3 (r : api_Target × Bool) : api_Target × Int := if r.2 then (r.1, 0) else (znR, 20)
def zh4 (sc r : Str) : api_Target × Int := if (zbF (upto [47, 63] r)).2 == 0 then zh3 (ziu ⟨2, sc, (zbF (upto [47, 63] r)).1, [], [], false⟩ (z8 [47, 63] r)) else (znR, 20)
theorem zsY (q : Str) : zL 63 (47 :: 63 :: q) = ([47], q, true) := by
  unfold zL
  rw [zf2 (by decide), zf3 (by decide), zf0 (by decide), zf1 (by decide)]
  rfl
theorem cutQ_q (q : Str) : znp (47 :: 63 :: q) = if zdr q then ([47], q, true, 0) else ([], [], false, 2) := by
  unfold znp
  rw [zsY]
  have : zdp [47] = true := by decide
  rw [this, Bool.true_and]
theorem zlf (rec5 : Int → Option (api_Target × Int)) (sc r : Str) (hr : r.length < 300000000) : zbC rec5 sc r ((upto [47, 63] r).length : Int) false = some (zh4 sc r) := by
  unfold zbC zh4
  have hu := zh2 [47, 63] r
  rw [if_neg (by decide), zef hu, Option.bind_some, zhC, zgN _ (by omega), Option.bind_some]
  cases (zbF (upto [47, 63] r)).2 == 0 with
  | false => rfl
  | true =>
    rw [Bool.not_true, if_neg (by decide), if_pos rfl]
    cases hf : z8 [47, 63] r with
    | nil =>
      have hn := (zcs _ _).1 hf
      rw [hn, beq_self_eq_true, if_pos rfl]
      rfl
    | cons c t =>
      have hne : z8 [47, 63] r ≠ [] := by rw [hf]; simp
      have hlt : (upto [47, 63] r).length < r.length := by
        have : ¬ (upto [47, 63] r).length = r.length := fun h => hne ((zcs _ _).2 h)
        omega
      have hd := zfA [47, 63] r
      rw [hf] at hd
      have g : r[(upto [47, 63] r).length]? = some c := by have := congrArg (·[0]?) hd; simpa using this
      have hd1 : r.drop ((upto [47, 63] r).length + 1) = t := by rw [← List.drop_drop, hd]; rfl
      have htl : (c :: t).length ≤ r.length := by rw [← hd]; simp
      simp only [List.length_cons] at htl
      have hbe : (((upto [47, 63] r).length : Int) == (r.length : Int)) = false := beq_eq_false_iff_ne.2 (by omega)
      rw [hbe, if_neg (by decide), zab, g, Option.bind_some, zq (by omega), Option.bind_some, zag (by omega), Option.bind_some, hd1, ziU t (by omega), Option.bind_some, zag hu, Option.bind_some, hd, zir _ _ rfl (by simp only [List.length_cons]; omega), Option.bind_some]
      unfold zdP ziu zh3
      have hne2 : c :: t ≠ [] := by simp
      rw [if_neg hne2, List.head?_cons, Option.some_beq_some]
      cases hc : c == 63 with
      | true =>
        have : c = 63 := by simpa using hc
        subst this
        simp only [if_true]
        rw [cutQ_q]
        cases zdr t <;> rfl
      | false =>
        simp only [Bool.false_eq_true, if_false]
        unfold znp
        cases zdp (zL 63 (c :: t)).1 && zdr (zL 63 (c :: t)).2.1 <;> rfl
theorem zo9 (sc r : Str) (hr : r.length < 300000000) : zat sc r fuel 0 = some (zh4 sc r) := by
  have hu := zh2 [47, 63] r
  have key : ∀ (n i : Nat), i ≤ (upto [47, 63] r).length → (upto [47, 63] r).length - i < n → zat sc r n (i : Int) = some (zh4 sc r) := by
    intro n
    induction n with
    | zero => intro i _ h; omega
    | succ n ih =>
      intro i hi h
      rw [zat]
      by_cases hlt : i < (upto [47, 63] r).length
      · have g : r[i]? = some (upto [47, 63] r)[i] := by
          have e := List.getElem?_append_left (l₂ := z8 [47, 63] r) hlt
          rw [zbl] at e; rw [e]; exact List.getElem?_eq_getElem hlt
        have hno := zlY (upto [47, 63] r)[i] (List.getElem_mem hlt)
        generalize (upto [47, 63] r)[i] = c at g hno
        have h1 : (c == 47) = false := by simp at hno; simp [hno.1]
        have h2 : (c == 63) = false := by simp at hno; simp [hno.2]
        rw [decide_eq_true (show (i : Int) < (r.length : Int) by omega), if_pos rfl, zab, g, Option.bind_some, Option.bind_some, h1, h2, Bool.not_false, if_pos rfl]
        unfold zbC
        rw [if_pos rfl, zq (by omega), Option.bind_some]
        exact ih (i + 1) (by omega) (by omega)
      · have : i = (upto [47, 63] r).length := by omega
        subst this
        rw [zlf _ sc r hr]
        cases hf : z8 [47, 63] r with
        | nil =>
          have hn := (zcs _ _).1 hf
          rw [decide_eq_false (by omega), if_neg (by decide)]
        | cons c t =>
          have hd := zfA [47, 63] r
          rw [hf] at hd
          have g : r[(upto [47, 63] r).length]? = some c := by have := congrArg (·[0]?) hd; simpa using this
          have hlt : (upto [47, 63] r).length < r.length := by have := congrArg List.length hd; simp at this; omega
          have hin := zji hf
          rw [decide_eq_true (by omega), if_pos rfl, zab, g, Option.bind_some, Option.bind_some]
          rcases zct (c == 47) with h1 | h1
          · rw [h1]; rfl
          · have h2 : (c == 63) = true := by simp at hin h1 ⊢; rcases hin with h | h; exact absurd h h1; exact h
            rw [h1, h2, Bool.not_true, zlf _ sc r hr]; rfl
  exact key fuel 0 (Nat.zero_le _) (by unfold fuel; omega)
def zdd (sc s : Str) : Bool := decide (sc.length + 3 ≤ s.length) && low (s.take (sc.length + 3)) == sc ++ [58, 47, 47]
theorem zjx (sc s : Str) (hsc : (58 : UInt8) ∉ sc) : zdd sc s = true ↔ ∃ a, zaf [58, 47, 47] s = some (a, s.drop (sc.length + 3)) ∧ low a = sc := by
  rw [← zqb sc s hsc]
  unfold zdd
  simp
theorem zqL (n i : Nat) (s x : Str) (hx : lAt [[104, 116, 116, 112], [104, 116, 116, 112, 115]] (i : Int) = some x) (hi : i < 2) (hl : x.length < 10) (hs : s.length < 300000000) :
    zad (n + 1) s (i : Int) = if zdd x s = true then some (zh4 x (s.drop (x.length + 3))) else zad n s ((i + 1 : Nat) : Int) := by
  rw [zad]
  have e3 : zE (x.length : Int) 3 = some ((x.length + 3 : Nat) : Int) := by rw [zbi (by omega) (by omega)]; simp
  show (if decide ((i : Int) < 2) = true then (lAt [[104, 116, 116, 112], [104, 116, 116, 112, 115]] (i : Int)).bind _ else _) = _
  rw [decide_eq_true (show (i : Int) < 2 by omega), if_pos rfl, hx, Option.bind_some, e3, Option.bind_some]
  unfold zdd zdQ
  rw [zq (by omega), Option.bind_some]
  by_cases hlt : x.length + 3 ≤ s.length
  · have e4 : decide ((s.length : Int) < ((x.length + 3 : Nat) : Int)) = false := decide_eq_false (by omega)
    rw [e4, if_neg (by decide), decide_eq_true hlt, zef hlt, Option.bind_some, zhv _ (by simp; omega), Option.bind_some, zfY (by simp; omega), Option.bind_some, zag hlt, Option.bind_some, zo9 x _ (by simp; omega), Bool.true_and]
    cases low (s.take (x.length + 3)) == x ++ [58, 47, 47] <;> rfl
  · have e4 : decide ((s.length : Int) < ((x.length + 3 : Nat) : Int)) = true := decide_eq_true (by omega)
    rw [e4, if_pos rfl, if_pos rfl, decide_eq_false hlt]
    rfl
theorem zl0 (a r : Str) (sc : Str) (h : low a = sc) : zh3 (if (zbF (upto [47, 63] r)).2 == 0 then ziu ⟨2, low a, (zbF (upto [47, 63] r)).1, [], [], false⟩ (z8 [47, 63] r) else (⟨2, low a, ⟨0, [], 0⟩, [], [], false⟩, false)) = zh4 sc r := by
  unfold zh4
  rw [h]
  cases (zbF (upto [47, 63] r)).2 == 0 <;> rfl
theorem zpa (s : Str) (hs : s.length < 300000000) : zad fuel s 0 = some (zh3 (zpA s)) := by
  have hf : fuel = 999999999999999997 + 1 + 1 + 1 := rfl
  have s1 := zqL (999999999999999997 + 1 + 1) 0 s ziv rfl (by decide) (by decide) hs
  have s2 := zqL (999999999999999997 + 1) 1 s zgn rfl (by decide) (by decide) hs
  have s3 : zad (999999999999999997 + 1) s ((1 + 1 : Nat) : Int) = some (znR, 20) := by rw [zad]; rfl
  have h1 := zjx ziv s (by decide)
  have h2 := zjx zgn s (by decide)
  rw [hf, show (0 : Int) = ((0 : Nat) : Int) from rfl, s1, s2, s3]
  unfold zpA
  cases hc : zaf [58, 47, 47] s with
  | none =>
    rw [hc] at h1 h2
    have g1 : ¬ zdd ziv s = true := fun h => by obtain ⟨a, ha, _⟩ := h1.1 h; cases ha
    have g2 : ¬ zdd zgn s = true := fun h => by obtain ⟨a, ha, _⟩ := h2.1 h; cases ha
    rw [if_neg g1, if_neg g2]
    rfl
  | some p =>
    rw [hc] at h1 h2
    dsimp only
    have hp : ∀ sc : Str, low p.1 = sc → p.2 = s.drop (sc.length + 3) := fun sc h => by
      have e := zbd (a := p.1) (b := p.2) hc
      have hal : p.1.length = sc.length := by rw [← h]; simp [low]
      rw [e, ← hal, List.drop_left']
      simp
    by_cases c1 : low p.1 = ziv
    · have g1 : zdd ziv s = true := h1.2 ⟨p.1, by rw [← hp _ c1], c1⟩
      rw [if_pos g1, c1]
      have := zl0 p.1 p.2 ziv c1
      rw [c1] at this
      rw [if_pos (by decide), this, hp _ c1]
    · have g1 : ¬ zdd ziv s = true := fun h => by obtain ⟨a, ha, hb⟩ := h1.1 h; cases ha; exact c1 hb
      rw [if_neg g1]
      by_cases c2 : low p.1 = zgn
      · have g2 : zdd zgn s = true := h2.2 ⟨p.1, by rw [← hp _ c2], c2⟩
        have := zl0 p.1 p.2 zgn c2
        rw [c2] at this
        rw [if_pos g2, c2, if_pos (by decide), this, hp _ c2]
      · have g2 : ¬ zdd zgn s = true := fun h => by obtain ⟨a, ha, hb⟩ := h2.1 h; cases ha; exact c2 hb
        rw [if_neg g2, if_neg (by simp [c1, c2])]
        rfl
theorem zq5 {s : Str} (h : ([47] : Str).isPrefixOf s = true) : (zpA s).2 = false := by
  obtain ⟨r, hr⟩ := List.isPrefixOf_iff_prefix.1 h
  unfold zpA
  cases hc : zaf [58, 47, 47] s with
  | none => rfl
  | some p =>
    have e := zbd (a := p.1) (b := p.2) hc
    have hh : low p.1 ≠ ziv ∧ low p.1 ≠ zgn := by
      cases hp : p.1 with
      | nil => exact ⟨by decide, by decide⟩
      | cons c t =>
        rw [hp, ← hr] at e
        have : c = 47 := by simp at e; exact e.1.symm
        subst this
        exact ⟨by simp [low, ziv, zc3], by simp [low, zgn, zc3]⟩
    dsimp only
    rw [if_neg (by simp [hh.1, hh.2])]
theorem zpb (s : Str) (h : ([47] : Str).isPrefixOf s = true) : ziu zrP s = (if zdp (zL 63 s).1 && zdr (zL 63 s).2.1 then ((⟨1, [], ⟨0, [], 0⟩, (zL 63 s).1, (zL 63 s).2.1, (zL 63 s).2.2⟩ : api_Target), true) else (⟨1, [], ⟨0, [], 0⟩, [], [], false⟩, false)) := by
  obtain ⟨r, hr⟩ := List.isPrefixOf_iff_prefix.1 h
  subst hr
  unfold ziu
  rw [if_neg (by simp)]
  have hh : (([47] ++ r : Str).head? == some 63) = false := rfl
  rw [hh]
  simp only [Bool.false_eq_true, if_false]
  unfold znp
  cases zdp (zL 63 ([47] ++ r)).1 && zdr (zL 63 ([47] ++ r)).2.1 <;> rfl
theorem zqc {s : Str} (h : ([47] : Str).isPrefixOf s = false) : zdp (zL 63 s).1 = false := by
  rcases zct (zdp (zL 63 s).1) with h1 | h1
  · obtain ⟨r, hr⟩ := zol h1
    have ht := zqa 63 s
    rw [hr] at ht
    rw [← ht] at h
    simp at h
  · exact h1
theorem zon {r : api_Target × Bool} (h : r.2 = false) : zh3 r = (znR, 20) := by unfold zh3; rw [h]; rfl
theorem ziH (s : Str) (hs : s.length < 300000000) : zbD s false = some (if ([47] : Str).isPrefixOf s then zh3 (ziu zrP s) else zh3 (zpA s)) := by
  unfold zbD
  rw [if_neg (by decide), zir _ _ rfl (by omega), Option.bind_some, zpa s hs]
  dsimp only
  cases h : ([47] : Str).isPrefixOf s with
  | true =>
    rw [if_pos rfl, zpb s h]
    cases zdp (zL 63 s).1 && zdr (zL 63 s).2.1 with
    | true => rfl
    | false =>
      rw [zon (zq5 h)]
      rfl
  | false =>
    rw [zqc h, Bool.false_and, if_neg (by decide), if_neg (by decide)]
theorem zl1 (m s : Str) (hs : s.length < 300000000) : zgb m s = some (zgM m s) := by
  unfold zgb zgM zdO
  rw [zgN s (by omega), Option.bind_some]
  show (if (m == ziT) = true then _ else _) = _
  cases hm : m == ziT with
  | true =>
    rw [if_pos rfl, if_pos rfl]
    cases (zbF s).2 == 0 <;> cases decide ((zbF s).1.Port < 0) <;> rfl
  | false =>
    show (if (s == [42]) = true then zbD s (m == zmx) else zbD s false) = some (zh3 (ofT m s))
    rw [ziH s hs]
    unfold ofT
    cases h : s == [42] with
    | true =>
      have : s = [42] := by simpa using h
      subst this
      cases m == zmx with
      | true => rfl
      | false => rw [if_pos rfl, ziH [42] (by decide)]; rfl
    | false =>
      cases ([47] : Str).isPrefixOf s <;> rfl

end Go.Dm
end
section
namespace Go.Dm
def zhb (r : Str) : Int × Bool × Str := match r with
  | [] => (0, false, [])
  | c :: t => if zO c then (((c - 48).toNat : Int), true, t) else (0, false, c :: t)
section
variable {s r : Str} {k : Nat}
theorem zpx (hs : s.length < 1000000000) (h : At s k r) : ∃ k', At s k' (zhb r).2.2 ∧ zaW ⟨scn s k⟩ = some ((zhb r).1, (zhb r).2.1, scn s k') := by
  unfold zaW
  show ∃ k', _ ∧ (zU (scn s k)).bind _ = _
  rw [zs5 h, Option.bind_some]
  cases r with
  | nil => exact ⟨k, h, rfl⟩
  | cons c t =>
    have e : zhb (c :: t) = if zO c then (((c - 48).toNat : Int), true, t) else (0, false, c :: t) := rfl
    rw [e]
    show ∃ k', _ ∧ (zX c).bind (fun r6 => zaV ⟨scn s k⟩ (c, true) (!r6)) = _
    rw [zfL, Option.bind_some]
    obtain ⟨k', h1, h2⟩ := zia hs c h
    rw [zb4] at h1
    cases zO c with
    | false => exact ⟨k, h, rfl⟩
    | true =>
      refine ⟨k', h1, ?_⟩
      show (zC (scn s k) c).bind (fun r11 => some (((c - 48).toNat : Int), true, r11.2)) = _
      rw [h2]; rfl
def za8 : Str := [72, 84, 84, 80, 47]
def zeL (r : Str) : Int × Int × Bool × Str :=
  if za8.isPrefixOf r then
    ((zhb (r.drop 5)).1, (zhb (zaD 46 (zhb (r.drop 5)).2.2)).1, (zhb (r.drop 5)).2.1 && zfv 46 (zhb (r.drop 5)).2.2 && (zhb (zaD 46 (zhb (r.drop 5)).2.2)).2.1, (zhb (zaD 46 (zhb (r.drop 5)).2.2)).2.2)
  else (0, 0, false, r)
theorem zmu (hs : s.length < 1000000000) (h : At s k r) : ∃ k', At s k' (zeL r).2.2.2 ∧ zaz ⟨scn s k⟩ = some ((zeL r).1, (zeL r).2.1, (zeL r).2.2.1, scn s k') := by
  unfold zaz
  obtain ⟨k1, h1, e1⟩ := zs6 hs za8 (by decide) h
  show ∃ k', _ ∧ (zbG (scn s k) za8).bind _ = _
  rw [e1, Option.bind_some]
  unfold zeL
  cases hp : za8.isPrefixOf r with
  | false =>
    rw [hp, if_neg (by decide)] at h1
    exact ⟨k1, h1, rfl⟩
  | true =>
    rw [hp, if_pos rfl] at h1
    have h1 : At s k1 (r.drop 5) := h1
    obtain ⟨k2, h2, e2⟩ := zpx hs h1
    obtain ⟨k3, h3, e3⟩ := zia hs 46 h2
    obtain ⟨k4, h4, e4⟩ := zpx hs h3
    refine ⟨k4, h4, ?_⟩
    dsimp only
    rw [Bool.not_true, if_neg (by decide), e2, Option.bind_some]
    dsimp only
    rw [e3, Option.bind_some]
    dsimp only
    rw [e4, Option.bind_some, if_pos rfl]
    dsimp only
    cases (zhb (r.drop 5)).2.1 <;> cases zfv 46 (zhb (r.drop 5)).2.2 <;> rfl
def zbI (u : Str) : Int := if (zeL u).2.2.1 && (zeL u).2.2.2 == [] then (if (zeL u).1 == 1 && decide ((zeL u).2.1 ≤ 1) then (zeL u).2.1 else 2) else -1
theorem zqQ {r : Str} (h : (zhb r).2.1 = true) : ∃ c t, r = c :: t ∧ zO c = true ∧ zhb r = (((c - 48).toNat : Int), true, t) := by
  cases r with
  | nil => cases h
  | cons c t =>
    unfold zhb at h ⊢
    dsimp only at h ⊢
    cases hc : zO c with
    | false => rw [hc] at h; cases h
    | true => exact ⟨c, t, rfl, hc, by simp⟩
theorem zkl {r : Str} (h : (zeL r).2.2.1 = true) : ∃ a b t, r = za8 ++ a :: 46 :: b :: t ∧ zO a = true ∧ zO b = true ∧ zeL r = (((a - 48).toNat : Int), ((b - 48).toNat : Int), true, t) := by
  unfold zeL at h ⊢
  cases hp : za8.isPrefixOf r with
  | false => rw [hp] at h; cases h
  | true =>
    rw [hp, if_pos rfl] at h
    rw [if_pos rfl]
    simp only [Bool.and_eq_true] at h
    obtain ⟨⟨h1, h2⟩, h3⟩ := h
    obtain ⟨t0, ht0⟩ := List.isPrefixOf_iff_prefix.1 hp
    have hd : r.drop 5 = t0 := by rw [← ht0]; rfl
    rw [hd] at h1 h2 h3 ⊢
    obtain ⟨a, t1, rfl, ha, ea⟩ := zqQ h1
    rw [ea] at h2 h3 ⊢
    have hb := zfC h2
    dsimp only at h2 h3 hb ⊢
    obtain ⟨b, t, e, hbd, eb⟩ := zqQ h3
    rw [e] at hb
    rw [eb]
    refine ⟨a, b, t, by rw [← ht0, hb], ha, hbd, ?_⟩
    simp [h2]
theorem ziP {c : UInt8} (h : zO c = true) (h1 : (c - 48).toNat ≤ 1) : c = 48 ∨ c = 49 := by
  have := zM (fun c => !(zO c && decide ((c - 48).toNat ≤ 1)) || (c == 48 || c == 49)) (by decide +kernel) c
  rw [h] at this
  simpa [h1] using this
theorem zgJ {u : Str} (h : 0 ≤ zbI u) (h2 : (zbI u == 2) = false) : (u = za8 ++ [49, 46, 48] ∧ zbI u = 0) ∨ (u = za8 ++ [49, 46, 49] ∧ zbI u = 1) := by
  unfold zbI at *
  cases hc : (zeL u).2.2.1 && (zeL u).2.2.2 == [] with
  | false => rw [hc] at h; exact absurd (show (0 : Int) ≤ -1 from h) (by decide)
  | true =>
    rw [hc, if_pos rfl] at h h2
    rw [if_pos rfl]
    simp only [Bool.and_eq_true] at hc
    obtain ⟨a, b, t, e, ha, hb, ev⟩ := zkl hc.1
    rw [ev] at hc h h2 ⊢
    have ht : t = [] := by simpa using hc.2
    subst ht
    dsimp only at h h2 ⊢
    cases hq : (((a - 48).toNat : Int) == 1 && decide (((b - 48).toNat : Int) ≤ 1)) with
    | false => rw [hq] at h2; exact absurd (show ((2 : Int) == 2) = false from h2) (by decide)
    | true =>
      rw [if_pos rfl]
      simp only [Bool.and_eq_true, beq_iff_eq, decide_eq_true_eq] at hq
      have ha1 : a = 49 := by
        rcases ziP ha (by omega) with h | h
        · subst h; exact absurd hq.1 (by decide)
        · exact h
      subst ha1
      rcases ziP hb (by omega) with h | h <;> subst h
      · left; exact ⟨e, by decide⟩
      · right; exact ⟨e, by decide⟩
theorem zgK (u : Str) (hu : u.length < 1000000000) : zcl u = some (zbI u == 2) := by
  unfold zcl
  rw [zhl, Option.bind_some]
  obtain ⟨k', h, e⟩ := zmu hu (At.zero u)
  rw [e, Option.bind_some]
  dsimp only
  rw [zr2 h]
  unfold zbI zaR
  have h1 : decide ((zeL u).2.1 ≤ 1) = !decide (1 < (zeL u).2.1) := by
    rw [Bool.eq_iff_iff]; simp
  rw [h1]
  cases hv : (zeL u).2.2.1 with
  | false => rfl
  | true =>
    rw [if_pos rfl, Option.bind_some, Bool.true_and]
    cases (zeL u).2.2.2 == [] with
    | false => rfl
    | true =>
      rw [if_pos rfl, if_pos rfl]
      obtain ⟨a, b, t, _, ha, hb, ev⟩ := zkl hv
      rw [ev]
      dsimp only
      cases ((a - 48).toNat : Int) == 1 with
      | false => rfl
      | true =>
        rw [Bool.not_true, if_neg (by decide), Bool.true_and]
        by_cases h2 : (1 : Int) < ((b - 48).toNat : Int)
        · rw [decide_eq_true h2]; rfl
        · rw [decide_eq_false h2, Bool.not_false, if_pos rfl]
          have : (((b - 48).toNat : Int) == 2) = false := beq_eq_false_iff_ne.2 (by omega)
          rw [this]
def zdw (r : Str) : Int × Bool × Str := ((zeL r).2.1, (zeL r).2.2.1 && (zeL r).1 == 1 && decide ((zeL r).2.1 ≤ 1), (zeL r).2.2.2)
theorem zpy (hs : s.length < 1000000000) (h : At s k r) : ∃ k', At s k' (zdw r).2.2 ∧ zaY ⟨scn s k⟩ = some ((zdw r).1, (zdw r).2.1, scn s k') := by
  unfold zaY zdw
  obtain ⟨k', h1, e⟩ := zmu hs h
  refine ⟨k', h1, ?_⟩
  rw [e, Option.bind_some]
  dsimp only
  cases (zeL r).2.2.1 <;> cases (zeL r).1 == 1 <;> rfl
theorem znP (r : Str) : ((zdw r).2.1 && (zdw r).2.2 == []) = (decide (0 ≤ zbI r) && !(zbI r == 2)) ∧ ((zdw r).2.1 = true → (zdw r).2.2 = [] → (zdw r).1 = zbI r) := by
  unfold zdw zbI
  dsimp only
  cases hv : (zeL r).2.2.1 with
  | false => exact ⟨rfl, fun h => by cases h⟩
  | true =>
    obtain ⟨a, b, t, _, ha, hb, ev⟩ := zkl hv
    rw [ev]
    dsimp only
    rw [Bool.true_and, Bool.true_and]
    cases hq : (((a - 48).toNat : Int) == 1 && decide (((b - 48).toNat : Int) ≤ 1)) with
    | false =>
      refine ⟨?_, fun h => by cases h⟩
      cases t == [] <;> rfl
    | true =>
      simp only [Bool.and_eq_true, decide_eq_true_eq] at hq
      refine ⟨?_, fun _ h => ?_⟩
      · cases t == [] with
        | false => rfl
        | true =>
          rw [if_pos rfl, if_pos rfl]
          have : (((b - 48).toNat : Int) == 2) = false := beq_eq_false_iff_ne.2 (by omega)
          rw [this, decide_eq_true (by omega)]; rfl
      · subst h; rfl
end
def zbf : api_Head := ⟨0, [], [], 0, [], 0, []⟩
def znQ (s : Str) : Nat := match zf7 s 32 s.length with
  | none => 0
  | some k => k + 1
theorem zql (s : Str) (hs : s.length < 300000000) : ∃ r, zaq s 32 = some r ∧ zE r 1 = some (znQ s : Int) ∧ znQ s ≤ s.length := by
  rw [zhG s 32 (by omega)]
  unfold znQ
  cases hl : zf7 s 32 s.length with
  | none => exact ⟨-1, rfl, by decide, Nat.zero_le _⟩
  | some k =>
    have := (ziW hl).1
    exact ⟨k, rfl, zq (by omega), by show k + 1 ≤ s.length; omega⟩
def ziQ (s : Str) : Str := s.drop (znQ s)
def zjW (s : Str) : Str := s.takeWhile zbc
def zlp (s : Str) : Str := s.dropWhile zbc
def zlE (s : Str) : Str := (zaD 32 (zlp s)).takeWhile (fun b => !(b == 32))
def zhd (s : Str) : Str := (zaD 32 (zlp s)).dropWhile (fun b => !(b == 32))
def zpz (s : Str) : Bool := !(zjW s == []) && zfv 32 (zlp s) && zfv 32 (zhd s) && ((zdw (zaD 32 (zhd s))).2.1 && (zdw (zaD 32 (zhd s))).2.2 == []) && (zgM (zjW s) (zlE s)).2 == 0
def zlF (s : Str) : api_Head × Int := if zbI (ziQ s) == 2 then (zbf, 26) else if zpz s then (⟨1, zjW s, zlE s, 0, [], (zdw (zaD 32 (zhd s))).1, []⟩, 0) else (zbf, 20)
theorem ziR (s : Str) (hs : s.length < 300000000) : zcv s = some (zlF s) := by
  unfold zcv zlF ziQ
  obtain ⟨r, e0, hi⟩ := zql s hs
  rw [e0, Option.bind_some]
  generalize znQ s = n at hi
  rw [hi.1, Option.bind_some, zag hi.2, Option.bind_some, zgK _ (by simp; omega), Option.bind_some]
  cases zbI (s.drop n) == 2 with
  | true => rfl
  | false =>
    rw [if_neg (by decide), if_neg (by decide), zhl, Option.bind_some]
    have hs' : s.length < 1000000000 := by omega
    obtain ⟨k1, h1, e1⟩ := zpw hs' (At.zero s)
    obtain ⟨k2, h2, e2⟩ := zia hs' 32 h1
    obtain ⟨k3, h3, e3⟩ := ziO (f := zbO) (p := fun b => !(b == 32)) (fun b => rfl) hs' h2
    obtain ⟨k4, h4, e4⟩ := zia hs' 32 h3
    obtain ⟨k5, h5, e5⟩ := zpy hs' h4
    rw [e1, Option.bind_some]
    dsimp only
    rw [e2, Option.bind_some]
    dsimp only
    rw [e3, Option.bind_some]
    dsimp only
    rw [e4, Option.bind_some]
    dsimp only
    have hl := h2.le_len
    have hl2 := zio (fun b => !(b == 32)) (zaD 32 (s.dropWhile zbc))
    rw [e5, Option.bind_some, zlG _ _ (by omega), Option.bind_some]
    dsimp only
    rw [zr2 h5, Option.bind_some]
    unfold zV zpz zlE zjW zhd zlp
    cases s.takeWhile zbc == [] <;> cases zfv 32 (s.dropWhile zbc) <;> cases zfv 32 ((zaD 32 (s.dropWhile zbc)).dropWhile (fun b => !(b == 32))) <;> cases (zdw (zaD 32 ((zaD 32 (s.dropWhile zbc)).dropWhile (fun b => !(b == 32))))).2.1 <;> cases (zdw (zaD 32 ((zaD 32 (s.dropWhile zbc)).dropWhile (fun b => !(b == 32))))).2.2 == [] <;> cases (zgM (s.takeWhile zbc) ((zaD 32 (s.dropWhile zbc)).takeWhile (fun b => !(b == 32)))).2 == 0 <;> rfl
theorem zfV {p : UInt8 → Bool} {s : Str} {x : UInt8} (h : x ∈ s.takeWhile p) : p x = true := by
  induction s with
  | nil => cases h
  | cons c s ih =>
    rw [List.takeWhile_cons] at h
    split at h
    · rename_i hc
      rcases List.mem_cons.1 h with rfl | h
      · exact hc
      · exact ih h
    · cases h
theorem zr3 {x : UInt8} (h : zbc x = true) : x ≠ 32 := by rintro rfl; revert h; decide
theorem zjX {s : Str} (h : zpz s = true) : ∃ v, s = zjW s ++ 32 :: (zlE s ++ 32 :: v) ∧ (32 : UInt8) ∉ zjW s ∧ (32 : UInt8) ∉ zlE s ∧ zjW s ≠ [] ∧ (zjW s).all zbc = true ∧ 0 ≤ zbI v ∧ (zbI v == 2) = false ∧ (zdw (zaD 32 (zhd s))).1 = zbI v ∧ ((zgM (zjW s) (zlE s)).2 == 0) = true := by
  unfold zpz at h
  simp only [Bool.and_eq_true, Bool.not_eq_true', beq_eq_false_iff_ne] at h
  obtain ⟨⟨⟨⟨h1, h2⟩, h3⟩, h4, h5⟩, h6⟩ := h
  have e1 : zjW s ++ zlp s = s := List.takeWhile_append_dropWhile
  have e2 := zfC h2
  have e3 : zlE s ++ zhd s = zaD 32 (zlp s) := List.takeWhile_append_dropWhile
  have e4 := zfC h3
  have hm := znP (zaD 32 (zhd s))
  have hk : (decide (0 ≤ zbI (zaD 32 (zhd s))) && !(zbI (zaD 32 (zhd s)) == 2)) = true := by rw [← hm.1, h4, Bool.true_and]; exact h5
  simp only [Bool.and_eq_true, decide_eq_true_eq, Bool.not_eq_true'] at hk
  refine ⟨zaD 32 (zhd s), ?_, ?_, ?_, h1, ?_, hk.1, hk.2, hm.2 h4 (by simpa using h5), h6⟩
  · rw [← e4, e3, ← e2, e1]
  · exact fun hx => zr3 (zfV hx) rfl
  · exact fun hx => by have := zfV hx; simp at this
  · exact List.all_eq_true.2 fun x hx => zfV hx
def zmv (s : Str) : Str := (zaD 32 (zdw s).2.2).takeWhile zO
def zkm (s : Str) : Str := (zaD 32 (zdw s).2.2).dropWhile zO
def zoB (s : Str) : Bool := (zdw s).2.1 && zfv 32 (zdw s).2.2 && zfv 32 (zkm s) && ((zmv s).length : Int) == 3 && (zam 10 (zmv s) 599).2 == 0 && !decide ((zam 10 (zmv s) 599).1 < 100) && (zaD 32 (zkm s)).all zfs
def znl (s : Str) : api_Head × Int := if zbI (zL 32 s).1 == 2 then (zbf, 26) else if zoB s then (⟨2, [], [], (zam 10 (zmv s) 599).1, zaD 32 (zkm s), (zdw s).1, []⟩, 0) else (zbf, 20)
theorem zjs (s : Str) (hs : s.length < 300000000) : zcM s = some (znl s) := by
  unfold zcM znl
  have hcl := zjk 32 s
  rw [ziw s 32 (by omega), Option.bind_some, zgK _ (by omega), Option.bind_some]
  cases zbI (zL 32 s).1 == 2 with
  | true => rfl
  | false =>
    rw [if_neg (by decide), if_neg (by decide), zhl, Option.bind_some]
    have hs' : s.length < 1000000000 := by omega
    obtain ⟨k1, h1, e1⟩ := zpy hs' (At.zero s)
    obtain ⟨k2, h2, e2⟩ := zia hs' 32 h1
    obtain ⟨k3, h3, e3⟩ := ziO zfL hs' h2
    obtain ⟨k4, h4, e4⟩ := zia hs' 32 h3
    rw [e1, Option.bind_some]
    dsimp only
    rw [e2, Option.bind_some]
    dsimp only
    rw [e3, Option.bind_some]
    dsimp only
    have hl := h2.le_len
    have hl2 := zio zO (zaD 32 (zdw s).2.2)
    have hl4 := h4.le_len
    rw [e4, Option.bind_some, zeS _ _ (by omega) (by decide) (by decide), Option.bind_some]
    dsimp only
    rw [zlP h4, Option.bind_some, zdn zhR _ (by omega), Option.bind_some]
    unfold zT zoB zkm zmv
    dsimp only
    rw [zlP h4, Option.bind_some]
    cases (zdw s).2.1 <;> cases zfv 32 (zdw s).2.2 <;> cases zfv 32 ((zaD 32 (zdw s).2.2).dropWhile zO) <;> cases (((zaD 32 (zdw s).2.2).takeWhile zO).length : Int) == 3 <;> cases (zam 10 ((zaD 32 (zdw s).2.2).takeWhile zO) 599).2 == 0 <;> cases decide ((zam 10 ((zaD 32 (zdw s).2.2).takeWhile zO) 599).1 < 100) <;> cases (zaD 32 ((zaD 32 (zdw s).2.2).dropWhile zO)).all zfs <;> rfl
def zb5 (kind : Int) (s : Str) : api_Head × Int := if !(kind == 1) && !(kind == 2) then (zbf, 1) else if s.any ([13, 10] : Str).contains then (zbf, 24) else if kind == 1 then zlF s else znl s
theorem zgL (kind : Int) (s : Str) (hs : s.length < 300000000) : zbL kind s = some (zb5 kind s) := by
  unfold zbL zb9 zb5
  rw [ze6 s [13, 10] (by omega) (by decide) (by decide), Option.bind_some, ziR s hs, Option.bind_some, zjs s hs, Option.bind_some]
  cases kind == 1 <;> cases kind == 2 <;> cases s.any ([13, 10] : Str).contains <;> rfl

end Go.Dm
end
section
namespace Go.Dm
theorem zr6 {v : Str} (h : 0 ≤ zbI v) (h2 : (zbI v == 2) = false) : (32 : UInt8) ∉ v := by
  rcases zgJ h h2 with ⟨h, _⟩ | ⟨h, _⟩ <;> rw [h] <;> decide
theorem zpF {m t v : Str} (h1 : (32 : UInt8) ∉ m) (h2 : (32 : UInt8) ∉ t) (h3 : (32 : UInt8) ∉ v) : zi 32 (m ++ 32 :: (t ++ 32 :: v)) = [m, t, v] := by
  rw [zdx _ h1, zdx _ h2, ze5 h3]
theorem zku (c : UInt8) : ∀ (x y : Str), zi c (x ++ c :: y) = zi c x ++ zi c y
  | [], y => by rw [List.nil_append, zay, if_pos rfl]; rfl
  | z :: x, y => by
    rw [List.cons_append, zay, zay, zku c x y]
    split
    · rfl
    · cases h : zi c x with
      | nil => exact absurd h (za7 c x)
      | cons a l => rfl
theorem zi4 {c : UInt8} : ∀ {s x : Str}, zi c s = [x] → x = s
  | [], x, h => by rw [zi] at h; cases h; rfl
  | y :: s, x, h => by
    rw [zay] at h
    split at h
    · injection h with h1 h2
      exact absurd h2 (za7 c s)
    · cases h3 : zi c s with
      | nil => exact absurd h3 (za7 c s)
      | cons a l =>
        rw [h3] at h
        injection h with h1 h2
        subst h2
        have := zi4 h3
        rw [← h1, this]; rfl
theorem zmG (s : Str) : (zlF s = (zbf, 26) ∨ zlF s = (zbf, 20)) ∨ zpz s = true ∧ zlF s = (⟨1, zjW s, zlE s, 0, [], (zdw (zaD 32 (zhd s))).1, []⟩, 0) := by
  unfold zlF
  split
  · exact .inl (.inl rfl)
  · cases h : zpz s with
    | true => exact .inr ⟨rfl, rfl⟩
    | false => exact .inl (.inr rfl)
end Go.Dm
end
