/-
  The models' words: partial operations as functions into Option. No program in sight.
  The models of the functions: written by a program (wip/gen) off the translation. No program in sight.
  The library's functions as the models say them, and as the library's contracts say them. No program in sight.
  Plain tools for the laws: the partial operations at natural numbers, loops over lists. No program in sight.
  Responses that a gateway makes itself.
  Splitting a text at one byte. No program in sight.
-/
import Derived.Lib.ItoaNum
import Derived.Lib.SplitLaws
import Derived.Lib.SlTrimSet
import Derived.Lib.Join
import Derived.Lib.IndexMore
import Derived.Lib.Bytealg
import Derived.Lib.Index
import Derived.Lib.IndexAny
section
namespace Go.Dm
abbrev Str := List UInt8

def inI (n : Int) : Bool := decide (-9223372036854775808 ≤ n) && decide (n ≤ 9223372036854775807)
theorem zh1 {n : Int} : inI n = true ↔ -9223372036854775808 ≤ n ∧ n ≤ 9223372036854775807 := by simp [inI]

def zbk (m n : Int) : Option Int := if inI (m + n) then some (m + n) else none
def zgm (m n : Int) : Option Int := if inI (m - n) then some (m - n) else none
def iMul (m n : Int) : Option Int := if inI (m * n) then some (m * n) else none
def iDiv (m n : Int) : Option Int := if 0 ≤ m ∧ 1 ≤ n ∧ inI (m / n) = true then some (m / n) else none
def iMod (m n : Int) : Option Int := if 0 ≤ m ∧ 1 ≤ n ∧ inI (m % n) = true then some (m % n) else none
def sAt (l : Str) (i : Int) : Option UInt8 := if 0 ≤ i then l[i.toNat]? else none
def sTo (l : Str) (h : Int) : Option Str := if 0 ≤ h ∧ h ≤ l.length then some (l.take h.toNat) else none
def ze8 (l : Str) (i : Int) : Option Str := if 0 ≤ i ∧ i ≤ l.length then some (l.drop i.toNat) else none
def zh2 (l : Str) (i h : Int) : Option Str := if 0 ≤ i ∧ i ≤ h ∧ h ≤ l.length then some ((l.take h.toNat).drop i.toNat) else none
def zgn (l m : Str) : Option Str := if l.length + m.length ≤ 9223372036854775807 then some (l ++ m) else none
def lAt {α : Type} (l : List α) (i : Int) : Option α := if 0 ≤ i then l[i.toNat]? else none
def zY (n m bytes : Nat) : Bool := decide (n + m ≤ 9223372036854775807) && decide ((n + m) * bytes ≤ 140737488355328)
theorem og {α : Type} {b : Bool} {x : Option α} {r : α} (h : (if b = true then x else none) = some r) : b = true ∧ x = some r := by
  cases b with
  | false => cases h
  | true => exact ⟨rfl, h⟩
theorem zk0 (b : Bool) : b = true ∨ b = false := by cases b <;> simp
theorem ob {α β : Type} {m : Option α} {f : α → Option β} {r : β} (h : m.bind f = some r) : ∃ x, m = some x ∧ f x = some r := by
  cases m with
  | none => cases h
  | some x => exact ⟨x, rfl, h⟩
theorem it {α : Type} {b : Bool} {x y : Option α} {r : α} (hb : b = true) (h : (if b = true then x else y) = some r) : x = some r := by rwa [if_pos hb] at h
theorem ie {α : Type} {b : Bool} {x y : Option α} {r : α} (hb : b = false) (h : (if b = true then x else y) = some r) : y = some r := by rwa [if_neg (by simp [hb])] at h

def fuel : Nat := 1000000000000000000
def zc1 (l : List (Int × Str)) (k : Int) : Str × Bool := match l.find? fun q => q.1 == k with
  | some q => (q.2, true)
  | none => ([], false)
end Go.Dm
end
section
set_option linter.unusedVariables false
set_option maxRecDepth 10000
namespace Go.Dm
structure api_Field where
  Name : Str
  Value : Str
deriving DecidableEq, Inhabited
structure api_Head where
  Kind : Int
  Method : Str
  Target : Str
  Code : Int
  Reason : Str
  Minor : Int
  Fields : List api_Field
deriving DecidableEq, Inhabited
structure api_Frame where
  Kind : Int
  N : Int
deriving DecidableEq, Inhabited
structure api_Message where
  Head : api_Head
  Frame : api_Frame
  Body : Str
  Trailers : List api_Field
deriving DecidableEq, Inhabited
structure scan_Scanner where
  f_s : Str
  f_at : Int
deriving DecidableEq, Inhabited
structure startline_line where
  Scanner : scan_Scanner
deriving DecidableEq, Inhabited
structure api_Host where
  Kind : Int
  Name : Str
  Port : Int
deriving DecidableEq, Inhabited
structure api_Target where
  Kind : Int
  Scheme : Str
  Host : api_Host
  Path : Str
  Query : Str
  HasQuery : Bool
deriving DecidableEq, Inhabited
structure bag_Bag where
  f_l : List api_Field
deriving DecidableEq, Inhabited
structure commas_splitter where
  Scanner : scan_Scanner
  f_out : List Str
  f_from : Int
  f_s : Str
deriving DecidableEq, Inhabited
structure quoted_reader where
  Scanner : scan_Scanner
  f_out : List UInt8
deriving DecidableEq, Inhabited
structure length_reader where
  Bag : bag_Bag
  f_minor : Int
deriving DecidableEq, Inhabited
structure quill_Quill where
  f_b : List UInt8
  f_most : Int
deriving DecidableEq, Inhabited
structure head_printer where
  Quill : quill_Quill
  f_full : Bool
deriving DecidableEq, Inhabited
structure enchunk_Encoder where
  f_size : Int
  f_buf : Str
  f_done : Bool
deriving DecidableEq, Inhabited
abbrev optE {α : Type} {β : Sort _} (o : Option α) (k0 : β) (k1 : α → β) : β := match o with | none => k0 | some x => k1 x
theorem optE_n {α β : Type} {o : Option α} {k0 R : β} {k1 : α → β} (h : o = none) (hm : optE o k0 k1 = R) : k0 = R := by subst h; exact hm
theorem optE_s {α β : Type} {o : Option α} {x : α} {k0 R : β} {k1 : α → β} (h : o = some x) (hm : optE o k0 k1 = R) : k1 x = R := by subst h; exact hm
theorem zlt {α : Type} {o : Option α} {k0 : Prop} {k1 : α → Prop} (h : o = none) (hm : optE o k0 k1) : k0 := by subst h; exact hm
theorem zlu {α : Type} {o : Option α} {x : α} {k0 : Prop} {k1 : α → Prop} (h : o = some x) (hm : optE o k0 k1) : k1 x := by subst h; exact hm

def zf7 : Str → UInt8 → Nat → Int
  | [], _, _ => -1
  | x :: l, c, k => if x == c then (k : Int) else zf7 l c (k + 1)
def strings_IndexByte (s : Str) (c : UInt8) : Option Int := some (zf7 s c 0)
def zfB : Str → Str → Bool
  | _, [] => true
  | [], _ :: _ => false
  | x :: s, y :: t => x == y && zfB s t
def zds : Str → Str → Nat → Int
  | s, t, k => if zfB s t then (k : Int) else match s with
    | [] => -1
    | _ :: s => zds s t (k + 1)
def strings_Index (s t : Str) : Option Int := if s.length < 4294967281 then some (zds s t 0) else none
def strings_Cut (s t : Str) : Option (Str × Str × Bool) := if s.length < 4294967281 then some (Go.Lib.cut s t) else none
def zhn : Str → Str → Nat → Int
  | [], _, _ => -1
  | x :: l, cs, k => if cs.contains x then (k : Int) else zhn l cs (k + 1)
def strings_IndexAny (s cs : Str) : Option Int := if s.length < 4294967281 ∧ cs.length < 4294967281 ∧ cs.all (fun c => c.toNat < 128) then some (zhn s cs 0) else none
def strings_Split (s sep : Str) : Option (List Str) := if s.length < 4294967281 ∧ 1 ≤ sep.length then some (Go.Lib.splitK sep 0 (Go.Lib.countB ⟨s.toArray⟩ ⟨sep.toArray⟩) s) else none
def zx (c : UInt8) : Str → List Str
  | [] => [[]]
  | x :: s => if x = c then [] :: zx c s else match zx c s with
    | [] => [[x]]
    | h :: t => (x :: h) :: t
def zcp (n b : Int) : Option Str := if inI n = true ∧ b = 10 then some (Go.Lib.itoa n) else none
def zdg (s cs : Str) : Option Str := if s.length < 4294967281 ∧ cs.length < 4294967281 ∧ cs.all (fun c => c.toNat < 128) then some (Go.Lib.trimS s cs) else none
def strings_Join (l : List Str) (sep : Str) : Option Str := if l.length ≤ 140737488355328 ∧ (Go.Lib.join l sep).length ≤ 140737488355328 then some (Go.Lib.join l sep) else none
def zdR : Option ((List (Int × Str))) :=
  some ([(400, [66, 97, 100, 32, 82, 101, 113, 117, 101, 115, 116]), (431, [82, 101, 113, 117, 101, 115, 116, 32, 72, 101, 97, 100, 101, 114, 32, 70, 105, 101, 108, 100, 115, 32, 84, 111, 111, 32, 76, 97, 114, 103, 101]), (502, [66, 97, 100, 32, 71, 97, 116, 101, 119, 97, 121])])

def zfC (x_code : Int) : Option (api_Message × Bool) :=
  (zdR).bind fun r3 =>
  if (!((zc1 r3 x_code).2)) then (some (((⟨(⟨0, [], [], 0, [], 0, []⟩ : api_Head), (⟨0, 0⟩ : api_Frame), [], []⟩ : api_Message), false))) else (some (((⟨(⟨2, [], [], x_code, (zc1 r3 x_code).1, 1, [(⟨[67, 111, 110, 116, 101, 110, 116, 45, 76, 101, 110, 103, 116, 104], [48]⟩ : api_Field), (⟨[67, 111, 110, 110, 101, 99, 116, 105, 111, 110], [99, 108, 111, 115, 101]⟩ : api_Field)]⟩ : api_Head), (⟨2, 0⟩ : api_Frame), [], []⟩ : api_Message), true)))

def zdh (x_n : Int) (x_base : Int) : Option Str :=
  if (decide (x_n < 0)) then (some []) else ((zcp x_n x_base).bind fun r6 =>
  some r6)

def zcq (x_n : Int) : Option Str :=
  (zdh x_n 10).bind fun r2 =>
  some r2

def zca (x_sep : Str) (x_l : List Str) : Option Str :=
  (strings_Join x_l x_sep).bind fun r2 =>
  some r2

def strings_ContainsAny (x_s : Str) (x_chars : Str) : Option Bool :=
  (strings_IndexAny x_s x_chars).bind fun r2 =>
  some (decide (0 ≤ r2))

def zA (x_s : Str) (x_c : UInt8) : Nat → Int → Option Int
  | 0, _ => none
  | n + 1, i4 =>
  if (decide (0 ≤ i4)) then ((sAt x_s i4).bind fun b8 =>
  if (b8 == x_c) then (some i4) else ((zgm i4 1).bind fun i13 =>
  (zA x_s x_c n) i13)) else (some (-1))

def zaj (x_s : Str) (x_c : UInt8) : Option Int :=
  (zgm (x_s.length : Int) 1).bind fun i2 =>
  zA x_s x_c fuel i2

def zax (x_s : Str) (x_c : UInt8) : Option Int :=
  (zaj x_s x_c).bind fun r2 =>
  some r2

def zec (x_s : Str) : Option scan_Scanner :=
  some (⟨x_s, 0⟩ : scan_Scanner)

def zab (x_c : scan_Scanner) : Option Str :=
  (ze8 x_c.f_s x_c.f_at).bind fun s4 =>
  some s4

def z7 (t4 : Bool) : Option Bool :=
  some t4

def stringslite_HasPrefix (x_s : Str) (x_prefix : Str) : Option Bool :=
  if (decide ((x_prefix.length : Int) ≤ (x_s.length : Int))) then ((sTo x_s (x_prefix.length : Int)).bind fun s3 =>
  z7 (s3 == x_prefix)) else (z7 false)

def strings_HasPrefix (x_s : Str) (x_prefix : Str) : Option Bool :=
  (stringslite_HasPrefix x_s x_prefix).bind fun r2 =>
  some r2

def zcr (x_c : scan_Scanner) (x_t : Str) : Option (Bool × scan_Scanner) :=
  (zab x_c).bind fun r2 =>
  (strings_HasPrefix r2 x_t).bind fun r3 =>
  if (!r3) then (some (false, x_c)) else ((zbk x_c.f_at (x_t.length : Int)).bind fun i9 =>
  some ((true, (⟨x_c.f_s, i9⟩ : scan_Scanner))))

def zan (x_c : scan_Scanner) : Option Bool :=
  (zab x_c).bind fun r2 =>
  some (r2 == [])

def zI (x_c : scan_Scanner) : Option (UInt8 × Bool) :=
  (zan x_c).bind fun r2 =>
  if r2 then (some (0, false)) else ((sAt x_c.f_s x_c.f_at).bind fun b7 =>
  some (b7, true))

def zbE (t3 : Bool) : Option Bool :=
  some t3

def zP (x_b : UInt8) : Option Bool :=
  if (decide (48 ≤ x_b)) then (zbE (decide (x_b ≤ 57))) else (zbE false)

def zaE (x_c : scan_Scanner) (t5 : Bool) : Option (Bool × scan_Scanner) :=
  if t5 then (some (false, x_c)) else ((zbk x_c.f_at 1).bind fun i9 =>
  some ((true, (⟨x_c.f_s, i9⟩ : scan_Scanner))))

def zm (x_c : scan_Scanner) (x_b : UInt8) : Option (Bool × scan_Scanner) :=
  (zI x_c).bind fun r2 =>
  if (!r2.2) then (zaE x_c true) else (zaE x_c (!(r2.1 == x_b)))

def zac (x_p : startline_line) (r3 : UInt8 × Bool) (t7 : Bool) : Option (Int × Bool × scan_Scanner) :=
  if t7 then (some (0, false, x_p.Scanner)) else ((zm x_p.Scanner r3.1).bind fun r11 =>
  some ((((r3.1 - 48).toNat : Int), true, r11.2)))

def zaF (x_p : startline_line) : Option (Int × Bool × scan_Scanner) :=
  (zI x_p.Scanner).bind fun r3 =>
  if (!r3.2) then (zac x_p r3 true) else ((zP r3.1).bind fun r6 =>
  zac x_p r3 (!r6))

def zM (r9 : Int × Bool × scan_Scanner) (r15 : Int × Bool × scan_Scanner) (t20 : Bool) : Option (Int × Int × Bool × scan_Scanner) :=
  some (r9.1, r15.1, t20, r15.2.2)

def zak (x_p : startline_line) : Option (Int × Int × Bool × scan_Scanner) :=
  (zcr x_p.Scanner [72, 84, 84, 80, 47]).bind fun r3 =>
  if (!r3.1) then (some (0, 0, false, r3.2)) else ((zaF (⟨r3.2⟩ : startline_line)).bind fun r9 =>
  (zm r9.2.2 46).bind fun r12 =>
  (zaF (⟨r12.2⟩ : startline_line)).bind fun r15 =>
  if r9.2.1 then (if r12.1 then (zM r9 r15 r15.2.1) else (zM r9 r15 false)) else (zM r9 r15 false))

def z6 (t13 : Bool) : Option Bool :=
  some t13

def zb2 (x_s : Str) : Option Bool :=
  (zec x_s).bind fun r2 =>
  (zak (⟨r2⟩ : startline_line)).bind fun r6 =>
  if r6.2.2.1 then ((zan r6.2.2.2).bind fun r10 =>
  if r10 then (if (!(r6.1 == 1)) then (z6 true) else (z6 (decide (1 < r6.2.1)))) else (z6 false)) else (z6 false)

def zaf (x_c : scan_Scanner) : Option Int :=
  some x_c.f_at

def zbl (r2 : Int) (s14 : Str) (i15 : Int) : Option (Str × scan_Scanner) :=
  (zh2 s14 r2 i15).bind fun s18 =>
  some ((s18, (⟨s14, i15⟩ : scan_Scanner)))

def zay (rec1 : Str → Int → Option (Str × scan_Scanner)) (r2 : Int) (s4 : Str) (i5 : Int) (t10 : Bool) : Option (Str × scan_Scanner) :=
  if t10 then (zbl r2 s4 i5) else ((zbk i5 1).bind fun i13 =>
  rec1 s4 i13)

def zE (x_is : UInt8 → Option Bool) (r2 : Int) : Nat → Str → Int → Option (Str × scan_Scanner)
  | 0, _, _ => none
  | n + 1, s4, i5 =>
  (zI (⟨s4, i5⟩ : scan_Scanner)).bind fun r6 =>
  if (!r6.2) then (zay (zE x_is r2 n) r2 s4 i5 true) else ((x_is r6.1).bind fun r9 =>
  zay (zE x_is r2 n) r2 s4 i5 (!r9))

def zap (x_c : scan_Scanner) (x_is : UInt8 → Option Bool) : Option (Str × scan_Scanner) :=
  (zaf x_c).bind fun r2 =>
  zE x_is r2 fuel x_c.f_s x_c.f_at

def zcs (x_b : UInt8) (t3 : Bool) : Option UInt8 :=
  if t3 then (some (x_b + 32)) else (some x_b)

def zX (x_b : UInt8) : Option UInt8 :=
  if (decide (65 ≤ x_b)) then (zcs x_b (decide (x_b ≤ 90))) else (zcs x_b false)

def zbF (t5 : Bool) : Option Bool :=
  some t5

def zcR (x_b : UInt8) : Option Bool :=
  (zX x_b).bind fun r2 =>
  if (decide (97 ≤ r2)) then ((zX x_b).bind fun r4 =>
  zbF (decide (r4 ≤ 122))) else (zbF false)

def zdn (x_b : UInt8) (x_l : Str) : Option Bool :=
  (strings_IndexByte x_l x_b).bind fun r2 =>
  some (decide (0 ≤ r2))

def zaP (t7 : Bool) : Option Bool :=
  some t7

def zbj (x_b : UInt8) : Option Bool :=
  (zcR x_b).bind fun r2 =>
  if r2 then (zaP true) else ((zP x_b).bind fun r4 =>
  if r4 then (zaP true) else ((zdn x_b [33, 35, 36, 37, 38, 39, 42, 43, 45, 46, 94, 95, 96, 124, 126]).bind fun r6 =>
  zaP r6))

def zcb (x_c : scan_Scanner) : Option (Str × Bool × scan_Scanner) :=
  (zap x_c zbj).bind fun r2 =>
  some ((r2.1, !(r2.1 == []), r2.2))

def zaN (x_b : UInt8) : Option Bool :=
  some (!(x_b == 32))

def zR (r3 : Int × Int × Bool × scan_Scanner) (t8 : Bool) : Option (Int × Bool × scan_Scanner) :=
  some (r3.2.1, t8, r3.2.2.2)

def zaG (x_p : startline_line) : Option (Int × Bool × scan_Scanner) :=
  (zak x_p).bind fun r3 =>
  if r3.2.2.1 then (if (r3.1 == 1) then (zR r3 (decide (r3.2.1 ≤ 1))) else (zR r3 false)) else (zR r3 false)

def zct (rec1 : Int → Option Bool) (x_is : UInt8 → Option Bool) (i3 : Int) (x7 : Str) : Nat → Int → Option Bool
  | 0, _ => none
  | n + 1, i12 =>
  if (decide (i12 < (x7.length : Int))) then ((sAt x7 i12).bind fun b17 =>
  (x_is b17).bind fun r18 =>
  if (!r18) then (some false) else ((zbk i12 1).bind fun i23 =>
  (zct rec1 x_is i3 x7 n) i23)) else ((zbk i3 1).bind fun i25 =>
  rec1 i25)

def zbG (x_is : UInt8 → Option Bool) (x_l : List Str) : Nat → Int → Option Bool
  | 0, _ => none
  | n + 1, i3 =>
  if (decide (i3 < (x_l.length : Int))) then ((lAt x_l i3).bind fun x7 =>
  zct (zbG x_is x_l n) x_is i3 x7 fuel 0) else (some true)

def zbH (x_is : UInt8 → Option Bool) (x_l : List Str) : Option Bool :=
  zbG x_is x_l fuel 0

def zdS (x_b : UInt8) : Option Int :=
  (zP x_b).bind fun r2 =>
  if r2 then (some (((x_b - 48).toNat : Int))) else ((zX x_b).bind fun r7 =>
  (zbk (((r7 - 97).toNat : Int)) 10).bind fun i8 =>
  some i8)

def zb3 (rec2 : Int → Int → Option (Int × Int)) (x_base : Int) (i11 : Int) (i12 : Int) (r18 : Int) (t23 : Bool) : Option (Int × Int) :=
  if t23 then (some (0, 7)) else ((iMul i11 x_base).bind fun i27 =>
  (zbk i27 r18).bind fun i28 =>
  (zbk i12 1).bind fun i30 =>
  rec2 i28 i30)

def zag (x_s : Str) (x_base : Int) (x_most : Int) : Nat → Int → Int → Option (Int × Int)
  | 0, _, _ => none
  | n + 1, i11, i12 =>
  if (decide (i12 < (x_s.length : Int))) then ((sAt x_s i12).bind fun b17 =>
  (zdS b17).bind fun r18 =>
  if (decide (x_most < r18)) then (zb3 (zag x_s x_base x_most n) x_base i11 i12 r18 true) else ((zgm x_most r18).bind fun i21 =>
  (iDiv i21 x_base).bind fun i22 =>
  zb3 (zag x_s x_base x_most n) x_base i11 i12 r18 (decide (i22 < i11)))) else (some (i11, 0))

def zb4 (x_s : Str) (x_base : Int) (x_most : Int) (t5 : Bool) : Option (Int × Int) :=
  if t5 then (some (0, 2)) else (zag x_s x_base x_most fuel 0 0)

def zep (x_s : Str) (x_base : Int) (x_most : Int) (x_is : UInt8 → Option Bool) : Option (Int × Int) :=
  if (x_s == []) then (zb4 x_s x_base x_most true) else ((zbH x_is ([x_s] : List Str)).bind fun r4 =>
  zb4 x_s x_base x_most (!r4))

def zaB (x_s : Str) (x_most : Int) : Option (Int × Int) :=
  (zep x_s 10 x_most zP).bind fun r2 =>
  some (r2.1, r2.2)

def zbo (t6 : Bool) : Option Bool :=
  some t6

def zbx (x_s : Str) (x_most : Int) : Option Bool :=
  (zaB x_s x_most).bind fun r2 =>
  if (r2.2 == 0) then ((zcq r2.1).bind fun r5 =>
  zbo (r5 == x_s)) else (zbo false)

def zcS (s : Str) : Option Bool := if s.length < 1000000000 then ((zx 46 s).mapM (fun x => zbx x 255)).bind fun bs => some (bs.all id && decide ((bs.length : Int) = 4)) else none

def zby (t7 : Bool) : Option Bool :=
  some t7

def zaX (x_b : UInt8) : Option Bool :=
  (zP x_b).bind fun r2 =>
  if r2 then (zby true) else ((zX x_b).bind fun r4 =>
  if (decide (97 ≤ r4)) then ((zX x_b).bind fun r6 =>
  zby (decide (r6 ≤ 102))) else (zby false))

def za1 (rec1 : Int → Int → Option Int) (i13 : Int) (i36 : Int) : Option Int :=
  (zbk i13 1).bind fun i37 =>
  rec1 i36 i37

def zaq (rec1 : Int → Int → Option Int) (i12 : Int) (i13 : Int) (t32 : Bool) : Option Int :=
  if t32 then ((zbk i12 1).bind fun i34 =>
  za1 rec1 i13 i34) else (some (-1))

def zar (rec1 : Int → Int → Option Int) (i12 : Int) (i13 : Int) (x17 : Str) (t25 : Bool) : Option Int :=
  if t25 then ((zbk i12 2).bind fun i27 =>
  za1 rec1 i13 i27) else (if (decide (1 ≤ (x17.length : Int))) then (if (decide ((x17.length : Int) ≤ 4)) then ((zbH zaX ([x17] : List Str)).bind fun r31 =>
  zaq rec1 i12 i13 r31) else (zaq rec1 i12 i13 false)) else (zaq rec1 i12 i13 false))

def zv (x_last : Bool) (r6 : List Str) : Nat → Int → Int → Option Int
  | 0, _, _ => none
  | n + 1, i12, i13 =>
  if (decide (i13 < (r6.length : Int))) then ((lAt r6 i13).bind fun x17 =>
  if x_last then ((zgm (r6.length : Int) 1).bind fun i22 =>
  if (i13 == i22) then ((zcS x17).bind fun r24 =>
  zar (zv x_last r6 n) i12 i13 x17 r24) else (zar (zv x_last r6 n) i12 i13 x17 false)) else (zar (zv x_last r6 n) i12 i13 x17 false)) else (some i12)

def zbd (x_s : Str) (x_last : Bool) : Option Int :=
  if (x_s == []) then (some 0) else ((strings_Split x_s [58]).bind fun r6 =>
  zv x_last r6 fuel 0 0)

def zbe (t15 : Bool) : Option Bool :=
  some t15

def zeq (x_s : Str) : Option Bool :=
  (strings_Cut x_s [58, 58]).bind fun r2 =>
  if (!r2.2.2) then ((zbd x_s true).bind fun r6 =>
  some (r6 == 8)) else ((zbd r2.1 false).bind fun r9 =>
  (zbd r2.2.1 true).bind fun r10 =>
  if (decide (0 ≤ r9)) then (if (decide (0 ≤ r10)) then ((zbk r9 r10).bind fun i14 =>
  zbe (decide (i14 ≤ 7))) else (zbe false)) else (zbe false))

def zai (t8 : Bool) : Option Bool :=
  some t8

def zcK (x_s : Str) : Option Bool :=
  if (decide (3 ≤ (x_s.length : Int))) then ((sAt x_s 0).bind fun b3 =>
  if (b3 == 37) then ((zh2 x_s 1 3).bind fun s5 =>
  (zbH zaX ([s5] : List Str)).bind fun r7 =>
  zai r7) else (zai false)) else (zai false)

def zZ (t7 : Bool) : Option Bool :=
  some t7

def za2 (x_b : UInt8) : Option Bool :=
  (zcR x_b).bind fun r2 =>
  if r2 then (zZ true) else ((zP x_b).bind fun r4 =>
  if r4 then (zZ true) else ((zdn x_b [45, 46, 95, 126]).bind fun r6 =>
  zZ r6))

def zdG (x_b : UInt8) : Option Bool :=
  (zdn x_b [33, 36, 38, 39, 40, 41, 42, 43, 44, 59, 61]).bind fun r2 =>
  some r2

def zbI (rec1 : Str → Option Bool) (s6 : Str) (t19 : Bool) : Option Bool :=
  if t19 then ((ze8 s6 1).bind fun s21 =>
  rec1 s21) else (some false)

def zS : Nat → Str → Option Bool
  | 0, _ => none
  | n + 1, s6 =>
  if (!(s6 == [])) then ((zcK s6).bind fun r10 =>
  if r10 then ((ze8 s6 3).bind fun s13 =>
  (zS n) s13) else ((sAt s6 0).bind fun b14 =>
  (za2 b14).bind fun r15 =>
  if r15 then (zbI (zS n) s6 true) else ((sAt s6 0).bind fun b17 =>
  (zdG b17).bind fun r18 =>
  zbI (zS n) s6 r18))) else (some true)

def zdT (x_s : Str) : Option Bool :=
  if (x_s == []) then (some false) else (zS fuel x_s)

def zaQ (i24 : Int) (s25 : Str) : Option (api_Host × Bool) :=
  some (((⟨i24, s25, (-1)⟩ : api_Host), !(i24 == 0)))

def zaR (x_s : Str) (t14 : Bool) : Option (api_Host × Bool) :=
  if t14 then ((zgm (x_s.length : Int) 1).bind fun i16 =>
  (zh2 x_s 1 i16).bind fun s17 =>
  zaQ 3 s17) else ((zcS x_s).bind fun r18 =>
  if r18 then (zaQ 2 x_s) else ((zdT x_s).bind fun r21 =>
  if r21 then (zaQ 1 x_s) else (zaQ 0 x_s)))

def zdH (x_s : Str) : Option (api_Host × Bool) :=
  if (decide (2 < (x_s.length : Int))) then ((sAt x_s 0).bind fun b6 =>
  if (b6 == 91) then ((zgm (x_s.length : Int) 1).bind fun i8 =>
  (sAt x_s i8).bind fun b9 =>
  if (b9 == 93) then ((zgm (x_s.length : Int) 1).bind fun i11 =>
  (zh2 x_s 1 i11).bind fun s12 =>
  (zeq s12).bind fun r13 =>
  zaR x_s r13) else (zaR x_s false)) else (zaR x_s false)) else (zaR x_s false)

def zbp (x_s : Str) (r10 : Int) (r17 : api_Host × Bool) (t24 : Bool) : Option (api_Host × Int) :=
  if t24 then (some (((⟨0, [], 0⟩ : api_Host), 27))) else ((zbk r10 1).bind fun i28 =>
  (ze8 x_s i28).bind fun s29 =>
  (zaB s29 65535).bind fun r30 =>
  some (((⟨r17.1.Kind, r17.1.Name, r30.1⟩ : api_Host), 0)))

def zbz (x_s : Str) : Option (api_Host × Int) :=
  (zdH x_s).bind fun r3 =>
  if r3.2 then (some (r3.1, 0)) else ((zax x_s 58).bind fun r10 =>
  if (decide (r10 < 0)) then (some (((⟨0, [], 0⟩ : api_Host), 27))) else ((sTo x_s r10).bind fun s16 =>
  (zdH s16).bind fun r17 =>
  if (!r17.2) then (zbp x_s r10 r17 true) else ((zbk r10 1).bind fun i21 =>
  (ze8 x_s i21).bind fun s22 =>
  (zbx s22 65535).bind fun r23 =>
  zbp x_s r10 r17 (!r23))))

def zdt (s : Str) : Option Str := if s.length < 4294967281 then s.mapM zX else none

def zbf (t7 : Bool) : Option Bool :=
  some t7

def zer (x_b : UInt8) : Option Bool :=
  (za2 x_b).bind fun r2 =>
  if r2 then (zbf true) else ((zdG x_b).bind fun r4 =>
  if r4 then (zbf true) else ((zdn x_b [58, 64]).bind fun r6 =>
  zbf r6))

def zdI (rec1 : Int → Option Bool) (i27 : Int) : Option Bool :=
  (zbk i27 1).bind fun i28 =>
  rec1 i28

def zcZ (rec1 : Int → Option Bool) (i3 : Int) (t23 : Bool) : Option Bool :=
  if t23 then ((zbk i3 2).bind fun i25 =>
  zdI rec1 i25) else (some false)

def zdJ (rec1 : Int → Option Bool) (x_s : Str) (i3 : Int) (t12 : Bool) : Option Bool :=
  if t12 then (zdI rec1 i3) else ((sAt x_s i3).bind fun b14 =>
  if (b14 == 37) then ((zbk i3 2).bind fun i16 =>
  if (decide (i16 < (x_s.length : Int))) then ((zbk i3 1).bind fun i18 =>
  (zbk i3 3).bind fun i19 =>
  (zh2 x_s i18 i19).bind fun s20 =>
  (zbH zaX ([s20] : List Str)).bind fun r22 =>
  zcZ rec1 i3 r22) else (zcZ rec1 i3 false)) else (zcZ rec1 i3 false))

def zaH (x_s : Str) (x_more : Str) : Nat → Int → Option Bool
  | 0, _ => none
  | n + 1, i3 =>
  if (decide (i3 < (x_s.length : Int))) then ((sAt x_s i3).bind fun b7 =>
  (zer b7).bind fun r8 =>
  if r8 then (zdJ (zaH x_s x_more n) x_s i3 true) else ((sAt x_s i3).bind fun b10 =>
  (strings_IndexByte x_more b10).bind fun r11 =>
  zdJ (zaH x_s x_more n) x_s i3 (decide (0 ≤ r11)))) else (some true)

def zf8 (x_s : Str) (x_more : Str) : Option Bool :=
  zaH x_s x_more fuel 0

def zcT (t5 : Bool) : Option Bool :=
  some t5

def zfD (x_s : Str) : Option Bool :=
  (strings_HasPrefix x_s [47]).bind fun r2 =>
  if r2 then ((zf8 x_s [47]).bind fun r4 =>
  zcT r4) else (zcT false)

def ze9 (x_s : Str) : Option Bool :=
  (zf8 x_s [47, 63]).bind fun r2 =>
  some r2

def zdi (r2 : Str × Str × Bool) (t7 : Bool) : Option (Str × Str × Bool × Int) :=
  if t7 then (some ([], [], false, 2)) else (some (r2.1, r2.2.1, r2.2.2, 0))

def zgo (x_s : Str) : Option (Str × Str × Bool × Int) :=
  (strings_Cut x_s [63]).bind fun r2 =>
  (zfD r2.1).bind fun r4 =>
  if (!r4) then (zdi r2 true) else ((ze9 r2.2.1).bind fun r6 =>
  zdi r2 (!r6))

def zcu (x_t : api_Target) (r15 : Str × Str × Bool × Int) (s19 : Str) : Option (api_Target × Bool) :=
  some (((⟨x_t.Kind, x_t.Scheme, x_t.Host, s19, r15.2.1, r15.2.2.1⟩ : api_Target), r15.2.2.2 == 0))

def zcv (x_t : api_Target) (b9 : UInt8) (s14 : Str) : Option (api_Target × Bool) :=
  (zgo s14).bind fun r15 =>
  if (b9 == 63) then (zcu x_t r15 []) else (zcu x_t r15 r15.1)

def zdK (x_t : api_Target) (x_s : Str) : Option (api_Target × Bool) :=
  if (x_s == []) then (some (x_t, true)) else ((sAt x_s 0).bind fun b9 =>
  if (b9 == 63) then ((zgn [47] x_s).bind fun s13 =>
  zcv x_t b9 s13) else (zcv x_t b9 x_s))

def za3 (r3 : Str × Str × Bool) (r5 : Str) (i18 : Int) : Option (api_Target × Bool) :=
  (sTo r3.2.1 i18).bind fun s19 =>
  (zbz s19).bind fun r20 =>
  if (!(r20.2 == 0)) then (some (((⟨2, r5, (⟨0, [], 0⟩ : api_Host), [], [], false⟩ : api_Target), false))) else ((ze8 r3.2.1 i18).bind fun s28 =>
  (zdK (⟨2, r5, r20.1, [], [], false⟩ : api_Target) s28).bind fun r29 =>
  some (r29.1, r29.2))

def zas (r3 : Str × Str × Bool) (r5 : Str) (t10 : Bool) : Option (api_Target × Bool) :=
  if t10 then (some (((⟨2, r5, (⟨0, [], 0⟩ : api_Host), [], [], false⟩ : api_Target), false))) else ((strings_IndexAny r3.2.1 [47, 63]).bind fun r14 =>
  if (decide (r14 < 0)) then (za3 r3 r5 (r3.2.1.length : Int)) else (za3 r3 r5 r14))

def zc2 (x_s : Str) : Option (api_Target × Bool) :=
  (strings_Cut x_s [58, 47, 47]).bind fun r3 =>
  (zdt r3.1).bind fun r5 =>
  if (!r3.2.2) then (zas r3 r5 true) else (if (!(r5 == [104, 116, 116, 112])) then (zas r3 r5 (!(r5 == [104, 116, 116, 112, 115]))) else (zas r3 r5 false))

def zgp (x_method : Str) (x_s : Str) : Option (api_Target × Bool) :=
  if (x_s == [42]) then (some (((⟨4, [], (⟨0, [], 0⟩ : api_Host), [], [], false⟩ : api_Target), x_method == [79, 80, 84, 73, 79, 78, 83]))) else ((strings_HasPrefix x_s [47]).bind fun r7 =>
  if (!r7) then ((zc2 x_s).bind fun r10 =>
  some (r10.1, r10.2)) else ((zdK ((⟨1, [], (⟨0, [], 0⟩ : api_Host), [], [], false⟩ : api_Target)) x_s).bind fun r13 =>
  some (r13.1, r13.2)))

def zb5 (r5 : api_Host × Int) (t9 : Bool) : Option (api_Target × Int) :=
  if t9 then (some (((⟨0, [], (⟨0, [], 0⟩ : api_Host), [], [], false⟩ : api_Target), 20))) else (some (((⟨3, [], r5.1, [], [], false⟩ : api_Target), 0)))

def zes (x_method : Str) (x_s : Str) : Option (api_Target × Int) :=
  if (x_method == [67, 79, 78, 78, 69, 67, 84]) then ((zbz x_s).bind fun r5 =>
  if (!(r5.2 == 0)) then (zb5 r5 true) else (zb5 r5 (decide (r5.1.Port < 0)))) else ((zgp x_method x_s).bind fun r15 =>
  if (!r15.2) then (some (((⟨0, [], (⟨0, [], 0⟩ : api_Host), [], [], false⟩ : api_Target), 20))) else (some (r15.1, 0)))

def zC (r17 : Str × Bool × scan_Scanner) (r23 : Str × scan_Scanner) (r29 : Int × Bool × scan_Scanner) (t41 : Bool) : Option (api_Head × Int) :=
  if t41 then (some (((⟨0, [], [], 0, [], 0, []⟩ : api_Head), 20))) else (some (((⟨1, r17.1, r23.1, 0, [], r29.1, []⟩ : api_Head), 0)))

def zcw (x_a0 : Str) : Option (api_Head × Int) :=
  (zax x_a0 32).bind fun r5 =>
  (zbk r5 1).bind fun i6 =>
  (ze8 x_a0 i6).bind fun s7 =>
  (zb2 s7).bind fun r8 =>
  if r8 then (some (((⟨0, [], [], 0, [], 0, []⟩ : api_Head), 26))) else ((zec x_a0).bind fun r13 =>
  (zcb r13).bind fun r17 =>
  (zm r17.2.2 32).bind fun r20 =>
  (zap r20.2 zaN).bind fun r23 =>
  (zm r23.2 32).bind fun r26 =>
  (zaG (⟨r26.2⟩ : startline_line)).bind fun r29 =>
  (zes r17.1 r23.1).bind fun r32 =>
  if (!r17.2.1) then (zC r17 r23 r29 true) else (if (!r20.1) then (zC r17 r23 r29 true) else (if (!r26.1) then (zC r17 r23 r29 true) else (if (!r29.2.1) then (zC r17 r23 r29 true) else ((zan r29.2.2).bind fun r39 =>
  if (!r39) then (zC r17 r23 r29 true) else (zC r17 r23 r29 (!(r32.2 == 0))))))))

def za4 (t3 : Bool) : Option Bool :=
  some t3

def zc3 (x_b : UInt8) : Option Bool :=
  if (decide (32 < x_b)) then (za4 (decide (x_b < 127))) else (za4 false)

def zbJ (t3 : Bool) : Option Bool :=
  some t3

def zdU (x_b : UInt8) : Option Bool :=
  if (x_b == 32) then (zbJ true) else (zbJ (x_b == 9))

def zaS (t6 : Bool) : Option Bool :=
  some t6

def zam (x_b : UInt8) : Option Bool :=
  (zc3 x_b).bind fun r2 =>
  if r2 then (zaS true) else ((zdU x_b).bind fun r4 =>
  if r4 then (zaS true) else (zaS (decide (127 < x_b))))

def zz (r14 : Int × Bool × scan_Scanner) (r23 : Bool × scan_Scanner) (r26 : Int × Int) (t37 : Bool) : Option (api_Head × Int) :=
  if t37 then (some (((⟨0, [], [], 0, [], 0, []⟩ : api_Head), 20))) else ((zab r23.2).bind fun r41 =>
  some (((⟨2, [], [], r26.1, r41, r14.1, []⟩ : api_Head), 0)))

def zcL (x_a0 : Str) : Option (api_Head × Int) :=
  (strings_Cut x_a0 [32]).bind fun r3 =>
  (zb2 r3.1).bind fun r5 =>
  if r5 then (some (((⟨0, [], [], 0, [], 0, []⟩ : api_Head), 26))) else ((zec x_a0).bind fun r10 =>
  (zaG (⟨r10⟩ : startline_line)).bind fun r14 =>
  (zm r14.2.2 32).bind fun r17 =>
  (zap r17.2 zP).bind fun r20 =>
  (zm r20.2 32).bind fun r23 =>
  (zaB r20.1 599).bind fun r26 =>
  if (!r14.2.1) then (zz r14 r23 r26 true) else (if (!r17.1) then (zz r14 r23 r26 true) else (if (!r23.1) then (zz r14 r23 r26 true) else (if (!((r20.1.length : Int) == 3)) then (zz r14 r23 r26 true) else (if (!(r26.2 == 0)) then (zz r14 r23 r26 true) else (if (decide (r26.1 < 100)) then (zz r14 r23 r26 true) else ((zab r23.2).bind fun r34 =>
  (zbH zam ([r34] : List Str)).bind fun r36 =>
  zz r14 r23 r26 (!r36))))))))

def za5 (x_kind : Int) (x_s : Str) (t4 : Bool) : Option (api_Head × Int) :=
  if t4 then (some (((⟨0, [], [], 0, [], 0, []⟩ : api_Head), 1))) else ((strings_ContainsAny x_s [13, 10]).bind fun r7 =>
  if r7 then (some (((⟨0, [], [], 0, [], 0, []⟩ : api_Head), 24))) else (if (x_kind == 1) then ((zcw x_s).bind fun r13 =>
  some (r13.1, r13.2)) else ((zcL x_s).bind fun r18 =>
  some (r18.1, r18.2))))

def zc4 (x_kind : Int) (x_s : Str) : Option (api_Head × Int) :=
  if (!(x_kind == 1)) then (za5 x_kind x_s (!(x_kind == 2))) else (za5 x_kind x_s false)

def zbq (s14 : Str) (t30 : Bool) : Option (Str × Int) :=
  if t30 then (some ([], 20)) else (some (s14, 0))

def zT (s14 : Str) (r15 : api_Head × Int) (t28 : Bool) : Option (Str × Int) :=
  if (!(r15.2 == 0)) then (zbq s14 true) else (zbq s14 (!t28))

def zbr (x_a0 : api_Head) (s14 : Str) : Option (Str × Int) :=
  (zc4 x_a0.Kind s14).bind fun r15 =>
  if (r15.2 == 1) then (some ([], r15.2)) else (if (r15.1.Method == x_a0.Method) then (if (r15.1.Target == x_a0.Target) then (if (r15.1.Minor == x_a0.Minor) then (if (r15.1.Code == x_a0.Code) then (zT s14 r15 (r15.1.Reason == x_a0.Reason)) else (zT s14 r15 false)) else (zT s14 r15 false)) else (zT s14 r15 false)) else (zT s14 r15 false))

def zcx (x_a0 : api_Head) : Option (Str × Int) :=
  (zcq x_a0.Minor).bind fun r3 =>
  (zgn [72, 84, 84, 80, 47, 49, 46] r3).bind fun s4 =>
  (zca [32] ([x_a0.Method, x_a0.Target, s4] : List Str)).bind fun r7 =>
  if (x_a0.Kind == 2) then ((zcq x_a0.Code).bind fun r11 =>
  (zca [32] ([s4, r11, x_a0.Reason] : List Str)).bind fun r13 =>
  zbr x_a0 r13) else (zbr x_a0 r7)

def zcy (t5 : Bool) : Option Bool :=
  some t5

def zdL (x_s : Str) : Option Bool :=
  if (!(x_s == [])) then ((zbH zbj ([x_s] : List Str)).bind fun r4 =>
  zcy r4) else (zcy false)

def za6 (t11 : Bool) : Option Int :=
  if t11 then (some 25) else (some 0)

def zb6 (x_f : api_Field) : Option Int :=
  (zdL x_f.Name).bind fun r3 =>
  if (!r3) then (some 21) else ((zbH zam ([x_f.Value] : List Str)).bind fun r8 =>
  if (!r8) then (za6 true) else ((zdg x_f.Value [32, 9]).bind fun r10 =>
  za6 (!(r10 == x_f.Value))))

def zD (x_s : List api_Field) : Option (List api_Field) :=
  if zY 0 x_s.length 32 then (some x_s) else none

def zgL (x_l : List api_Field) : Option bag_Bag :=
  (zD x_l).bind fun r2 =>
  some (⟨r2⟩ : bag_Bag)

def zet (x_b : bag_Bag) : Option (List api_Field) :=
  (zD x_b.f_l).bind fun r4 =>
  some r4

def zeu (x_a : Str) (x_b : Str) : Option Bool :=
  (zdt x_a).bind fun r2 =>
  (zdt x_b).bind fun r3 =>
  some (r2 == r3)

def zbs (rec1 : (List Str) → Int → Option (List Str)) (i10 : Int) (l28 : List Str) : Option (List Str) :=
  (zbk i10 1).bind fun i29 =>
  rec1 l28 i29

def zU (x_name : Str) (r3 : List api_Field) : Nat → (List Str) → Int → Option (List Str)
  | 0, _, _ => none
  | n + 1, l9, i10 =>
  if (decide (i10 < (r3.length : Int))) then ((lAt r3 i10).bind fun x14 =>
  (zeu x14.Name x_name).bind fun r19 =>
  if r19 then (if zY l9.length 1 16 then (zbs (zU x_name r3 n) i10 (l9 ++ ([x14.Value] : List Str))) else none) else (zbs (zU x_name r3 n) i10 l9)) else (some l9)

def zbA (x_b : bag_Bag) (x_name : Str) : Option (List Str) :=
  (zet x_b).bind fun r3 =>
  zU x_name r3 fuel [] 0

def zcU (rec2 : Int → Option Bool) (i21 : Int) (t33 : Bool) : Option Bool :=
  if t33 then (some false) else ((zbk i21 1).bind fun i37 =>
  rec2 i37)

def zaL (r11 : List Str) : Nat → Int → Option Bool
  | 0, _ => none
  | n + 1, i21 =>
  if (decide (i21 < (r11.length : Int))) then ((lAt r11 i21).bind fun x25 =>
  (zbz x25).bind fun r29 =>
  if (!(r29.2 == 0)) then (zcU (zaL r11 n) i21 (!(x25 == []))) else (zcU (zaL r11 n) i21 false)) else (some true)

def zcV (r11 : List Str) (t16 : Bool) : Option Bool :=
  if t16 then (some false) else (zaL r11 fuel 0)

def zfE (x_h : api_Head) : Option Bool :=
  if (!(x_h.Kind == 1)) then (some true) else ((zgL x_h.Fields).bind fun r7 =>
  (zbA r7 [72, 111, 115, 116]).bind fun r11 =>
  if (decide (1 < (r11.length : Int))) then (zcV r11 true) else (zcV r11 (decide ((r11.length : Int) < x_h.Minor))))

def zfF (x_h : api_Head) : Option Int :=
  if (decide (100 < (x_h.Fields.length : Int))) then (some 3) else ((zfE x_h).bind fun r6 =>
  if (!r6) then (some 27) else (some 0))

def zbZ (x_h : api_Head) : Nat → Int → Option Int
  | 0, _ => none
  | n + 1, i10 =>
  if (decide (i10 < (x_h.Fields.length : Int))) then ((lAt x_h.Fields i10).bind fun x14 =>
  (zb6 x14).bind fun r19 =>
  if (!(r19 == 0)) then (some r19) else ((zbk i10 1).bind fun i25 =>
  (zbZ x_h n) i25)) else ((zfF x_h).bind fun r27 =>
  some r27)

def zev (x_h : api_Head) : Option Int :=
  (zcx x_h).bind fun r3 =>
  if (!(r3.2 == 0)) then (some r3.2) else (zbZ x_h fuel 0)

def zal (x_p : commas_splitter) (l12 : List Str) : Option commas_splitter :=
  (zaf x_p.Scanner).bind fun r13 =>
  some (⟨x_p.Scanner, l12, r13, x_p.f_s⟩ : commas_splitter)

def zaO (x_p : commas_splitter) (x_at : Int) : Option commas_splitter :=
  (zh2 x_p.f_s x_p.f_from x_at).bind fun s1 =>
  (zdg s1 [32, 9]).bind fun r2 =>
  if (!(r2 == [])) then (if zY x_p.f_out.length 1 16 then (zal x_p (x_p.f_out ++ ([r2] : List Str))) else none) else (zal x_p x_p.f_out)

def zat (x_p : commas_splitter) (s33 : Str) (i34 : Int) : Option (Bool × commas_splitter) :=
  some ((true, (⟨(⟨s33, i34⟩ : scan_Scanner), x_p.f_out, x_p.f_from, x_p.f_s⟩ : commas_splitter)))

def zn (x_p : commas_splitter) : Nat → Str → Int → Int → Option (Bool × commas_splitter)
  | 0, _, _, _ => none
  | n + 1, s3, i4, i5 =>
  if (decide (0 < i5)) then ((zI (⟨s3, i4⟩ : scan_Scanner)).bind fun r9 =>
  if (!r9.2) then (some ((false, (⟨(⟨s3, i4⟩ : scan_Scanner), x_p.f_out, x_p.f_from, x_p.f_s⟩ : commas_splitter)))) else ((zm (⟨s3, i4⟩ : scan_Scanner) r9.1).bind fun r15 =>
  if (r9.1 == 40) then ((zbk i5 1).bind fun i21 =>
  (zn x_p n) r15.2.f_s r15.2.f_at i21) else (if (r9.1 == 41) then ((zgm i5 1).bind fun i24 =>
  (zn x_p n) r15.2.f_s r15.2.f_at i24) else (if (r9.1 == 92) then ((zI r15.2).bind fun r27 =>
  if r27.2 then ((zm r15.2 r27.1).bind fun r31 =>
  (zn x_p n) r31.2.f_s r31.2.f_at i5) else ((zn x_p n) r15.2.f_s r15.2.f_at i5)) else ((zn x_p n) r15.2.f_s r15.2.f_at i5))))) else (zat x_p s3 i4)

def zaT (x_p : commas_splitter) : Option (Bool × commas_splitter) :=
  zn x_p fuel x_p.Scanner.f_s x_p.Scanner.f_at 1

def zaz (x_r : quoted_reader) (r2 : Bool × scan_Scanner) (r5 : UInt8 × Bool) (t9 : Bool) : Option (Bool × quoted_reader) :=
  if t9 then (some ((false, (⟨r2.2, x_r.f_out⟩ : quoted_reader)))) else (if zY x_r.f_out.length 1 1 then ((zm r2.2 r5.1).bind fun r18 =>
  some ((r18.1, (⟨r18.2, x_r.f_out ++ [r5.1]⟩ : quoted_reader)))) else none)

def zcc (x_r : quoted_reader) : Option (Bool × quoted_reader) :=
  (zm x_r.Scanner 92).bind fun r2 =>
  (zI r2.2).bind fun r5 =>
  if (!r5.2) then (zaz x_r r2 r5 true) else ((zam r5.1).bind fun r8 =>
  zaz x_r r2 r5 (!r8))

def zaI (x_c : scan_Scanner) (x_at : Int) (t4 : Bool) : Option (Bool × scan_Scanner) :=
  if t4 then (some (false, x_c)) else (some ((true, (⟨x_c.f_s, x_at⟩ : scan_Scanner))))

def zcz (x_c : scan_Scanner) (x_at : Int) : Option (Bool × scan_Scanner) :=
  if (decide (x_at < 0)) then (zaI x_c x_at true) else ((zaf x_c).bind fun r3 =>
  zaI x_c x_at (decide (r3 < x_at)))

def zdu (r2 : Int) (t27 : Bool) (s28 : Str) (i29 : Int) (l32 : List UInt8) : Option (Str × Bool × scan_Scanner) :=
  if (!t27) then ((zcz (⟨s28, i29⟩ : scan_Scanner) r2).bind fun r35 =>
  some ([], false, r35.2)) else (some ((l32, true, (⟨s28, i29⟩ : scan_Scanner))))

def zcA (rec1 : Str → Int → (List UInt8) → Bool → Option (Str × Bool × scan_Scanner)) (r2 : Int) (l13 : List UInt8) (t14 : Bool) (t18 : Bool) (s19 : Str) (i20 : Int) : Option (Str × Bool × scan_Scanner) :=
  if t18 then ((zcc ((⟨(⟨s19, i20⟩ : scan_Scanner), l13⟩ : quoted_reader))).bind fun r23 =>
  rec1 r23.2.Scanner.f_s r23.2.Scanner.f_at r23.2.f_out r23.1) else (zdu r2 t14 s19 i20 l13)

def zau (r2 : Int) : Nat → Str → Int → (List UInt8) → Bool → Option (Str × Bool × scan_Scanner)
  | 0, _, _, _, _ => none
  | n + 1, s9, i10, l13, t14 =>
  if t14 then ((zm (⟨s9, i10⟩ : scan_Scanner) 34).bind fun r16 =>
  zcA (zau r2 n) r2 l13 t14 (!r16.1) r16.2.f_s r16.2.f_at) else (zcA (zau r2 n) r2 l13 t14 false s9 i10)

def zfa (x_c : scan_Scanner) : Option (Str × Bool × scan_Scanner) :=
  (zaf x_c).bind fun r2 =>
  (zm x_c 34).bind fun r6 =>
  zau r2 fuel r6.2.f_s r6.2.f_at [] r6.1

def zad (l34 : List Str) (i35 : Int) (s36 : Str) (s37 : Str) (i38 : Int) : Option (Bool × commas_splitter) :=
  some ((true, (⟨(⟨s37, i38⟩ : scan_Scanner), l34, i35, s36⟩ : commas_splitter)))

def zbB (x_p : commas_splitter) : Option (Bool × commas_splitter) :=
  (zaf x_p.Scanner).bind fun r2 =>
  (zm x_p.Scanner 44).bind fun r4 =>
  if r4.1 then ((zaO (⟨r4.2, x_p.f_out, x_p.f_from, x_p.f_s⟩ : commas_splitter) r2).bind fun r8 =>
  zad r8.f_out r8.f_from r8.f_s r8.Scanner.f_s r8.Scanner.f_at) else ((zm r4.2 40).bind fun r12 =>
  if r12.1 then ((zaT (⟨r12.2, x_p.f_out, x_p.f_from, x_p.f_s⟩ : commas_splitter)).bind fun r16 =>
  some (r16.1, r16.2)) else ((zI r12.2).bind fun r21 =>
  if (r21.1 == 34) then ((zfa r12.2).bind fun r25 =>
  some ((r25.2.1, (⟨r25.2.2, x_p.f_out, x_p.f_from, x_p.f_s⟩ : commas_splitter)))) else ((zm r12.2 r21.1).bind fun r30 =>
  zad x_p.f_out x_p.f_from x_p.f_s r30.2.f_s r30.2.f_at)))

def zc5 (x_s : Str) (l26 : List Str) (i27 : Int) (s28 : Str) (s29 : Str) (i30 : Int) : Option (List Str × Int) :=
  (zaO ((⟨(⟨s29, i30⟩ : scan_Scanner), l26, i27, s28⟩ : commas_splitter)) (x_s.length : Int)).bind fun r31 =>
  some (r31.f_out, 0)

def zbg (x_s : Str) : Nat → (List Str) → Int → Str → Str → Int → Option (List Str × Int)
  | 0, _, _, _, _, _ => none
  | n + 1, l8, i9, s10, s11, i12 =>
  (zan (⟨s11, i12⟩ : scan_Scanner)).bind fun r13 =>
  if (!r13) then ((zbB ((⟨(⟨s11, i12⟩ : scan_Scanner), l8, i9, s10⟩ : commas_splitter))).bind fun r17 =>
  if (!r17.1) then (some ([], 2)) else ((zbg x_s n) r17.2.f_out r17.2.f_from r17.2.f_s r17.2.Scanner.f_s r17.2.Scanner.f_at)) else (zc5 x_s l8 i9 s10 s11 i12)

def zdj (x_s : Str) : Option (List Str × Int) :=
  (zec x_s).bind fun r2 =>
  zbg x_s fuel [] 0 x_s r2.f_s r2.f_at

def zaU (rec1 : (List Str) → Int → Option (List Str × Int)) (l6 : List Str) (i7 : Int) (r15 : List Str × Int) : Nat → Int → Option (List Str × Int)
  | 0, _ => none
  | n + 1, i24 =>
  if (decide (i24 < (r15.1.length : Int))) then ((lAt r15.1 i24).bind fun x28 =>
  (zdL x28).bind fun r32 =>
  if (!r32) then (some ([], 2)) else ((zbk i24 1).bind fun i37 =>
  (zaU rec1 l6 i7 r15 n) i37)) else (if zY l6.length r15.1.length 16 then ((zbk i7 1).bind fun i43 =>
  rec1 (l6 ++ r15.1) i43) else none)

def zao (x_l : List Str) : Nat → (List Str) → Int → Option (List Str × Int)
  | 0, _, _ => none
  | n + 1, l6, i7 =>
  if (decide (i7 < (x_l.length : Int))) then ((lAt x_l i7).bind fun x11 =>
  (zdj x11).bind fun r15 =>
  if (!(r15.2 == 0)) then (some ([], r15.2)) else (zaU (zao x_l n) l6 i7 r15 fuel 0)) else (some (l6, 0))

def zdV (x_l : List Str) : Option (List Str × Int) :=
  zao x_l fuel [] 0

def zK (t15 : Bool) : Option (api_Frame × Int) :=
  if t15 then (some (((⟨0, 0⟩ : api_Frame), 30))) else (some (((⟨3, 0⟩ : api_Frame), 0)))

def zbC (x_r : length_reader) (x_l : List Str) : Option (api_Frame × Int) :=
  (zdV x_l).bind fun r4 =>
  if (!(r4.2 == 0)) then (zK true) else (if (x_r.f_minor == 0) then (zK true) else (if (!((r4.1.length : Int) == 1)) then (zK true) else ((lAt r4.1 0).bind fun x11 =>
  (zeu x11 [99, 104, 117, 110, 107, 101, 100]).bind fun r14 =>
  zK (!r14))))

def zQ (rec2 : Int → Int → Option (api_Frame × Int)) (i25 : Int) (r33 : Int × Int) (t37 : Bool) : Option (api_Frame × Int) :=
  if t37 then (some (((⟨0, 0⟩ : api_Frame), 28))) else ((zbk i25 1).bind fun i42 =>
  rec2 r33.1 i42)

def zt (rec1 : Int → Int → Option (api_Frame × Int)) (i7 : Int) (r15 : List Str × Int) : Nat → Int → Int → Option (api_Frame × Int)
  | 0, _, _ => none
  | n + 1, i24, i25 =>
  if (decide (i25 < (r15.1.length : Int))) then ((lAt r15.1 i25).bind fun x29 =>
  (zaB x29 1099511627776).bind fun r33 =>
  if (!(r33.2 == 0)) then (zQ (zt rec1 i7 r15 n) i25 r33 true) else (if (decide (0 ≤ i24)) then (zQ (zt rec1 i7 r15 n) i25 r33 (!(r33.1 == i24))) else (zQ (zt rec1 i7 r15 n) i25 r33 false))) else ((zbk i7 1).bind fun i44 =>
  rec1 i24 i44)

def zw (x_l : List Str) : Nat → Int → Int → Option (api_Frame × Int)
  | 0, _, _ => none
  | n + 1, i6, i7 =>
  if (decide (i7 < (x_l.length : Int))) then ((lAt x_l i7).bind fun x11 =>
  (zdj x11).bind fun r15 =>
  if (!(r15.2 == 0)) then (some (((⟨0, 0⟩ : api_Frame), 28))) else (zt (zw x_l n) i7 r15 fuel i6 0)) else (if (decide (i6 < 0)) then (some (((⟨0, 0⟩ : api_Frame), 28))) else (some (((⟨2, i6⟩ : api_Frame), 0))))

def zbm (x_r : length_reader) (x_l : List Str) : Option (api_Frame × Int) :=
  zw x_l fuel (-1) 0

def zdk (x_h : api_Head) (x_none : Int) (r4 : bag_Bag) (r10 : List Str) (r13 : List Str) (t18 : Bool) : Option (api_Frame × Int) :=
  if t18 then (some (((⟨0, 0⟩ : api_Frame), 29))) else (if (decide (0 < (r10.length : Int))) then ((zbC (⟨r4, x_h.Minor⟩ : length_reader) r10).bind fun r23 =>
  some (r23.1, r23.2)) else (if (decide (0 < (r13.length : Int))) then ((zbm (⟨r4, x_h.Minor⟩ : length_reader) r13).bind fun r27 =>
  some (r27.1, r27.2)) else (some (((⟨x_none, 0⟩ : api_Frame), 0)))))

def zfg (x_h : api_Head) (x_none : Int) : Option (api_Frame × Int) :=
  (zgL x_h.Fields).bind fun r4 =>
  (zbA r4 [84, 114, 97, 110, 115, 102, 101, 114, 45, 69, 110, 99, 111, 100, 105, 110, 103]).bind fun r10 =>
  (zbA r4 [67, 111, 110, 116, 101, 110, 116, 45, 76, 101, 110, 103, 116, 104]).bind fun r13 =>
  if (decide (0 < (r10.length : Int))) then (zdk x_h x_none r4 r10 r13 (decide (0 < (r13.length : Int)))) else (zdk x_h x_none r4 r10 r13 false)

def zdv (x_h : api_Head) : Option (api_Frame × Int) :=
  (zfg x_h 1).bind fun r4 =>
  some (r4.1, r4.2)

def zL (t7 : Bool) : Option Bool :=
  some t7

def zc6 (x_method : Str) (x_code : Int) : Option Bool :=
  if (x_method == [72, 69, 65, 68]) then (zL true) else (if (decide (x_code < 200)) then (zL true) else (if (x_code == 204) then (zL true) else (if (x_code == 304) then (zL true) else (if (x_method == [67, 79, 78, 78, 69, 67, 84]) then (zL (decide (x_code < 300))) else (zL false)))))

def zc7 (x_method : Str) (x_h : api_Head) : Option (api_Frame × Int) :=
  (zc6 x_method x_h.Code).bind fun r4 =>
  if r4 then (some (((⟨1, 0⟩ : api_Frame), 0))) else ((zfg x_h 4).bind fun r9 =>
  some (r9.1, r9.2))

def zdW (x_method : Str) (x_h : api_Head) : Option (api_Frame × Int) :=
  if (x_h.Kind == 1) then ((zdv x_h).bind fun r6 =>
  some (r6.1, r6.2)) else ((zc7 x_method x_h).bind fun r9 =>
  some (r9.1, r9.2))

def zb7 (t7 : Bool) : Option Bool :=
  some t7

def zb8 (t11 : Bool) : Option Bool :=
  some t11

def zew (x_m : api_Message) : Option Bool :=
  if (x_m.Frame.Kind == 1) then (if (x_m.Body == []) then (zb7 ((x_m.Trailers.length : Int) == 0)) else (zb7 false)) else (if (x_m.Frame.Kind == 2) then (if ((x_m.Body.length : Int) == x_m.Frame.N) then (zb8 ((x_m.Trailers.length : Int) == 0)) else (zb8 false)) else (if (x_m.Frame.Kind == 4) then (some ((x_m.Trailers.length : Int) == 0)) else (some true)))

def zcB (x_f : api_Field) : Option (Str × Int) :=
  (zb6 x_f).bind fun r3 =>
  if (!(r3 == 0)) then (some ([], r3)) else (if (x_f.Value == []) then ((zgn x_f.Name [58]).bind fun s11 =>
  some (s11, 0)) else ((zgn x_f.Name [58, 32]).bind fun s14 =>
  (zgn s14 x_f.Value).bind fun s15 =>
  some (s15, 0)))

def zaJ (x_trailers : List api_Field) : Nat → (List Str) → Int → Option (Str × Int)
  | 0, _, _ => none
  | n + 1, l7, i8 =>
  if (decide (i8 < (x_trailers.length : Int))) then ((lAt x_trailers i8).bind fun x12 =>
  (zcB x12).bind fun r17 =>
  if (!(r17.2 == 0)) then (some ([], r17.2)) else (if zY l7.length 1 16 then ((zbk i8 1).bind fun i28 =>
  (zaJ x_trailers n) (l7 ++ ([r17.1] : List Str)) i28) else none)) else (if (decide (100 < (x_trailers.length : Int))) then (some ([], 3)) else (if zY l7.length 2 16 then ((zca [13, 10] (l7 ++ ([[], []] : List Str))).bind fun r38 =>
  some (r38, 0)) else none))

def zbD (x_trailers : List api_Field) : Option (Str × Int) :=
  zaJ x_trailers fuel ([[48]] : List Str) 0

def zbK (x_m : api_Message) (t17 : Bool) : Option Int :=
  if t17 then (some 1) else ((zbD x_m.Trailers).bind fun r21 =>
  some r21.2)

def zdX (x_method : Str) (x_m : api_Message) : Option Int :=
  (zev x_m.Head).bind fun r3 =>
  if (!(r3 == 0)) then (some r3) else ((zdW x_method x_m.Head).bind fun r9 =>
  if (!(r9.2 == 0)) then (some r9.2) else (if (!(r9.1 == x_m.Frame)) then (zbK x_m true) else ((zew x_m).bind fun r16 =>
  zbK x_m (!r16))))

def zgq (x_most : Int) : Option quill_Quill :=
  some (⟨[], max x_most 0⟩ : quill_Quill)

def zcM (x_q : quill_Quill) : Option Int :=
  (zgm x_q.f_most (x_q.f_b.length : Int)).bind fun i4 =>
  some i4

def zcd (l44 : List UInt8) (i45 : Int) : Option (Int × quill_Quill) :=
  some ((0, (⟨l44, i45⟩ : quill_Quill)))

def zav (x_l : List Str) : Nat → (List UInt8) → Int → Int → Option (Int × quill_Quill)
  | 0, _, _, _ => none
  | n + 1, l27, i28, i29 =>
  if (decide (i29 < (x_l.length : Int))) then ((lAt x_l i29).bind fun x33 =>
  if zY l27.length x33.length 1 then ((zbk i29 1).bind fun i41 =>
  (zav x_l n) (l27 ++ x33) i28 i41) else none) else (zcd l27 i28)

def zaw (x_q : quill_Quill) (x_l : List Str) : Nat → Int → Int → Option (Int × quill_Quill)
  | 0, _, _ => none
  | n + 1, i7, i8 =>
  if (decide (i8 < (x_l.length : Int))) then ((lAt x_l i8).bind fun x12 =>
  if (decide (i7 < (x12.length : Int))) then (some (10, x_q)) else ((zgm i7 (x12.length : Int)).bind fun i20 =>
  (zbk i8 1).bind fun i22 =>
  (zaw x_q x_l n) i20 i22)) else (zav x_l fuel x_q.f_b x_q.f_most 0)

def zc8 (x_q : quill_Quill) (x_l : List Str) : Option (Int × quill_Quill) :=
  (zcM x_q).bind fun r4 =>
  zaw x_q x_l fuel r4 0

def zcN (x_q : quill_Quill) (x_l : List Str) : Option (Int × quill_Quill) :=
  if zY 0 x_l.length 16 then (if zY x_l.length 1 16 then ((zc8 x_q (x_l ++ ([[13, 10]] : List Str))).bind fun r10 =>
  some (r10.1, r10.2)) else none) else none

def zaK (x_p : head_printer) (x_s : Str) : Option head_printer :=
  (zcN x_p.Quill ([x_s] : List Str)).bind fun r2 =>
  if (!(r2.1 == 0)) then (some (⟨r2.2, true⟩ : head_printer)) else (some (⟨r2.2, x_p.f_full⟩ : head_printer))

def zcO (x_q : quill_Quill) : Option Str :=
  some x_q.f_b

def zdY (t45 : Bool) (l48 : List UInt8) (i49 : Int) : Option (Str × Int) :=
  (zaK ((⟨(⟨l48, i49⟩ : quill_Quill), t45⟩ : head_printer)) []).bind fun r50 =>
  if r50.f_full then (some ([], 3)) else ((zcO r50.Quill).bind fun r59 =>
  some (r59, 0))

def zb0 (x_h : api_Head) : Nat → Bool → (List UInt8) → Int → Int → Option (Str × Int)
  | 0, _, _, _, _ => none
  | n + 1, t23, l26, i27, i28 =>
  if (decide (i28 < (x_h.Fields.length : Int))) then ((lAt x_h.Fields i28).bind fun x32 =>
  (zcB x32).bind fun r37 =>
  (zaK ((⟨(⟨l26, i27⟩ : quill_Quill), t23⟩ : head_printer)) r37.1).bind fun r39 =>
  (zbk i28 1).bind fun i44 =>
  (zb0 x_h n) r39.f_full r39.Quill.f_b r39.Quill.f_most i44) else (zdY t23 l26 i27)

def zfG (x_h : api_Head) (x_limit : Int) : Option (Str × Int) :=
  (zev x_h).bind fun r3 =>
  if (!(r3 == 0)) then (some ([], r3)) else ((zgq x_limit).bind fun r9 =>
  (zcx x_h).bind fun r15 =>
  (zaK (⟨r9, false⟩ : head_printer) r15.1).bind fun r17 =>
  zb0 x_h fuel r17.f_full r17.Quill.f_b r17.Quill.f_most 0)

def zcC (x_size : Int) (t3 : Bool) : Option (Option enchunk_Encoder × Int) :=
  if t3 then (some (none, 1)) else (some ((some (⟨x_size, [], false⟩ : enchunk_Encoder), 0)))

def zfb (x_size : Int) : Option (Option enchunk_Encoder × Int) :=
  if (decide (x_size < 1)) then (zcC x_size true) else (zcC x_size (decide (65536 < x_size)))

def zaA (x_c : enchunk_Encoder) : Option Int :=
  if x_c.f_done then (some 8) else (some 0)

def zc9 (x_n : Int) : Option Str :=
  (zdh x_n 16).bind fun r2 =>
  some r2

def zdw (x_n : Int) : Option Str :=
  (zc9 x_n).bind fun r2 =>
  some r2

def zb9 (x_data : Str) : Option Str :=
  if (x_data == []) then (some []) else ((zdw (x_data.length : Int)).bind fun r6 =>
  (zca [13, 10] ([r6, x_data, []] : List Str)).bind fun r8 =>
  some r8)

def za7 (l30 : List Str) (i31 : Int) (s32 : Str) (t33 : Bool) : Option (Str × Int × enchunk_Encoder) :=
  (zca [] l30).bind fun r34 =>
  some ((r34, 0, (⟨i31, s32, t33⟩ : enchunk_Encoder)))

def zV : Nat → (List Str) → Int → Str → Bool → Option (Str × Int × enchunk_Encoder)
  | 0, _, _, _, _ => none
  | n + 1, l13, i14, s15, t16 =>
  if (decide (i14 ≤ (s15.length : Int))) then ((sTo s15 i14).bind fun s20 =>
  (zb9 s20).bind fun r21 =>
  if zY l13.length 1 16 then ((ze8 s15 i14).bind fun s27 =>
  (zV n) (l13 ++ ([r21] : List Str)) i14 s27 t16) else none) else (za7 l13 i14 s15 t16)

def zbS (x_c : enchunk_Encoder) (x_s : Str) : Option (Str × Int × enchunk_Encoder) :=
  (zaA x_c).bind fun r2 =>
  if (!(r2 == 0)) then (some ([], r2, x_c)) else ((zgn x_c.f_buf x_s).bind fun s9 =>
  zV fuel [] x_c.f_size s9 x_c.f_done)

def zbT (x_c : enchunk_Encoder) (x_trailers : List api_Field) : Option (Str × Int × enchunk_Encoder) :=
  (zaA x_c).bind fun r2 =>
  if (!(r2 == 0)) then (some ([], r2, x_c)) else ((zbD x_trailers).bind fun r8 =>
  if (!(r8.2 == 0)) then (some ([], r8.2, x_c)) else ((zb9 x_c.f_buf).bind fun r14 =>
  (zgn r14 r8.1).bind fun s15 =>
  some ((s15, 0, (⟨x_c.f_size, [], true⟩ : enchunk_Encoder)))))

def z8 : Option Int :=
  some 5

def za8 (x_s : Str) : Option (Str × Int) :=
  (z8).bind fun r2 =>
  if (!(r2 == 0)) then (some ([], r2)) else (none)

def za9 (x_trailers : List api_Field) : Option (Str × Int) :=
  (z8).bind fun r2 =>
  if (!(r2 == 0)) then (some ([], r2)) else ((zbD x_trailers).bind fun r8 =>
  if (!(r8.2 == 0)) then (some ([], r8.2)) else (none))

def zdx (x_body : Str) (x_trailers : List api_Field) (i6 : Int) : Option (Str × Int) :=
  if (!(i6 == 0)) then (some ([], i6)) else ((za8 x_body).bind fun r11 =>
  (za9 x_trailers).bind fun r13 =>
  if (!(r13.2 == 0)) then (some ([], r13.2)) else ((zgn r11.1 r13.1).bind fun s19 =>
  some (s19, 0)))

def zdy (x_body : Str) (x_trailers : List api_Field) (i22 : Int) (i23 : Int) (s24 : Str) (t25 : Bool) : Option (Str × Int) :=
  if (!(i22 == 0)) then (some ([], i22)) else ((zbS (⟨i23, s24, t25⟩ : enchunk_Encoder) x_body).bind fun r30 =>
  (zbT r30.2.2 x_trailers).bind fun r33 =>
  if (!(r33.2.1 == 0)) then (some ([], r33.2.1)) else ((zgn r30.1 r33.1).bind fun s40 =>
  some (s40, 0)))

def zfc (x_size : Int) (x_body : Str) (x_trailers : List api_Field) : Option (Str × Int) :=
  (zfb x_size).bind fun r2 =>
  optE r2.1 (zdx x_body x_trailers r2.2) (fun x4 => zdy x_body x_trailers r2.2 x4.f_size x4.f_buf x4.f_done)

def zbL (r9 : Str × Int) (i19 : Int) (s20 : Str) : Option (Str × Int) :=
  if (!(i19 == 0)) then (some ([], i19)) else ((zgn r9.1 s20).bind fun s25 =>
  some (s25, 0))

def zdZ (x_method : Str) (x_m : api_Message) (x_limit : Int) (x_size : Int) : Option (Str × Int) :=
  (zdX x_method x_m).bind fun r3 =>
  if (!(r3 == 0)) then (some ([], r3)) else ((zfG x_m.Head x_limit).bind fun r9 =>
  if (!(r9.2 == 0)) then (some ([], r9.2)) else (if (x_m.Frame.Kind == 3) then ((zfc x_size x_m.Body x_m.Trailers).bind fun r18 =>
  zbL r9 r18.2 r18.1) else (zbL r9 r9.2 x_m.Body)))

def zce (x_code : Int) : Option Str :=
  (zfC x_code).bind fun r2 =>
  if (!r2.2) then (some []) else ((zdZ [71, 69, 84] r2.1 65536 1).bind fun r13 =>
  some r13.1)

def zdM : Option Bool :=
  (zce 502).bind fun r2 =>
  some (r2 == [72, 84, 84, 80, 47, 49, 46, 49, 32, 53, 48, 50, 32, 66, 97, 100, 32, 71, 97, 116, 101, 119, 97, 121, 13, 10, 67, 111, 110, 116, 101, 110, 116, 45, 76, 101, 110, 103, 116, 104, 58, 32, 48, 13, 10, 67, 111, 110, 110, 101, 99, 116, 105, 111, 110, 58, 32, 99, 108, 111, 115, 101, 13, 10, 13, 10])

def zex (x_e : Int) : Option Int :=
  if (x_e == 0) then (some 0) else (if (x_e == 3) then (some 431) else (some 400))

def zey (x_e : Int) : Option Int :=
  if (x_e == 0) then (some 0) else (if (x_e == 3) then (some 431) else (some 400))

def zO (t12 : Bool) : Option Bool :=
  some t12

def zbM (x_e : Int) : Option Bool :=
  (zdM).bind fun r2 =>
  if (!r2) then (some false) else ((zex x_e).bind fun r7 =>
  (zey x_e).bind fun r9 =>
  if (r7 == r9) then ((zce r7).bind fun r11 =>
  zO ((r7 == 0) == (r11 == []))) else (zO false))

end Go.Dm
end
section
namespace Go.Dm
theorem zgN (b : Bool) (v : Int) (k : Nat) (h : -1 ≤ v) : (if b = true then (k : Int) else if v = -1 then -1 else v + ((k + 1 : Nat) : Int)) =
    if (if b = true then 0 else if (v == -1) = true then -1 else v + 1) = -1 then -1 else (if b = true then 0 else if (v == -1) = true then -1 else v + 1) + (k : Int) := by
  cases b with
  | true => simp
  | false =>
    by_cases hm : v = -1
    · subst hm; simp
    · have h2 : ¬ (v + 1 = -1) := by omega
      have h3 : (v == -1) = false := beq_eq_false_iff_ne.2 hm
      rw [h3]
      simp only [Bool.false_eq_true, if_false, if_neg hm, if_neg h2]
      omega
theorem zgr : ∀ (l : Str) (c : UInt8) (k : Nat), zf7 l c k = if Go.Lib.indexByte l c = -1 then -1 else Go.Lib.indexByte l c + k
  | [], _, _ => rfl
  | x :: l, c, k => by
    rw [zf7, Go.Lib.indexByte, zgr l c (k + 1)]
    exact zgN _ _ k (Go.Lib.indexByte_ge l c)
theorem zjC (x y : UInt8) : (x == y) = (y == x) := by
  by_cases h : x = y
  · subst h; rfl
  · rw [beq_eq_false_iff_ne.2 h, beq_eq_false_iff_ne.2 (Ne.symm h)]
theorem zgO : ∀ (s t : Str), zfB s t = t.isPrefixOf s
  | s, [] => by cases s <;> rfl
  | [], y :: t => rfl
  | x :: s, y :: t => by
    rw [zfB, List.isPrefixOf, zgO s t, zjC x y]
theorem zgP : ∀ (l t : Str) (k : Nat), zds l t k = if Go.Lib.index l t = -1 then -1 else Go.Lib.index l t + k
  | [], t, k => by
    rw [zds, Go.Lib.index]
    cases t <;> simp [zfB]
  | x :: l, t, k => by
    rw [zds, Go.Lib.index, zgO]
    simp only [zgP l t (k + 1)]
    exact zgN _ _ k (Go.Lib.index_ge l t)
theorem zgQ : ∀ (l cs : Str) (k : Nat), zhn l cs k = if Go.Lib.indexAny l cs = -1 then -1 else Go.Lib.indexAny l cs + k
  | [], _, _ => rfl
  | x :: l, cs, k => by
    rw [zhn, Go.Lib.indexAny, zgQ l cs (k + 1)]
    exact zgN _ _ k (Go.Lib.indexAny_ge cs l)
theorem zh6 (l : Str) (c : UInt8) : zf7 l c 0 = Go.Lib.indexByte l c := by
  rw [zgr]; have := Go.Lib.indexByte_ge l c; split <;> omega
theorem ziC (l t : Str) : zds l t 0 = Go.Lib.index l t := by
  rw [zgP]; have := Go.Lib.index_ge l t; split <;> omega
theorem ziD (l cs : Str) : zhn l cs 0 = Go.Lib.indexAny l cs := by
  rw [zgQ]; have := Go.Lib.indexAny_ge cs l; split <;> omega
end Go.Dm
end
section
namespace Go.Dm
@[simp] theorem sAt_nat (l : Str) (i : Nat) : sAt l (i : Int) = l[i]? := by simp [sAt]
@[simp] theorem sAt_zero (l : Str) : sAt l 0 = l[0]? := by simp [sAt]
@[simp] theorem sAt_one (l : Str) : sAt l 1 = l[1]? := by simp [sAt]
@[simp] theorem sAt_two (l : Str) : sAt l 2 = l[2]? := by simp [sAt]
@[simp] theorem lAt_nat {α : Type} (l : List α) (i : Nat) : lAt l (i : Int) = l[i]? := by simp [lAt]
@[simp] theorem lAt_zero {α : Type} (l : List α) : lAt l 0 = l[0]? := by simp [lAt]
theorem iAdd_ok {m n : Int} (h1 : -9223372036854775808 ≤ m + n) (h2 : m + n ≤ 9223372036854775807) : zbk m n = some (m + n) := by simp [zbk, inI, h1, h2]
end Go.Dm
end
section
namespace Go.Dm
theorem zgV : zdM = some true := by decide +kernel
theorem zgB (e : Int) (_ : inI e = true) : zbM e = some true := by
  unfold zbM zex zey
  rw [zgV, Option.bind_some, Bool.not_true, if_neg Bool.false_ne_true]
  have t0 : (zce 0).bind (fun r11 => zO (((0 : Int) == 0) == (r11 == []))) = some true := by decide +kernel
  have t1 : (zce 431).bind (fun r11 => zO (((431 : Int) == 0) == (r11 == []))) = some true := by decide +kernel
  have t2 : (zce 400).bind (fun r11 => zO (((400 : Int) == 0) == (r11 == []))) = some true := by decide +kernel
  cases e == 0
  · cases e == 3
    · exact t2
    · exact t1
  · exact t0
end Go.Dm
end
section
namespace Go.Dm
theorem zfx (c : UInt8) (s : Str) : zx c s ≠ [] := by
  cases s with
  | nil => simp [zx]
  | cons x s =>
    unfold zx
    split
    · simp
    · split <;> simp
def zdP (p : Str) : List Str → List Str
  | [] => [p]
  | h :: t => (p ++ h) :: t
theorem zek (c x : UInt8) (s : Str) : zx c (x :: s) = if x = c then [] :: zx c s else zdP [x] (zx c s) := by
  rw [zx]
  split
  · rfl
  · cases h : zx c s <;> rfl
theorem ziL (l : List Str) (h : l ≠ []) : zdP [] l = l := by
  cases l with
  | nil => exact absurd rfl h
  | cons a t => rfl
theorem zhv (p q : Str) (l : List Str) (h : l ≠ []) : zdP p (zdP q l) = zdP (p ++ q) l := by
  cases l with
  | nil => exact absurd rfl h
  | cons a t => simp [zdP]
theorem zeX (c : UInt8) : ∀ (a s : Str), c ∉ a → zx c (a ++ s) = zdP a (zx c s)
  | [], s, _ => (ziL _ (zfx c s)).symm
  | x :: a, s, h => by
    have hx : ¬ x = c := fun e => h (by simp [e])
    rw [List.cons_append, zek, if_neg hx, zeX c a s (fun e => h (List.mem_cons_of_mem _ e)), zhv _ _ _ (zfx c s)]
    rfl
theorem zhR {c : UInt8} {a : Str} (h : c ∉ a) : zx c a = [a] := by
  have := zeX c a [] h
  simpa [zx, zdP] using this
theorem ziM {c : UInt8} {a : Str} (s : Str) (h : c ∉ a) : zx c (a ++ c :: s) = a :: zx c s := by
  rw [zeX c a _ h, zek, if_pos rfl]
  simp [zdP]
theorem zgv (c : UInt8) : ∀ s : Str, (zx c s).length ≤ s.length + 1
  | [] => by simp [zx]
  | x :: s => by
    have ih := zgv c s
    rw [zek]
    split
    · simp; omega
    · cases hl : zx c s with
      | nil => exact absurd hl (zfx c s)
      | cons a t => rw [hl] at ih; simp [zdP] at ih ⊢; omega
end Go.Dm
end
