/-
  The models' words: partial operations as functions into Option. No program in sight.
  The models of the functions: written by a program (wip/gen) off the translation. No program in sight.
  The library's functions as the models say them, and as the library's contracts say them. No program in sight.
  Plain tools for the laws: the partial operations at natural numbers, loops over lists. No program in sight.
  Responses that a gateway makes itself.
  Splitting a text at one byte. No program in sight.
-/
import Derived.Lib.ItoaNum
import Derived.Lib.SplitLaws
import Derived.Lib.SlTrimSet
import Derived.Lib.Join
import Derived.Lib.IndexMore
import Derived.Lib.Bytealg
import Derived.Lib.Index
import Derived.Lib.IndexAny
section
namespace Go.Dm
abbrev Str := List UInt8

def inI (n : Int) : Bool := decide (-9223372036854775808 ≤ n) && decide (n ≤ 9223372036854775807)
theorem zlc {n : Int} : inI n = true ↔ -9223372036854775808 ≤ n ∧ n ≤ 9223372036854775807 := by simp [inI]

def zaL (m n : Int) : Option Int := if inI (m + n) then some (m + n) else none
def zfE (m n : Int) : Option Int := if inI (m - n) then some (m - n) else none
def iMul (m n : Int) : Option Int := if inI (m * n) then some (m * n) else none
def iDiv (m n : Int) : Option Int := if 0 ≤ m ∧ 1 ≤ n ∧ inI (m / n) = true then some (m / n) else none
def iMod (m n : Int) : Option Int := if 0 ≤ m ∧ 1 ≤ n ∧ inI (m % n) = true then some (m % n) else none
def sAt (l : Str) (i : Int) : Option UInt8 := if 0 ≤ i then l[i.toNat]? else none
def sTo (l : Str) (h : Int) : Option Str := if 0 ≤ h ∧ h ≤ l.length then some (l.take h.toNat) else none
def zeA (l : Str) (i : Int) : Option Str := if 0 ≤ i ∧ i ≤ l.length then some (l.drop i.toNat) else none
def zld (l : Str) (i h : Int) : Option Str := if 0 ≤ i ∧ i ≤ h ∧ h ≤ l.length then some ((l.take h.toNat).drop i.toNat) else none
def zim (l m : Str) : Option Str := if l.length + m.length ≤ 9223372036854775807 then some (l ++ m) else none
def lAt {α : Type} (l : List α) (i : Int) : Option α := if 0 ≤ i then l[i.toNat]? else none
def lTo {α : Type} (l : List α) (h : Int) : Option (List α) := if 0 ≤ h ∧ h ≤ l.length then some (l.take h.toNat) else none
def zoi {α : Type} (l : List α) (i : Int) : Option (List α) := if 0 ≤ i ∧ i ≤ l.length then some (l.drop i.toNat) else none
def lSub {α : Type} (l : List α) (i h : Int) : Option (List α) := if 0 ≤ i ∧ i ≤ h ∧ h ≤ l.length then some ((l.take h.toNat).drop i.toNat) else none
def zM (n m bytes : Nat) : Bool := decide (n + m ≤ 9223372036854775807) && decide ((n + m) * bytes ≤ 140737488355328)
theorem og {α : Type} {b : Bool} {x : Option α} {r : α} (h : (if b = true then x else none) = some r) : b = true ∧ x = some r := by
  cases b with
  | false => cases h
  | true => exact ⟨rfl, h⟩
theorem zmH (b : Bool) : b = true ∨ b = false := by cases b <;> simp
theorem ob {α β : Type} {m : Option α} {f : α → Option β} {r : β} (h : m.bind f = some r) : ∃ x, m = some x ∧ f x = some r := by
  cases m with
  | none => cases h
  | some x => exact ⟨x, rfl, h⟩
theorem it {α : Type} {b : Bool} {x y : Option α} {r : α} (hb : b = true) (h : (if b = true then x else y) = some r) : x = some r := by rwa [if_pos hb] at h
theorem ie {α : Type} {b : Bool} {x y : Option α} {r : α} (hb : b = false) (h : (if b = true then x else y) = some r) : y = some r := by rwa [if_neg (by simp [hb])] at h

def fuel : Nat := 1000000000000000000
def zcu (l : List (Int × Str)) (k : Int) : Str × Bool := match l.find? fun q => q.1 == k with
  | some q => (q.2, true)
  | none => ([], false)
end Go.Dm
end
section
set_option linter.unusedVariables false
set_option maxRecDepth 10000
namespace Go.Dm
structure api_Field where
  Name : Str
  Value : Str
deriving DecidableEq, Inhabited
structure api_Head where
  Kind : Int
  Method : Str
  Target : Str
  Code : Int
  Reason : Str
  Minor : Int
  Fields : List api_Field
deriving DecidableEq, Inhabited
structure api_Frame where
  Kind : Int
  N : Int
deriving DecidableEq, Inhabited
structure api_Message where
  Head : api_Head
  Frame : api_Frame
  Body : Str
  Trailers : List api_Field
deriving DecidableEq, Inhabited
structure scan_Scanner where
  f_s : Str
  f_at : Int
deriving DecidableEq, Inhabited
structure startline_line where
  Scanner : scan_Scanner
deriving DecidableEq, Inhabited
structure api_Host where
  Kind : Int
  Name : Str
  Port : Int
deriving DecidableEq, Inhabited
structure api_Target where
  Kind : Int
  Scheme : Str
  Host : api_Host
  Path : Str
  Query : Str
  HasQuery : Bool
deriving DecidableEq, Inhabited
structure bag_Bag where
  f_l : List api_Field
deriving DecidableEq, Inhabited
structure commas_splitter where
  Scanner : scan_Scanner
  f_out : List Str
  f_from : Int
  f_s : Str
deriving DecidableEq, Inhabited
structure quoted_reader where
  Scanner : scan_Scanner
  f_out : List UInt8
deriving DecidableEq, Inhabited
structure length_reader where
  Bag : bag_Bag
  f_minor : Int
deriving DecidableEq, Inhabited
structure quill_Quill where
  f_b : List UInt8
  f_most : Int
deriving DecidableEq, Inhabited
structure head_printer where
  Quill : quill_Quill
  f_full : Bool
deriving DecidableEq, Inhabited
structure enchunk_Encoder where
  f_size : Int
  f_buf : Str
  f_done : Bool
deriving DecidableEq, Inhabited
structure accum_Accum where
  f_kind : Int
  f_limit : Int
  f_buf : List UInt8
  f_from : Int
  f_took : Bool
  f_bad : Int
  f_whole : Bool
  f_got : api_Head
deriving DecidableEq, Inhabited
structure dechunk_Decoder where
  f_limit : Int
  f_at : Int
  f_line : List UInt8
  f_left : Int
  f_sum : Int
  f_spent : Int
  f_trailers : List api_Field
deriving DecidableEq, Inhabited
structure body_Body where
  Decoder : dechunk_Decoder
  f_frame : api_Frame
  f_left : Int
  f_done : Bool
  f_bad : Bool
deriving DecidableEq, Inhabited
structure api_Attr where
  Name : Str
  Value : Str
  Has : Bool
deriving DecidableEq, Inhabited
structure chunkline_reader where
  Scanner : scan_Scanner
deriving DecidableEq, Inhabited
structure message_reader where
  Body : body_Body
  f_m : api_Message
deriving DecidableEq, Inhabited
abbrev zjj {α : Type} {β : Sort _} (o : Option α) (k0 : β) (k1 : α → β) : β := match o with | none => k0 | some x => k1 x
theorem zkn {α β : Type} {o : Option α} {k0 R : β} {k1 : α → β} (h : o = none) (hm : zjj o k0 k1 = R) : k0 = R := by subst h; exact hm
theorem zko {α β : Type} {o : Option α} {x : α} {k0 R : β} {k1 : α → β} (h : o = some x) (hm : zjj o k0 k1 = R) : k1 x = R := by subst h; exact hm
abbrev bE {β : Sort _} (b : Bool) (k1 k0 : β) : β := match b with | true => k1 | false => k0
theorem bE_t {β : Type} {b : Bool} {k1 k0 R : β} (h : b = true) (hm : bE b k1 k0 = R) : k1 = R := by subst h; exact hm
theorem bE_f {β : Type} {b : Bool} {k1 k0 R : β} (h : b = false) (hm : bE b k1 k0 = R) : k0 = R := by subst h; exact hm
theorem bE_pt {b : Bool} {k1 k0 : Prop} (h : b = true) (hm : bE b k1 k0) : k1 := by subst h; exact hm
theorem bE_pf {b : Bool} {k1 k0 : Prop} (h : b = false) (hm : bE b k1 k0) : k0 := by subst h; exact hm
theorem zi0 {α : Type} {o : Option α} {k0 : Prop} {k1 : α → Prop} (h : o = none) (hm : zjj o k0 k1) : k0 := by subst h; exact hm
theorem zi1 {α : Type} {o : Option α} {x : α} {k0 : Prop} {k1 : α → Prop} (h : o = some x) (hm : zjj o k0 k1) : k1 x := by subst h; exact hm

def zi2 : Str → UInt8 → Nat → Int
  | [], _, _ => -1
  | x :: l, c, k => if x == c then (k : Int) else zi2 l c (k + 1)
def strings_IndexByte (s : Str) (c : UInt8) : Option Int := some (zi2 s c 0)
def zin : Str → Str → Bool
  | _, [] => true
  | [], _ :: _ => false
  | x :: s, y :: t => x == y && zin s t
def zfF : Str → Str → Nat → Int
  | s, t, k => if zin s t then (k : Int) else match s with
    | [] => -1
    | _ :: s => zfF s t (k + 1)
def strings_Index (s t : Str) : Option Int := if s.length < 4294967281 then some (zfF s t 0) else none
def strings_Cut (s t : Str) : Option (Str × Str × Bool) := if s.length < 4294967281 then some (Go.Lib.cut s t) else none
def zkp : Str → Str → Nat → Int
  | [], _, _ => -1
  | x :: l, cs, k => if cs.contains x then (k : Int) else zkp l cs (k + 1)
def strings_IndexAny (s cs : Str) : Option Int := if s.length < 4294967281 ∧ cs.length < 4294967281 ∧ cs.all (fun c => c.toNat < 128) then some (zkp s cs 0) else none
def strings_Split (s sep : Str) : Option (List Str) := if s.length < 4294967281 ∧ 1 ≤ sep.length then some (Go.Lib.splitK sep 0 (Go.Lib.countB ⟨s.toArray⟩ ⟨sep.toArray⟩) s) else none
def zE (c : UInt8) : Str → List Str
  | [] => [[]]
  | x :: s => if x = c then [] :: zE c s else match zE c s with
    | [] => [[x]]
    | h :: t => (x :: h) :: t
def zea (n b : Int) : Option Str := if inI n = true ∧ b = 10 then some (Go.Lib.itoa n) else none
def zeb (s cs : Str) : Option Str := if s.length < 4294967281 ∧ cs.length < 4294967281 ∧ cs.all (fun c => c.toNat < 128) then some (Go.Lib.trimS s cs) else none
def strings_Join (l : List Str) (sep : Str) : Option Str := if l.length ≤ 140737488355328 ∧ (Go.Lib.join l sep).length ≤ 140737488355328 then some (Go.Lib.join l sep) else none
def zau : Option ((List (Int × Str))) :=
  some ([(400, [66, 97, 100, 32, 82, 101, 113, 117, 101, 115, 116]), (431, [82, 101, 113, 117, 101, 115, 116, 32, 72, 101, 97, 100, 101, 114, 32, 70, 105, 101, 108, 100, 115, 32, 84, 111, 111, 32, 76, 97, 114, 103, 101]), (502, [66, 97, 100, 32, 71, 97, 116, 101, 119, 97, 121])])

def zdO (x_code : Int) : Option (api_Message × Bool) :=
  (zau).bind fun r3 =>
  if (!((zcu r3 x_code).2)) then (some (((⟨(⟨0, [], [], 0, [], 0, []⟩ : api_Head), (⟨0, 0⟩ : api_Frame), [], []⟩ : api_Message), false))) else (some (((⟨(⟨2, [], [], x_code, (zcu r3 x_code).1, 1, [(⟨[67, 111, 110, 116, 101, 110, 116, 45, 76, 101, 110, 103, 116, 104], [48]⟩ : api_Field), (⟨[67, 111, 110, 110, 101, 99, 116, 105, 111, 110], [99, 108, 111, 115, 101]⟩ : api_Field)]⟩ : api_Head), (⟨2, 0⟩ : api_Frame), [], []⟩ : api_Message), true)))

def zft (x_n : Int) (x_base : Int) : Option Str :=
  if (decide (x_n < 0)) then (some []) else ((zea x_n x_base).bind fun r6 =>
  some r6)

def zec (x_n : Int) : Option Str :=
  (zft x_n 10).bind fun r2 =>
  some r2

def zdP (x_sep : Str) (x_l : List Str) : Option Str :=
  (strings_Join x_l x_sep).bind fun r2 =>
  some r2

def strings_ContainsAny (x_s : Str) (x_chars : Str) : Option Bool :=
  (strings_IndexAny x_s x_chars).bind fun r2 =>
  some (decide (0 ≤ r2))

def zG (x_s : Str) (x_c : UInt8) : Nat → Int → Option Int
  | 0, _ => none
  | n + 1, i4 =>
  if (decide (0 ≤ i4)) then ((sAt x_s i4).bind fun b8 =>
  if (b8 == x_c) then (some i4) else ((zfE i4 1).bind fun i13 =>
  (zG x_s x_c n) i13)) else (some (-1))

def zaT (x_s : Str) (x_c : UInt8) : Option Int :=
  (zfE (x_s.length : Int) 1).bind fun i2 =>
  zG x_s x_c fuel i2

def zbh (x_s : Str) (x_c : UInt8) : Option Int :=
  (zaT x_s x_c).bind fun r2 =>
  some r2

def ze9 (x_s : Str) : Option scan_Scanner :=
  some (⟨x_s, 0⟩ : scan_Scanner)

def zV (x_c : scan_Scanner) : Option Str :=
  (zeA x_c.f_s x_c.f_at).bind fun s4 =>
  some s4

def zav (t4 : Bool) : Option Bool :=
  some t4

def stringslite_HasPrefix (x_s : Str) (x_prefix : Str) : Option Bool :=
  if (decide ((x_prefix.length : Int) ≤ (x_s.length : Int))) then ((sTo x_s (x_prefix.length : Int)).bind fun s3 =>
  zav (s3 == x_prefix)) else (zav false)

def strings_HasPrefix (x_s : Str) (x_prefix : Str) : Option Bool :=
  (stringslite_HasPrefix x_s x_prefix).bind fun r2 =>
  some r2

def zed (x_c : scan_Scanner) (x_t : Str) : Option (Bool × scan_Scanner) :=
  (zV x_c).bind fun r2 =>
  (strings_HasPrefix r2 x_t).bind fun r3 =>
  if (!r3) then (some (false, x_c)) else ((zaL x_c.f_at (x_t.length : Int)).bind fun i9 =>
  some ((true, (⟨x_c.f_s, i9⟩ : scan_Scanner))))

def zaq (x_c : scan_Scanner) : Option Bool :=
  (zV x_c).bind fun r2 =>
  some (r2 == [])

def zP (x_c : scan_Scanner) : Option (UInt8 × Bool) :=
  (zaq x_c).bind fun r2 =>
  if r2 then (some (0, false)) else ((sAt x_c.f_s x_c.f_at).bind fun b7 =>
  some (b7, true))

def zc7 (t3 : Bool) : Option Bool :=
  some t3

def z6 (x_b : UInt8) : Option Bool :=
  if (decide (48 ≤ x_b)) then (zc7 (decide (x_b ≤ 57))) else (zc7 false)

def zbs (x_c : scan_Scanner) (t5 : Bool) : Option (Bool × scan_Scanner) :=
  if t5 then (some (false, x_c)) else ((zaL x_c.f_at 1).bind fun i9 =>
  some ((true, (⟨x_c.f_s, i9⟩ : scan_Scanner))))

def zs (x_c : scan_Scanner) (x_b : UInt8) : Option (Bool × scan_Scanner) :=
  (zP x_c).bind fun r2 =>
  if (!r2.2) then (zbs x_c true) else (zbs x_c (!(r2.1 == x_b)))

def zaE (x_p : startline_line) (r3 : UInt8 × Bool) (t7 : Bool) : Option (Int × Bool × scan_Scanner) :=
  if t7 then (some (0, false, x_p.Scanner)) else ((zs x_p.Scanner r3.1).bind fun r11 =>
  some ((((r3.1 - 48).toNat : Int), true, r11.2)))

def zbt (x_p : startline_line) : Option (Int × Bool × scan_Scanner) :=
  (zP x_p.Scanner).bind fun r3 =>
  if (!r3.2) then (zaE x_p r3 true) else ((z6 r3.1).bind fun r6 =>
  zaE x_p r3 (!r6))

def zR (r9 : Int × Bool × scan_Scanner) (r15 : Int × Bool × scan_Scanner) (t20 : Bool) : Option (Int × Int × Bool × scan_Scanner) :=
  some (r9.1, r15.1, t20, r15.2.2)

def zaU (x_p : startline_line) : Option (Int × Int × Bool × scan_Scanner) :=
  (zed x_p.Scanner [72, 84, 84, 80, 47]).bind fun r3 =>
  if (!r3.1) then (some (0, 0, false, r3.2)) else ((zbt (⟨r3.2⟩ : startline_line)).bind fun r9 =>
  (zs r9.2.2 46).bind fun r12 =>
  (zbt (⟨r12.2⟩ : startline_line)).bind fun r15 =>
  if r9.2.1 then (if r12.1 then (zR r9 r15 r15.2.1) else (zR r9 r15 false)) else (zR r9 r15 false))

def zar (t13 : Bool) : Option Bool :=
  some t13

def zdD (x_s : Str) : Option Bool :=
  (ze9 x_s).bind fun r2 =>
  (zaU (⟨r2⟩ : startline_line)).bind fun r6 =>
  if r6.2.2.1 then ((zaq r6.2.2.2).bind fun r10 =>
  if r10 then (if (!(r6.1 == 1)) then (zar true) else (zar (decide (1 < r6.2.1)))) else (zar false)) else (zar false)

def zaM (x_c : scan_Scanner) : Option Int :=
  some x_c.f_at

def zcv (r2 : Int) (s14 : Str) (i15 : Int) : Option (Str × scan_Scanner) :=
  (zld s14 r2 i15).bind fun s18 =>
  some ((s18, (⟨s14, i15⟩ : scan_Scanner)))

def zbi (rec1 : Str → Int → Option (Str × scan_Scanner)) (r2 : Int) (s4 : Str) (i5 : Int) (t10 : Bool) : Option (Str × scan_Scanner) :=
  if t10 then (zcv r2 s4 i5) else ((zaL i5 1).bind fun i13 =>
  rec1 s4 i13)

def zO (x_is : UInt8 → Option Bool) (r2 : Int) : Nat → Str → Int → Option (Str × scan_Scanner)
  | 0, _, _ => none
  | n + 1, s4, i5 =>
  (zP (⟨s4, i5⟩ : scan_Scanner)).bind fun r6 =>
  if (!r6.2) then (zbi (zO x_is r2 n) r2 s4 i5 true) else ((x_is r6.1).bind fun r9 =>
  zbi (zO x_is r2 n) r2 s4 i5 (!r9))

def z8 (x_c : scan_Scanner) (x_is : UInt8 → Option Bool) : Option (Str × scan_Scanner) :=
  (zaM x_c).bind fun r2 =>
  zO x_is r2 fuel x_c.f_s x_c.f_at

def zee (x_b : UInt8) (t3 : Bool) : Option UInt8 :=
  if t3 then (some (x_b + 32)) else (some x_b)

def zan (x_b : UInt8) : Option UInt8 :=
  if (decide (65 ≤ x_b)) then (zee x_b (decide (x_b ≤ 90))) else (zee x_b false)

def zc8 (t5 : Bool) : Option Bool :=
  some t5

def zeX (x_b : UInt8) : Option Bool :=
  (zan x_b).bind fun r2 =>
  if (decide (97 ≤ r2)) then ((zan x_b).bind fun r4 =>
  zc8 (decide (r4 ≤ 122))) else (zc8 false)

def zfy (x_b : UInt8) (x_l : Str) : Option Bool :=
  (strings_IndexByte x_l x_b).bind fun r2 =>
  some (decide (0 ≤ r2))

def zbN (t7 : Bool) : Option Bool :=
  some t7

def zcr (x_b : UInt8) : Option Bool :=
  (zeX x_b).bind fun r2 =>
  if r2 then (zbN true) else ((z6 x_b).bind fun r4 =>
  if r4 then (zbN true) else ((zfy x_b [33, 35, 36, 37, 38, 39, 42, 43, 45, 46, 94, 95, 96, 124, 126]).bind fun r6 =>
  zbN r6))

def zas (x_c : scan_Scanner) : Option (Str × Bool × scan_Scanner) :=
  (z8 x_c zcr).bind fun r2 =>
  some ((r2.1, !(r2.1 == []), r2.2))

def zbD (x_b : UInt8) : Option Bool :=
  some (!(x_b == 32))

def zaa (r3 : Int × Int × Bool × scan_Scanner) (t8 : Bool) : Option (Int × Bool × scan_Scanner) :=
  some (r3.2.1, t8, r3.2.2.2)

def zbu (x_p : startline_line) : Option (Int × Bool × scan_Scanner) :=
  (zaU x_p).bind fun r3 =>
  if r3.2.2.1 then (if (r3.1 == 1) then (zaa r3 (decide (r3.2.1 ≤ 1))) else (zaa r3 false)) else (zaa r3 false)

def zef (rec1 : Int → Option Bool) (x_is : UInt8 → Option Bool) (i3 : Int) (x7 : Str) : Nat → Int → Option Bool
  | 0, _ => none
  | n + 1, i12 =>
  if (decide (i12 < (x7.length : Int))) then ((sAt x7 i12).bind fun b17 =>
  (x_is b17).bind fun r18 =>
  if (!r18) then (some false) else ((zaL i12 1).bind fun i23 =>
  (zef rec1 x_is i3 x7 n) i23)) else ((zaL i3 1).bind fun i25 =>
  rec1 i25)

def zc9 (x_is : UInt8 → Option Bool) (x_l : List Str) : Nat → Int → Option Bool
  | 0, _ => none
  | n + 1, i3 =>
  if (decide (i3 < (x_l.length : Int))) then ((lAt x_l i3).bind fun x7 =>
  zef (zc9 x_is x_l n) x_is i3 x7 fuel 0) else (some true)

def zcs (x_is : UInt8 → Option Bool) (x_l : List Str) : Option Bool :=
  zc9 x_is x_l fuel 0

def zga (x_b : UInt8) : Option Int :=
  (z6 x_b).bind fun r2 =>
  if r2 then (some (((x_b - 48).toNat : Int))) else ((zan x_b).bind fun r7 =>
  (zaL (((r7 - 97).toNat : Int)) 10).bind fun i8 =>
  some i8)

def zdE (rec2 : Int → Int → Option (Int × Int)) (x_base : Int) (i11 : Int) (i12 : Int) (r18 : Int) (t23 : Bool) : Option (Int × Int) :=
  if t23 then (some (0, 7)) else ((iMul i11 x_base).bind fun i27 =>
  (zaL i27 r18).bind fun i28 =>
  (zaL i12 1).bind fun i30 =>
  rec2 i28 i30)

def zaN (x_s : Str) (x_base : Int) (x_most : Int) : Nat → Int → Int → Option (Int × Int)
  | 0, _, _ => none
  | n + 1, i11, i12 =>
  if (decide (i12 < (x_s.length : Int))) then ((sAt x_s i12).bind fun b17 =>
  (zga b17).bind fun r18 =>
  if (decide (x_most < r18)) then (zdE (zaN x_s x_base x_most n) x_base i11 i12 r18 true) else ((zfE x_most r18).bind fun i21 =>
  (iDiv i21 x_base).bind fun i22 =>
  zdE (zaN x_s x_base x_most n) x_base i11 i12 r18 (decide (i22 < i11)))) else (some (i11, 0))

def zdF (x_s : Str) (x_base : Int) (x_most : Int) (t5 : Bool) : Option (Int × Int) :=
  if t5 then (some (0, 2)) else (zaN x_s x_base x_most fuel 0 0)

def zfu (x_s : Str) (x_base : Int) (x_most : Int) (x_is : UInt8 → Option Bool) : Option (Int × Int) :=
  if (x_s == []) then (zdF x_s x_base x_most true) else ((zcs x_is ([x_s] : List Str)).bind fun r4 =>
  zdF x_s x_base x_most (!r4))

def zbm (x_s : Str) (x_most : Int) : Option (Int × Int) :=
  (zfu x_s 10 x_most z6).bind fun r2 =>
  some (r2.1, r2.2)

def zcC (t6 : Bool) : Option Bool :=
  some t6

def zcR (x_s : Str) (x_most : Int) : Option Bool :=
  (zbm x_s x_most).bind fun r2 =>
  if (r2.2 == 0) then ((zec r2.1).bind fun r5 =>
  zcC (r5 == x_s)) else (zcC false)

def zeY (s : Str) : Option Bool := if s.length < 1000000000 then ((zE 46 s).mapM (fun x => zcR x 255)).bind fun bs => some (bs.all id && decide ((bs.length : Int) = 4)) else none

def zcS (t7 : Bool) : Option Bool :=
  some t7

def zao (x_b : UInt8) : Option Bool :=
  (z6 x_b).bind fun r2 =>
  if r2 then (zcS true) else ((zan x_b).bind fun r4 =>
  if (decide (97 ≤ r4)) then ((zan x_b).bind fun r6 =>
  zcS (decide (r6 ≤ 102))) else (zcS false))

def zb1 (rec1 : Int → Int → Option Int) (i13 : Int) (i36 : Int) : Option Int :=
  (zaL i13 1).bind fun i37 =>
  rec1 i36 i37

def za9 (rec1 : Int → Int → Option Int) (i12 : Int) (i13 : Int) (t32 : Bool) : Option Int :=
  if t32 then ((zaL i12 1).bind fun i34 =>
  zb1 rec1 i13 i34) else (some (-1))

def zba (rec1 : Int → Int → Option Int) (i12 : Int) (i13 : Int) (x17 : Str) (t25 : Bool) : Option Int :=
  if t25 then ((zaL i12 2).bind fun i27 =>
  zb1 rec1 i13 i27) else (if (decide (1 ≤ (x17.length : Int))) then (if (decide ((x17.length : Int) ≤ 4)) then ((zcs zao ([x17] : List Str)).bind fun r31 =>
  za9 rec1 i12 i13 r31) else (za9 rec1 i12 i13 false)) else (za9 rec1 i12 i13 false))

def zC (x_last : Bool) (r6 : List Str) : Nat → Int → Int → Option Int
  | 0, _, _ => none
  | n + 1, i12, i13 =>
  if (decide (i13 < (r6.length : Int))) then ((lAt r6 i13).bind fun x17 =>
  if x_last then ((zfE (r6.length : Int) 1).bind fun i22 =>
  if (i13 == i22) then ((zeY x17).bind fun r24 =>
  zba (zC x_last r6 n) i12 i13 x17 r24) else (zba (zC x_last r6 n) i12 i13 x17 false)) else (zba (zC x_last r6 n) i12 i13 x17 false)) else (some i12)

def zch (x_s : Str) (x_last : Bool) : Option Int :=
  if (x_s == []) then (some 0) else ((strings_Split x_s [58]).bind fun r6 =>
  zC x_last r6 fuel 0 0)

def zci (t15 : Bool) : Option Bool :=
  some t15

def zgM (x_s : Str) : Option Bool :=
  (strings_Cut x_s [58, 58]).bind fun r2 =>
  if (!r2.2.2) then ((zch x_s true).bind fun r6 =>
  some (r6 == 8)) else ((zch r2.1 false).bind fun r9 =>
  (zch r2.2.1 true).bind fun r10 =>
  if (decide (0 ≤ r9)) then (if (decide (0 ≤ r10)) then ((zaL r9 r10).bind fun i14 =>
  zci (decide (i14 ≤ 7))) else (zci false)) else (zci false))

def zaR (t8 : Bool) : Option Bool :=
  some t8

def zeF (x_s : Str) : Option Bool :=
  if (decide (3 ≤ (x_s.length : Int))) then ((sAt x_s 0).bind fun b3 =>
  if (b3 == 37) then ((zld x_s 1 3).bind fun s5 =>
  (zcs zao ([s5] : List Str)).bind fun r7 =>
  zaR r7) else (zaR false)) else (zaR false)

def zap (t7 : Bool) : Option Bool :=
  some t7

def zb2 (x_b : UInt8) : Option Bool :=
  (zeX x_b).bind fun r2 =>
  if r2 then (zap true) else ((z6 x_b).bind fun r4 =>
  if r4 then (zap true) else ((zfy x_b [45, 46, 95, 126]).bind fun r6 =>
  zap r6))

def zfY (x_b : UInt8) : Option Bool :=
  (zfy x_b [33, 36, 38, 39, 40, 41, 42, 43, 44, 59, 61]).bind fun r2 =>
  some r2

def zda (rec1 : Str → Option Bool) (s6 : Str) (t19 : Bool) : Option Bool :=
  if t19 then ((zeA s6 1).bind fun s21 =>
  rec1 s21) else (some false)

def zab : Nat → Str → Option Bool
  | 0, _ => none
  | n + 1, s6 =>
  if (!(s6 == [])) then ((zeF s6).bind fun r10 =>
  if r10 then ((zeA s6 3).bind fun s13 =>
  (zab n) s13) else ((sAt s6 0).bind fun b14 =>
  (zb2 b14).bind fun r15 =>
  if r15 then (zda (zab n) s6 true) else ((sAt s6 0).bind fun b17 =>
  (zfY b17).bind fun r18 =>
  zda (zab n) s6 r18))) else (some true)

def zgb (x_s : Str) : Option Bool :=
  if (x_s == []) then (some false) else (zab fuel x_s)

def zbO (i24 : Int) (s25 : Str) : Option (api_Host × Bool) :=
  some (((⟨i24, s25, (-1)⟩ : api_Host), !(i24 == 0)))

def zbP (x_s : Str) (t14 : Bool) : Option (api_Host × Bool) :=
  if t14 then ((zfE (x_s.length : Int) 1).bind fun i16 =>
  (zld x_s 1 i16).bind fun s17 =>
  zbO 3 s17) else ((zeY x_s).bind fun r18 =>
  if r18 then (zbO 2 x_s) else ((zgb x_s).bind fun r21 =>
  if r21 then (zbO 1 x_s) else (zbO 0 x_s)))

def zfZ (x_s : Str) : Option (api_Host × Bool) :=
  if (decide (2 < (x_s.length : Int))) then ((sAt x_s 0).bind fun b6 =>
  if (b6 == 91) then ((zfE (x_s.length : Int) 1).bind fun i8 =>
  (sAt x_s i8).bind fun b9 =>
  if (b9 == 93) then ((zfE (x_s.length : Int) 1).bind fun i11 =>
  (zld x_s 1 i11).bind fun s12 =>
  (zgM s12).bind fun r13 =>
  zbP x_s r13) else (zbP x_s false)) else (zbP x_s false)) else (zbP x_s false)

def zcD (x_s : Str) (r10 : Int) (r17 : api_Host × Bool) (t24 : Bool) : Option (api_Host × Int) :=
  if t24 then (some (((⟨0, [], 0⟩ : api_Host), 27))) else ((zaL r10 1).bind fun i28 =>
  (zeA x_s i28).bind fun s29 =>
  (zbm s29 65535).bind fun r30 =>
  some (((⟨r17.1.Kind, r17.1.Name, r30.1⟩ : api_Host), 0)))

def zcT (x_s : Str) : Option (api_Host × Int) :=
  (zfZ x_s).bind fun r3 =>
  if r3.2 then (some (r3.1, 0)) else ((zbh x_s 58).bind fun r10 =>
  if (decide (r10 < 0)) then (some (((⟨0, [], 0⟩ : api_Host), 27))) else ((sTo x_s r10).bind fun s16 =>
  (zfZ s16).bind fun r17 =>
  if (!r17.2) then (zcD x_s r10 r17 true) else ((zaL r10 1).bind fun i21 =>
  (zeA x_s i21).bind fun s22 =>
  (zcR s22 65535).bind fun r23 =>
  zcD x_s r10 r17 (!r23))))

def zfG (s : Str) : Option Str := if s.length < 4294967281 then s.mapM zan else none

def zcj (t7 : Bool) : Option Bool :=
  some t7

def zgN (x_b : UInt8) : Option Bool :=
  (zb2 x_b).bind fun r2 =>
  if r2 then (zcj true) else ((zfY x_b).bind fun r4 =>
  if r4 then (zcj true) else ((zfy x_b [58, 64]).bind fun r6 =>
  zcj r6))

def zf0 (rec1 : Int → Option Bool) (i27 : Int) : Option Bool :=
  (zaL i27 1).bind fun i28 =>
  rec1 i28

def zfa (rec1 : Int → Option Bool) (i3 : Int) (t23 : Bool) : Option Bool :=
  if t23 then ((zaL i3 2).bind fun i25 =>
  zf0 rec1 i25) else (some false)

def zf1 (rec1 : Int → Option Bool) (x_s : Str) (i3 : Int) (t12 : Bool) : Option Bool :=
  if t12 then (zf0 rec1 i3) else ((sAt x_s i3).bind fun b14 =>
  if (b14 == 37) then ((zaL i3 2).bind fun i16 =>
  if (decide (i16 < (x_s.length : Int))) then ((zaL i3 1).bind fun i18 =>
  (zaL i3 3).bind fun i19 =>
  (zld x_s i18 i19).bind fun s20 =>
  (zcs zao ([s20] : List Str)).bind fun r22 =>
  zfa rec1 i3 r22) else (zfa rec1 i3 false)) else (zfa rec1 i3 false))

def zbv (x_s : Str) (x_more : Str) : Nat → Int → Option Bool
  | 0, _ => none
  | n + 1, i3 =>
  if (decide (i3 < (x_s.length : Int))) then ((sAt x_s i3).bind fun b7 =>
  (zgN b7).bind fun r8 =>
  if r8 then (zf1 (zbv x_s x_more n) x_s i3 true) else ((sAt x_s i3).bind fun b10 =>
  (strings_IndexByte x_more b10).bind fun r11 =>
  zf1 (zbv x_s x_more n) x_s i3 (decide (0 ≤ r11)))) else (some true)

def zi3 (x_s : Str) (x_more : Str) : Option Bool :=
  zbv x_s x_more fuel 0

def zeZ (t5 : Bool) : Option Bool :=
  some t5

def zio (x_s : Str) : Option Bool :=
  (strings_HasPrefix x_s [47]).bind fun r2 =>
  if r2 then ((zi3 x_s [47]).bind fun r4 =>
  zeZ r4) else (zeZ false)

def zhB (x_s : Str) : Option Bool :=
  (zi3 x_s [47, 63]).bind fun r2 =>
  some r2

def zfv (r2 : Str × Str × Bool) (t7 : Bool) : Option (Str × Str × Bool × Int) :=
  if t7 then (some ([], [], false, 2)) else (some (r2.1, r2.2.1, r2.2.2, 0))

def zjk (x_s : Str) : Option (Str × Str × Bool × Int) :=
  (strings_Cut x_s [63]).bind fun r2 =>
  (zio r2.1).bind fun r4 =>
  if (!r4) then (zfv r2 true) else ((zhB r2.2.1).bind fun r6 =>
  zfv r2 (!r6))

def zeg (x_t : api_Target) (r15 : Str × Str × Bool × Int) (s19 : Str) : Option (api_Target × Bool) :=
  some (((⟨x_t.Kind, x_t.Scheme, x_t.Host, s19, r15.2.1, r15.2.2.1⟩ : api_Target), r15.2.2.2 == 0))

def zeh (x_t : api_Target) (b9 : UInt8) (s14 : Str) : Option (api_Target × Bool) :=
  (zjk s14).bind fun r15 =>
  if (b9 == 63) then (zeg x_t r15 []) else (zeg x_t r15 r15.1)

def zf2 (x_t : api_Target) (x_s : Str) : Option (api_Target × Bool) :=
  if (x_s == []) then (some (x_t, true)) else ((sAt x_s 0).bind fun b9 =>
  if (b9 == 63) then ((zim [47] x_s).bind fun s13 =>
  zeh x_t b9 s13) else (zeh x_t b9 x_s))

def zb3 (r3 : Str × Str × Bool) (r5 : Str) (i18 : Int) : Option (api_Target × Bool) :=
  (sTo r3.2.1 i18).bind fun s19 =>
  (zcT s19).bind fun r20 =>
  if (!(r20.2 == 0)) then (some (((⟨2, r5, (⟨0, [], 0⟩ : api_Host), [], [], false⟩ : api_Target), false))) else ((zeA r3.2.1 i18).bind fun s28 =>
  (zf2 (⟨2, r5, r20.1, [], [], false⟩ : api_Target) s28).bind fun r29 =>
  some (r29.1, r29.2))

def zbb (r3 : Str × Str × Bool) (r5 : Str) (t10 : Bool) : Option (api_Target × Bool) :=
  if t10 then (some (((⟨2, r5, (⟨0, [], 0⟩ : api_Host), [], [], false⟩ : api_Target), false))) else ((strings_IndexAny r3.2.1 [47, 63]).bind fun r14 =>
  if (decide (r14 < 0)) then (zb3 r3 r5 (r3.2.1.length : Int)) else (zb3 r3 r5 r14))

def zfg (x_s : Str) : Option (api_Target × Bool) :=
  (strings_Cut x_s [58, 47, 47]).bind fun r3 =>
  (zfG r3.1).bind fun r5 =>
  if (!r3.2.2) then (zbb r3 r5 true) else (if (!(r5 == [104, 116, 116, 112])) then (zbb r3 r5 (!(r5 == [104, 116, 116, 112, 115]))) else (zbb r3 r5 false))

def zjl (x_method : Str) (x_s : Str) : Option (api_Target × Bool) :=
  if (x_s == [42]) then (some (((⟨4, [], (⟨0, [], 0⟩ : api_Host), [], [], false⟩ : api_Target), x_method == [79, 80, 84, 73, 79, 78, 83]))) else ((strings_HasPrefix x_s [47]).bind fun r7 =>
  if (!r7) then ((zfg x_s).bind fun r10 =>
  some (r10.1, r10.2)) else ((zf2 ((⟨1, [], (⟨0, [], 0⟩ : api_Host), [], [], false⟩ : api_Target)) x_s).bind fun r13 =>
  some (r13.1, r13.2)))

def zdG (r5 : api_Host × Int) (t9 : Bool) : Option (api_Target × Int) :=
  if t9 then (some (((⟨0, [], (⟨0, [], 0⟩ : api_Host), [], [], false⟩ : api_Target), 20))) else (some (((⟨3, [], r5.1, [], [], false⟩ : api_Target), 0)))

def zgO (x_method : Str) (x_s : Str) : Option (api_Target × Int) :=
  if (x_method == [67, 79, 78, 78, 69, 67, 84]) then ((zcT x_s).bind fun r5 =>
  if (!(r5.2 == 0)) then (zdG r5 true) else (zdG r5 (decide (r5.1.Port < 0)))) else ((zjl x_method x_s).bind fun r15 =>
  if (!r15.2) then (some (((⟨0, [], (⟨0, [], 0⟩ : api_Host), [], [], false⟩ : api_Target), 20))) else (some (r15.1, 0)))

def zJ (r17 : Str × Bool × scan_Scanner) (r23 : Str × scan_Scanner) (r29 : Int × Bool × scan_Scanner) (t41 : Bool) : Option (api_Head × Int) :=
  if t41 then (some (((⟨0, [], [], 0, [], 0, []⟩ : api_Head), 20))) else (some (((⟨1, r17.1, r23.1, 0, [], r29.1, []⟩ : api_Head), 0)))

def zei (x_a0 : Str) : Option (api_Head × Int) :=
  (zbh x_a0 32).bind fun r5 =>
  (zaL r5 1).bind fun i6 =>
  (zeA x_a0 i6).bind fun s7 =>
  (zdD s7).bind fun r8 =>
  if r8 then (some (((⟨0, [], [], 0, [], 0, []⟩ : api_Head), 26))) else ((ze9 x_a0).bind fun r13 =>
  (zas r13).bind fun r17 =>
  (zs r17.2.2 32).bind fun r20 =>
  (z8 r20.2 zbD).bind fun r23 =>
  (zs r23.2 32).bind fun r26 =>
  (zbu (⟨r26.2⟩ : startline_line)).bind fun r29 =>
  (zgO r17.1 r23.1).bind fun r32 =>
  if (!r17.2.1) then (zJ r17 r23 r29 true) else (if (!r20.1) then (zJ r17 r23 r29 true) else (if (!r26.1) then (zJ r17 r23 r29 true) else (if (!r29.2.1) then (zJ r17 r23 r29 true) else ((zaq r29.2.2).bind fun r39 =>
  if (!r39) then (zJ r17 r23 r29 true) else (zJ r17 r23 r29 (!(r32.2 == 0))))))))

def zb4 (t3 : Bool) : Option Bool :=
  some t3

def zfh (x_b : UInt8) : Option Bool :=
  if (decide (32 < x_b)) then (zb4 (decide (x_b < 127))) else (zb4 false)

def zdb (t3 : Bool) : Option Bool :=
  some t3

def zdx (x_b : UInt8) : Option Bool :=
  if (x_b == 32) then (zdb true) else (zdb (x_b == 9))

def zbQ (t6 : Bool) : Option Bool :=
  some t6

def zah (x_b : UInt8) : Option Bool :=
  (zfh x_b).bind fun r2 =>
  if r2 then (zbQ true) else ((zdx x_b).bind fun r4 =>
  if r4 then (zbQ true) else (zbQ (decide (127 < x_b))))

def zF (r14 : Int × Bool × scan_Scanner) (r23 : Bool × scan_Scanner) (r26 : Int × Int) (t37 : Bool) : Option (api_Head × Int) :=
  if t37 then (some (((⟨0, [], [], 0, [], 0, []⟩ : api_Head), 20))) else ((zV r23.2).bind fun r41 =>
  some (((⟨2, [], [], r26.1, r41, r14.1, []⟩ : api_Head), 0)))

def zeG (x_a0 : Str) : Option (api_Head × Int) :=
  (strings_Cut x_a0 [32]).bind fun r3 =>
  (zdD r3.1).bind fun r5 =>
  if r5 then (some (((⟨0, [], [], 0, [], 0, []⟩ : api_Head), 26))) else ((ze9 x_a0).bind fun r10 =>
  (zbu (⟨r10⟩ : startline_line)).bind fun r14 =>
  (zs r14.2.2 32).bind fun r17 =>
  (z8 r17.2 z6).bind fun r20 =>
  (zs r20.2 32).bind fun r23 =>
  (zbm r20.1 599).bind fun r26 =>
  if (!r14.2.1) then (zF r14 r23 r26 true) else (if (!r17.1) then (zF r14 r23 r26 true) else (if (!r23.1) then (zF r14 r23 r26 true) else (if (!((r20.1.length : Int) == 3)) then (zF r14 r23 r26 true) else (if (!(r26.2 == 0)) then (zF r14 r23 r26 true) else (if (decide (r26.1 < 100)) then (zF r14 r23 r26 true) else ((zV r23.2).bind fun r34 =>
  (zcs zah ([r34] : List Str)).bind fun r36 =>
  zF r14 r23 r26 (!r36))))))))

def zb5 (x_kind : Int) (x_s : Str) (t4 : Bool) : Option (api_Head × Int) :=
  if t4 then (some (((⟨0, [], [], 0, [], 0, []⟩ : api_Head), 1))) else ((strings_ContainsAny x_s [13, 10]).bind fun r7 =>
  if r7 then (some (((⟨0, [], [], 0, [], 0, []⟩ : api_Head), 24))) else (if (x_kind == 1) then ((zei x_s).bind fun r13 =>
  some (r13.1, r13.2)) else ((zeG x_s).bind fun r18 =>
  some (r18.1, r18.2))))

def zbn (x_kind : Int) (x_s : Str) : Option (api_Head × Int) :=
  if (!(x_kind == 1)) then (zb5 x_kind x_s (!(x_kind == 2))) else (zb5 x_kind x_s false)

def zcE (s14 : Str) (t30 : Bool) : Option (Str × Int) :=
  if t30 then (some ([], 20)) else (some (s14, 0))

def zai (s14 : Str) (r15 : api_Head × Int) (t28 : Bool) : Option (Str × Int) :=
  if (!(r15.2 == 0)) then (zcE s14 true) else (zcE s14 (!t28))

def zcF (x_a0 : api_Head) (s14 : Str) : Option (Str × Int) :=
  (zbn x_a0.Kind s14).bind fun r15 =>
  if (r15.2 == 1) then (some ([], r15.2)) else (if (r15.1.Method == x_a0.Method) then (if (r15.1.Target == x_a0.Target) then (if (r15.1.Minor == x_a0.Minor) then (if (r15.1.Code == x_a0.Code) then (zai s14 r15 (r15.1.Reason == x_a0.Reason)) else (zai s14 r15 false)) else (zai s14 r15 false)) else (zai s14 r15 false)) else (zai s14 r15 false))

def zej (x_a0 : api_Head) : Option (Str × Int) :=
  (zec x_a0.Minor).bind fun r3 =>
  (zim [72, 84, 84, 80, 47, 49, 46] r3).bind fun s4 =>
  (zdP [32] ([x_a0.Method, x_a0.Target, s4] : List Str)).bind fun r7 =>
  if (x_a0.Kind == 2) then ((zec x_a0.Code).bind fun r11 =>
  (zdP [32] ([s4, r11, x_a0.Reason] : List Str)).bind fun r13 =>
  zcF x_a0 r13) else (zcF x_a0 r7)

def zek (t5 : Bool) : Option Bool :=
  some t5

def zf3 (x_s : Str) : Option Bool :=
  if (!(x_s == [])) then ((zcs zcr ([x_s] : List Str)).bind fun r4 =>
  zek r4) else (zek false)

def zb6 (t11 : Bool) : Option Int :=
  if t11 then (some 25) else (some 0)

def zdH (x_f : api_Field) : Option Int :=
  (zf3 x_f.Name).bind fun r3 =>
  if (!r3) then (some 21) else ((zcs zah ([x_f.Value] : List Str)).bind fun r8 =>
  if (!r8) then (zb6 true) else ((zeb x_f.Value [32, 9]).bind fun r10 =>
  zb6 (!(r10 == x_f.Value))))

def zK (x_s : List api_Field) : Option (List api_Field) :=
  if zM 0 x_s.length 32 then (some x_s) else none

def zjI (x_l : List api_Field) : Option bag_Bag :=
  (zK x_l).bind fun r2 =>
  some (⟨r2⟩ : bag_Bag)

def zgP (x_b : bag_Bag) : Option (List api_Field) :=
  (zK x_b.f_l).bind fun r4 =>
  some r4

def zgQ (x_a : Str) (x_b : Str) : Option Bool :=
  (zfG x_a).bind fun r2 =>
  (zfG x_b).bind fun r3 =>
  some (r2 == r3)

def zcG (rec1 : (List Str) → Int → Option (List Str)) (i10 : Int) (l28 : List Str) : Option (List Str) :=
  (zaL i10 1).bind fun i29 =>
  rec1 l28 i29

def zaj (x_name : Str) (r3 : List api_Field) : Nat → (List Str) → Int → Option (List Str)
  | 0, _, _ => none
  | n + 1, l9, i10 =>
  if (decide (i10 < (r3.length : Int))) then ((lAt r3 i10).bind fun x14 =>
  (zgQ x14.Name x_name).bind fun r19 =>
  if r19 then (if zM l9.length 1 16 then (zcG (zaj x_name r3 n) i10 (l9 ++ ([x14.Value] : List Str))) else none) else (zcG (zaj x_name r3 n) i10 l9)) else (some l9)

def zcU (x_b : bag_Bag) (x_name : Str) : Option (List Str) :=
  (zgP x_b).bind fun r3 =>
  zaj x_name r3 fuel [] 0

def ze0 (rec2 : Int → Option Bool) (i21 : Int) (t33 : Bool) : Option Bool :=
  if t33 then (some false) else ((zaL i21 1).bind fun i37 =>
  rec2 i37)

def zbA (r11 : List Str) : Nat → Int → Option Bool
  | 0, _ => none
  | n + 1, i21 =>
  if (decide (i21 < (r11.length : Int))) then ((lAt r11 i21).bind fun x25 =>
  (zcT x25).bind fun r29 =>
  if (!(r29.2 == 0)) then (ze0 (zbA r11 n) i21 (!(x25 == []))) else (ze0 (zbA r11 n) i21 false)) else (some true)

def ze1 (r11 : List Str) (t16 : Bool) : Option Bool :=
  if t16 then (some false) else (zbA r11 fuel 0)

def ziq (x_h : api_Head) : Option Bool :=
  if (!(x_h.Kind == 1)) then (some true) else ((zjI x_h.Fields).bind fun r7 =>
  (zcU r7 [72, 111, 115, 116]).bind fun r11 =>
  if (decide (1 < (r11.length : Int))) then (ze1 r11 true) else (ze1 r11 (decide ((r11.length : Int) < x_h.Minor))))

def zgR (x_h : api_Head) : Option Int :=
  if (decide (100 < (x_h.Fields.length : Int))) then (some 3) else ((ziq x_h).bind fun r6 =>
  if (!r6) then (some 27) else (some 0))

def zdy (x_h : api_Head) : Nat → Int → Option Int
  | 0, _ => none
  | n + 1, i10 =>
  if (decide (i10 < (x_h.Fields.length : Int))) then ((lAt x_h.Fields i10).bind fun x14 =>
  (zdH x14).bind fun r19 =>
  if (!(r19 == 0)) then (some r19) else ((zaL i10 1).bind fun i25 =>
  (zdy x_h n) i25)) else ((zgR x_h).bind fun r27 =>
  some r27)

def zgS (x_h : api_Head) : Option Int :=
  (zej x_h).bind fun r3 =>
  if (!(r3.2 == 0)) then (some r3.2) else (zdy x_h fuel 0)

def zaV (x_p : commas_splitter) (l12 : List Str) : Option commas_splitter :=
  (zaM x_p.Scanner).bind fun r13 =>
  some (⟨x_p.Scanner, l12, r13, x_p.f_s⟩ : commas_splitter)

def zbE (x_p : commas_splitter) (x_at : Int) : Option commas_splitter :=
  (zld x_p.f_s x_p.f_from x_at).bind fun s1 =>
  (zeb s1 [32, 9]).bind fun r2 =>
  if (!(r2 == [])) then (if zM x_p.f_out.length 1 16 then (zaV x_p (x_p.f_out ++ ([r2] : List Str))) else none) else (zaV x_p x_p.f_out)

def zbc (x_p : commas_splitter) (s33 : Str) (i34 : Int) : Option (Bool × commas_splitter) :=
  some ((true, (⟨(⟨s33, i34⟩ : scan_Scanner), x_p.f_out, x_p.f_from, x_p.f_s⟩ : commas_splitter)))

def zx (x_p : commas_splitter) : Nat → Str → Int → Int → Option (Bool × commas_splitter)
  | 0, _, _, _ => none
  | n + 1, s3, i4, i5 =>
  if (decide (0 < i5)) then ((zP (⟨s3, i4⟩ : scan_Scanner)).bind fun r9 =>
  if (!r9.2) then (some ((false, (⟨(⟨s3, i4⟩ : scan_Scanner), x_p.f_out, x_p.f_from, x_p.f_s⟩ : commas_splitter)))) else ((zs (⟨s3, i4⟩ : scan_Scanner) r9.1).bind fun r15 =>
  if (r9.1 == 40) then ((zaL i5 1).bind fun i21 =>
  (zx x_p n) r15.2.f_s r15.2.f_at i21) else (if (r9.1 == 41) then ((zfE i5 1).bind fun i24 =>
  (zx x_p n) r15.2.f_s r15.2.f_at i24) else (if (r9.1 == 92) then ((zP r15.2).bind fun r27 =>
  if r27.2 then ((zs r15.2 r27.1).bind fun r31 =>
  (zx x_p n) r31.2.f_s r31.2.f_at i5) else ((zx x_p n) r15.2.f_s r15.2.f_at i5)) else ((zx x_p n) r15.2.f_s r15.2.f_at i5))))) else (zbc x_p s3 i4)

def zbR (x_p : commas_splitter) : Option (Bool × commas_splitter) :=
  zx x_p fuel x_p.Scanner.f_s x_p.Scanner.f_at 1

def zbj (x_r : quoted_reader) (r2 : Bool × scan_Scanner) (r5 : UInt8 × Bool) (t9 : Bool) : Option (Bool × quoted_reader) :=
  if t9 then (some ((false, (⟨r2.2, x_r.f_out⟩ : quoted_reader)))) else (if zM x_r.f_out.length 1 1 then ((zs r2.2 r5.1).bind fun r18 =>
  some ((r18.1, (⟨r18.2, x_r.f_out ++ [r5.1]⟩ : quoted_reader)))) else none)

def zdQ (x_r : quoted_reader) : Option (Bool × quoted_reader) :=
  (zs x_r.Scanner 92).bind fun r2 =>
  (zP r2.2).bind fun r5 =>
  if (!r5.2) then (zbj x_r r2 r5 true) else ((zah r5.1).bind fun r8 =>
  zbj x_r r2 r5 (!r8))

def zbw (x_c : scan_Scanner) (x_at : Int) (t4 : Bool) : Option (Bool × scan_Scanner) :=
  if t4 then (some (false, x_c)) else (some ((true, (⟨x_c.f_s, x_at⟩ : scan_Scanner))))

def zel (x_c : scan_Scanner) (x_at : Int) : Option (Bool × scan_Scanner) :=
  if (decide (x_at < 0)) then (zbw x_c x_at true) else ((zaM x_c).bind fun r3 =>
  zbw x_c x_at (decide (r3 < x_at)))

def zfH (r2 : Int) (t27 : Bool) (s28 : Str) (i29 : Int) (l32 : List UInt8) : Option (Str × Bool × scan_Scanner) :=
  if (!t27) then ((zel (⟨s28, i29⟩ : scan_Scanner) r2).bind fun r35 =>
  some ([], false, r35.2)) else (some ((l32, true, (⟨s28, i29⟩ : scan_Scanner))))

def zem (rec1 : Str → Int → (List UInt8) → Bool → Option (Str × Bool × scan_Scanner)) (r2 : Int) (l13 : List UInt8) (t14 : Bool) (t18 : Bool) (s19 : Str) (i20 : Int) : Option (Str × Bool × scan_Scanner) :=
  if t18 then ((zdQ ((⟨(⟨s19, i20⟩ : scan_Scanner), l13⟩ : quoted_reader))).bind fun r23 =>
  rec1 r23.2.Scanner.f_s r23.2.Scanner.f_at r23.2.f_out r23.1) else (zfH r2 t14 s19 i20 l13)

def zbd (r2 : Int) : Nat → Str → Int → (List UInt8) → Bool → Option (Str × Bool × scan_Scanner)
  | 0, _, _, _, _ => none
  | n + 1, s9, i10, l13, t14 =>
  if t14 then ((zs (⟨s9, i10⟩ : scan_Scanner) 34).bind fun r16 =>
  zem (zbd r2 n) r2 l13 t14 (!r16.1) r16.2.f_s r16.2.f_at) else (zem (zbd r2 n) r2 l13 t14 false s9 i10)

def zf4 (x_c : scan_Scanner) : Option (Str × Bool × scan_Scanner) :=
  (zaM x_c).bind fun r2 =>
  (zs x_c 34).bind fun r6 =>
  zbd r2 fuel r6.2.f_s r6.2.f_at [] r6.1

def zaF (l34 : List Str) (i35 : Int) (s36 : Str) (s37 : Str) (i38 : Int) : Option (Bool × commas_splitter) :=
  some ((true, (⟨(⟨s37, i38⟩ : scan_Scanner), l34, i35, s36⟩ : commas_splitter)))

def zcV (x_p : commas_splitter) : Option (Bool × commas_splitter) :=
  (zaM x_p.Scanner).bind fun r2 =>
  (zs x_p.Scanner 44).bind fun r4 =>
  if r4.1 then ((zbE (⟨r4.2, x_p.f_out, x_p.f_from, x_p.f_s⟩ : commas_splitter) r2).bind fun r8 =>
  zaF r8.f_out r8.f_from r8.f_s r8.Scanner.f_s r8.Scanner.f_at) else ((zs r4.2 40).bind fun r12 =>
  if r12.1 then ((zbR (⟨r12.2, x_p.f_out, x_p.f_from, x_p.f_s⟩ : commas_splitter)).bind fun r16 =>
  some (r16.1, r16.2)) else ((zP r12.2).bind fun r21 =>
  if (r21.1 == 34) then ((zf4 r12.2).bind fun r25 =>
  some ((r25.2.1, (⟨r25.2.2, x_p.f_out, x_p.f_from, x_p.f_s⟩ : commas_splitter)))) else ((zs r12.2 r21.1).bind fun r30 =>
  zaF x_p.f_out x_p.f_from x_p.f_s r30.2.f_s r30.2.f_at)))

def zfi (x_s : Str) (l26 : List Str) (i27 : Int) (s28 : Str) (s29 : Str) (i30 : Int) : Option (List Str × Int) :=
  (zbE ((⟨(⟨s29, i30⟩ : scan_Scanner), l26, i27, s28⟩ : commas_splitter)) (x_s.length : Int)).bind fun r31 =>
  some (r31.f_out, 0)

def zck (x_s : Str) : Nat → (List Str) → Int → Str → Str → Int → Option (List Str × Int)
  | 0, _, _, _, _, _ => none
  | n + 1, l8, i9, s10, s11, i12 =>
  (zaq (⟨s11, i12⟩ : scan_Scanner)).bind fun r13 =>
  if (!r13) then ((zcV ((⟨(⟨s11, i12⟩ : scan_Scanner), l8, i9, s10⟩ : commas_splitter))).bind fun r17 =>
  if (!r17.1) then (some ([], 2)) else ((zck x_s n) r17.2.f_out r17.2.f_from r17.2.f_s r17.2.Scanner.f_s r17.2.Scanner.f_at)) else (zfi x_s l8 i9 s10 s11 i12)

def zfw (x_s : Str) : Option (List Str × Int) :=
  (ze9 x_s).bind fun r2 =>
  zck x_s fuel [] 0 x_s r2.f_s r2.f_at

def zbS (rec1 : (List Str) → Int → Option (List Str × Int)) (l6 : List Str) (i7 : Int) (r15 : List Str × Int) : Nat → Int → Option (List Str × Int)
  | 0, _ => none
  | n + 1, i24 =>
  if (decide (i24 < (r15.1.length : Int))) then ((lAt r15.1 i24).bind fun x28 =>
  (zf3 x28).bind fun r32 =>
  if (!r32) then (some ([], 2)) else ((zaL i24 1).bind fun i37 =>
  (zbS rec1 l6 i7 r15 n) i37)) else (if zM l6.length r15.1.length 16 then ((zaL i7 1).bind fun i43 =>
  rec1 (l6 ++ r15.1) i43) else none)

def za4 (x_l : List Str) : Nat → (List Str) → Int → Option (List Str × Int)
  | 0, _, _ => none
  | n + 1, l6, i7 =>
  if (decide (i7 < (x_l.length : Int))) then ((lAt x_l i7).bind fun x11 =>
  (zfw x11).bind fun r15 =>
  if (!(r15.2 == 0)) then (some ([], r15.2)) else (zbS (za4 x_l n) l6 i7 r15 fuel 0)) else (some (l6, 0))

def zgc (x_l : List Str) : Option (List Str × Int) :=
  za4 x_l fuel [] 0

def zQ (t15 : Bool) : Option (api_Frame × Int) :=
  if t15 then (some (((⟨0, 0⟩ : api_Frame), 30))) else (some (((⟨3, 0⟩ : api_Frame), 0)))

def zcW (x_r : length_reader) (x_l : List Str) : Option (api_Frame × Int) :=
  (zgc x_l).bind fun r4 =>
  if (!(r4.2 == 0)) then (zQ true) else (if (x_r.f_minor == 0) then (zQ true) else (if (!((r4.1.length : Int) == 1)) then (zQ true) else ((lAt r4.1 0).bind fun x11 =>
  (zgQ x11 [99, 104, 117, 110, 107, 101, 100]).bind fun r14 =>
  zQ (!r14))))

def z7 (rec2 : Int → Int → Option (api_Frame × Int)) (i25 : Int) (r33 : Int × Int) (t37 : Bool) : Option (api_Frame × Int) :=
  if t37 then (some (((⟨0, 0⟩ : api_Frame), 28))) else ((zaL i25 1).bind fun i42 =>
  rec2 r33.1 i42)

def zz (rec1 : Int → Int → Option (api_Frame × Int)) (i7 : Int) (r15 : List Str × Int) : Nat → Int → Int → Option (api_Frame × Int)
  | 0, _, _ => none
  | n + 1, i24, i25 =>
  if (decide (i25 < (r15.1.length : Int))) then ((lAt r15.1 i25).bind fun x29 =>
  (zbm x29 1099511627776).bind fun r33 =>
  if (!(r33.2 == 0)) then (z7 (zz rec1 i7 r15 n) i25 r33 true) else (if (decide (0 ≤ i24)) then (z7 (zz rec1 i7 r15 n) i25 r33 (!(r33.1 == i24))) else (z7 (zz rec1 i7 r15 n) i25 r33 false))) else ((zaL i7 1).bind fun i44 =>
  rec1 i24 i44)

def zD (x_l : List Str) : Nat → Int → Int → Option (api_Frame × Int)
  | 0, _, _ => none
  | n + 1, i6, i7 =>
  if (decide (i7 < (x_l.length : Int))) then ((lAt x_l i7).bind fun x11 =>
  (zfw x11).bind fun r15 =>
  if (!(r15.2 == 0)) then (some (((⟨0, 0⟩ : api_Frame), 28))) else (zz (zD x_l n) i7 r15 fuel i6 0)) else (if (decide (i6 < 0)) then (some (((⟨0, 0⟩ : api_Frame), 28))) else (some (((⟨2, i6⟩ : api_Frame), 0))))

def zcw (x_r : length_reader) (x_l : List Str) : Option (api_Frame × Int) :=
  zD x_l fuel (-1) 0

def zfx (x_h : api_Head) (x_none : Int) (r4 : bag_Bag) (r10 : List Str) (r13 : List Str) (t18 : Bool) : Option (api_Frame × Int) :=
  if t18 then (some (((⟨0, 0⟩ : api_Frame), 29))) else (if (decide (0 < (r10.length : Int))) then ((zcW (⟨r4, x_h.Minor⟩ : length_reader) r10).bind fun r23 =>
  some (r23.1, r23.2)) else (if (decide (0 < (r13.length : Int))) then ((zcw (⟨r4, x_h.Minor⟩ : length_reader) r13).bind fun r27 =>
  some (r27.1, r27.2)) else (some (((⟨x_none, 0⟩ : api_Frame), 0)))))

def zhQ (x_h : api_Head) (x_none : Int) : Option (api_Frame × Int) :=
  (zjI x_h.Fields).bind fun r4 =>
  (zcU r4 [84, 114, 97, 110, 115, 102, 101, 114, 45, 69, 110, 99, 111, 100, 105, 110, 103]).bind fun r10 =>
  (zcU r4 [67, 111, 110, 116, 101, 110, 116, 45, 76, 101, 110, 103, 116, 104]).bind fun r13 =>
  if (decide (0 < (r10.length : Int))) then (zfx x_h x_none r4 r10 r13 (decide (0 < (r13.length : Int)))) else (zfx x_h x_none r4 r10 r13 false)

def zfI (x_h : api_Head) : Option (api_Frame × Int) :=
  (zhQ x_h 1).bind fun r4 =>
  some (r4.1, r4.2)

def zL (t7 : Bool) : Option Bool :=
  some t7

def zcl (x_method : Str) (x_code : Int) : Option Bool :=
  if (x_method == [72, 69, 65, 68]) then (zL true) else (if (decide (x_code < 200)) then (zL true) else (if (x_code == 204) then (zL true) else (if (x_code == 304) then (zL true) else (if (x_method == [67, 79, 78, 78, 69, 67, 84]) then (zL (decide (x_code < 300))) else (zL false)))))

def zdI (x_method : Str) (x_h : api_Head) : Option (api_Frame × Int) :=
  (zcl x_method x_h.Code).bind fun r4 =>
  if r4 then (some (((⟨1, 0⟩ : api_Frame), 0))) else ((zhQ x_h 4).bind fun r9 =>
  some (r9.1, r9.2))

def za2 (x_method : Str) (x_h : api_Head) : Option (api_Frame × Int) :=
  if (x_h.Kind == 1) then ((zfI x_h).bind fun r6 =>
  some (r6.1, r6.2)) else ((zdI x_method x_h).bind fun r9 =>
  some (r9.1, r9.2))

def zdJ (t7 : Bool) : Option Bool :=
  some t7

def zdK (t11 : Bool) : Option Bool :=
  some t11

def zgT (x_m : api_Message) : Option Bool :=
  if (x_m.Frame.Kind == 1) then (if (x_m.Body == []) then (zdJ ((x_m.Trailers.length : Int) == 0)) else (zdJ false)) else (if (x_m.Frame.Kind == 2) then (if ((x_m.Body.length : Int) == x_m.Frame.N) then (zdK ((x_m.Trailers.length : Int) == 0)) else (zdK false)) else (if (x_m.Frame.Kind == 4) then (some ((x_m.Trailers.length : Int) == 0)) else (some true)))

def zen (x_f : api_Field) : Option (Str × Int) :=
  (zdH x_f).bind fun r3 =>
  if (!(r3 == 0)) then (some ([], r3)) else (if (x_f.Value == []) then ((zim x_f.Name [58]).bind fun s11 =>
  some (s11, 0)) else ((zim x_f.Name [58, 32]).bind fun s14 =>
  (zim s14 x_f.Value).bind fun s15 =>
  some (s15, 0)))

def zbx (x_trailers : List api_Field) : Nat → (List Str) → Int → Option (Str × Int)
  | 0, _, _ => none
  | n + 1, l7, i8 =>
  if (decide (i8 < (x_trailers.length : Int))) then ((lAt x_trailers i8).bind fun x12 =>
  (zen x12).bind fun r17 =>
  if (!(r17.2 == 0)) then (some ([], r17.2)) else (if zM l7.length 1 16 then ((zaL i8 1).bind fun i28 =>
  (zbx x_trailers n) (l7 ++ ([r17.1] : List Str)) i28) else none)) else (if (decide (100 < (x_trailers.length : Int))) then (some ([], 3)) else (if zM l7.length 2 16 then ((zdP [13, 10] (l7 ++ ([[], []] : List Str))).bind fun r38 =>
  some (r38, 0)) else none))

def zcX (x_trailers : List api_Field) : Option (Str × Int) :=
  zbx x_trailers fuel ([[48]] : List Str) 0

def zdc (x_m : api_Message) (t17 : Bool) : Option Int :=
  if t17 then (some 1) else ((zcX x_m.Trailers).bind fun r21 =>
  some r21.2)

def zgd (x_method : Str) (x_m : api_Message) : Option Int :=
  (zgS x_m.Head).bind fun r3 =>
  if (!(r3 == 0)) then (some r3) else ((za2 x_method x_m.Head).bind fun r9 =>
  if (!(r9.2 == 0)) then (some r9.2) else (if (!(r9.1 == x_m.Frame)) then (zdc x_m true) else ((zgT x_m).bind fun r16 =>
  zdc x_m (!r16))))

def zjm (x_most : Int) : Option quill_Quill :=
  some (⟨[], max x_most 0⟩ : quill_Quill)

def zeH (x_q : quill_Quill) : Option Int :=
  (zfE x_q.f_most (x_q.f_b.length : Int)).bind fun i4 =>
  some i4

def zdR (l44 : List UInt8) (i45 : Int) : Option (Int × quill_Quill) :=
  some ((0, (⟨l44, i45⟩ : quill_Quill)))

def zbe (x_l : List Str) : Nat → (List UInt8) → Int → Int → Option (Int × quill_Quill)
  | 0, _, _, _ => none
  | n + 1, l27, i28, i29 =>
  if (decide (i29 < (x_l.length : Int))) then ((lAt x_l i29).bind fun x33 =>
  if zM l27.length x33.length 1 then ((zaL i29 1).bind fun i41 =>
  (zbe x_l n) (l27 ++ x33) i28 i41) else none) else (zdR l27 i28)

def zbf (x_q : quill_Quill) (x_l : List Str) : Nat → Int → Int → Option (Int × quill_Quill)
  | 0, _, _ => none
  | n + 1, i7, i8 =>
  if (decide (i8 < (x_l.length : Int))) then ((lAt x_l i8).bind fun x12 =>
  if (decide (i7 < (x12.length : Int))) then (some (10, x_q)) else ((zfE i7 (x12.length : Int)).bind fun i20 =>
  (zaL i8 1).bind fun i22 =>
  (zbf x_q x_l n) i20 i22)) else (zbe x_l fuel x_q.f_b x_q.f_most 0)

def zfj (x_q : quill_Quill) (x_l : List Str) : Option (Int × quill_Quill) :=
  (zeH x_q).bind fun r4 =>
  zbf x_q x_l fuel r4 0

def zeI (x_q : quill_Quill) (x_l : List Str) : Option (Int × quill_Quill) :=
  if zM 0 x_l.length 16 then (if zM x_l.length 1 16 then ((zfj x_q (x_l ++ ([[13, 10]] : List Str))).bind fun r10 =>
  some (r10.1, r10.2)) else none) else none

def zby (x_p : head_printer) (x_s : Str) : Option head_printer :=
  (zeI x_p.Quill ([x_s] : List Str)).bind fun r2 =>
  if (!(r2.1 == 0)) then (some (⟨r2.2, true⟩ : head_printer)) else (some (⟨r2.2, x_p.f_full⟩ : head_printer))

def zeJ (x_q : quill_Quill) : Option Str :=
  some x_q.f_b

def zge (t45 : Bool) (l48 : List UInt8) (i49 : Int) : Option (Str × Int) :=
  (zby ((⟨(⟨l48, i49⟩ : quill_Quill), t45⟩ : head_printer)) []).bind fun r50 =>
  if r50.f_full then (some ([], 3)) else ((zeJ r50.Quill).bind fun r59 =>
  some (r59, 0))

def zdz (x_h : api_Head) : Nat → Bool → (List UInt8) → Int → Int → Option (Str × Int)
  | 0, _, _, _, _ => none
  | n + 1, t23, l26, i27, i28 =>
  if (decide (i28 < (x_h.Fields.length : Int))) then ((lAt x_h.Fields i28).bind fun x32 =>
  (zen x32).bind fun r37 =>
  (zby ((⟨(⟨l26, i27⟩ : quill_Quill), t23⟩ : head_printer)) r37.1).bind fun r39 =>
  (zaL i28 1).bind fun i44 =>
  (zdz x_h n) r39.f_full r39.Quill.f_b r39.Quill.f_most i44) else (zge t23 l26 i27)

def zir (x_h : api_Head) (x_limit : Int) : Option (Str × Int) :=
  (zgS x_h).bind fun r3 =>
  if (!(r3 == 0)) then (some ([], r3)) else ((zjm x_limit).bind fun r9 =>
  (zej x_h).bind fun r15 =>
  (zby (⟨r9, false⟩ : head_printer) r15.1).bind fun r17 =>
  zdz x_h fuel r17.f_full r17.Quill.f_b r17.Quill.f_most 0)

def zeo (x_size : Int) (t3 : Bool) : Option (Option enchunk_Encoder × Int) :=
  if t3 then (some (none, 1)) else (some ((some (⟨x_size, [], false⟩ : enchunk_Encoder), 0)))

def zhC (x_size : Int) : Option (Option enchunk_Encoder × Int) :=
  if (decide (x_size < 1)) then (zeo x_size true) else (zeo x_size (decide (65536 < x_size)))

def zbk (x_c : enchunk_Encoder) : Option Int :=
  if x_c.f_done then (some 8) else (some 0)

def zfk (x_n : Int) : Option Str :=
  (zft x_n 16).bind fun r2 =>
  some r2

def zfJ (x_n : Int) : Option Str :=
  (zfk x_n).bind fun r2 =>
  some r2

def zdL (x_data : Str) : Option Str :=
  if (x_data == []) then (some []) else ((zfJ (x_data.length : Int)).bind fun r6 =>
  (zdP [13, 10] ([r6, x_data, []] : List Str)).bind fun r8 =>
  some r8)

def zb7 (l30 : List Str) (i31 : Int) (s32 : Str) (t33 : Bool) : Option (Str × Int × enchunk_Encoder) :=
  (zdP [] l30).bind fun r34 =>
  some ((r34, 0, (⟨i31, s32, t33⟩ : enchunk_Encoder)))

def zak : Nat → (List Str) → Int → Str → Bool → Option (Str × Int × enchunk_Encoder)
  | 0, _, _, _, _ => none
  | n + 1, l13, i14, s15, t16 =>
  if (decide (i14 ≤ (s15.length : Int))) then ((sTo s15 i14).bind fun s20 =>
  (zdL s20).bind fun r21 =>
  if zM l13.length 1 16 then ((zeA s15 i14).bind fun s27 =>
  (zak n) (l13 ++ ([r21] : List Str)) i14 s27 t16) else none) else (zb7 l13 i14 s15 t16)

def zdk (x_c : enchunk_Encoder) (x_s : Str) : Option (Str × Int × enchunk_Encoder) :=
  (zbk x_c).bind fun r2 =>
  if (!(r2 == 0)) then (some ([], r2, x_c)) else ((zim x_c.f_buf x_s).bind fun s9 =>
  zak fuel [] x_c.f_size s9 x_c.f_done)

def zdl (x_c : enchunk_Encoder) (x_trailers : List api_Field) : Option (Str × Int × enchunk_Encoder) :=
  (zbk x_c).bind fun r2 =>
  if (!(r2 == 0)) then (some ([], r2, x_c)) else ((zcX x_trailers).bind fun r8 =>
  if (!(r8.2 == 0)) then (some ([], r8.2, x_c)) else ((zdL x_c.f_buf).bind fun r14 =>
  (zim r14 r8.1).bind fun s15 =>
  some ((s15, 0, (⟨x_c.f_size, [], true⟩ : enchunk_Encoder)))))

def zaw : Option Int :=
  some 5

def zb8 (x_s : Str) : Option (Str × Int) :=
  (zaw).bind fun r2 =>
  if (!(r2 == 0)) then (some ([], r2)) else (none)

def zb9 (x_trailers : List api_Field) : Option (Str × Int) :=
  (zaw).bind fun r2 =>
  if (!(r2 == 0)) then (some ([], r2)) else ((zcX x_trailers).bind fun r8 =>
  if (!(r8.2 == 0)) then (some ([], r8.2)) else (none))

def zfK (x_body : Str) (x_trailers : List api_Field) (i6 : Int) : Option (Str × Int) :=
  if (!(i6 == 0)) then (some ([], i6)) else ((zb8 x_body).bind fun r11 =>
  (zb9 x_trailers).bind fun r13 =>
  if (!(r13.2 == 0)) then (some ([], r13.2)) else ((zim r11.1 r13.1).bind fun s19 =>
  some (s19, 0)))

def zfL (x_body : Str) (x_trailers : List api_Field) (i22 : Int) (i23 : Int) (s24 : Str) (t25 : Bool) : Option (Str × Int) :=
  if (!(i22 == 0)) then (some ([], i22)) else ((zdk (⟨i23, s24, t25⟩ : enchunk_Encoder) x_body).bind fun r30 =>
  (zdl r30.2.2 x_trailers).bind fun r33 =>
  if (!(r33.2.1 == 0)) then (some ([], r33.2.1)) else ((zim r30.1 r33.1).bind fun s40 =>
  some (s40, 0)))

def zhD (x_size : Int) (x_body : Str) (x_trailers : List api_Field) : Option (Str × Int) :=
  (zhC x_size).bind fun r2 =>
  zjj r2.1 (zfK x_body x_trailers r2.2) (fun x4 => zfL x_body x_trailers r2.2 x4.f_size x4.f_buf x4.f_done)

def zdd (r9 : Str × Int) (i19 : Int) (s20 : Str) : Option (Str × Int) :=
  if (!(i19 == 0)) then (some ([], i19)) else ((zim r9.1 s20).bind fun s25 =>
  some (s25, 0))

def zgf (x_method : Str) (x_m : api_Message) (x_limit : Int) (x_size : Int) : Option (Str × Int) :=
  (zgd x_method x_m).bind fun r3 =>
  if (!(r3 == 0)) then (some ([], r3)) else ((zir x_m.Head x_limit).bind fun r9 =>
  if (!(r9.2 == 0)) then (some ([], r9.2)) else (if (x_m.Frame.Kind == 3) then ((zhD x_size x_m.Body x_m.Trailers).bind fun r18 =>
  zdd r9 r18.2 r18.1) else (zdd r9 r9.2 x_m.Body)))

def zdS (x_code : Int) : Option Str :=
  (zdO x_code).bind fun r2 =>
  if (!r2.2) then (some []) else ((zgf [71, 69, 84] r2.1 65536 1).bind fun r13 =>
  some r13.1)

def zf5 : Option Bool :=
  (zdS 502).bind fun r2 =>
  some (r2 == [72, 84, 84, 80, 47, 49, 46, 49, 32, 53, 48, 50, 32, 66, 97, 100, 32, 71, 97, 116, 101, 119, 97, 121, 13, 10, 67, 111, 110, 116, 101, 110, 116, 45, 76, 101, 110, 103, 116, 104, 58, 32, 48, 13, 10, 67, 111, 110, 110, 101, 99, 116, 105, 111, 110, 58, 32, 99, 108, 111, 115, 101, 13, 10, 13, 10])

def zca (x_kind : Int) (x_limit : Int) (t6 : Bool) : Option (Option accum_Accum × Int) :=
  if t6 then (some (none, 1)) else (some ((some ((⟨x_kind, x_limit, [], 0, false, 0, false, (⟨0, [], [], 0, [], 0, []⟩ : api_Head)⟩ : accum_Accum)), 0)))

def zhR (x_kind : Int) (x_limit : Int) : Option (Option accum_Accum × Int) :=
  if (!(x_kind == 1)) then (if (!(x_kind == 2)) then (zca x_kind x_limit true) else (if (decide (x_limit < 0)) then (zca x_kind x_limit true) else (zca x_kind x_limit (decide (65536 < x_limit))))) else (if (decide (x_limit < 0)) then (zca x_kind x_limit true) else (zca x_kind x_limit (decide (65536 < x_limit))))

def zbF (x_a : accum_Accum) (t8 : Bool) : Option Bool :=
  (zfE (x_a.f_buf.length : Int) 1).bind fun i9 =>
  (lAt x_a.f_buf i9).bind fun x10 =>
  some (!((x10 == 10) == t8))

def zeK (x_a : accum_Accum) : Option Bool :=
  if (decide (1 < (x_a.f_buf.length : Int))) then ((zfE (x_a.f_buf.length : Int) 2).bind fun i4 =>
  (lAt x_a.f_buf i4).bind fun x5 =>
  zbF x_a (x5 == 13)) else (zbF x_a false)

def zbG (x_c : scan_Scanner) : Option (Str × scan_Scanner) :=
  (z8 x_c zdx).bind fun r2 =>
  some (r2.1, r2.2)

def zcb (r17 : Str × Bool × scan_Scanner) (r20 : Str × scan_Scanner) (t26 : Bool) (s27 : Str) (i28 : Int) : Option (api_Field × Int) :=
  if t26 then (some (((⟨[], []⟩ : api_Field), 21))) else (if (!(r20.1 == [])) then (some (((⟨[], []⟩ : api_Field), 22))) else ((zV (⟨s27, i28⟩ : scan_Scanner)).bind fun r34 =>
  (zcs zah ([r34] : List Str)).bind fun r36 =>
  if (!r36) then (some (((⟨[], []⟩ : api_Field), 25))) else ((zV (⟨s27, i28⟩ : scan_Scanner)).bind fun r41 =>
  (zeb r41 [32, 9]).bind fun r42 =>
  some (((⟨r17.1, r42⟩ : api_Field), 0)))))

def zcm (x_s : Str) : Option (api_Field × Int) :=
  (strings_ContainsAny x_s [13, 10]).bind fun r3 =>
  if r3 then (some (((⟨[], []⟩ : api_Field), 24))) else ((ze9 x_s).bind fun r8 =>
  (zbG r8).bind fun r11 =>
  if (!(r11.1 == [])) then (some (((⟨[], []⟩ : api_Field), 23))) else ((zas r11.2).bind fun r17 =>
  (zbG r17.2.2).bind fun r20 =>
  if (!r17.2.1) then (zcb r17 r20 true r20.2.f_s r20.2.f_at) else ((zs r20.2 58).bind fun r24 =>
  zcb r17 r20 (!r24.1) r24.2.f_s r24.2.f_at)))

def zgg (i75 : Int) (s76 : Str) (s77 : Str) (i78 : Int) (s79 : Str) (i80 : Int) (l83 : List api_Field) : Option (api_Head × Int) :=
  (zgR (⟨i75, s76, s77, i78, s79, i80, l83⟩ : api_Head)).bind fun r84 =>
  if (!(r84 == 0)) then (some (((⟨0, [], [], 0, [], 0, []⟩ : api_Head), r84))) else (some (((⟨i75, s76, s77, i78, s79, i80, l83⟩ : api_Head), 0)))

def zdA (l41 : List Str) : Nat → Int → Str → Str → Int → Str → Int → (List api_Field) → Int → Option (api_Head × Int)
  | 0, _, _, _, _, _, _, _, _ => none
  | n + 1, i45, s46, s47, i48, s49, i50, l53, i54 =>
  if (decide (i54 < (l41.length : Int))) then ((lAt l41 i54).bind fun x58 =>
  (zcm x58).bind fun r62 =>
  if (!(r62.2 == 0)) then (some (((⟨0, [], [], 0, [], 0, []⟩ : api_Head), r62.2))) else (if zM l53.length 1 32 then ((zaL i54 1).bind fun i74 =>
  (zdA l41 n) i45 s46 s47 i48 s49 i50 (l53 ++ [r62.1]) i74) else none)) else (zgg i45 s46 s47 i48 s49 i50 l53)

def ze2 (x_a0 : Int) (x_a1 : Str) (r12 : Int) (t19 : Bool) : Option (api_Head × Int) :=
  if t19 then (some (((⟨0, [], [], 0, [], 0, []⟩ : api_Head), 6))) else ((sTo x_a1 r12).bind fun s23 =>
  (strings_Split s23 [13, 10]).bind fun r24 =>
  (lAt r24 0).bind fun x28 =>
  (zbn x_a0 x28).bind fun r31 =>
  if (!(r31.2 == 0)) then (some (((⟨0, [], [], 0, [], 0, []⟩ : api_Head), r31.2))) else ((zoi r24 1).bind fun l41 =>
  zdA l41 fuel r31.1.Kind r31.1.Method r31.1.Target r31.1.Code r31.1.Reason r31.1.Minor r31.1.Fields 0))

def zis (x_a0 : Int) (x_a1 : Str) (x_a2 : Int) : Option (api_Head × Int) :=
  (zbn x_a0 []).bind fun r3 =>
  if (r3.2 == 1) then (some (((⟨0, [], [], 0, [], 0, []⟩ : api_Head), r3.2))) else ((strings_Index x_a1 [13, 10, 13, 10]).bind fun r12 =>
  if (decide (x_a2 < (x_a1.length : Int))) then (some (((⟨0, [], [], 0, [], 0, []⟩ : api_Head), 3))) else (if (decide (r12 < 0)) then (ze2 x_a0 x_a1 r12 true) else ((zaL r12 4).bind fun i18 =>
  ze2 x_a0 x_a1 r12 (!(i18 == (x_a1.length : Int))))))

def zbH (x_a : accum_Accum) (i16 : Int) : Option (Bool × Int × accum_Accum) :=
  some ((false, i16, (⟨x_a.f_kind, x_a.f_limit, x_a.f_buf, (x_a.f_buf.length : Int), x_a.f_took, x_a.f_bad, x_a.f_whole, x_a.f_got⟩ : accum_Accum)))

def zeL (x_a : accum_Accum) (x_s : Str) : Option (Bool × Int × accum_Accum) :=
  if (x_a.f_from == 0) then ((zbn x_a.f_kind x_s).bind fun r5 =>
  zbH x_a r5.2) else (if (!(x_s == [])) then ((zcm x_s).bind fun r10 =>
  zbH x_a r10.2) else ((zis x_a.f_kind x_a.f_buf x_a.f_limit).bind fun r11 =>
  some ((r11.2 == 0, r11.2, (⟨x_a.f_kind, x_a.f_limit, x_a.f_buf, x_a.f_from, x_a.f_took, x_a.f_bad, x_a.f_whole, r11.1⟩ : accum_Accum)))))

def zeM (x_a : accum_Accum) (x_b : UInt8) : Option (Bool × Int × accum_Accum) :=
  if (decide (x_a.f_limit ≤ (x_a.f_buf.length : Int))) then (some (false, 3, x_a)) else (if zM x_a.f_buf.length 1 1 then ((zeK (⟨x_a.f_kind, x_a.f_limit, x_a.f_buf ++ [x_b], x_a.f_from, x_a.f_took, x_a.f_bad, x_a.f_whole, x_a.f_got⟩ : accum_Accum)).bind fun r11 =>
  if r11 then (some ((false, 24, (⟨x_a.f_kind, x_a.f_limit, x_a.f_buf ++ [x_b], x_a.f_from, x_a.f_took, x_a.f_bad, x_a.f_whole, x_a.f_got⟩ : accum_Accum)))) else (if (!(x_b == 10)) then (some ((false, 0, (⟨x_a.f_kind, x_a.f_limit, x_a.f_buf ++ [x_b], x_a.f_from, x_a.f_took, x_a.f_bad, x_a.f_whole, x_a.f_got⟩ : accum_Accum)))) else ((zfE (((x_a.f_buf ++ [x_b]).length : Int)) 2).bind fun i20 =>
  (lSub (x_a.f_buf ++ [x_b]) x_a.f_from i20).bind fun l21 =>
  (zeL (⟨x_a.f_kind, x_a.f_limit, x_a.f_buf ++ [x_b], x_a.f_from, x_a.f_took, x_a.f_bad, x_a.f_whole, x_a.f_got⟩ : accum_Accum) l21).bind fun r24 =>
  some (r24.1, r24.2.1, r24.2.2)))) else none)

def zbI (rec2 : Int → Int → (List UInt8) → Int → Bool → Int → Bool → Int → Str → Str → Int → Str → Int → (List api_Field) → Int → Option (Int × Bool × Int × accum_Accum)) (i27 : Int) (r34 : Bool × Int × accum_Accum) (t42 : Bool) : Option (Int × Bool × Int × accum_Accum) :=
  if t42 then ((zaL i27 1).bind fun i45 =>
  some ((i45, r34.1, r34.2.1, (⟨r34.2.2.f_kind, r34.2.2.f_limit, [], r34.2.2.f_from, r34.2.2.f_took, r34.2.1, r34.1, r34.2.2.f_got⟩ : accum_Accum)))) else ((zaL i27 1).bind fun i48 =>
  rec2 r34.2.2.f_kind r34.2.2.f_limit r34.2.2.f_buf r34.2.2.f_from r34.2.2.f_took r34.2.1 r34.1 r34.2.2.f_got.Kind r34.2.2.f_got.Method r34.2.2.f_got.Target r34.2.2.f_got.Code r34.2.2.f_got.Reason r34.2.2.f_got.Minor r34.2.2.f_got.Fields i48)

def zdm (x_a1 : Str) (i49 : Int) (i50 : Int) (l53 : List UInt8) (i54 : Int) (t55 : Bool) (i56 : Int) (t57 : Bool) (i58 : Int) (s59 : Str) (s60 : Str) (i61 : Int) (s62 : Str) (i63 : Int) (l66 : List api_Field) : Option (Int × Bool × Int × accum_Accum) :=
  some (((x_a1.length : Int), false, 0, (⟨i49, i50, l53, i54, t55, i56, t57, (⟨i58, s59, s60, i61, s62, i63, l66⟩ : api_Head)⟩ : accum_Accum)))

def zT (x_a1 : Str) : Nat → Int → Int → (List UInt8) → Int → Bool → Int → Bool → Int → Str → Str → Int → Str → Int → (List api_Field) → Int → Option (Int × Bool × Int × accum_Accum)
  | 0, _, _, _, _, _, _, _, _, _, _, _, _, _, _, _ => none
  | n + 1, i9, i10, l13, i14, t15, i16, t17, i18, s19, s20, i21, s22, i23, l26, i27 =>
  if (decide (i27 < (x_a1.length : Int))) then ((sAt x_a1 i27).bind fun b33 =>
  (zeM ((⟨i9, i10, l13, i14, true, i16, t17, (⟨i18, s19, s20, i21, s22, i23, l26⟩ : api_Head)⟩ : accum_Accum)) b33).bind fun r34 =>
  if r34.1 then (zbI (zT x_a1 n) i27 r34 true) else (zbI (zT x_a1 n) i27 r34 (!(r34.2.1 == 0)))) else (zdm x_a1 i9 i10 l13 i14 t15 i16 t17 i18 s19 s20 i21 s22 i23 l26)

def zbJ (x_a0 : accum_Accum) (x_a1 : Str) (t4 : Bool) : Option (Int × Bool × Int × accum_Accum) :=
  if t4 then (some (0, false, 8, x_a0)) else (zT x_a1 fuel x_a0.f_kind x_a0.f_limit x_a0.f_buf x_a0.f_from x_a0.f_took x_a0.f_bad x_a0.f_whole x_a0.f_got.Kind x_a0.f_got.Method x_a0.f_got.Target x_a0.f_got.Code x_a0.f_got.Reason x_a0.f_got.Minor x_a0.f_got.Fields 0)

def zbT (x_a0 : accum_Accum) (x_a1 : Str) : Option (Int × Bool × Int × accum_Accum) :=
  if (!(x_a0.f_bad == 0)) then (zbJ x_a0 x_a1 true) else (zbJ x_a0 x_a1 x_a0.f_whole)

def zbU (x_a : accum_Accum) : Option (api_Head × Bool) :=
  if (!x_a.f_whole) then (some (((⟨0, [], [], 0, [], 0, []⟩ : api_Head), false))) else (if zM 0 x_a.f_got.Fields.length 32 then (some (x_a.f_got, true)) else none)

def zep (x_limit : Int) (t3 : Bool) : Option (Option dechunk_Decoder × Int) :=
  if t3 then (some (none, 1)) else (some ((some (⟨x_limit, 0, [], 0, 0, 0, []⟩ : dechunk_Decoder), 0)))

def zhE (x_limit : Int) : Option (Option dechunk_Decoder × Int) :=
  if (decide (x_limit < 0)) then (zep x_limit true) else (zep x_limit (decide (65536 < x_limit)))

def zfb (x_a0 : api_Frame) (t26 : Bool) : Option (Option (Bool × body_Body) × Int) :=
  some ((some (false, (⟨default, x_a0, x_a0.N, t26, false⟩ : body_Body)), 0))

def zf6 (x_a0 : api_Frame) : Option (Option (Bool × body_Body) × Int) :=
  if (x_a0.Kind == 1) then (zfb x_a0 true) else (if (x_a0.Kind == 2) then (zfb x_a0 (x_a0.N == 0)) else (zfb x_a0 false))

def zcY (x_a0 : api_Frame) (t16 : Bool) : Option (Option (Bool × body_Body) × Int) :=
  if t16 then (some (none, 1)) else (if (x_a0.Kind == 3) then (zf6 x_a0) else (zf6 x_a0))

def zhF (x_a0 : api_Frame) (i11 : Int) : Option (Option (Bool × body_Body) × Int) :=
  if (!(i11 == 0)) then (zcY x_a0 true) else (if (decide (x_a0.Kind < 1)) then (zcY x_a0 true) else (if (decide (4 < x_a0.Kind)) then (zcY x_a0 true) else (if (decide (x_a0.N < 0)) then (zcY x_a0 true) else (zcY x_a0 (decide (1099511627776 < x_a0.N))))))

def zfc (x_a0 : api_Frame) (i30 : Int) (i31 : Int) (l34 : List UInt8) (i35 : Int) (i36 : Int) (i37 : Int) (l40 : List api_Field) (t55 : Bool) : Option (Option (Bool × body_Body) × Int) :=
  some ((some (true, (⟨(⟨i30, i31, l34, i35, i36, i37, l40⟩ : dechunk_Decoder), x_a0, x_a0.N, t55, false⟩ : body_Body)), 0))

def zhG (x_a0 : api_Frame) (i30 : Int) (i31 : Int) (l34 : List UInt8) (i35 : Int) (i36 : Int) (i37 : Int) (l40 : List api_Field) : Option (Option (Bool × body_Body) × Int) :=
  if (x_a0.Kind == 1) then (zfc x_a0 i30 i31 l34 i35 i36 i37 l40 true) else (if (x_a0.Kind == 2) then (zfc x_a0 i30 i31 l34 i35 i36 i37 l40 (x_a0.N == 0)) else (zfc x_a0 i30 i31 l34 i35 i36 i37 l40 false))

def zeq (x_a0 : api_Frame) (t59 : Bool) : Option (Option (Bool × body_Body) × Int) :=
  some ((some (false, (⟨default, x_a0, x_a0.N, t59, false⟩ : body_Body)), 0))

def zhH (x_a0 : api_Frame) : Option (Option (Bool × body_Body) × Int) :=
  if (x_a0.Kind == 1) then (zeq x_a0 true) else (if (x_a0.Kind == 2) then (zeq x_a0 (x_a0.N == 0)) else (zeq x_a0 false))

def zcZ (x_a0 : api_Frame) (i30 : Int) (i31 : Int) (l34 : List UInt8) (i35 : Int) (i36 : Int) (i37 : Int) (l40 : List api_Field) (t45 : Bool) : Option (Option (Bool × body_Body) × Int) :=
  if t45 then (some (none, 1)) else (if (x_a0.Kind == 3) then (zhG x_a0 i30 i31 l34 i35 i36 i37 l40) else (zhH x_a0))

def zhI (x_a0 : api_Frame) (i29 : Int) (i30 : Int) (i31 : Int) (l34 : List UInt8) (i35 : Int) (i36 : Int) (i37 : Int) (l40 : List api_Field) : Option (Option (Bool × body_Body) × Int) :=
  if (!(i29 == 0)) then (zcZ x_a0 i30 i31 l34 i35 i36 i37 l40 true) else (if (decide (x_a0.Kind < 1)) then (zcZ x_a0 i30 i31 l34 i35 i36 i37 l40 true) else (if (decide (4 < x_a0.Kind)) then (zcZ x_a0 i30 i31 l34 i35 i36 i37 l40 true) else (if (decide (x_a0.N < 0)) then (zcZ x_a0 i30 i31 l34 i35 i36 i37 l40 true) else (zcZ x_a0 i30 i31 l34 i35 i36 i37 l40 (decide (1099511627776 < x_a0.N))))))

def zi4 (x_a0 : api_Frame) (x_a1 : Int) : Option (Option (Bool × body_Body) × Int) :=
  (zhE x_a1).bind fun r3 =>
  zjj r3.1 (zhF x_a0 r3.2) (fun x5 => zhI x_a0 r3.2 x5.f_limit x5.f_at x5.f_line x5.f_left x5.f_sum x5.f_spent x5.f_trailers)

def zer (x_b : body_Body) : Option Bool :=
  some x_b.f_done

def zaG (x_d : dechunk_Decoder) (x_s : Str) (i7 : Int) (i8 : Int) : Option (Str × dechunk_Decoder) :=
  (sTo x_s (min x_d.f_left (x_s.length : Int))).bind fun s9 =>
  some ((s9, (⟨x_d.f_limit, i7, x_d.f_line, i8, x_d.f_sum, x_d.f_spent, x_d.f_trailers⟩ : dechunk_Decoder)))

def zc0 (x_d : dechunk_Decoder) (x_s : Str) : Option (Str × dechunk_Decoder) :=
  (zfE x_d.f_left (min x_d.f_left (x_s.length : Int))).bind fun i3 =>
  if (i3 == 0) then (zaG x_d x_s 2 2) else (zaG x_d x_s x_d.f_at i3)

def zax (x_d : dechunk_Decoder) (i10 : Int) (i14 : Int) : Option (Int × dechunk_Decoder) :=
  some ((0, (⟨x_d.f_limit, i14, x_d.f_line, i10, x_d.f_sum, x_d.f_spent, x_d.f_trailers⟩ : dechunk_Decoder)))

def zay (x_d : dechunk_Decoder) (x_b : UInt8) (b5 : UInt8) : Option (Int × dechunk_Decoder) :=
  if (!(x_b == b5)) then (some (31, x_d)) else ((zfE x_d.f_left 1).bind fun i10 =>
  if (i10 == 0) then (zax x_d i10 0) else (zax x_d i10 x_d.f_at))

def zcx (x_d : dechunk_Decoder) (x_b : UInt8) : Option (Int × dechunk_Decoder) :=
  if (x_d.f_left == 1) then (zay x_d x_b 10) else (zay x_d x_b 13)

def zhJ (x_s : Str) (x_most : Int) : Option (Int × Int) :=
  (zfu x_s 16 x_most zao).bind fun r2 =>
  some (r2.1, r2.2)

def zhK (x_c : scan_Scanner) : Option (Str × Bool × scan_Scanner) :=
  (zas x_c).bind fun r2 =>
  if r2.2.1 then (some (r2.1, true, r2.2.2)) else ((zf4 r2.2.2).bind fun r9 =>
  some (r9.1, r9.2.1, r9.2.2))

def zaH (r4 : Str × Bool × scan_Scanner) (t10 : Bool) (s11 : Str) (i12 : Int) : Option (api_Attr × Bool × scan_Scanner) :=
  if t10 then (some (((⟨r4.1, [], false⟩ : api_Attr), r4.2.1, (⟨s11, i12⟩ : scan_Scanner)))) else ((zhK (⟨s11, i12⟩ : scan_Scanner)).bind fun r16 =>
  some (((⟨r4.1, r16.1, true⟩ : api_Attr), r16.2.1, r16.2.2)))

def zc1 (x_r : chunkline_reader) : Option (api_Attr × Bool × scan_Scanner) :=
  (zas x_r.Scanner).bind fun r4 =>
  if (!r4.2.1) then (zaH r4 true r4.2.2.f_s r4.2.2.f_at) else ((zs r4.2.2 61).bind fun r8 =>
  zaH r4 (!r8.1) r8.2.f_s r8.2.f_at)

def zcc (r9 : Int × Int) (l36 : List api_Attr) (t41 : Bool) : Option (Int × List api_Attr × Int) :=
  if t41 then (some (0, [], 31)) else (if (!(r9.2 == 0)) then (some (0, [], r9.2)) else (some (r9.1, l36, 0)))

def zdT (r9 : Int × Int) (l36 : List api_Attr) (s37 : Str) (i38 : Int) : Option (Int × List api_Attr × Int) :=
  (zaq (⟨s37, i38⟩ : scan_Scanner)).bind fun r39 =>
  if (!r39) then (zcc r9 l36 true) else (zcc r9 l36 (r9.2 == 2))

def zbg (r9 : Int × Int) : Nat → (List api_Attr) → Str → Int → Option (Int × List api_Attr × Int)
  | 0, _, _, _ => none
  | n + 1, l14, s15, i16 =>
  (zs (⟨s15, i16⟩ : scan_Scanner) 59).bind fun r17 =>
  if r17.1 then ((zc1 (⟨r17.2⟩ : chunkline_reader)).bind fun r22 =>
  if (!r22.2.1) then (some (0, [], 31)) else (if zM l14.length 1 40 then ((zbg r9 n) (l14 ++ [r22.1]) r22.2.2.f_s r22.2.2.f_at) else none)) else (zdT r9 l14 r17.2.f_s r17.2.f_at)

def zfl (x_s : Str) : Option (Int × List api_Attr × Int) :=
  (ze9 x_s).bind fun r2 =>
  (z8 r2 zao).bind fun r6 =>
  (zhJ r6.1 1099511627776).bind fun r9 =>
  zbg r9 fuel [] r6.2.f_s r6.2.f_at

def zc2 (x_d : dechunk_Decoder) (x_s : Str) : Option (Int × dechunk_Decoder) :=
  (zfl x_s).bind fun r2 =>
  if (!(r2.2.2 == 0)) then (some (r2.2.2, x_d)) else ((zfE 1099511627776 x_d.f_sum).bind fun i9 =>
  if (decide (i9 < r2.1)) then (some (7, x_d)) else (if (r2.1 == 0) then (some ((0, (⟨x_d.f_limit, 3, x_d.f_line, x_d.f_left, x_d.f_sum, x_d.f_spent, x_d.f_trailers⟩ : dechunk_Decoder)))) else ((zaL x_d.f_sum r2.1).bind fun i19 =>
  some ((0, (⟨x_d.f_limit, 1, x_d.f_line, r2.1, i19, x_d.f_spent, x_d.f_trailers⟩ : dechunk_Decoder))))))

def zbV (x_d : dechunk_Decoder) (x_s : Str) : Option (Bool × Int × dechunk_Decoder) :=
  if (x_s == []) then (some (true, 0, x_d)) else ((zcm x_s).bind fun r6 =>
  if (!(r6.2 == 0)) then (some (false, r6.2, x_d)) else (if (decide (100 ≤ (x_d.f_trailers.length : Int))) then (some (false, 3, x_d)) else (if zM x_d.f_trailers.length 1 32 then (some ((false, 0, (⟨x_d.f_limit, x_d.f_at, x_d.f_line, x_d.f_left, x_d.f_sum, x_d.f_spent, x_d.f_trailers ++ [r6.1]⟩ : dechunk_Decoder)))) else none)))

def zaz (x_a0 : dechunk_Decoder) (x_a1 : UInt8) (i5 : Int) (t12 : Bool) (t14 : Bool) : Option (Bool × Int × dechunk_Decoder) :=
  if t14 then (some ((false, 3, (⟨x_a0.f_limit, x_a0.f_at, x_a0.f_line, x_a0.f_left, x_a0.f_sum, i5, x_a0.f_trailers⟩ : dechunk_Decoder)))) else (if (!((x_a1 == 10) == t12)) then (some ((false, 24, (⟨x_a0.f_limit, x_a0.f_at, x_a0.f_line, x_a0.f_left, x_a0.f_sum, i5, x_a0.f_trailers⟩ : dechunk_Decoder)))) else (if (!(x_a1 == 10)) then (if zM x_a0.f_line.length 1 1 then (some ((false, 0, (⟨x_a0.f_limit, x_a0.f_at, x_a0.f_line ++ [x_a1], x_a0.f_left, x_a0.f_sum, i5, x_a0.f_trailers⟩ : dechunk_Decoder)))) else none) else ((zfE (x_a0.f_line.length : Int) 1).bind fun i29 =>
  (lTo x_a0.f_line i29).bind fun l31 =>
  if (x_a0.f_at == 0) then ((zc2 (⟨x_a0.f_limit, x_a0.f_at, [], x_a0.f_left, x_a0.f_sum, i5, x_a0.f_trailers⟩ : dechunk_Decoder) l31).bind fun r38 =>
  some (false, r38.1, r38.2)) else ((zbV (⟨x_a0.f_limit, x_a0.f_at, [], x_a0.f_left, x_a0.f_sum, i5, x_a0.f_trailers⟩ : dechunk_Decoder) l31).bind fun r46 =>
  some (r46.1, r46.2.1, r46.2.2)))))

def zaA (x_a0 : dechunk_Decoder) (x_a1 : UInt8) (i5 : Int) (t12 : Bool) : Option (Bool × Int × dechunk_Decoder) :=
  if (decide (4098 ≤ (x_a0.f_line.length : Int))) then (zaz x_a0 x_a1 i5 t12 true) else (zaz x_a0 x_a1 i5 t12 (decide (x_a0.f_limit < i5)))

def zaB (x_a0 : dechunk_Decoder) (x_a1 : UInt8) (i5 : Int) : Option (Bool × Int × dechunk_Decoder) :=
  if (decide (0 < (x_a0.f_line.length : Int))) then ((zfE (x_a0.f_line.length : Int) 1).bind fun i8 =>
  (lAt x_a0.f_line i8).bind fun x9 =>
  zaA x_a0 x_a1 i5 (x9 == 13)) else (zaA x_a0 x_a1 i5 false)

def zcy (x_a0 : dechunk_Decoder) (x_a1 : UInt8) : Option (Bool × Int × dechunk_Decoder) :=
  if (x_a0.f_at == 3) then ((zaL x_a0.f_spent 1).bind fun i4 =>
  zaB x_a0 x_a1 i4) else (zaB x_a0 x_a1 x_a0.f_spent)

def zc3 (x_d : dechunk_Decoder) (x_s : Str) : Option (Int × Str × Bool × Int × dechunk_Decoder) :=
  if (x_d.f_at == 1) then ((zc0 x_d x_s).bind fun r5 =>
  some (((r5.1.length : Int), r5.1, false, 0, r5.2))) else (if (x_d.f_at == 2) then ((sAt x_s 0).bind fun b15 =>
  (zcx x_d b15).bind fun r16 =>
  some (1, [], false, r16.1, r16.2)) else ((sAt x_s 0).bind fun b24 =>
  (zcy x_d b24).bind fun r25 =>
  some (1, [], r25.1, r25.2.1, r25.2.2)))

def zaI (i44 : Int) (t45 : Bool) (i46 : Int) (l49 : List UInt8) (i50 : Int) (i55 : Int) (i56 : Int) (i57 : Int) (l60 : List api_Field) (i64 : Int) (l67 : List UInt8) : Option (Int × Str × Bool × Int × dechunk_Decoder) :=
  some ((i44, l49, t45, i46, (⟨i50, i64, l67, i55, i56, i57, l60⟩ : dechunk_Decoder)))

def zaJ (i44 : Int) (t45 : Bool) (i46 : Int) (l49 : List UInt8) (i50 : Int) (i51 : Int) (l54 : List UInt8) (i55 : Int) (i56 : Int) (i57 : Int) (l60 : List api_Field) (t62 : Bool) : Option (Int × Str × Bool × Int × dechunk_Decoder) :=
  if t62 then (zaI i44 t45 i46 l49 i50 i55 i56 i57 l60 4 []) else (zaI i44 t45 i46 l49 i50 i55 i56 i57 l60 i51 l54)

def zbW (i44 : Int) (t45 : Bool) (i46 : Int) (l49 : List UInt8) (i50 : Int) (i51 : Int) (l54 : List UInt8) (i55 : Int) (i56 : Int) (i57 : Int) (l60 : List api_Field) : Option (Int × Str × Bool × Int × dechunk_Decoder) :=
  if t45 then (zaJ i44 t45 i46 l49 i50 i51 l54 i55 i56 i57 l60 true) else (zaJ i44 t45 i46 l49 i50 i51 l54 i55 i56 i57 l60 (!(i46 == 0)))

def zac (rec1 : (List UInt8) → Int → Int → (List UInt8) → Int → Int → Int → (List api_Field) → Int → Bool → Int → Option (Int × Str × Bool × Int × dechunk_Decoder)) (x_s : Str) (l10 : List UInt8) (i11 : Int) (i12 : Int) (l15 : List UInt8) (i16 : Int) (i17 : Int) (i18 : Int) (l21 : List api_Field) (i22 : Int) (t23 : Bool) (i24 : Int) (t27 : Bool) : Option (Int × Str × Bool × Int × dechunk_Decoder) :=
  if t27 then ((zeA x_s i22).bind fun s31 =>
  (zc3 (⟨i11, i12, l15, i16, i17, i18, l21⟩ : dechunk_Decoder) s31).bind fun r32 =>
  if zM l10.length r32.2.1.length 1 then ((zaL i22 r32.1).bind fun i43 =>
  rec1 (l10 ++ r32.2.1) r32.2.2.2.2.f_limit r32.2.2.2.2.f_at r32.2.2.2.2.f_line r32.2.2.2.2.f_left r32.2.2.2.2.f_sum r32.2.2.2.2.f_spent r32.2.2.2.2.f_trailers i43 r32.2.2.1 r32.2.2.2.1) else none) else (zbW i22 t23 i24 l10 i11 i12 l15 i16 i17 i18 l21)

def zA (x_s : Str) : Nat → (List UInt8) → Int → Int → (List UInt8) → Int → Int → Int → (List api_Field) → Int → Bool → Int → Option (Int × Str × Bool × Int × dechunk_Decoder)
  | 0, _, _, _, _, _, _, _, _, _, _, _ => none
  | n + 1, l10, i11, i12, l15, i16, i17, i18, l21, i22, t23, i24 =>
  if (decide (i22 < (x_s.length : Int))) then (if (!t23) then (zac (zA x_s n) x_s l10 i11 i12 l15 i16 i17 i18 l21 i22 t23 i24 (i24 == 0)) else (zac (zA x_s n) x_s l10 i11 i12 l15 i16 i17 i18 l21 i22 t23 i24 false)) else (zac (zA x_s n) x_s l10 i11 i12 l15 i16 i17 i18 l21 i22 t23 i24 false)

def zc4 (x_d : dechunk_Decoder) (x_s : Str) : Option (Int × Str × Bool × Int × dechunk_Decoder) :=
  if (x_d.f_at == 4) then (some (0, [], false, 8, x_d)) else (zA x_s fuel [] x_d.f_limit x_d.f_at x_d.f_line x_d.f_left x_d.f_sum x_d.f_spent x_d.f_trailers 0 false 0)

def zcH (x_a0 : body_Body) (x_a1 : Str) (i26 : Int) (i27 : Int) (t28 : Bool) : Option (Int × Str × Bool × Int × body_Body) :=
  (sTo x_a1 i26).bind fun s29 =>
  some ((i26, s29, t28, 0, (⟨x_a0.Decoder, x_a0.f_frame, i27, t28, x_a0.f_bad⟩ : body_Body)))

def zcI (x_a0 : body_Body) (x_a1 : Str) (t4 : Bool) : Option (Int × Str × Bool × Int × body_Body) :=
  if t4 then (some (0, [], false, 8, x_a0)) else (if (x_a0.f_frame.Kind == 3) then ((zc4 x_a0.Decoder x_a1).bind fun r12 =>
  some ((r12.1, r12.2.1, r12.2.2.1, r12.2.2.2.1, (⟨r12.2.2.2.2, x_a0.f_frame, x_a0.f_left, r12.2.2.1, !(r12.2.2.2.1 == 0)⟩ : body_Body)))) else (if (x_a0.f_frame.Kind == 2) then ((zfE x_a0.f_left (min (x_a1.length : Int) x_a0.f_left)).bind fun i24 =>
  zcH x_a0 x_a1 (min (x_a1.length : Int) x_a0.f_left) i24 (i24 == 0)) else (zcH x_a0 x_a1 (x_a1.length : Int) x_a0.f_left x_a0.f_done)))

def zfM (x_a0 : body_Body) (x_a1 : Str) : Option (Int × Str × Bool × Int × body_Body) :=
  if x_a0.f_done then (zcI x_a0 x_a1 true) else (zcI x_a0 x_a1 x_a0.f_bad)

def zde (x_b : body_Body) (t8 : Bool) : Option (Bool × Int × body_Body) :=
  some ((true, 0, (⟨x_b.Decoder, x_b.f_frame, x_b.f_left, t8, x_b.f_bad⟩ : body_Body)))

def zgh (x_b : body_Body) : Option (Bool × Int × body_Body) :=
  if (x_b.f_frame.Kind == 4) then (zde x_b true) else (if (!x_b.f_done) then (some (false, 6, x_b)) else (zde x_b x_b.f_done))

def zbB (x_d : dechunk_Decoder) : Option (List api_Field) :=
  if zM 0 x_d.f_trailers.length 32 then (some x_d.f_trailers) else none

def zdU (x_b : body_Body) : Option (List api_Field) :=
  (zbB x_b.Decoder).bind fun r4 =>
  some r4

def zaW (x_a0 : message_reader) (i17 : Int) (s34 : Str) (i44 : Int) (i45 : Int) (i46 : Int) (t47 : Bool) (t48 : Bool) (i49 : Int) (i50 : Int) (l53 : List UInt8) (i54 : Int) (i55 : Int) (i56 : Int) (l59 : List api_Field) : Option (Int × Int × message_reader) :=
  (zer ((⟨(⟨i49, i50, l53, i54, i55, i56, l59⟩ : dechunk_Decoder), (⟨i44, i45⟩ : api_Frame), i46, t47, t48⟩ : body_Body))).bind fun r60 =>
  if (!r60) then (some ((0, 6, (⟨(⟨(⟨i49, i50, l53, i54, i55, i56, l59⟩ : dechunk_Decoder), (⟨i44, i45⟩ : api_Frame), i46, t47, t48⟩ : body_Body), (⟨x_a0.f_m.Head, x_a0.f_m.Frame, s34, x_a0.f_m.Trailers⟩ : api_Message)⟩ : message_reader)))) else ((zdU ((⟨(⟨i49, i50, l53, i54, i55, i56, l59⟩ : dechunk_Decoder), (⟨i44, i45⟩ : api_Frame), i46, t47, t48⟩ : body_Body))).bind fun r65 =>
  some ((i17, 0, (⟨(⟨(⟨i49, i50, l53, i54, i55, i56, l59⟩ : dechunk_Decoder), (⟨i44, i45⟩ : api_Frame), i46, t47, t48⟩ : body_Body), (⟨x_a0.f_m.Head, x_a0.f_m.Frame, s34, r65⟩ : api_Message)⟩ : message_reader))))

def zaX (x_a0 : message_reader) (i17 : Int) (i18 : Int) (i19 : Int) (i20 : Int) (t21 : Bool) (t22 : Bool) (i23 : Int) (i24 : Int) (l27 : List UInt8) (i28 : Int) (i29 : Int) (i30 : Int) (l33 : List api_Field) (s34 : Str) (t36 : Bool) : Option (Int × Int × message_reader) :=
  if t36 then ((zgh ((⟨(⟨i23, i24, l27, i28, i29, i30, l33⟩ : dechunk_Decoder), (⟨i18, i19⟩ : api_Frame), i20, t21, t22⟩ : body_Body))).bind fun r38 =>
  zaW x_a0 i17 s34 r38.2.2.f_frame.Kind r38.2.2.f_frame.N r38.2.2.f_left r38.2.2.f_done r38.2.2.f_bad r38.2.2.Decoder.f_limit r38.2.2.Decoder.f_at r38.2.2.Decoder.f_line r38.2.2.Decoder.f_left r38.2.2.Decoder.f_sum r38.2.2.Decoder.f_spent r38.2.2.Decoder.f_trailers) else (zaW x_a0 i17 s34 i18 i19 i20 t21 t22 i23 i24 l27 i28 i29 i30 l33)

def zaY (x_a0 : message_reader) (x_a2 : Bool) (i17 : Int) (i18 : Int) (i19 : Int) (i20 : Int) (t21 : Bool) (t22 : Bool) (i23 : Int) (i24 : Int) (l27 : List UInt8) (i28 : Int) (i29 : Int) (i30 : Int) (l33 : List api_Field) (s34 : Str) : Option (Int × Int × message_reader) :=
  if (x_a0.f_m.Frame.Kind == 4) then (zaX x_a0 i17 i18 i19 i20 t21 t22 i23 i24 l27 i28 i29 i30 l33 s34 x_a2) else (zaX x_a0 i17 i18 i19 i20 t21 t22 i23 i24 l27 i28 i29 i30 l33 s34 false)

def zbK (x_a0 : message_reader) (x_a1 : Str) (x_a2 : Bool) : Option (Int × Int × message_reader) :=
  (zer x_a0.Body).bind fun r3 =>
  if (!r3) then ((zfM x_a0.Body x_a1).bind fun r6 =>
  if (!(r6.2.2.2.1 == 0)) then (some ((0, r6.2.2.2.1, (⟨r6.2.2.2.2, x_a0.f_m⟩ : message_reader)))) else (zaY x_a0 x_a2 r6.1 r6.2.2.2.2.f_frame.Kind r6.2.2.2.2.f_frame.N r6.2.2.2.2.f_left r6.2.2.2.2.f_done r6.2.2.2.2.f_bad r6.2.2.2.2.Decoder.f_limit r6.2.2.2.2.Decoder.f_at r6.2.2.2.2.Decoder.f_line r6.2.2.2.2.Decoder.f_left r6.2.2.2.2.Decoder.f_sum r6.2.2.2.2.Decoder.f_spent r6.2.2.2.2.Decoder.f_trailers r6.2.1)) else (zaY x_a0 x_a2 0 x_a0.Body.f_frame.Kind x_a0.Body.f_frame.N x_a0.Body.f_left x_a0.Body.f_done x_a0.Body.f_bad x_a0.Body.Decoder.f_limit x_a0.Body.Decoder.f_at x_a0.Body.Decoder.f_line x_a0.Body.Decoder.f_left x_a0.Body.Decoder.f_sum x_a0.Body.Decoder.f_spent x_a0.Body.Decoder.f_trailers x_a0.f_m.Body)

def zdn (x_a1 : Str) : Option (Int × Bool × Int) :=
  some (0, false, 5)

def zdo : Option (api_Head × Bool) :=
  some (((⟨0, [], [], 0, [], 0, []⟩ : api_Head), false))

def zcJ : Option Bool :=
  some false

def zes (x_a1 : Str) : Option (Int × Str × Bool × Int) :=
  some (0, [], false, 5)

def zeN : Option (Bool × Int) :=
  some (false, 5)

def zcz : Option (List api_Field) :=
  some []

def zad (x_a0 : message_reader) (i12 : Int) (s13 : Str) : Option (Int × Int × message_reader) :=
  (zcJ).bind fun r18 =>
  if (!r18) then (some ((0, 6, (⟨default, (⟨x_a0.f_m.Head, x_a0.f_m.Frame, s13, x_a0.f_m.Trailers⟩ : api_Message)⟩ : message_reader)))) else ((zcz).bind fun r23 =>
  some ((i12, 0, (⟨default, (⟨x_a0.f_m.Head, x_a0.f_m.Frame, s13, r23⟩ : api_Message)⟩ : message_reader))))

def zae (x_a0 : message_reader) (i12 : Int) (s13 : Str) (t15 : Bool) : Option (Int × Int × message_reader) :=
  if t15 then ((zeN).bind fun r17 =>
  zad x_a0 i12 s13) else (zad x_a0 i12 s13)

def zaf (x_a0 : message_reader) (x_a2 : Bool) (i12 : Int) (s13 : Str) : Option (Int × Int × message_reader) :=
  if (x_a0.f_m.Frame.Kind == 4) then (zae x_a0 i12 s13 x_a2) else (zae x_a0 i12 s13 false)

def zaC (x_a0 : message_reader) (x_a1 : Str) (x_a2 : Bool) : Option (Int × Int × message_reader) :=
  (zcJ).bind fun r3 =>
  if (!r3) then ((zes x_a1).bind fun r6 =>
  if (!(r6.2.2.2 == 0)) then (some ((0, r6.2.2.2, (⟨default, x_a0.f_m⟩ : message_reader)))) else (zaf x_a0 x_a2 r6.1 r6.2.1)) else (zaf x_a0 x_a2 0 x_a0.f_m.Body)

def zbL (x_b : body_Body) : Option Bool :=
  some x_b.f_done

def zbX (x_s : Str) : Option (Int × Str × Bool × Int) :=
  some (0, [], false, 5)

def zaZ (x_a0 : body_Body) (x_a1 : Str) (i21 : Int) (i22 : Int) (t23 : Bool) : Option (Int × Str × Bool × Int × body_Body) :=
  (sTo x_a1 i21).bind fun s24 =>
  some ((i21, s24, t23, 0, (⟨default, x_a0.f_frame, i22, t23, x_a0.f_bad⟩ : body_Body)))

def za0 (x_a0 : body_Body) (x_a1 : Str) (t4 : Bool) : Option (Int × Str × Bool × Int × body_Body) :=
  if t4 then (some ((0, [], false, 8, (⟨default, x_a0.f_frame, x_a0.f_left, x_a0.f_done, x_a0.f_bad⟩ : body_Body)))) else (if (x_a0.f_frame.Kind == 3) then ((zbX x_a1).bind fun r12 =>
  some ((r12.1, r12.2.1, r12.2.2.1, r12.2.2.2, (⟨default, x_a0.f_frame, x_a0.f_left, r12.2.2.1, !(r12.2.2.2 == 0)⟩ : body_Body)))) else (if (x_a0.f_frame.Kind == 2) then ((zfE x_a0.f_left (min (x_a1.length : Int) x_a0.f_left)).bind fun i19 =>
  zaZ x_a0 x_a1 (min (x_a1.length : Int) x_a0.f_left) i19 (i19 == 0)) else (zaZ x_a0 x_a1 (x_a1.length : Int) x_a0.f_left x_a0.f_done)))

def zdp (x_a0 : body_Body) (x_a1 : Str) : Option (Int × Str × Bool × Int × body_Body) :=
  if x_a0.f_done then (za0 x_a0 x_a1 true) else (za0 x_a0 x_a1 x_a0.f_bad)

def zbl (x_b : body_Body) (t8 : Bool) : Option (Bool × Int × body_Body) :=
  some ((true, 0, (⟨default, x_b.f_frame, x_b.f_left, t8, x_b.f_bad⟩ : body_Body)))

def zdV (x_b : body_Body) : Option (Bool × Int × body_Body) :=
  if (x_b.f_frame.Kind == 4) then (zbl x_b true) else (if (!x_b.f_done) then (some ((false, 6, (⟨default, x_b.f_frame, x_b.f_left, x_b.f_done, x_b.f_bad⟩ : body_Body)))) else (zbl x_b x_b.f_done))

def za1 : Option (List api_Field) :=
  some []

def zbY (x_b : body_Body) : Option (List api_Field) :=
  (za1).bind fun r4 =>
  some r4

def zW (x_a0 : message_reader) (i13 : Int) (s19 : Str) (i25 : Int) (i26 : Int) (i27 : Int) (t28 : Bool) (t29 : Bool) : Option (Int × Int × message_reader) :=
  (zbL ((⟨default, (⟨i25, i26⟩ : api_Frame), i27, t28, t29⟩ : body_Body))).bind fun r30 =>
  if (!r30) then (some ((0, 6, (⟨(⟨default, (⟨i25, i26⟩ : api_Frame), i27, t28, t29⟩ : body_Body), (⟨x_a0.f_m.Head, x_a0.f_m.Frame, s19, x_a0.f_m.Trailers⟩ : api_Message)⟩ : message_reader)))) else ((zbY ((⟨default, (⟨i25, i26⟩ : api_Frame), i27, t28, t29⟩ : body_Body))).bind fun r35 =>
  some ((i13, 0, (⟨(⟨default, (⟨i25, i26⟩ : api_Frame), i27, t28, t29⟩ : body_Body), (⟨x_a0.f_m.Head, x_a0.f_m.Frame, s19, r35⟩ : api_Message)⟩ : message_reader))))

def zX (x_a0 : message_reader) (i13 : Int) (i14 : Int) (i15 : Int) (i16 : Int) (t17 : Bool) (t18 : Bool) (s19 : Str) (t21 : Bool) : Option (Int × Int × message_reader) :=
  if t21 then ((zdV ((⟨default, (⟨i14, i15⟩ : api_Frame), i16, t17, t18⟩ : body_Body))).bind fun r23 =>
  zW x_a0 i13 s19 r23.2.2.f_frame.Kind r23.2.2.f_frame.N r23.2.2.f_left r23.2.2.f_done r23.2.2.f_bad) else (zW x_a0 i13 s19 i14 i15 i16 t17 t18)

def zY (x_a0 : message_reader) (x_a2 : Bool) (i13 : Int) (i14 : Int) (i15 : Int) (i16 : Int) (t17 : Bool) (t18 : Bool) (s19 : Str) : Option (Int × Int × message_reader) :=
  if (x_a0.f_m.Frame.Kind == 4) then (zX x_a0 i13 i14 i15 i16 t17 t18 s19 x_a2) else (zX x_a0 i13 i14 i15 i16 t17 t18 s19 false)

def zal (x_a0 : message_reader) (x_a1 : Str) (x_a2 : Bool) : Option (Int × Int × message_reader) :=
  (zbL (⟨default, x_a0.Body.f_frame, x_a0.Body.f_left, x_a0.Body.f_done, x_a0.Body.f_bad⟩ : body_Body)).bind fun r3 =>
  if (!r3) then ((zdp (⟨default, x_a0.Body.f_frame, x_a0.Body.f_left, x_a0.Body.f_done, x_a0.Body.f_bad⟩ : body_Body) x_a1).bind fun r6 =>
  if (!(r6.2.2.2.1 == 0)) then (some ((0, r6.2.2.2.1, (⟨(⟨default, r6.2.2.2.2.f_frame, r6.2.2.2.2.f_left, r6.2.2.2.2.f_done, r6.2.2.2.2.f_bad⟩ : body_Body), x_a0.f_m⟩ : message_reader)))) else (zY x_a0 x_a2 r6.1 r6.2.2.2.2.f_frame.Kind r6.2.2.2.2.f_frame.N r6.2.2.2.2.f_left r6.2.2.2.2.f_done r6.2.2.2.2.f_bad r6.2.1)) else (zY x_a0 x_a2 0 x_a0.Body.f_frame.Kind x_a0.Body.f_frame.N x_a0.Body.f_left x_a0.Body.f_done x_a0.Body.f_bad x_a0.f_m.Body)

def zeO (x_a2 : Str) (x_a4 : Bool) (r16 : Int × Bool × Int) (r25 : api_Head × Bool) (r30 : api_Frame × Int) : Option (api_Message × Int × Int) :=
  (zeA x_a2 r16.1).bind fun s49 =>
  (zaC ((⟨default, (⟨r25.1, r30.1, [], []⟩ : api_Message)⟩ : message_reader)) s49 x_a4).bind fun r50 =>
  if (!(r50.2.1 == 0)) then (some (((⟨(⟨0, [], [], 0, [], 0, []⟩ : api_Head), (⟨0, 0⟩ : api_Frame), [], []⟩ : api_Message), 0, r50.2.1))) else ((zaL r16.1 r50.1).bind fun i61 =>
  some (r50.2.2.f_m, i61, 0))

def zeP (x_a2 : Str) (x_a4 : Bool) (r16 : Int × Bool × Int) (r25 : api_Head × Bool) (r30 : api_Frame × Int) (i64 : Int) (i65 : Int) (i66 : Int) (t67 : Bool) (t68 : Bool) (i69 : Int) (i70 : Int) (l73 : List UInt8) (i74 : Int) (i75 : Int) (i76 : Int) (l79 : List api_Field) : Option (api_Message × Int × Int) :=
  (zeA x_a2 r16.1).bind fun s81 =>
  (zbK ((⟨(⟨(⟨i69, i70, l73, i74, i75, i76, l79⟩ : dechunk_Decoder), (⟨i64, i65⟩ : api_Frame), i66, t67, t68⟩ : body_Body), (⟨r25.1, r30.1, [], []⟩ : api_Message)⟩ : message_reader)) s81 x_a4).bind fun r82 =>
  if (!(r82.2.1 == 0)) then (some (((⟨(⟨0, [], [], 0, [], 0, []⟩ : api_Head), (⟨0, 0⟩ : api_Frame), [], []⟩ : api_Message), 0, r82.2.1))) else ((zaL r16.1 r82.1).bind fun i97 =>
  some (r82.2.2.f_m, i97, 0))

def zeQ (x_a2 : Str) (x_a4 : Bool) (r16 : Int × Bool × Int) (r25 : api_Head × Bool) (r30 : api_Frame × Int) (i99 : Int) (i100 : Int) (i101 : Int) (t102 : Bool) (t103 : Bool) : Option (api_Message × Int × Int) :=
  (zeA x_a2 r16.1).bind fun s105 =>
  (zal ((⟨(⟨default, (⟨i99, i100⟩ : api_Frame), i101, t102, t103⟩ : body_Body), (⟨r25.1, r30.1, [], []⟩ : api_Message)⟩ : message_reader)) s105 x_a4).bind fun r106 =>
  if (!(r106.2.1 == 0)) then (some (((⟨(⟨0, [], [], 0, [], 0, []⟩ : api_Head), (⟨0, 0⟩ : api_Frame), [], []⟩ : api_Message), 0, r106.2.1))) else ((zaL r16.1 r106.1).bind fun i117 =>
  some (r106.2.2.f_m, i117, 0))

def zeR (x_a1 : Str) (x_a2 : Str) (x_a3 : Int) (x_a4 : Bool) (i11 : Int) : Option (api_Message × Int × Int) :=
  if (!(i11 == 0)) then (some (((⟨(⟨0, [], [], 0, [], 0, []⟩ : api_Head), (⟨0, 0⟩ : api_Frame), [], []⟩ : api_Message), 0, i11))) else ((zdn x_a2).bind fun r16 =>
  if (!(r16.2.2 == 0)) then (some (((⟨(⟨0, [], [], 0, [], 0, []⟩ : api_Head), (⟨0, 0⟩ : api_Frame), [], []⟩ : api_Message), 0, r16.2.2))) else (if (!r16.2.1) then (some (((⟨(⟨0, [], [], 0, [], 0, []⟩ : api_Head), (⟨0, 0⟩ : api_Frame), [], []⟩ : api_Message), 0, 6))) else ((zdo).bind fun r25 =>
  (za2 x_a1 r25.1).bind fun r30 =>
  if (!(r30.2 == 0)) then (some (((⟨(⟨0, [], [], 0, [], 0, []⟩ : api_Head), (⟨0, 0⟩ : api_Frame), [], []⟩ : api_Message), 0, r30.2))) else ((zi4 r30.1 x_a3).bind fun r39 =>
  zjj r39.1 (zeO x_a2 x_a4 r16 r25 r30) (fun x41 => bE x41.1 (zeP x_a2 x_a4 r16 r25 r30 x41.2.f_frame.Kind x41.2.f_frame.N x41.2.f_left x41.2.f_done x41.2.f_bad x41.2.Decoder.f_limit x41.2.Decoder.f_at x41.2.Decoder.f_line x41.2.Decoder.f_left x41.2.Decoder.f_sum x41.2.Decoder.f_spent x41.2.Decoder.f_trailers) (zeQ x_a2 x_a4 r16 r25 r30 x41.2.f_frame.Kind x41.2.f_frame.N x41.2.f_left x41.2.f_done x41.2.f_bad))))))

def zeS (x_a2 : Str) (x_a4 : Bool) (r143 : Int × Bool × Int × accum_Accum) (r157 : api_Head × Bool) (r162 : api_Frame × Int) : Option (api_Message × Int × Int) :=
  (zeA x_a2 r143.1).bind fun s181 =>
  (zaC ((⟨default, (⟨r157.1, r162.1, [], []⟩ : api_Message)⟩ : message_reader)) s181 x_a4).bind fun r182 =>
  if (!(r182.2.1 == 0)) then (some (((⟨(⟨0, [], [], 0, [], 0, []⟩ : api_Head), (⟨0, 0⟩ : api_Frame), [], []⟩ : api_Message), 0, r182.2.1))) else ((zaL r143.1 r182.1).bind fun i193 =>
  some (r182.2.2.f_m, i193, 0))

def zeT (x_a2 : Str) (x_a4 : Bool) (r143 : Int × Bool × Int × accum_Accum) (r157 : api_Head × Bool) (r162 : api_Frame × Int) (i196 : Int) (i197 : Int) (i198 : Int) (t199 : Bool) (t200 : Bool) (i201 : Int) (i202 : Int) (l205 : List UInt8) (i206 : Int) (i207 : Int) (i208 : Int) (l211 : List api_Field) : Option (api_Message × Int × Int) :=
  (zeA x_a2 r143.1).bind fun s213 =>
  (zbK ((⟨(⟨(⟨i201, i202, l205, i206, i207, i208, l211⟩ : dechunk_Decoder), (⟨i196, i197⟩ : api_Frame), i198, t199, t200⟩ : body_Body), (⟨r157.1, r162.1, [], []⟩ : api_Message)⟩ : message_reader)) s213 x_a4).bind fun r214 =>
  if (!(r214.2.1 == 0)) then (some (((⟨(⟨0, [], [], 0, [], 0, []⟩ : api_Head), (⟨0, 0⟩ : api_Frame), [], []⟩ : api_Message), 0, r214.2.1))) else ((zaL r143.1 r214.1).bind fun i229 =>
  some (r214.2.2.f_m, i229, 0))

def zeU (x_a2 : Str) (x_a4 : Bool) (r143 : Int × Bool × Int × accum_Accum) (r157 : api_Head × Bool) (r162 : api_Frame × Int) (i231 : Int) (i232 : Int) (i233 : Int) (t234 : Bool) (t235 : Bool) : Option (api_Message × Int × Int) :=
  (zeA x_a2 r143.1).bind fun s237 =>
  (zal ((⟨(⟨default, (⟨i231, i232⟩ : api_Frame), i233, t234, t235⟩ : body_Body), (⟨r157.1, r162.1, [], []⟩ : api_Message)⟩ : message_reader)) s237 x_a4).bind fun r238 =>
  if (!(r238.2.1 == 0)) then (some (((⟨(⟨0, [], [], 0, [], 0, []⟩ : api_Head), (⟨0, 0⟩ : api_Frame), [], []⟩ : api_Message), 0, r238.2.1))) else ((zaL r143.1 r238.1).bind fun i249 =>
  some (r238.2.2.f_m, i249, 0))

def za5 (x_a1 : Str) (x_a2 : Str) (x_a3 : Int) (x_a4 : Bool) (i120 : Int) (i121 : Int) (i122 : Int) (l125 : List UInt8) (i126 : Int) (t127 : Bool) (i128 : Int) (t129 : Bool) (i130 : Int) (s131 : Str) (s132 : Str) (i133 : Int) (s134 : Str) (i135 : Int) (l138 : List api_Field) : Option (api_Message × Int × Int) :=
  if (!(i120 == 0)) then (some (((⟨(⟨0, [], [], 0, [], 0, []⟩ : api_Head), (⟨0, 0⟩ : api_Frame), [], []⟩ : api_Message), 0, i120))) else ((zbT ((⟨i121, i122, l125, i126, t127, i128, t129, (⟨i130, s131, s132, i133, s134, i135, l138⟩ : api_Head)⟩ : accum_Accum)) x_a2).bind fun r143 =>
  if (!(r143.2.2.1 == 0)) then (some (((⟨(⟨0, [], [], 0, [], 0, []⟩ : api_Head), (⟨0, 0⟩ : api_Frame), [], []⟩ : api_Message), 0, r143.2.2.1))) else (if (!r143.2.1) then (some (((⟨(⟨0, [], [], 0, [], 0, []⟩ : api_Head), (⟨0, 0⟩ : api_Frame), [], []⟩ : api_Message), 0, 6))) else ((zbU r143.2.2.2).bind fun r157 =>
  (za2 x_a1 r157.1).bind fun r162 =>
  if (!(r162.2 == 0)) then (some (((⟨(⟨0, [], [], 0, [], 0, []⟩ : api_Head), (⟨0, 0⟩ : api_Frame), [], []⟩ : api_Message), 0, r162.2))) else ((zi4 r162.1 x_a3).bind fun r171 =>
  zjj r171.1 (zeS x_a2 x_a4 r143 r157 r162) (fun x173 => bE x173.1 (zeT x_a2 x_a4 r143 r157 r162 x173.2.f_frame.Kind x173.2.f_frame.N x173.2.f_left x173.2.f_done x173.2.f_bad x173.2.Decoder.f_limit x173.2.Decoder.f_at x173.2.Decoder.f_line x173.2.Decoder.f_left x173.2.Decoder.f_sum x173.2.Decoder.f_spent x173.2.Decoder.f_trailers) (zeU x_a2 x_a4 r143 r157 r162 x173.2.f_frame.Kind x173.2.f_frame.N x173.2.f_left x173.2.f_done x173.2.f_bad))))))

def zI (x_a0 : Int) (x_a1 : Str) (x_a2 : Str) (x_a3 : Int) (x_a4 : Bool) : Option (api_Message × Int × Int) :=
  (zhR x_a0 x_a3).bind fun r3 =>
  zjj r3.1 (zeR x_a1 x_a2 x_a3 x_a4 r3.2) (fun x5 => za5 x_a1 x_a2 x_a3 x_a4 r3.2 x5.f_kind x5.f_limit x5.f_buf x5.f_from x5.f_took x5.f_bad x5.f_whole x5.f_got.Kind x5.f_got.Method x5.f_got.Target x5.f_got.Code x5.f_got.Reason x5.f_got.Minor x5.f_got.Fields)

def za3 (t9 : Bool) : Option Bool :=
  some t9

def zit (x_a : api_Head) (x_b : api_Head) : Option Bool :=
  if (x_a.Kind == x_b.Kind) then (if (x_a.Method == x_b.Method) then (if (x_a.Target == x_b.Target) then (if (x_a.Minor == x_b.Minor) then (if (x_a.Code == x_b.Code) then (za3 (x_a.Reason == x_b.Reason)) else (za3 false)) else (za3 false)) else (za3 false)) else (za3 false)) else (za3 false)

def zdB (x_a : List api_Field) (x_b : List api_Field) : Nat → Int → Option Bool
  | 0, _ => none
  | n + 1, i7 =>
  if (decide (i7 < (x_a.length : Int))) then ((lAt x_a i7).bind fun x11 =>
  (lAt x_b i7).bind fun x14 =>
  if (!(x11 == x14)) then (some false) else ((zaL i7 1).bind fun i21 =>
  (zdB x_a x_b n) i21)) else (some true)

def zgU (x_a : List api_Field) (x_b : List api_Field) : Option Bool :=
  if (!((x_a.length : Int) == (x_b.length : Int))) then (some false) else (zdB x_a x_b fuel 0)

def ze3 (t7 : Bool) : Option Bool :=
  some t7

def ziu (x_a : api_Head) (x_b : api_Head) : Option Bool :=
  (zit x_a x_b).bind fun r4 =>
  if r4 then ((zgU x_a.Fields x_b.Fields).bind fun r6 =>
  ze3 r6) else (ze3 false)

def zct (t9 : Bool) : Option Bool :=
  some t9

def zc5 (x_a : api_Message) (x_b : api_Message) : Option Bool :=
  (ziu x_a.Head x_b.Head).bind fun r4 =>
  if r4 then (if (x_a.Frame == x_b.Frame) then (if (x_a.Body == x_b.Body) then ((zgU x_a.Trailers x_b.Trailers).bind fun r8 =>
  zct r8) else (zct false)) else (zct false)) else (zct false)

def zdC (s11 : Str) : Option Str :=
  (zim [72, 84, 84, 80, 47, 49, 46, 49, 32] s11).bind fun s12 =>
  (zim s12 [13, 10, 67, 111, 110, 116, 101, 110, 116, 45, 76, 101, 110, 103, 116, 104, 58, 32, 48, 13, 10, 67, 111, 110, 110, 101, 99, 116, 105, 111, 110, 58, 32, 99, 108, 111, 115, 101, 13, 10, 13, 10]).bind fun s13 =>
  some s13

def zeV (x_code : Int) : Option Str :=
  if (x_code == 400) then (zdC [52, 48, 48, 32, 66, 97, 100, 32, 82, 101, 113, 117, 101, 115, 116]) else (if (x_code == 431) then (zdC [52, 51, 49, 32, 82, 101, 113, 117, 101, 115, 116, 32, 72, 101, 97, 100, 101, 114, 32, 70, 105, 101, 108, 100, 115, 32, 84, 111, 111, 32, 76, 97, 114, 103, 101]) else (if (x_code == 502) then (zdC [53, 48, 50, 32, 66, 97, 100, 32, 71, 97, 116, 101, 119, 97, 121]) else (some [])))

def zN (t47 : Bool) : Option Bool :=
  some t47

def zU (x_a0 : Int) (x_a1 : Str) (r7 : api_Message × Bool) (r14 : Str) (t18 : Bool) : Option Bool :=
  if t18 then (some false) else (if (!r7.2) then ((zc5 r7.1 ((⟨(⟨0, [], [], 0, [], 0, []⟩ : api_Head), (⟨0, 0⟩ : api_Frame), [], []⟩ : api_Message))).bind fun r24 =>
  some r24) else ((zI 2 [71, 69, 84] r14 200 false).bind fun r27 =>
  (zI 2 x_a1 r14 200 false).bind fun r34 =>
  if (r27.2.2 == 0) then (if (r27.2.1 == (r14.length : Int)) then ((zc5 r27.1 r7.1).bind fun r43 =>
  if r43 then (if (r34.2.2 == 0) then (if (r34.2.1 == (r14.length : Int)) then (zN (r7.1.Head.Code == x_a0)) else (zN false)) else (zN false)) else (zN false)) else (zN false)) else (zN false)))

def za6 (x_a0 : Int) (x_a1 : Str) : Option Bool :=
  (zf5).bind fun r2 =>
  if (!r2) then (some false) else ((zdO x_a0).bind fun r7 =>
  (zdS x_a0).bind fun r14 =>
  (zeV x_a0).bind fun r16 =>
  if (!(r14 == r16)) then (zU x_a0 x_a1 r7 r14 true) else (zU x_a0 x_a1 r7 r14 (!(r7.2 == (!(r14 == []))))))

end Go.Dm
end
section
namespace Go.Dm
theorem zjK (b : Bool) (v : Int) (k : Nat) (h : -1 ≤ v) : (if b = true then (k : Int) else if v = -1 then -1 else v + ((k + 1 : Nat) : Int)) =
    if (if b = true then 0 else if (v == -1) = true then -1 else v + 1) = -1 then -1 else (if b = true then 0 else if (v == -1) = true then -1 else v + 1) + (k : Int) := by
  cases b with
  | true => simp
  | false =>
    by_cases hm : v = -1
    · subst hm; simp
    · have h2 : ¬ (v + 1 = -1) := by omega
      have h3 : (v == -1) = false := beq_eq_false_iff_ne.2 hm
      rw [h3]
      simp only [Bool.false_eq_true, if_false, if_neg hm, if_neg h2]
      omega
theorem zjn : ∀ (l : Str) (c : UInt8) (k : Nat), zi2 l c k = if Go.Lib.indexByte l c = -1 then -1 else Go.Lib.indexByte l c + k
  | [], _, _ => rfl
  | x :: l, c, k => by
    rw [zi2, Go.Lib.indexByte, zjn l c (k + 1)]
    exact zjK _ _ k (Go.Lib.indexByte_ge l c)
theorem zm5 (x y : UInt8) : (x == y) = (y == x) := by
  by_cases h : x = y
  · subst h; rfl
  · rw [beq_eq_false_iff_ne.2 h, beq_eq_false_iff_ne.2 (Ne.symm h)]
theorem zjL : ∀ (s t : Str), zin s t = t.isPrefixOf s
  | s, [] => by cases s <;> rfl
  | [], y :: t => rfl
  | x :: s, y :: t => by
    rw [zin, List.isPrefixOf, zjL s t, zm5 x y]
theorem zjM : ∀ (l t : Str) (k : Nat), zfF l t k = if Go.Lib.index l t = -1 then -1 else Go.Lib.index l t + k
  | [], t, k => by
    rw [zfF, Go.Lib.index]
    cases t <;> simp [zin]
  | x :: l, t, k => by
    rw [zfF, Go.Lib.index, zjL]
    simp only [zjM l t (k + 1)]
    exact zjK _ _ k (Go.Lib.index_ge l t)
theorem zjN : ∀ (l cs : Str) (k : Nat), zkp l cs k = if Go.Lib.indexAny l cs = -1 then -1 else Go.Lib.indexAny l cs + k
  | [], _, _ => rfl
  | x :: l, cs, k => by
    rw [zkp, Go.Lib.indexAny, zjN l cs (k + 1)]
    exact zjK _ _ k (Go.Lib.indexAny_ge cs l)
theorem zlh (l : Str) (c : UInt8) : zi2 l c 0 = Go.Lib.indexByte l c := by
  rw [zjn]; have := Go.Lib.indexByte_ge l c; split <;> omega
theorem zlY (l t : Str) : zfF l t 0 = Go.Lib.index l t := by
  rw [zjM]; have := Go.Lib.index_ge l t; split <;> omega
theorem zlZ (l cs : Str) : zkp l cs 0 = Go.Lib.indexAny l cs := by
  rw [zjN]; have := Go.Lib.indexAny_ge cs l; split <;> omega
end Go.Dm
end
section
namespace Go.Dm
@[simp] theorem sAt_nat (l : Str) (i : Nat) : sAt l (i : Int) = l[i]? := by simp [sAt]
@[simp] theorem sAt_zero (l : Str) : sAt l 0 = l[0]? := by simp [sAt]
@[simp] theorem sAt_one (l : Str) : sAt l 1 = l[1]? := by simp [sAt]
@[simp] theorem sAt_two (l : Str) : sAt l 2 = l[2]? := by simp [sAt]
@[simp] theorem lAt_nat {α : Type} (l : List α) (i : Nat) : lAt l (i : Int) = l[i]? := by simp [lAt]
@[simp] theorem lAt_zero {α : Type} (l : List α) : lAt l 0 = l[0]? := by simp [lAt]
theorem iAdd_ok {m n : Int} (h1 : -9223372036854775808 ≤ m + n) (h2 : m + n ≤ 9223372036854775807) : zaL m n = some (m + n) := by simp [zaL, inI, h1, h2]
end Go.Dm
end
section
namespace Go.Dm
theorem zg9 : zf5 = some true := by decide +kernel
theorem zjo (m : Str) (c : Int) (hm : (m == [72, 69, 65, 68]) = false) (hc : c = 400 ∨ c = 431 ∨ c = 502) : zcl m c = some false := by
  unfold zcl zL
  rw [hm, if_neg Bool.false_ne_true]
  rcases hc with rfl | rfl | rfl <;> cases m == [67, 79, 78, 78, 69, 67, 84] <;> rfl
theorem zmJ (m : Str) (h : api_Head) (hm : (m == [72, 69, 65, 68]) = false) (hk : h.Kind = 2) (hc : h.Code = 400 ∨ h.Code = 431 ∨ h.Code = 502) : za2 m h = za2 [71, 69, 84] h := by
  unfold za2 zdI
  rw [zjo m _ hm hc, zjo [71, 69, 84] _ (by decide) hc]
def zl0 (s : Str) : Option (Int × Int) := (zbT ⟨2, 200, [], 0, false, 0, false, ⟨0, [], [], 0, [], 0, []⟩⟩ s).bind fun r => (zbU r.2.2.2).map fun h => (h.1.Kind, h.1.Code)
theorem zmK (m s : Str) (c : Int) (hm : (m == [72, 69, 65, 68]) = false) (hc : c = 400 ∨ c = 431 ∨ c = 502) (hs : zl0 s = some (2, c)) : zI 2 m s 200 false = zI 2 [71, 69, 84] s 200 false := by
  have hN : zhR 2 200 = some (some ⟨2, 200, [], 0, false, 0, false, ⟨0, [], [], 0, [], 0, []⟩⟩, 0) := by decide +kernel
  unfold zI
  rw [hN, Option.bind_some]
  show za5 m s 200 false 0 2 200 [] 0 false 0 false 0 [] [] 0 [] 0 [] = za5 [71, 69, 84] s 200 false 0 2 200 [] 0 false 0 false 0 [] [] 0 [] 0 []
  unfold za5
  unfold zl0 at hs
  cases hF : zbT ⟨2, 200, [], 0, false, 0, false, ⟨0, [], [], 0, [], 0, []⟩⟩ s with
  | none => rfl
  | some r =>
    rw [hF, Option.bind_some] at hs
    simp only [Option.bind_some]
    cases hH : zbU r.2.2.2 with
    | none => rw [hH] at hs; cases hs
    | some h =>
      rw [hH] at hs
      have hs := Option.some.inj hs
      have e1 : h.1.Kind = 2 := congrArg Prod.fst hs
      have e2 : h.1.Code = c := congrArg Prod.snd hs
      simp only [Option.bind_some]
      rw [zmJ m h.1 hm e1 (by rw [e2]; exact hc)]
theorem zi5 (c : Int) (m : Str) (r14 : Str) (r7 : api_Message × Bool) (h7 : zdO c = some r7) (h14 : zdS c = some r14) (h16 : zeV c = some r14) (hb : (!(r7.2 == (!(r14 == [])))) = false) (hk : r7.2 = true)
    (hh : ∀ m, ((zI 2 m r14 200 false).map fun x => (x.2.2 == 0, x.2.1 == (r14.length : Int))) = some (true, true)) (hg : ((zI 2 [71, 69, 84] r14 200 false).bind fun x => zc5 x.1 r7.1) = some true) (hc : r7.1.Head.Code = c) : za6 c m = some true := by
  unfold za6
  rw [zg9, Option.bind_some, Bool.not_true, if_neg Bool.false_ne_true, h7, Option.bind_some, h14, Option.bind_some, h16, Option.bind_some, beq_self_eq_true, Bool.not_true, if_neg Bool.false_ne_true, hb]
  unfold zU
  rw [if_neg Bool.false_ne_true, hk, Bool.not_true, if_neg Bool.false_ne_true]
  have g1 := hh [71, 69, 84]
  have g2 := hh m
  cases p1 : zI 2 [71, 69, 84] r14 200 false with
  | none => rw [p1] at g1; cases g1
  | some x =>
    rw [p1] at g1 hg
    have g1 := Option.some.inj g1
    have a1 : (x.2.2 == 0) = true := congrArg Prod.fst g1
    have a2 : (x.2.1 == (r14.length : Int)) = true := congrArg Prod.snd g1
    have a3 : zc5 x.1 r7.1 = some true := hg
    cases p2 : zI 2 m r14 200 false with
    | none => rw [p2] at g2; cases g2
    | some y =>
      rw [p2] at g2
      have g2 := Option.some.inj g2
      have b1 : (y.2.2 == 0) = true := congrArg Prod.fst g2
      have b2 : (y.2.1 == (r14.length : Int)) = true := congrArg Prod.snd g2
      rw [Option.bind_some, Option.bind_some, a1, if_pos rfl, a2, if_pos rfl, a3, Option.bind_some, if_pos rfl, b1, if_pos rfl, b2, if_pos rfl, hc, beq_self_eq_true]
      rfl
theorem zi6 (s : Str) (c : Int) (hc : c = 400 ∨ c = 431 ∨ c = 502) (hs : zl0 s = some (2, c))
    (h1 : ((zI 2 [71, 69, 84] s 200 false).map fun x => (x.2.2 == 0, x.2.1 == (s.length : Int))) = some (true, true)) (h2 : ((zI 2 [72, 69, 65, 68] s 200 false).map fun x => (x.2.2 == 0, x.2.1 == (s.length : Int))) = some (true, true)) (m : Str) :
    ((zI 2 m s 200 false).map fun x => (x.2.2 == 0, x.2.1 == (s.length : Int))) = some (true, true) := by
  cases hm : m == [72, 69, 65, 68] with
  | true =>
    have : m = [72, 69, 65, 68] := by simpa using hm
    rw [this]; exact h2
  | false => rw [zmK m s c hm hc hs]; exact h1
def zms : Str := [72, 84, 84, 80, 47, 49, 46, 49, 32, 52, 48, 48, 32, 66, 97, 100, 32, 82, 101, 113, 117, 101, 115, 116, 13, 10, 67, 111, 110, 116, 101, 110, 116, 45, 76, 101, 110, 103, 116, 104, 58, 32, 48, 13, 10, 67, 111, 110, 110, 101, 99, 116, 105, 111, 110, 58, 32, 99, 108, 111, 115, 101, 13, 10, 13, 10]
def zmt : Str := [72, 84, 84, 80, 47, 49, 46, 49, 32, 52, 51, 49, 32, 82, 101, 113, 117, 101, 115, 116, 32, 72, 101, 97, 100, 101, 114, 32, 70, 105, 101, 108, 100, 115, 32, 84, 111, 111, 32, 76, 97, 114, 103, 101, 13, 10, 67, 111, 110, 116, 101, 110, 116, 45, 76, 101, 110, 103, 116, 104, 58, 32, 48, 13, 10, 67, 111, 110, 110, 101, 99, 116, 105, 111, 110, 58, 32, 99, 108, 111, 115, 101, 13, 10, 13, 10]
def zmu : Str := [72, 84, 84, 80, 47, 49, 46, 49, 32, 53, 48, 50, 32, 66, 97, 100, 32, 71, 97, 116, 101, 119, 97, 121, 13, 10, 67, 111, 110, 116, 101, 110, 116, 45, 76, 101, 110, 103, 116, 104, 58, 32, 48, 13, 10, 67, 111, 110, 110, 101, 99, 116, 105, 111, 110, 58, 32, 99, 108, 111, 115, 101, 13, 10, 13, 10]
theorem made (c : Int) : zdO c = some (if (zcu ((zau).getD []) c).2 then (⟨⟨2, [], [], c, (zcu ((zau).getD []) c).1, 1, [⟨[67, 111, 110, 116, 101, 110, 116, 45, 76, 101, 110, 103, 116, 104], [48]⟩, ⟨[67, 111, 110, 110, 101, 99, 116, 105, 111, 110], [99, 108, 111, 115, 101]⟩]⟩, ⟨2, 0⟩, [], []⟩, true) else (⟨⟨0, [], [], 0, [], 0, []⟩, ⟨0, 0⟩, [], []⟩, false)) := by
  unfold zdO
  show (if (!(zcu ((zau).getD []) c).2) = true then _ else _) = _
  cases (zcu ((zau).getD []) c).2 <;> rfl
theorem zjx (code : Int) (method : Str) (_ : inI code = true) : za6 code method = some true := by
  by_cases h4 : code = 400
  · subst h4
    exact zi5 400 method zms _ (made 400) (by decide +kernel) (by decide +kernel) (by decide +kernel) (by decide +kernel) (zi6 zms 400 (.inl rfl) (by decide +kernel) (by decide +kernel) (by decide +kernel)) (by decide +kernel) rfl
  by_cases h5 : code = 431
  · subst h5
    exact zi5 431 method zmt _ (made 431) (by decide +kernel) (by decide +kernel) (by decide +kernel) (by decide +kernel) (zi6 zmt 431 (.inr (.inl rfl)) (by decide +kernel) (by decide +kernel) (by decide +kernel)) (by decide +kernel) rfl
  by_cases h6 : code = 502
  · subst h6
    exact zi5 502 method zmu _ (made 502) (by decide +kernel) (by decide +kernel) (by decide +kernel) (by decide +kernel) (zi6 zmu 502 (.inr (.inr rfl)) (by decide +kernel) (by decide +kernel) (by decide +kernel)) (by decide +kernel) rfl
  have b4 : (code == 400) = false := beq_eq_false_iff_ne.2 h4
  have b5 : (code == 431) = false := beq_eq_false_iff_ne.2 h5
  have b6 : (code == 502) = false := beq_eq_false_iff_ne.2 h6
  have c4 : ((400 : Int) == code) = false := beq_eq_false_iff_ne.2 fun h => h4 h.symm
  have c5 : ((431 : Int) == code) = false := beq_eq_false_iff_ne.2 fun h => h5 h.symm
  have c6 : ((502 : Int) == code) = false := beq_eq_false_iff_ne.2 fun h => h6 h.symm
  have hg : (zcu ((zau).getD []) code).2 = false := by
    unfold zcu zau
    simp only [Option.getD_some, List.find?_cons, c4, c5, c6, List.find?_nil]
  have hmk := made code
  rw [hg, if_neg Bool.false_ne_true] at hmk
  have htx : zdS code = some [] := by
    unfold zdS
    rw [hmk, Option.bind_some]
    rfl
  have hrf : zeV code = some [] := by
    unfold zeV
    rw [b4, b5, b6]
    rfl
  unfold za6
  rw [zg9, Option.bind_some, Bool.not_true, if_neg Bool.false_ne_true, hmk, Option.bind_some, htx, Option.bind_some, hrf, Option.bind_some]
  have hz : zc5 (⟨⟨0, [], [], 0, [], 0, []⟩, ⟨0, 0⟩, [], []⟩ : api_Message) ⟨⟨0, [], [], 0, [], 0, []⟩, ⟨0, 0⟩, [], []⟩ = some true := by decide +kernel
  show zU code method (⟨⟨0, [], [], 0, [], 0, []⟩, ⟨0, 0⟩, [], []⟩, false) [] false = some true
  unfold zU
  rw [if_neg Bool.false_ne_true]
  show (if true = true then (zc5 _ _).bind _ else _) = _
  rw [if_pos rfl, hz]
  rfl
end Go.Dm
end
section
namespace Go.Dm
theorem zig (c : UInt8) (s : Str) : zE c s ≠ [] := by
  cases s with
  | nil => simp [zE]
  | cons x s =>
    unfold zE
    split
    · simp
    · split <;> simp
def zf9 (p : Str) : List Str → List Str
  | [] => [p]
  | h :: t => (p ++ h) :: t
theorem zgG (c x : UInt8) (s : Str) : zE c (x :: s) = if x = c then [] :: zE c s else zf9 [x] (zE c s) := by
  rw [zE]
  split
  · rfl
  · cases h : zE c s <;> rfl
theorem zmc (l : List Str) (h : l ≠ []) : zf9 [] l = l := by
  cases l with
  | nil => exact absurd rfl h
  | cons a t => rfl
theorem zkz (p q : Str) (l : List Str) (h : l ≠ []) : zf9 p (zf9 q l) = zf9 (p ++ q) l := by
  cases l with
  | nil => exact absurd rfl h
  | cons a t => simp [zf9]
theorem zhn (c : UInt8) : ∀ (a s : Str), c ∉ a → zE c (a ++ s) = zf9 a (zE c s)
  | [], s, _ => (zmc _ (zig c s)).symm
  | x :: a, s, h => by
    have hx : ¬ x = c := fun e => h (by simp [e])
    rw [List.cons_append, zgG, if_neg hx, zhn c a s (fun e => h (List.mem_cons_of_mem _ e)), zkz _ _ _ (zig c s)]
    rfl
theorem zkZ {c : UInt8} {a : Str} (h : c ∉ a) : zE c a = [a] := by
  have := zhn c a [] h
  simpa [zE, zf9] using this
theorem zmd {c : UInt8} {a : Str} (s : Str) (h : c ∉ a) : zE c (a ++ c :: s) = a :: zE c s := by
  rw [zhn c a _ h, zgG, if_pos rfl]
  simp [zf9]
theorem zjs (c : UInt8) : ∀ s : Str, (zE c s).length ≤ s.length + 1
  | [] => by simp [zE]
  | x :: s => by
    have ih := zjs c s
    rw [zgG]
    split
    · simp; omega
    · cases hl : zE c s with
      | nil => exact absurd hl (zig c s)
      | cons a t => rw [hl] at ih; simp [zf9] at ih ⊢; omega
end Go.Dm
end
