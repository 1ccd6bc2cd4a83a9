/-
 The models' words: partial operations as functions into Option. No program in sight.
 The models of the functions: written by a program (wip/gen) off the translation. No program in sight.
 The library's functions as the models say them, and as the library's contracts say them. No program in sight.
 Plain tools for the laws: the partial operations at natural numbers, loops over lists. No program in sight.
 Layer 1 (bytes): what the program's and the reference's models come to.
 Layer 3 (numbers): reading and writing: the program's and the document's come to the same. No program in sight.
 Fold
-/
import Derived.Lib.ItoaNum
import Derived.Lib.SplitLaws
import Derived.Lib.SlTrimSet
import Derived.Lib.Join
import Derived.Lib.IndexMore
import Derived.Lib.Bytealg
import Derived.Lib.Index
import Derived.Lib.IndexAny
section
namespace Go.Dm
abbrev Str := List UInt8

def inI (n : Int) : Bool := decide (-9223372036854775808 ≤ n) && decide (n ≤ 9223372036854775807)
theorem zhe {n : Int} : inI n = true ↔ -9223372036854775808 ≤ n ∧ n ≤ 9223372036854775807 := by simp [inI]

def zx (m n : Int) : Option Int := if inI (m + n) then some (m + n) else none
def zdC (m n : Int) : Option Int := if inI (m - n) then some (m - n) else none
def ztn (m n : Int) : Option Int := if inI (m * n) then some (m * n) else none
def zto (m n : Int) : Option Int := if 0 ≤ m ∧ 1 ≤ n ∧ inI (m / n) = true then some (m / n) else none
def zvQ (m n : Int) : Option Int := if 0 ≤ m ∧ 1 ≤ n ∧ inI (m % n) = true then some (m % n) else none
def sAt (l : Str) (i : Int) : Option UInt8 := if 0 ≤ i then l[i.toNat]? else none
def sTo (l : Str) (h : Int) : Option Str := if 0 ≤ h ∧ h ≤ l.length then some (l.take h.toNat) else none
def za7 (l : Str) (i : Int) : Option Str := if 0 ≤ i ∧ i ≤ l.length then some (l.drop i.toNat) else none
def zg7 (l : Str) (i h : Int) : Option Str := if 0 ≤ i ∧ i ≤ h ∧ h ≤ l.length then some ((l.take h.toNat).drop i.toNat) else none
def zbU (l m : Str) : Option Str := if l.length + m.length ≤ 9223372036854775807 then some (l ++ m) else none
def lAt {α : Type} (l : List α) (i : Int) : Option α := if 0 ≤ i then l[i.toNat]? else none
def zxY {α : Type} (l : List α) (i : Int) : Option (List α) := if 0 ≤ i ∧ i ≤ l.length then some (l.drop i.toNat) else none
def lSub {α : Type} (l : List α) (i h : Int) : Option (List α) := if 0 ≤ i ∧ i ≤ h ∧ h ≤ l.length then some ((l.take h.toNat).drop i.toNat) else none
def zP (n m bytes : Nat) : Bool := decide (n + m ≤ 9223372036854775807) && decide ((n + m) * bytes ≤ 140737488355328)
theorem og {α : Type} {b : Bool} {x : Option α} {r : α} (h : (if b = true then x else none) = some r) : b = true ∧ x = some r := by
 cases b with
 | false => cases h
 | true => exact ⟨rfl, h⟩
theorem zcD (b : Bool) : b = true ∨ b = false := by cases b <;> simp
theorem ob {α β : Type} {m : Option α} {f : α → Option β} {r : β} (h : m.bind f = some r) : ∃ x, m = some x ∧ f x = some r := by
 cases m with
 | none => cases h
 | some x => exact ⟨x, rfl, h⟩
theorem it {α : Type} {b : Bool} {x y : Option α} {r : α} (hb : b = true) (h : (if b = true then x else y) = some r) : x = some r := by rwa [if_pos hb] at h
theorem ie {α : Type} {b : Bool} {x y : Option α} {r : α} (hb : b = false) (h : (if b = true then x else y) = some r) : y = some r := by rwa [if_neg (by simp [hb])] at h

def zp0 : Str → Str → Bool
 | _, [] => false
 | [], _ :: _ => true
 | a :: x, b :: y => a < b || (a == b && zp0 x y)
def fuel : Nat := 1000000000000000000
end Go.Dm
end
section
set_option linter.unusedVariables false
set_option maxRecDepth 10000
namespace Go.Dm
structure api_Field where
 Name : Str
 Value : Str
deriving DecidableEq, Inhabited
structure api_Head where
 Kind : Int
 Method : Str
 Target : Str
 Code : Int
 Reason : Str
 Minor : Int
 Fields : List api_Field
deriving DecidableEq, Inhabited
structure accum_Accum where
 f_kind : Int
 f_limit : Int
 f_buf : List UInt8
 f_from : Int
 f_took : Bool
 f_bad : Int
 f_whole : Bool
 f_got : api_Head
deriving DecidableEq, Inhabited
structure scan_Scanner where
 f_s : Str
 f_at : Int
deriving DecidableEq, Inhabited
structure startline_line where
 Scanner : scan_Scanner
deriving DecidableEq, Inhabited
structure api_Host where
 Kind : Int
 Name : Str
 Port : Int
deriving DecidableEq, Inhabited
structure api_Target where
 Kind : Int
 Scheme : Str
 Host : api_Host
 Path : Str
 Query : Str
 HasQuery : Bool
deriving DecidableEq, Inhabited
structure bag_Bag where
 f_l : List api_Field
deriving DecidableEq, Inhabited
structure commas_splitter where
 Scanner : scan_Scanner
 f_out : List Str
 f_from : Int
 f_s : Str
deriving DecidableEq, Inhabited
structure quoted_reader where
 Scanner : scan_Scanner
 f_out : List UInt8
deriving DecidableEq, Inhabited
structure api_Frame where
 Kind : Int
 N : Int
deriving DecidableEq, Inhabited
structure length_reader where
 Bag : bag_Bag
 f_minor : Int
deriving DecidableEq, Inhabited
structure dechunk_Decoder where
 f_limit : Int
 f_at : Int
 f_line : List UInt8
 f_left : Int
 f_sum : Int
 f_spent : Int
 f_trailers : List api_Field
deriving DecidableEq, Inhabited
structure body_Body where
 Decoder : dechunk_Decoder
 f_frame : api_Frame
 f_left : Int
 f_done : Bool
 f_bad : Bool
deriving DecidableEq, Inhabited
structure api_Message where
 Head : api_Head
 Frame : api_Frame
 Body : Str
 Trailers : List api_Field
deriving DecidableEq, Inhabited
structure message_reader where
 Body : body_Body
 f_m : api_Message
deriving DecidableEq, Inhabited
structure quill_Quill where
 f_b : List UInt8
 f_most : Int
deriving DecidableEq, Inhabited
structure head_printer where
 Quill : quill_Quill
 f_full : Bool
deriving DecidableEq, Inhabited
structure enchunk_Encoder where
 f_size : Int
 f_buf : Str
 f_done : Bool
deriving DecidableEq, Inhabited
abbrev zpI {α : Type} {β : Sort _} (o : Option α) (k0 : β) (k1 : α → β) : β := match o with | none => k0 | some x => k1 x
theorem zt2 {α β : Type} {o : Option α} {k0 R : β} {k1 : α → β} (h : o = none) (hm : zpI o k0 k1 = R) : k0 = R := by subst h; exact hm
theorem zt3 {α β : Type} {o : Option α} {x : α} {k0 R : β} {k1 : α → β} (h : o = some x) (hm : zpI o k0 k1 = R) : k1 x = R := by subst h; exact hm
abbrev bE {β : Sort _} (b : Bool) (k1 k0 : β) : β := match b with | true => k1 | false => k0
theorem bE_t {β : Type} {b : Bool} {k1 k0 R : β} (h : b = true) (hm : bE b k1 k0 = R) : k1 = R := by subst h; exact hm
theorem bE_f {β : Type} {b : Bool} {k1 k0 R : β} (h : b = false) (hm : bE b k1 k0 = R) : k0 = R := by subst h; exact hm
theorem bE_pt {b : Bool} {k1 k0 : Prop} (h : b = true) (hm : bE b k1 k0) : k1 := by subst h; exact hm
theorem bE_pf {b : Bool} {k1 k0 : Prop} (h : b = false) (hm : bE b k1 k0) : k0 := by subst h; exact hm
theorem zqG {α : Type} {o : Option α} {k0 : Prop} {k1 : α → Prop} (h : o = none) (hm : zpI o k0 k1) : k0 := by subst h; exact hm
theorem zqH {α : Type} {o : Option α} {x : α} {k0 : Prop} {k1 : α → Prop} (h : o = some x) (hm : zpI o k0 k1) : k1 x := by subst h; exact hm

def zjf : Str → UInt8 → Nat → Int
 | [], _, _ => -1
 | x :: l, c, k => if x == c then (k : Int) else zjf l c (k + 1)
def strings_IndexByte (s : Str) (c : UInt8) : Option Int := some (zjf s c 0)
def zoh : Str → Str → Bool
 | _, [] => true
 | [], _ :: _ => false
 | x :: s, y :: t => x == y && zoh s t
def zjI : Str → Str → Nat → Int
 | s, t, k => if zoh s t then (k : Int) else match s with
  | [] => -1
  | _ :: s => zjI s t (k + 1)
def strings_Index (s t : Str) : Option Int := if s.length < 4294967281 then some (zjI s t 0) else none
def strings_Cut (s t : Str) : Option (Str × Str × Bool) := if s.length < 4294967281 then some (Go.Lib.cut s t) else none
def zmP : Str → Str → Nat → Int
 | [], _, _ => -1
 | x :: l, cs, k => if cs.contains x then (k : Int) else zmP l cs (k + 1)
def strings_IndexAny (s cs : Str) : Option Int := if s.length < 4294967281 ∧ cs.length < 4294967281 ∧ cs.all (fun c => c.toNat < 128) then some (zmP s cs 0) else none
def strings_Split (s sep : Str) : Option (List Str) := if s.length < 4294967281 ∧ 1 ≤ sep.length then some (Go.Lib.splitK sep 0 (Go.Lib.countB ⟨s.toArray⟩ ⟨sep.toArray⟩) s) else none
def zi (c : UInt8) : Str → List Str
 | [] => [[]]
 | x :: s => if x = c then [] :: zi c s else match zi c s with
  | [] => [[x]]
  | h :: t => (x :: h) :: t
def zmc (k : Nat) : UInt8 := if k < 10 then UInt8.ofNat (48 + k) else UInt8.ofNat (87 + k)
def zlH : Nat → Nat → Str
 | 0, u => [zmc u]
 | g + 1, u => if u < 16 then [zmc u] else zlH g (u / 16) ++ [zmc (u % 16)]
def zdg (n b : Int) : Option Str := if inI n = true ∧ b = 10 then some (Go.Lib.itoa n) else if b = 16 ∧ 0 ≤ n ∧ n < 1048576 then some (zlH 4 n.toNat) else none
def zdh (s cs : Str) : Option Str := if s.length < 4294967281 ∧ cs.length < 4294967281 ∧ cs.all (fun c => c.toNat < 128) then some (Go.Lib.trimS s cs) else none
def strings_Join (l : List Str) (sep : Str) : Option Str := if l.length ≤ 140737488355328 ∧ (Go.Lib.join l sep).length ≤ 140737488355328 then some (Go.Lib.join l sep) else none
def zel (x_kind : Int) (x_limit : Int) (t6 : Bool) : Option (Option accum_Accum × Int) :=
 if t6 then (some (none, 1)) else (some ((some ((⟨x_kind, x_limit, [], 0, false, 0, false, (⟨0, [], [], 0, [], 0, []⟩ : api_Head)⟩ : accum_Accum)), 0)))

def zpJ (x_kind : Int) (x_limit : Int) : Option (Option accum_Accum × Int) :=
 if (!(x_kind == 1)) then (if (!(x_kind == 2)) then (zel x_kind x_limit true) else (if (decide (x_limit < 0)) then (zel x_kind x_limit true) else (zel x_kind x_limit (decide (65536 < x_limit))))) else (if (decide (x_limit < 0)) then (zel x_kind x_limit true) else (zel x_kind x_limit (decide (65536 < x_limit))))

def zdG (x_a : accum_Accum) (t8 : Bool) : Option Bool :=
 (zdC (x_a.f_buf.length : Int) 1).bind fun i9 =>
 (lAt x_a.f_buf i9).bind fun x10 =>
 some (!((x10 == 10) == t8))

def zh2 (x_a : accum_Accum) : Option Bool :=
 if (decide (1 < (x_a.f_buf.length : Int))) then ((zdC (x_a.f_buf.length : Int) 2).bind fun i4 =>
 (lAt x_a.f_buf i4).bind fun x5 =>
 zdG x_a (x5 == 13)) else (zdG x_a false)

def strings_ContainsAny (x_s : Str) (x_chars : Str) : Option Bool :=
 (strings_IndexAny x_s x_chars).bind fun r2 =>
 some (decide (0 ≤ r2))

def zH (x_s : Str) (x_c : UInt8) : Nat → Int → Option Int
 | 0, _ => none
 | n + 1, i4 =>
 if (decide (0 ≤ i4)) then ((sAt x_s i4).bind fun b8 =>
 if (b8 == x_c) then (some i4) else ((zdC i4 1).bind fun i13 =>
 (zH x_s x_c n) i13)) else (some (-1))

def zbh (x_s : Str) (x_c : UInt8) : Option Int :=
 (zdC (x_s.length : Int) 1).bind fun i2 =>
 zH x_s x_c fuel i2

def zaw (x_s : Str) (x_c : UInt8) : Option Int :=
 (zbh x_s x_c).bind fun r2 =>
 some r2

def ziC (x_s : Str) : Option scan_Scanner :=
 some (⟨x_s, 0⟩ : scan_Scanner)

def zY (x_c : scan_Scanner) : Option Str :=
 (za7 x_c.f_s x_c.f_at).bind fun s4 =>
 some s4

def zat (t4 : Bool) : Option Bool :=
 some t4

def stringslite_HasPrefix (x_s : Str) (x_prefix : Str) : Option Bool :=
 if (decide ((x_prefix.length : Int) ≤ (x_s.length : Int))) then ((sTo x_s (x_prefix.length : Int)).bind fun s3 =>
 zat (s3 == x_prefix)) else (zat false)

def strings_HasPrefix (x_s : Str) (x_prefix : Str) : Option Bool :=
 (stringslite_HasPrefix x_s x_prefix).bind fun r2 =>
 some r2

def zcg (x_c : scan_Scanner) (x_t : Str) : Option (Bool × scan_Scanner) :=
 (zY x_c).bind fun r2 =>
 (strings_HasPrefix r2 x_t).bind fun r3 =>
 if (!r3) then (some (false, x_c)) else ((zx x_c.f_at (x_t.length : Int)).bind fun i9 =>
 some ((true, (⟨x_c.f_s, i9⟩ : scan_Scanner))))

def zaI (x_c : scan_Scanner) : Option Bool :=
 (zY x_c).bind fun r2 =>
 some (r2 == [])

def zB (x_c : scan_Scanner) : Option (UInt8 × Bool) :=
 (zaI x_c).bind fun r2 =>
 if r2 then (some (0, false)) else ((sAt x_c.f_s x_c.f_at).bind fun b7 =>
 some (b7, true))

def zfP (t3 : Bool) : Option Bool :=
 some t3

def z6 (x_b : UInt8) : Option Bool :=
 if (decide (48 ≤ x_b)) then (zfP (decide (x_b ≤ 57))) else (zfP false)

def zb1 (x_c : scan_Scanner) (t5 : Bool) : Option (Bool × scan_Scanner) :=
 if t5 then (some (false, x_c)) else ((zx x_c.f_at 1).bind fun i9 =>
 some ((true, (⟨x_c.f_s, i9⟩ : scan_Scanner))))

def zn (x_c : scan_Scanner) (x_b : UInt8) : Option (Bool × scan_Scanner) :=
 (zB x_c).bind fun r2 =>
 if (!r2.2) then (zb1 x_c true) else (zb1 x_c (!(r2.1 == x_b)))

def za8 (x_p : startline_line) (r3 : UInt8 × Bool) (t7 : Bool) : Option (Int × Bool × scan_Scanner) :=
 if t7 then (some (0, false, x_p.Scanner)) else ((zn x_p.Scanner r3.1).bind fun r11 =>
 some ((((r3.1 - 48).toNat : Int), true, r11.2)))

def za9 (x_p : startline_line) : Option (Int × Bool × scan_Scanner) :=
 (zB x_p.Scanner).bind fun r3 =>
 if (!r3.2) then (za8 x_p r3 true) else ((z6 r3.1).bind fun r6 =>
 za8 x_p r3 (!r6))

def zaK (r9 : Int × Bool × scan_Scanner) (r15 : Int × Bool × scan_Scanner) (t20 : Bool) : Option (Int × Int × Bool × scan_Scanner) :=
 some (r9.1, r15.1, t20, r15.2.2)

def zaJ (x_p : startline_line) : Option (Int × Int × Bool × scan_Scanner) :=
 (zcg x_p.Scanner [72, 84, 84, 80, 47]).bind fun r3 =>
 if (!r3.1) then (some (0, 0, false, r3.2)) else ((za9 (⟨r3.2⟩ : startline_line)).bind fun r9 =>
 (zn r9.2.2 46).bind fun r12 =>
 (za9 (⟨r12.2⟩ : startline_line)).bind fun r15 =>
 if r9.2.1 then (if r12.1 then (zaK r9 r15 r15.2.1) else (zaK r9 r15 false)) else (zaK r9 r15 false))

def za4 (t13 : Bool) : Option Bool :=
 some t13

def zc4 (x_s : Str) : Option Bool :=
 (ziC x_s).bind fun r2 =>
 (zaJ (⟨r2⟩ : startline_line)).bind fun r6 =>
 if r6.2.2.1 then ((zaI r6.2.2.2).bind fun r10 =>
 if r10 then (if (!(r6.1 == 1)) then (za4 true) else (za4 (decide (1 < r6.2.1)))) else (za4 false)) else (za4 false)

def zby (x_c : scan_Scanner) : Option Int :=
 some x_c.f_at

def zbH (r2 : Int) (s14 : Str) (i15 : Int) : Option (Str × scan_Scanner) :=
 (zg7 s14 r2 i15).bind fun s18 =>
 some ((s18, (⟨s14, i15⟩ : scan_Scanner)))

def zaT (rec1 : Str → Int → Option (Str × scan_Scanner)) (r2 : Int) (s4 : Str) (i5 : Int) (t10 : Bool) : Option (Str × scan_Scanner) :=
 if t10 then (zbH r2 s4 i5) else ((zx i5 1).bind fun i13 =>
 rec1 s4 i13)

def zN (x_is : UInt8 → Option Bool) (r2 : Int) : Nat → Str → Int → Option (Str × scan_Scanner)
 | 0, _, _ => none
 | n + 1, s4, i5 =>
 (zB (⟨s4, i5⟩ : scan_Scanner)).bind fun r6 =>
 if (!r6.2) then (zaT (zN x_is r2 n) r2 s4 i5 true) else ((x_is r6.1).bind fun r9 =>
 zaT (zN x_is r2 n) r2 s4 i5 (!r9))

def zal (x_c : scan_Scanner) (x_is : UInt8 → Option Bool) : Option (Str × scan_Scanner) :=
 (zby x_c).bind fun r2 =>
 zN x_is r2 fuel x_c.f_s x_c.f_at

def zhn (x_b : UInt8) (t3 : Bool) : Option UInt8 :=
 if t3 then (some (x_b + 32)) else (some x_b)

def zaO (x_b : UInt8) : Option UInt8 :=
 if (decide (65 ≤ x_b)) then (zhn x_b (decide (x_b ≤ 90))) else (zhn x_b false)

def zfQ (t5 : Bool) : Option Bool :=
 some t5

def zis (x_b : UInt8) : Option Bool :=
 (zaO x_b).bind fun r2 =>
 if (decide (97 ≤ r2)) then ((zaO x_b).bind fun r4 =>
 zfQ (decide (r4 ≤ 122))) else (zfQ false)

def zjo (x_b : UInt8) (x_l : Str) : Option Bool :=
 (strings_IndexByte x_l x_b).bind fun r2 =>
 some (decide (0 ≤ r2))

def zdT (t7 : Bool) : Option Bool :=
 some t7

def zcF (x_b : UInt8) : Option Bool :=
 (zis x_b).bind fun r2 =>
 if r2 then (zdT true) else ((z6 x_b).bind fun r4 =>
 if r4 then (zdT true) else ((zjo x_b [33, 35, 36, 37, 38, 39, 42, 43, 45, 46, 94, 95, 96, 124, 126]).bind fun r6 =>
 zdT r6))

def zbM (x_c : scan_Scanner) : Option (Str × Bool × scan_Scanner) :=
 (zal x_c zcF).bind fun r2 =>
 some ((r2.1, !(r2.1 == []), r2.2))

def zcr (x_b : UInt8) : Option Bool :=
 some (!(x_b == 32))

def zba (r3 : Int × Int × Bool × scan_Scanner) (t8 : Bool) : Option (Int × Bool × scan_Scanner) :=
 some (r3.2.1, t8, r3.2.2.2)

def zbb (x_p : startline_line) : Option (Int × Bool × scan_Scanner) :=
 (zaJ x_p).bind fun r3 =>
 if r3.2.2.1 then (if (r3.1 == 1) then (zba r3 (decide (r3.2.1 ≤ 1))) else (zba r3 false)) else (zba r3 false)

def zcs (rec1 : Int → Option Bool) (x_is : UInt8 → Option Bool) (i3 : Int) (x7 : Str) : Nat → Int → Option Bool
 | 0, _ => none
 | n + 1, i12 =>
 if (decide (i12 < (x7.length : Int))) then ((sAt x7 i12).bind fun b17 =>
 (x_is b17).bind fun r18 =>
 if (!r18) then (some false) else ((zx i12 1).bind fun i23 =>
 (zcs rec1 x_is i3 x7 n) i23)) else ((zx i3 1).bind fun i25 =>
 rec1 i25)

def zct (x_is : UInt8 → Option Bool) (x_l : List Str) : Nat → Int → Option Bool
 | 0, _ => none
 | n + 1, i3 =>
 if (decide (i3 < (x_l.length : Int))) then ((lAt x_l i3).bind fun x7 =>
 zcs (zct x_is x_l n) x_is i3 x7 fuel 0) else (some true)

def zc5 (x_is : UInt8 → Option Bool) (x_l : List Str) : Option Bool :=
 zct x_is x_l fuel 0

def zgh (x_b : UInt8) : Option Int :=
 (z6 x_b).bind fun r2 =>
 if r2 then (some (((x_b - 48).toNat : Int))) else ((zaO x_b).bind fun r7 =>
 (zx (((r7 - 97).toNat : Int)) 10).bind fun i8 =>
 some i8)

def zc6 (rec2 : Int → Int → Option (Int × Int)) (x_base : Int) (i11 : Int) (i12 : Int) (r18 : Int) (t23 : Bool) : Option (Int × Int) :=
 if t23 then (some (0, 7)) else ((ztn i11 x_base).bind fun i27 =>
 (zx i27 r18).bind fun i28 =>
 (zx i12 1).bind fun i30 =>
 rec2 i28 i30)

def zaF (x_s : Str) (x_base : Int) (x_most : Int) : Nat → Int → Int → Option (Int × Int)
 | 0, _, _ => none
 | n + 1, i11, i12 =>
 if (decide (i12 < (x_s.length : Int))) then ((sAt x_s i12).bind fun b17 =>
 (zgh b17).bind fun r18 =>
 if (decide (x_most < r18)) then (zc6 (zaF x_s x_base x_most n) x_base i11 i12 r18 true) else ((zdC x_most r18).bind fun i21 =>
 (zto i21 x_base).bind fun i22 =>
 zc6 (zaF x_s x_base x_most n) x_base i11 i12 r18 (decide (i22 < i11)))) else (some (i11, 0))

def zc7 (x_s : Str) (x_base : Int) (x_most : Int) (t5 : Bool) : Option (Int × Int) :=
 if t5 then (some (0, 2)) else (zaF x_s x_base x_most fuel 0 0)

def zho (x_s : Str) (x_base : Int) (x_most : Int) (x_is : UInt8 → Option Bool) : Option (Int × Int) :=
 if (x_s == []) then (zc7 x_s x_base x_most true) else ((zc5 x_is ([x_s] : List Str)).bind fun r4 =>
 zc7 x_s x_base x_most (!r4))

def zbz (x_s : Str) (x_most : Int) : Option (Int × Int) :=
 (zho x_s 10 x_most z6).bind fun r2 =>
 some (r2.1, r2.2)

def zfR (x_n : Int) (x_base : Int) : Option Str :=
 if (decide (x_n < 0)) then (some []) else ((zdg x_n x_base).bind fun r6 =>
 some r6)

def zem (x_n : Int) : Option Str :=
 (zfR x_n 10).bind fun r2 =>
 some r2

def zch (t6 : Bool) : Option Bool :=
 some t6

def zcQ (x_s : Str) (x_most : Int) : Option Bool :=
 (zbz x_s x_most).bind fun r2 =>
 if (r2.2 == 0) then ((zem r2.1).bind fun r5 =>
 zch (r5 == x_s)) else (zch false)

def zeO (s : Str) : Option Bool := if s.length < 1000000000 then ((zi 46 s).mapM (fun x => zcQ x 255)).bind fun bs => some (bs.all id && decide ((bs.length : Int) = 4)) else none

def zfe (t7 : Bool) : Option Bool :=
 some t7

def zcG (x_b : UInt8) : Option Bool :=
 (z6 x_b).bind fun r2 =>
 if r2 then (zfe true) else ((zaO x_b).bind fun r4 =>
 if (decide (97 ≤ r4)) then ((zaO x_b).bind fun r6 =>
 zfe (decide (r6 ≤ 102))) else (zfe false))

def zbN (rec1 : Int → Int → Option Int) (i13 : Int) (i36 : Int) : Option Int :=
 (zx i13 1).bind fun i37 =>
 rec1 i36 i37

def za5 (rec1 : Int → Int → Option Int) (i12 : Int) (i13 : Int) (t32 : Bool) : Option Int :=
 if t32 then ((zx i12 1).bind fun i34 =>
 zbN rec1 i13 i34) else (some (-1))

def za6 (rec1 : Int → Int → Option Int) (i12 : Int) (i13 : Int) (x17 : Str) (t25 : Bool) : Option Int :=
 if t25 then ((zx i12 2).bind fun i27 =>
 zbN rec1 i13 i27) else (if (decide (1 ≤ (x17.length : Int))) then (if (decide ((x17.length : Int) ≤ 4)) then ((zc5 zcG ([x17] : List Str)).bind fun r31 =>
 za5 rec1 i12 i13 r31) else (za5 rec1 i12 i13 false)) else (za5 rec1 i12 i13 false))

def zI (x_last : Bool) (r6 : List Str) : Nat → Int → Int → Option Int
 | 0, _, _ => none
 | n + 1, i12, i13 =>
 if (decide (i13 < (r6.length : Int))) then ((lAt r6 i13).bind fun x17 =>
 if x_last then ((zdC (r6.length : Int) 1).bind fun i22 =>
 if (i13 == i22) then ((zeO x17).bind fun r24 =>
 za6 (zI x_last r6 n) i12 i13 x17 r24) else (za6 (zI x_last r6 n) i12 i13 x17 false)) else (za6 (zI x_last r6 n) i12 i13 x17 false)) else (some i12)

def zcm (x_s : Str) (x_last : Bool) : Option Int :=
 if (x_s == []) then (some 0) else ((strings_Split x_s [58]).bind fun r6 =>
 zI x_last r6 fuel 0 0)

def zbA (t15 : Bool) : Option Bool :=
 some t15

def zfS (x_s : Str) : Option Bool :=
 (strings_Cut x_s [58, 58]).bind fun r2 =>
 if (!r2.2.2) then ((zcm x_s true).bind fun r6 =>
 some (r6 == 8)) else ((zcm r2.1 false).bind fun r9 =>
 (zcm r2.2.1 true).bind fun r10 =>
 if (decide (0 ≤ r9)) then (if (decide (0 ≤ r10)) then ((zx r9 r10).bind fun i14 =>
 zbA (decide (i14 ≤ 7))) else (zbA false)) else (zbA false))

def zad (t8 : Bool) : Option Bool :=
 some t8

def zfT (x_s : Str) : Option Bool :=
 if (decide (3 ≤ (x_s.length : Int))) then ((sAt x_s 0).bind fun b3 =>
 if (b3 == 37) then ((zg7 x_s 1 3).bind fun s5 =>
 (zc5 zcG ([s5] : List Str)).bind fun r7 =>
 zad r7) else (zad false)) else (zad false)

def zbI (t7 : Bool) : Option Bool :=
 some t7

def zbO (x_b : UInt8) : Option Bool :=
 (zis x_b).bind fun r2 =>
 if r2 then (zbI true) else ((z6 x_b).bind fun r4 =>
 if r4 then (zbI true) else ((zjo x_b [45, 46, 95, 126]).bind fun r6 =>
 zbI r6))

def zgR (x_b : UInt8) : Option Bool :=
 (zjo x_b [33, 36, 38, 39, 40, 41, 42, 43, 44, 59, 61]).bind fun r2 =>
 some r2

def zdU (rec1 : Str → Option Bool) (s6 : Str) (t19 : Bool) : Option Bool :=
 if t19 then ((za7 s6 1).bind fun s21 =>
 rec1 s21) else (some false)

def zau : Nat → Str → Option Bool
 | 0, _ => none
 | n + 1, s6 =>
 if (!(s6 == [])) then ((zfT s6).bind fun r10 =>
 if r10 then ((za7 s6 3).bind fun s13 =>
 (zau n) s13) else ((sAt s6 0).bind fun b14 =>
 (zbO b14).bind fun r15 =>
 if r15 then (zdU (zau n) s6 true) else ((sAt s6 0).bind fun b17 =>
 (zgR b17).bind fun r18 =>
 zdU (zau n) s6 r18))) else (some true)

def zgi (x_s : Str) : Option Bool :=
 if (x_s == []) then (some false) else (zau fuel x_s)

def zcR (i24 : Int) (s25 : Str) : Option (api_Host × Bool) :=
 some (((⟨i24, s25, (-1)⟩ : api_Host), !(i24 == 0)))

def zb2 (x_s : Str) (t14 : Bool) : Option (api_Host × Bool) :=
 if t14 then ((zdC (x_s.length : Int) 1).bind fun i16 =>
 (zg7 x_s 1 i16).bind fun s17 =>
 zcR 3 s17) else ((zeO x_s).bind fun r18 =>
 if r18 then (zcR 2 x_s) else ((zgi x_s).bind fun r21 =>
 if r21 then (zcR 1 x_s) else (zcR 0 x_s)))

def zgS (x_s : Str) : Option (api_Host × Bool) :=
 if (decide (2 < (x_s.length : Int))) then ((sAt x_s 0).bind fun b6 =>
 if (b6 == 91) then ((zdC (x_s.length : Int) 1).bind fun i8 =>
 (sAt x_s i8).bind fun b9 =>
 if (b9 == 93) then ((zdC (x_s.length : Int) 1).bind fun i11 =>
 (zg7 x_s 1 i11).bind fun s12 =>
 (zfS s12).bind fun r13 =>
 zb2 x_s r13) else (zb2 x_s false)) else (zb2 x_s false)) else (zb2 x_s false)

def zdi (x_s : Str) (r10 : Int) (r17 : api_Host × Bool) (t24 : Bool) : Option (api_Host × Int) :=
 if t24 then (some (((⟨0, [], 0⟩ : api_Host), 27))) else ((zx r10 1).bind fun i28 =>
 (za7 x_s i28).bind fun s29 =>
 (zbz s29 65535).bind fun r30 =>
 some (((⟨r17.1.Kind, r17.1.Name, r30.1⟩ : api_Host), 0)))

def zcS (x_s : Str) : Option (api_Host × Int) :=
 (zgS x_s).bind fun r3 =>
 if r3.2 then (some (r3.1, 0)) else ((zaw x_s 58).bind fun r10 =>
 if (decide (r10 < 0)) then (some (((⟨0, [], 0⟩ : api_Host), 27))) else ((sTo x_s r10).bind fun s16 =>
 (zgS s16).bind fun r17 =>
 if (!r17.2) then (zdi x_s r10 r17 true) else ((zx r10 1).bind fun i21 =>
 (za7 x_s i21).bind fun s22 =>
 (zcQ s22 65535).bind fun r23 =>
 zdi x_s r10 r17 (!r23))))

def zgJ (s : Str) : Option Str := if s.length < 4294967281 then s.mapM zaO else none

def zeB (t7 : Bool) : Option Bool :=
 some t7

def zhp (x_b : UInt8) : Option Bool :=
 (zbO x_b).bind fun r2 =>
 if r2 then (zeB true) else ((zgR x_b).bind fun r4 =>
 if r4 then (zeB true) else ((zjo x_b [58, 64]).bind fun r6 =>
 zeB r6))

def zgT (rec1 : Int → Option Bool) (i27 : Int) : Option Bool :=
 (zx i27 1).bind fun i28 =>
 rec1 i28

def zd9 (rec1 : Int → Option Bool) (i3 : Int) (t23 : Bool) : Option Bool :=
 if t23 then ((zx i3 2).bind fun i25 =>
 zgT rec1 i25) else (some false)

def ziD (rec1 : Int → Option Bool) (x_s : Str) (i3 : Int) (t12 : Bool) : Option Bool :=
 if t12 then (zgT rec1 i3) else ((sAt x_s i3).bind fun b14 =>
 if (b14 == 37) then ((zx i3 2).bind fun i16 =>
 if (decide (i16 < (x_s.length : Int))) then ((zx i3 1).bind fun i18 =>
 (zx i3 3).bind fun i19 =>
 (zg7 x_s i18 i19).bind fun s20 =>
 (zc5 zcG ([s20] : List Str)).bind fun r22 =>
 zd9 rec1 i3 r22) else (zd9 rec1 i3 false)) else (zd9 rec1 i3 false))

def zbc (x_s : Str) (x_more : Str) : Nat → Int → Option Bool
 | 0, _ => none
 | n + 1, i3 =>
 if (decide (i3 < (x_s.length : Int))) then ((sAt x_s i3).bind fun b7 =>
 (zhp b7).bind fun r8 =>
 if r8 then (ziD (zbc x_s x_more n) x_s i3 true) else ((sAt x_s i3).bind fun b10 =>
 (strings_IndexByte x_more b10).bind fun r11 =>
 ziD (zbc x_s x_more n) x_s i3 (decide (0 ≤ r11)))) else (some true)

def zk5 (x_s : Str) (x_more : Str) : Option Bool :=
 zbc x_s x_more fuel 0

def zgj (t5 : Bool) : Option Bool :=
 some t5

def zjJ (x_s : Str) : Option Bool :=
 (strings_HasPrefix x_s [47]).bind fun r2 =>
 if r2 then ((zk5 x_s [47]).bind fun r4 =>
 zgj r4) else (zgj false)

def ziE (x_s : Str) : Option Bool :=
 (zk5 x_s [47, 63]).bind fun r2 =>
 some r2

def zhq (r2 : Str × Str × Bool) (t7 : Bool) : Option (Str × Str × Bool × Int) :=
 if t7 then (some ([], [], false, 2)) else (some (r2.1, r2.2.1, r2.2.2, 0))

def zk6 (x_s : Str) : Option (Str × Str × Bool × Int) :=
 (strings_Cut x_s [63]).bind fun r2 =>
 (zjJ r2.1).bind fun r4 =>
 if (!r4) then (zhq r2 true) else ((ziE r2.2.1).bind fun r6 =>
 zhq r2 (!r6))

def zff (x_t : api_Target) (r15 : Str × Str × Bool × Int) (s19 : Str) : Option (api_Target × Bool) :=
 some (((⟨x_t.Kind, x_t.Scheme, x_t.Host, s19, r15.2.1, r15.2.2.1⟩ : api_Target), r15.2.2.2 == 0))

def zfg (x_t : api_Target) (b9 : UInt8) (s14 : Str) : Option (api_Target × Bool) :=
 (zk6 s14).bind fun r15 =>
 if (b9 == 63) then (zff x_t r15 []) else (zff x_t r15 r15.1)

def zgU (x_t : api_Target) (x_s : Str) : Option (api_Target × Bool) :=
 if (x_s == []) then (some (x_t, true)) else ((sAt x_s 0).bind fun b9 =>
 if (b9 == 63) then ((zbU [47] x_s).bind fun s13 =>
 zfg x_t b9 s13) else (zfg x_t b9 x_s))

def zbP (r3 : Str × Str × Bool) (r5 : Str) (i18 : Int) : Option (api_Target × Bool) :=
 (sTo r3.2.1 i18).bind fun s19 =>
 (zcS s19).bind fun r20 =>
 if (!(r20.2 == 0)) then (some (((⟨2, r5, (⟨0, [], 0⟩ : api_Host), [], [], false⟩ : api_Target), false))) else ((za7 r3.2.1 i18).bind fun s28 =>
 (zgU (⟨2, r5, r20.1, [], [], false⟩ : api_Target) s28).bind fun r29 =>
 some (r29.1, r29.2))

def zam (r3 : Str × Str × Bool) (r5 : Str) (t10 : Bool) : Option (api_Target × Bool) :=
 if t10 then (some (((⟨2, r5, (⟨0, [], 0⟩ : api_Host), [], [], false⟩ : api_Target), false))) else ((strings_IndexAny r3.2.1 [47, 63]).bind fun r14 =>
 if (decide (r14 < 0)) then (zbP r3 r5 (r3.2.1.length : Int)) else (zbP r3 r5 r14))

def zeC (x_s : Str) : Option (api_Target × Bool) :=
 (strings_Cut x_s [58, 47, 47]).bind fun r3 =>
 (zgJ r3.1).bind fun r5 =>
 if (!r3.2.2) then (zam r3 r5 true) else (if (!(r5 == [104, 116, 116, 112])) then (zam r3 r5 (!(r5 == [104, 116, 116, 112, 115]))) else (zam r3 r5 false))

def zk7 (x_method : Str) (x_s : Str) : Option (api_Target × Bool) :=
 if (x_s == [42]) then (some (((⟨4, [], (⟨0, [], 0⟩ : api_Host), [], [], false⟩ : api_Target), x_method == [79, 80, 84, 73, 79, 78, 83]))) else ((strings_HasPrefix x_s [47]).bind fun r7 =>
 if (!r7) then ((zeC x_s).bind fun r10 =>
 some (r10.1, r10.2)) else ((zgU ((⟨1, [], (⟨0, [], 0⟩ : api_Host), [], [], false⟩ : api_Target)) x_s).bind fun r13 =>
 some (r13.1, r13.2)))

def zeD (r5 : api_Host × Int) (t9 : Bool) : Option (api_Target × Int) :=
 if t9 then (some (((⟨0, [], (⟨0, [], 0⟩ : api_Host), [], [], false⟩ : api_Target), 20))) else (some (((⟨3, [], r5.1, [], [], false⟩ : api_Target), 0)))

def zhr (x_method : Str) (x_s : Str) : Option (api_Target × Int) :=
 if (x_method == [67, 79, 78, 78, 69, 67, 84]) then ((zcS x_s).bind fun r5 =>
 if (!(r5.2 == 0)) then (zeD r5 true) else (zeD r5 (decide (r5.1.Port < 0)))) else ((zk7 x_method x_s).bind fun r15 =>
 if (!r15.2) then (some (((⟨0, [], (⟨0, [], 0⟩ : api_Host), [], [], false⟩ : api_Target), 20))) else (some (r15.1, 0)))

def zZ (r17 : Str × Bool × scan_Scanner) (r23 : Str × scan_Scanner) (r29 : Int × Bool × scan_Scanner) (t41 : Bool) : Option (api_Head × Int) :=
 if t41 then (some (((⟨0, [], [], 0, [], 0, []⟩ : api_Head), 20))) else (some (((⟨1, r17.1, r23.1, 0, [], r29.1, []⟩ : api_Head), 0)))

def zdj (x_a0 : Str) : Option (api_Head × Int) :=
 (zaw x_a0 32).bind fun r5 =>
 (zx r5 1).bind fun i6 =>
 (za7 x_a0 i6).bind fun s7 =>
 (zc4 s7).bind fun r8 =>
 if r8 then (some (((⟨0, [], [], 0, [], 0, []⟩ : api_Head), 26))) else ((ziC x_a0).bind fun r13 =>
 (zbM r13).bind fun r17 =>
 (zn r17.2.2 32).bind fun r20 =>
 (zal r20.2 zcr).bind fun r23 =>
 (zn r23.2 32).bind fun r26 =>
 (zbb (⟨r26.2⟩ : startline_line)).bind fun r29 =>
 (zhr r17.1 r23.1).bind fun r32 =>
 if (!r17.2.1) then (zZ r17 r23 r29 true) else (if (!r20.1) then (zZ r17 r23 r29 true) else (if (!r26.1) then (zZ r17 r23 r29 true) else (if (!r29.2.1) then (zZ r17 r23 r29 true) else ((zaI r29.2.2).bind fun r39 =>
 if (!r39) then (zZ r17 r23 r29 true) else (zZ r17 r23 r29 (!(r32.2 == 0))))))))

def zen (t3 : Bool) : Option Bool :=
 some t3

def zi5 (x_b : UInt8) : Option Bool :=
 if (decide (32 < x_b)) then (zen (decide (x_b < 127))) else (zen false)

def zfU (t3 : Bool) : Option Bool :=
 some t3

def zgk (x_b : UInt8) : Option Bool :=
 if (x_b == 32) then (zfU true) else (zfU (x_b == 9))

def zdV (t6 : Bool) : Option Bool :=
 some t6

def zaG (x_b : UInt8) : Option Bool :=
 (zi5 x_b).bind fun r2 =>
 if r2 then (zdV true) else ((zgk x_b).bind fun r4 =>
 if r4 then (zdV true) else (zdV (decide (127 < x_b))))

def zV (r14 : Int × Bool × scan_Scanner) (r23 : Bool × scan_Scanner) (r26 : Int × Int) (t37 : Bool) : Option (api_Head × Int) :=
 if t37 then (some (((⟨0, [], [], 0, [], 0, []⟩ : api_Head), 20))) else ((zY r23.2).bind fun r41 =>
 some (((⟨2, [], [], r26.1, r41, r14.1, []⟩ : api_Head), 0)))

def zdW (x_a0 : Str) : Option (api_Head × Int) :=
 (strings_Cut x_a0 [32]).bind fun r3 =>
 (zc4 r3.1).bind fun r5 =>
 if r5 then (some (((⟨0, [], [], 0, [], 0, []⟩ : api_Head), 26))) else ((ziC x_a0).bind fun r10 =>
 (zbb (⟨r10⟩ : startline_line)).bind fun r14 =>
 (zn r14.2.2 32).bind fun r17 =>
 (zal r17.2 z6).bind fun r20 =>
 (zn r20.2 32).bind fun r23 =>
 (zbz r20.1 599).bind fun r26 =>
 if (!r14.2.1) then (zV r14 r23 r26 true) else (if (!r17.1) then (zV r14 r23 r26 true) else (if (!r23.1) then (zV r14 r23 r26 true) else (if (!((r20.1.length : Int) == 3)) then (zV r14 r23 r26 true) else (if (!(r26.2 == 0)) then (zV r14 r23 r26 true) else (if (decide (r26.1 < 100)) then (zV r14 r23 r26 true) else ((zY r23.2).bind fun r34 =>
 (zc5 zaG ([r34] : List Str)).bind fun r36 =>
 zV r14 r23 r26 (!r36))))))))

def zcT (x_kind : Int) (x_s : Str) (t4 : Bool) : Option (api_Head × Int) :=
 if t4 then (some (((⟨0, [], [], 0, [], 0, []⟩ : api_Head), 1))) else ((strings_ContainsAny x_s [13, 10]).bind fun r7 =>
 if r7 then (some (((⟨0, [], [], 0, [], 0, []⟩ : api_Head), 24))) else (if (x_kind == 1) then ((zdj x_s).bind fun r13 =>
 some (r13.1, r13.2)) else ((zdW x_s).bind fun r18 =>
 some (r18.1, r18.2))))

def zbB (x_kind : Int) (x_s : Str) : Option (api_Head × Int) :=
 if (!(x_kind == 1)) then (zcT x_kind x_s (!(x_kind == 2))) else (zcT x_kind x_s false)

def zdH (x_c : scan_Scanner) : Option (Str × scan_Scanner) :=
 (zal x_c zgk).bind fun r2 =>
 some (r2.1, r2.2)

def zeo (r17 : Str × Bool × scan_Scanner) (r20 : Str × scan_Scanner) (t26 : Bool) (s27 : Str) (i28 : Int) : Option (api_Field × Int) :=
 if t26 then (some (((⟨[], []⟩ : api_Field), 21))) else (if (!(r20.1 == [])) then (some (((⟨[], []⟩ : api_Field), 22))) else ((zY (⟨s27, i28⟩ : scan_Scanner)).bind fun r34 =>
 (zc5 zaG ([r34] : List Str)).bind fun r36 =>
 if (!r36) then (some (((⟨[], []⟩ : api_Field), 25))) else ((zY (⟨s27, i28⟩ : scan_Scanner)).bind fun r41 =>
 (zdh r41 [32, 9]).bind fun r42 =>
 some (((⟨r17.1, r42⟩ : api_Field), 0)))))

def zgx (x_s : Str) : Option (api_Field × Int) :=
 (strings_ContainsAny x_s [13, 10]).bind fun r3 =>
 if r3 then (some (((⟨[], []⟩ : api_Field), 24))) else ((ziC x_s).bind fun r8 =>
 (zdH r8).bind fun r11 =>
 if (!(r11.1 == [])) then (some (((⟨[], []⟩ : api_Field), 23))) else ((zbM r11.2).bind fun r17 =>
 (zdH r17.2.2).bind fun r20 =>
 if (!r17.2.1) then (zeo r17 r20 true r20.2.f_s r20.2.f_at) else ((zn r20.2 58).bind fun r24 =>
 zeo r17 r20 (!r24.1) r24.2.f_s r24.2.f_at)))

def zJ (x_s : List api_Field) : Option (List api_Field) :=
 if zP 0 x_s.length 32 then (some x_s) else none

def zng (x_l : List api_Field) : Option bag_Bag :=
 (zJ x_l).bind fun r2 =>
 some (⟨r2⟩ : bag_Bag)

def zjg (x_b : bag_Bag) : Option (List api_Field) :=
 (zJ x_b.f_l).bind fun r4 =>
 some r4

def zh3 (x_a : Str) (x_b : Str) : Option Bool :=
 (zgJ x_a).bind fun r2 =>
 (zgJ x_b).bind fun r3 =>
 some (r2 == r3)

def zdk (rec1 : (List Str) → Int → Option (List Str)) (i10 : Int) (l28 : List Str) : Option (List Str) :=
 (zx i10 1).bind fun i29 =>
 rec1 l28 i29

def zax (x_name : Str) (r3 : List api_Field) : Nat → (List Str) → Int → Option (List Str)
 | 0, _, _ => none
 | n + 1, l9, i10 =>
 if (decide (i10 < (r3.length : Int))) then ((lAt r3 i10).bind fun x14 =>
 (zh3 x14.Name x_name).bind fun r19 =>
 if r19 then (if zP l9.length 1 16 then (zdk (zax x_name r3 n) i10 (l9 ++ ([x14.Value] : List Str))) else none) else (zdk (zax x_name r3 n) i10 l9)) else (some l9)

def zcU (x_b : bag_Bag) (x_name : Str) : Option (List Str) :=
 (zjg x_b).bind fun r3 =>
 zax x_name r3 fuel [] 0

def zgl (rec2 : Int → Option Bool) (i21 : Int) (t33 : Bool) : Option Bool :=
 if t33 then (some false) else ((zx i21 1).bind fun i37 =>
 rec2 i37)

def zbV (r11 : List Str) : Nat → Int → Option Bool
 | 0, _ => none
 | n + 1, i21 =>
 if (decide (i21 < (r11.length : Int))) then ((lAt r11 i21).bind fun x25 =>
 (zcS x25).bind fun r29 =>
 if (!(r29.2 == 0)) then (zgl (zbV r11 n) i21 (!(x25 == []))) else (zgl (zbV r11 n) i21 false)) else (some true)

def zdv (r11 : List Str) (t16 : Bool) : Option Bool :=
 if t16 then (some false) else (zbV r11 fuel 0)

def zjK (x_h : api_Head) : Option Bool :=
 if (!(x_h.Kind == 1)) then (some true) else ((zng x_h.Fields).bind fun r7 =>
 (zcU r7 [72, 111, 115, 116]).bind fun r11 =>
 if (decide (1 < (r11.length : Int))) then (zdv r11 true) else (zdv r11 (decide ((r11.length : Int) < x_h.Minor))))

def zh4 (x_h : api_Head) : Option Int :=
 if (decide (100 < (x_h.Fields.length : Int))) then (some 3) else ((zjK x_h).bind fun r6 =>
 if (!r6) then (some 27) else (some 0))

def zkJ (i75 : Int) (s76 : Str) (s77 : Str) (i78 : Int) (s79 : Str) (i80 : Int) (l83 : List api_Field) : Option (api_Head × Int) :=
 (zh4 (⟨i75, s76, s77, i78, s79, i80, l83⟩ : api_Head)).bind fun r84 =>
 if (!(r84 == 0)) then (some (((⟨0, [], [], 0, [], 0, []⟩ : api_Head), r84))) else (some (((⟨i75, s76, s77, i78, s79, i80, l83⟩ : api_Head), 0)))

def zgm (l41 : List Str) : Nat → Int → Str → Str → Int → Str → Int → (List api_Field) → Int → Option (api_Head × Int)
 | 0, _, _, _, _, _, _, _, _ => none
 | n + 1, i45, s46, s47, i48, s49, i50, l53, i54 =>
 if (decide (i54 < (l41.length : Int))) then ((lAt l41 i54).bind fun x58 =>
 (zgx x58).bind fun r62 =>
 if (!(r62.2 == 0)) then (some (((⟨0, [], [], 0, [], 0, []⟩ : api_Head), r62.2))) else (if zP l53.length 1 32 then ((zx i54 1).bind fun i74 =>
 (zgm l41 n) i45 s46 s47 i48 s49 i50 (l53 ++ [r62.1]) i74) else none)) else (zkJ i45 s46 s47 i48 s49 i50 l53)

def zit (x_a0 : Int) (x_a1 : Str) (r12 : Int) (t19 : Bool) : Option (api_Head × Int) :=
 if t19 then (some (((⟨0, [], [], 0, [], 0, []⟩ : api_Head), 6))) else ((sTo x_a1 r12).bind fun s23 =>
 (strings_Split s23 [13, 10]).bind fun r24 =>
 (lAt r24 0).bind fun x28 =>
 (zbB x_a0 x28).bind fun r31 =>
 if (!(r31.2 == 0)) then (some (((⟨0, [], [], 0, [], 0, []⟩ : api_Head), r31.2))) else ((zxY r24 1).bind fun l41 =>
 zgm l41 fuel r31.1.Kind r31.1.Method r31.1.Target r31.1.Code r31.1.Reason r31.1.Minor r31.1.Fields 0))

def zoi (x_a0 : Int) (x_a1 : Str) (x_a2 : Int) : Option (api_Head × Int) :=
 (zbB x_a0 []).bind fun r3 =>
 if (r3.2 == 1) then (some (((⟨0, [], [], 0, [], 0, []⟩ : api_Head), r3.2))) else ((strings_Index x_a1 [13, 10, 13, 10]).bind fun r12 =>
 if (decide (x_a2 < (x_a1.length : Int))) then (some (((⟨0, [], [], 0, [], 0, []⟩ : api_Head), 3))) else (if (decide (r12 < 0)) then (zit x_a0 x_a1 r12 true) else ((zx r12 4).bind fun i18 =>
 zit x_a0 x_a1 r12 (!(i18 == (x_a1.length : Int))))))

def zdI (x_a : accum_Accum) (i16 : Int) : Option (Bool × Int × accum_Accum) :=
 some ((false, i16, (⟨x_a.f_kind, x_a.f_limit, x_a.f_buf, (x_a.f_buf.length : Int), x_a.f_took, x_a.f_bad, x_a.f_whole, x_a.f_got⟩ : accum_Accum)))

def zh5 (x_a : accum_Accum) (x_s : Str) : Option (Bool × Int × accum_Accum) :=
 if (x_a.f_from == 0) then ((zbB x_a.f_kind x_s).bind fun r5 =>
 zdI x_a r5.2) else (if (!(x_s == [])) then ((zgx x_s).bind fun r10 =>
 zdI x_a r10.2) else ((zoi x_a.f_kind x_a.f_buf x_a.f_limit).bind fun r11 =>
 some ((r11.2 == 0, r11.2, (⟨x_a.f_kind, x_a.f_limit, x_a.f_buf, x_a.f_from, x_a.f_took, x_a.f_bad, x_a.f_whole, r11.1⟩ : accum_Accum)))))

def zh6 (x_a : accum_Accum) (x_b : UInt8) : Option (Bool × Int × accum_Accum) :=
 if (decide (x_a.f_limit ≤ (x_a.f_buf.length : Int))) then (some (false, 3, x_a)) else (if zP x_a.f_buf.length 1 1 then ((zh2 (⟨x_a.f_kind, x_a.f_limit, x_a.f_buf ++ [x_b], x_a.f_from, x_a.f_took, x_a.f_bad, x_a.f_whole, x_a.f_got⟩ : accum_Accum)).bind fun r11 =>
 if r11 then (some ((false, 24, (⟨x_a.f_kind, x_a.f_limit, x_a.f_buf ++ [x_b], x_a.f_from, x_a.f_took, x_a.f_bad, x_a.f_whole, x_a.f_got⟩ : accum_Accum)))) else (if (!(x_b == 10)) then (some ((false, 0, (⟨x_a.f_kind, x_a.f_limit, x_a.f_buf ++ [x_b], x_a.f_from, x_a.f_took, x_a.f_bad, x_a.f_whole, x_a.f_got⟩ : accum_Accum)))) else ((zdC (((x_a.f_buf ++ [x_b]).length : Int)) 2).bind fun i20 =>
 (lSub (x_a.f_buf ++ [x_b]) x_a.f_from i20).bind fun l21 =>
 (zh5 (⟨x_a.f_kind, x_a.f_limit, x_a.f_buf ++ [x_b], x_a.f_from, x_a.f_took, x_a.f_bad, x_a.f_whole, x_a.f_got⟩ : accum_Accum) l21).bind fun r24 =>
 some (r24.1, r24.2.1, r24.2.2)))) else none)

def zdJ (rec2 : Int → Int → (List UInt8) → Int → Bool → Int → Bool → Int → Str → Str → Int → Str → Int → (List api_Field) → Int → Option (Int × Bool × Int × accum_Accum)) (i27 : Int) (r34 : Bool × Int × accum_Accum) (t42 : Bool) : Option (Int × Bool × Int × accum_Accum) :=
 if t42 then ((zx i27 1).bind fun i45 =>
 some ((i45, r34.1, r34.2.1, (⟨r34.2.2.f_kind, r34.2.2.f_limit, [], r34.2.2.f_from, r34.2.2.f_took, r34.2.1, r34.1, r34.2.2.f_got⟩ : accum_Accum)))) else ((zx i27 1).bind fun i48 =>
 rec2 r34.2.2.f_kind r34.2.2.f_limit r34.2.2.f_buf r34.2.2.f_from r34.2.2.f_took r34.2.1 r34.1 r34.2.2.f_got.Kind r34.2.2.f_got.Method r34.2.2.f_got.Target r34.2.2.f_got.Code r34.2.2.f_got.Reason r34.2.2.f_got.Minor r34.2.2.f_got.Fields i48)

def zf8 (x_a1 : Str) (i49 : Int) (i50 : Int) (l53 : List UInt8) (i54 : Int) (t55 : Bool) (i56 : Int) (t57 : Bool) (i58 : Int) (s59 : Str) (s60 : Str) (i61 : Int) (s62 : Str) (i63 : Int) (l66 : List api_Field) : Option (Int × Bool × Int × accum_Accum) :=
 some (((x_a1.length : Int), false, 0, (⟨i49, i50, l53, i54, t55, i56, t57, (⟨i58, s59, s60, i61, s62, i63, l66⟩ : api_Head)⟩ : accum_Accum)))

def zaM (x_a1 : Str) : Nat → Int → Int → (List UInt8) → Int → Bool → Int → Bool → Int → Str → Str → Int → Str → Int → (List api_Field) → Int → Option (Int × Bool × Int × accum_Accum)
 | 0, _, _, _, _, _, _, _, _, _, _, _, _, _, _, _ => none
 | n + 1, i9, i10, l13, i14, t15, i16, t17, i18, s19, s20, i21, s22, i23, l26, i27 =>
 if (decide (i27 < (x_a1.length : Int))) then ((sAt x_a1 i27).bind fun b33 =>
 (zh6 ((⟨i9, i10, l13, i14, true, i16, t17, (⟨i18, s19, s20, i21, s22, i23, l26⟩ : api_Head)⟩ : accum_Accum)) b33).bind fun r34 =>
 if r34.1 then (zdJ (zaM x_a1 n) i27 r34 true) else (zdJ (zaM x_a1 n) i27 r34 (!(r34.2.1 == 0)))) else (zf8 x_a1 i9 i10 l13 i14 t15 i16 t17 i18 s19 s20 i21 s22 i23 l26)

def zdK (x_a0 : accum_Accum) (x_a1 : Str) (t4 : Bool) : Option (Int × Bool × Int × accum_Accum) :=
 if t4 then (some (0, false, 8, x_a0)) else (zaM x_a1 fuel x_a0.f_kind x_a0.f_limit x_a0.f_buf x_a0.f_from x_a0.f_took x_a0.f_bad x_a0.f_whole x_a0.f_got.Kind x_a0.f_got.Method x_a0.f_got.Target x_a0.f_got.Code x_a0.f_got.Reason x_a0.f_got.Minor x_a0.f_got.Fields 0)

def zh7 (x_a0 : accum_Accum) (x_a1 : Str) : Option (Int × Bool × Int × accum_Accum) :=
 if (!(x_a0.f_bad == 0)) then (zdK x_a0 x_a1 true) else (zdK x_a0 x_a1 x_a0.f_whole)

def zh8 (x_a : accum_Accum) : Option (api_Head × Bool) :=
 if (!x_a.f_whole) then (some (((⟨0, [], [], 0, [], 0, []⟩ : api_Head), false))) else (if zP 0 x_a.f_got.Fields.length 32 then (some (x_a.f_got, true)) else none)

def zbp (x_p : commas_splitter) (l12 : List Str) : Option commas_splitter :=
 (zby x_p.Scanner).bind fun r13 =>
 some (⟨x_p.Scanner, l12, r13, x_p.f_s⟩ : commas_splitter)

def zbv (x_p : commas_splitter) (x_at : Int) : Option commas_splitter :=
 (zg7 x_p.f_s x_p.f_from x_at).bind fun s1 =>
 (zdh s1 [32, 9]).bind fun r2 =>
 if (!(r2 == [])) then (if zP x_p.f_out.length 1 16 then (zbp x_p (x_p.f_out ++ ([r2] : List Str))) else none) else (zbp x_p x_p.f_out)

def zcV (x_p : commas_splitter) (s33 : Str) (i34 : Int) : Option (Bool × commas_splitter) :=
 some ((true, (⟨(⟨s33, i34⟩ : scan_Scanner), x_p.f_out, x_p.f_from, x_p.f_s⟩ : commas_splitter)))

def zs (x_p : commas_splitter) : Nat → Str → Int → Int → Option (Bool × commas_splitter)
 | 0, _, _, _ => none
 | n + 1, s3, i4, i5 =>
 if (decide (0 < i5)) then ((zB (⟨s3, i4⟩ : scan_Scanner)).bind fun r9 =>
 if (!r9.2) then (some ((false, (⟨(⟨s3, i4⟩ : scan_Scanner), x_p.f_out, x_p.f_from, x_p.f_s⟩ : commas_splitter)))) else ((zn (⟨s3, i4⟩ : scan_Scanner) r9.1).bind fun r15 =>
 if (r9.1 == 40) then ((zx i5 1).bind fun i21 =>
 (zs x_p n) r15.2.f_s r15.2.f_at i21) else (if (r9.1 == 41) then ((zdC i5 1).bind fun i24 =>
 (zs x_p n) r15.2.f_s r15.2.f_at i24) else (if (r9.1 == 92) then ((zB r15.2).bind fun r27 =>
 if r27.2 then ((zn r15.2 r27.1).bind fun r31 =>
 (zs x_p n) r31.2.f_s r31.2.f_at i5) else ((zs x_p n) r15.2.f_s r15.2.f_at i5)) else ((zs x_p n) r15.2.f_s r15.2.f_at i5))))) else (zcV x_p s3 i4)

def zbd (x_p : commas_splitter) : Option (Bool × commas_splitter) :=
 zs x_p fuel x_p.Scanner.f_s x_p.Scanner.f_at 1

def zbJ (x_r : quoted_reader) (r2 : Bool × scan_Scanner) (r5 : UInt8 × Bool) (t9 : Bool) : Option (Bool × quoted_reader) :=
 if t9 then (some ((false, (⟨r2.2, x_r.f_out⟩ : quoted_reader)))) else (if zP x_r.f_out.length 1 1 then ((zn r2.2 r5.1).bind fun r18 =>
 some ((r18.1, (⟨r18.2, x_r.f_out ++ [r5.1]⟩ : quoted_reader)))) else none)

def zbQ (x_r : quoted_reader) : Option (Bool × quoted_reader) :=
 (zn x_r.Scanner 92).bind fun r2 =>
 (zB r2.2).bind fun r5 =>
 if (!r5.2) then (zbJ x_r r2 r5 true) else ((zaG r5.1).bind fun r8 =>
 zbJ x_r r2 r5 (!r8))

def zb3 (x_c : scan_Scanner) (x_at : Int) (t4 : Bool) : Option (Bool × scan_Scanner) :=
 if t4 then (some (false, x_c)) else (some ((true, (⟨x_c.f_s, x_at⟩ : scan_Scanner))))

def zdl (x_c : scan_Scanner) (x_at : Int) : Option (Bool × scan_Scanner) :=
 if (decide (x_at < 0)) then (zb3 x_c x_at true) else ((zby x_c).bind fun r3 =>
 zb3 x_c x_at (decide (r3 < x_at)))

def zfh (r2 : Int) (t27 : Bool) (s28 : Str) (i29 : Int) (l32 : List UInt8) : Option (Str × Bool × scan_Scanner) :=
 if (!t27) then ((zdl (⟨s28, i29⟩ : scan_Scanner) r2).bind fun r35 =>
 some ([], false, r35.2)) else (some ((l32, true, (⟨s28, i29⟩ : scan_Scanner))))

def zdX (rec1 : Str → Int → (List UInt8) → Bool → Option (Str × Bool × scan_Scanner)) (r2 : Int) (l13 : List UInt8) (t14 : Bool) (t18 : Bool) (s19 : Str) (i20 : Int) : Option (Str × Bool × scan_Scanner) :=
 if t18 then ((zbQ ((⟨(⟨s19, i20⟩ : scan_Scanner), l13⟩ : quoted_reader))).bind fun r23 =>
 rec1 r23.2.Scanner.f_s r23.2.Scanner.f_at r23.2.f_out r23.1) else (zfh r2 t14 s19 i20 l13)

def zaz (r2 : Int) : Nat → Str → Int → (List UInt8) → Bool → Option (Str × Bool × scan_Scanner)
 | 0, _, _, _, _ => none
 | n + 1, s9, i10, l13, t14 =>
 if t14 then ((zn (⟨s9, i10⟩ : scan_Scanner) 34).bind fun r16 =>
 zdX (zaz r2 n) r2 l13 t14 (!r16.1) r16.2.f_s r16.2.f_at) else (zdX (zaz r2 n) r2 l13 t14 false s9 i10)

def ziF (x_c : scan_Scanner) : Option (Str × Bool × scan_Scanner) :=
 (zby x_c).bind fun r2 =>
 (zn x_c 34).bind fun r6 =>
 zaz r2 fuel r6.2.f_s r6.2.f_at [] r6.1

def zci (l34 : List Str) (i35 : Int) (s36 : Str) (s37 : Str) (i38 : Int) : Option (Bool × commas_splitter) :=
 some ((true, (⟨(⟨s37, i38⟩ : scan_Scanner), l34, i35, s36⟩ : commas_splitter)))

def zaj (x_p : commas_splitter) : Option (Bool × commas_splitter) :=
 (zby x_p.Scanner).bind fun r2 =>
 (zn x_p.Scanner 44).bind fun r4 =>
 if r4.1 then ((zbv (⟨r4.2, x_p.f_out, x_p.f_from, x_p.f_s⟩ : commas_splitter) r2).bind fun r8 =>
 zci r8.f_out r8.f_from r8.f_s r8.Scanner.f_s r8.Scanner.f_at) else ((zn r4.2 40).bind fun r12 =>
 if r12.1 then ((zbd (⟨r12.2, x_p.f_out, x_p.f_from, x_p.f_s⟩ : commas_splitter)).bind fun r16 =>
 some (r16.1, r16.2)) else ((zB r12.2).bind fun r21 =>
 if (r21.1 == 34) then ((ziF r12.2).bind fun r25 =>
 some ((r25.2.1, (⟨r25.2.2, x_p.f_out, x_p.f_from, x_p.f_s⟩ : commas_splitter)))) else ((zn r12.2 r21.1).bind fun r30 =>
 zci x_p.f_out x_p.f_from x_p.f_s r30.2.f_s r30.2.f_at)))

def zgy (x_s : Str) (l26 : List Str) (i27 : Int) (s28 : Str) (s29 : Str) (i30 : Int) : Option (List Str × Int) :=
 (zbv ((⟨(⟨s29, i30⟩ : scan_Scanner), l26, i27, s28⟩ : commas_splitter)) (x_s.length : Int)).bind fun r31 =>
 some (r31.f_out, 0)

def zbC (x_s : Str) : Nat → (List Str) → Int → Str → Str → Int → Option (List Str × Int)
 | 0, _, _, _, _, _ => none
 | n + 1, l8, i9, s10, s11, i12 =>
 (zaI (⟨s11, i12⟩ : scan_Scanner)).bind fun r13 =>
 if (!r13) then ((zaj ((⟨(⟨s11, i12⟩ : scan_Scanner), l8, i9, s10⟩ : commas_splitter))).bind fun r17 =>
 if (!r17.1) then (some ([], 2)) else ((zbC x_s n) r17.2.f_out r17.2.f_from r17.2.f_s r17.2.Scanner.f_s r17.2.Scanner.f_at)) else (zgy x_s l8 i9 s10 s11 i12)

def zfV (x_s : Str) : Option (List Str × Int) :=
 (ziC x_s).bind fun r2 =>
 zbC x_s fuel [] 0 x_s r2.f_s r2.f_at

def zfi (t5 : Bool) : Option Bool :=
 some t5

def zgV (x_s : Str) : Option Bool :=
 if (!(x_s == [])) then ((zc5 zcF ([x_s] : List Str)).bind fun r4 =>
 zfi r4) else (zfi false)

def zbe (rec1 : (List Str) → Int → Option (List Str × Int)) (l6 : List Str) (i7 : Int) (r15 : List Str × Int) : Nat → Int → Option (List Str × Int)
 | 0, _ => none
 | n + 1, i24 =>
 if (decide (i24 < (r15.1.length : Int))) then ((lAt r15.1 i24).bind fun x28 =>
 (zgV x28).bind fun r32 =>
 if (!r32) then (some ([], 2)) else ((zx i24 1).bind fun i37 =>
 (zbe rec1 l6 i7 r15 n) i37)) else (if zP l6.length r15.1.length 16 then ((zx i7 1).bind fun i43 =>
 rec1 (l6 ++ r15.1) i43) else none)

def zbf (x_l : List Str) : Nat → (List Str) → Int → Option (List Str × Int)
 | 0, _, _ => none
 | n + 1, l6, i7 =>
 if (decide (i7 < (x_l.length : Int))) then ((lAt x_l i7).bind fun x11 =>
 (zfV x11).bind fun r15 =>
 if (!(r15.2 == 0)) then (some ([], r15.2)) else (zbe (zbf x_l n) l6 i7 r15 fuel 0)) else (some (l6, 0))

def zgn (x_l : List Str) : Option (List Str × Int) :=
 zbf x_l fuel [] 0

def zae (t15 : Bool) : Option (api_Frame × Int) :=
 if t15 then (some (((⟨0, 0⟩ : api_Frame), 30))) else (some (((⟨3, 0⟩ : api_Frame), 0)))

def zb4 (x_r : length_reader) (x_l : List Str) : Option (api_Frame × Int) :=
 (zgn x_l).bind fun r4 =>
 if (!(r4.2 == 0)) then (zae true) else (if (x_r.f_minor == 0) then (zae true) else (if (!((r4.1.length : Int) == 1)) then (zae true) else ((lAt r4.1 0).bind fun x11 =>
 (zh3 x11 [99, 104, 117, 110, 107, 101, 100]).bind fun r14 =>
 zae (!r14))))

def z7 (rec2 : Int → Int → Option (api_Frame × Int)) (i25 : Int) (r33 : Int × Int) (t37 : Bool) : Option (api_Frame × Int) :=
 if t37 then (some (((⟨0, 0⟩ : api_Frame), 28))) else ((zx i25 1).bind fun i42 =>
 rec2 r33.1 i42)

def zw (rec1 : Int → Int → Option (api_Frame × Int)) (i7 : Int) (r15 : List Str × Int) : Nat → Int → Int → Option (api_Frame × Int)
 | 0, _, _ => none
 | n + 1, i24, i25 =>
 if (decide (i25 < (r15.1.length : Int))) then ((lAt r15.1 i25).bind fun x29 =>
 (zbz x29 1099511627776).bind fun r33 =>
 if (!(r33.2 == 0)) then (z7 (zw rec1 i7 r15 n) i25 r33 true) else (if (decide (0 ≤ i24)) then (z7 (zw rec1 i7 r15 n) i25 r33 (!(r33.1 == i24))) else (z7 (zw rec1 i7 r15 n) i25 r33 false))) else ((zx i7 1).bind fun i44 =>
 rec1 i24 i44)

def zK (x_l : List Str) : Nat → Int → Int → Option (api_Frame × Int)
 | 0, _, _ => none
 | n + 1, i6, i7 =>
 if (decide (i7 < (x_l.length : Int))) then ((lAt x_l i7).bind fun x11 =>
 (zfV x11).bind fun r15 =>
 if (!(r15.2 == 0)) then (some (((⟨0, 0⟩ : api_Frame), 28))) else (zw (zK x_l n) i7 r15 fuel i6 0)) else (if (decide (i6 < 0)) then (some (((⟨0, 0⟩ : api_Frame), 28))) else (some (((⟨2, i6⟩ : api_Frame), 0))))

def zbK (x_r : length_reader) (x_l : List Str) : Option (api_Frame × Int) :=
 zK x_l fuel (-1) 0

def zep (x_h : api_Head) (x_none : Int) (r4 : bag_Bag) (r10 : List Str) (r13 : List Str) (t18 : Bool) : Option (api_Frame × Int) :=
 if t18 then (some (((⟨0, 0⟩ : api_Frame), 29))) else (if (decide (0 < (r10.length : Int))) then ((zb4 (⟨r4, x_h.Minor⟩ : length_reader) r10).bind fun r23 =>
 some (r23.1, r23.2)) else (if (decide (0 < (r13.length : Int))) then ((zbK (⟨r4, x_h.Minor⟩ : length_reader) r13).bind fun r27 =>
 some (r27.1, r27.2)) else (some (((⟨x_none, 0⟩ : api_Frame), 0)))))

def zjp (x_h : api_Head) (x_none : Int) : Option (api_Frame × Int) :=
 (zng x_h.Fields).bind fun r4 =>
 (zcU r4 [84, 114, 97, 110, 115, 102, 101, 114, 45, 69, 110, 99, 111, 100, 105, 110, 103]).bind fun r10 =>
 (zcU r4 [67, 111, 110, 116, 101, 110, 116, 45, 76, 101, 110, 103, 116, 104]).bind fun r13 =>
 if (decide (0 < (r10.length : Int))) then (zep x_h x_none r4 r10 r13 (decide (0 < (r13.length : Int)))) else (zep x_h x_none r4 r10 r13 false)

def zhs (x_h : api_Head) : Option (api_Frame × Int) :=
 (zjp x_h 1).bind fun r4 =>
 some (r4.1, r4.2)

def zan (t7 : Bool) : Option Bool :=
 some t7

def zeE (x_method : Str) (x_code : Int) : Option Bool :=
 if (x_method == [72, 69, 65, 68]) then (zan true) else (if (decide (x_code < 200)) then (zan true) else (if (x_code == 204) then (zan true) else (if (x_code == 304) then (zan true) else (if (x_method == [67, 79, 78, 78, 69, 67, 84]) then (zan (decide (x_code < 300))) else (zan false)))))

def zgz (x_method : Str) (x_h : api_Head) : Option (api_Frame × Int) :=
 (zeE x_method x_h.Code).bind fun r4 =>
 if r4 then (some (((⟨1, 0⟩ : api_Frame), 0))) else ((zjp x_h 4).bind fun r9 =>
 some (r9.1, r9.2))

def zeP (x_method : Str) (x_h : api_Head) : Option (api_Frame × Int) :=
 if (x_h.Kind == 1) then ((zhs x_h).bind fun r6 =>
 some (r6.1, r6.2)) else ((zgz x_method x_h).bind fun r9 =>
 some (r9.1, r9.2))

def zht (x_limit : Int) (t3 : Bool) : Option (Option dechunk_Decoder × Int) :=
 if t3 then (some (none, 1)) else (some ((some (⟨x_limit, 0, [], 0, 0, 0, []⟩ : dechunk_Decoder), 0)))

def zmQ (x_limit : Int) : Option (Option dechunk_Decoder × Int) :=
 if (decide (x_limit < 0)) then (zht x_limit true) else (zht x_limit (decide (65536 < x_limit)))

def ziG (x_a0 : api_Frame) (t26 : Bool) : Option (Option (Bool × body_Body) × Int) :=
 some ((some (false, (⟨default, x_a0, x_a0.N, t26, false⟩ : body_Body)), 0))

def zkj (x_a0 : api_Frame) : Option (Option (Bool × body_Body) × Int) :=
 if (x_a0.Kind == 1) then (ziG x_a0 true) else (if (x_a0.Kind == 2) then (ziG x_a0 (x_a0.N == 0)) else (ziG x_a0 false))

def zfj (x_a0 : api_Frame) (t16 : Bool) : Option (Option (Bool × body_Body) × Int) :=
 if t16 then (some (none, 1)) else (if (x_a0.Kind == 3) then (zkj x_a0) else (zkj x_a0))

def zmR (x_a0 : api_Frame) (i11 : Int) : Option (Option (Bool × body_Body) × Int) :=
 if (!(i11 == 0)) then (zfj x_a0 true) else (if (decide (x_a0.Kind < 1)) then (zfj x_a0 true) else (if (decide (4 < x_a0.Kind)) then (zfj x_a0 true) else (if (decide (x_a0.N < 0)) then (zfj x_a0 true) else (zfj x_a0 (decide (1099511627776 < x_a0.N))))))

def ziH (x_a0 : api_Frame) (i30 : Int) (i31 : Int) (l34 : List UInt8) (i35 : Int) (i36 : Int) (i37 : Int) (l40 : List api_Field) (t55 : Bool) : Option (Option (Bool × body_Body) × Int) :=
 some ((some (true, (⟨(⟨i30, i31, l34, i35, i36, i37, l40⟩ : dechunk_Decoder), x_a0, x_a0.N, t55, false⟩ : body_Body)), 0))

def zmS (x_a0 : api_Frame) (i30 : Int) (i31 : Int) (l34 : List UInt8) (i35 : Int) (i36 : Int) (i37 : Int) (l40 : List api_Field) : Option (Option (Bool × body_Body) × Int) :=
 if (x_a0.Kind == 1) then (ziH x_a0 i30 i31 l34 i35 i36 i37 l40 true) else (if (x_a0.Kind == 2) then (ziH x_a0 i30 i31 l34 i35 i36 i37 l40 (x_a0.N == 0)) else (ziH x_a0 i30 i31 l34 i35 i36 i37 l40 false))

def zhu (x_a0 : api_Frame) (t59 : Bool) : Option (Option (Bool × body_Body) × Int) :=
 some ((some (false, (⟨default, x_a0, x_a0.N, t59, false⟩ : body_Body)), 0))

def zmT (x_a0 : api_Frame) : Option (Option (Bool × body_Body) × Int) :=
 if (x_a0.Kind == 1) then (zhu x_a0 true) else (if (x_a0.Kind == 2) then (zhu x_a0 (x_a0.N == 0)) else (zhu x_a0 false))

def zfk (x_a0 : api_Frame) (i30 : Int) (i31 : Int) (l34 : List UInt8) (i35 : Int) (i36 : Int) (i37 : Int) (l40 : List api_Field) (t45 : Bool) : Option (Option (Bool × body_Body) × Int) :=
 if t45 then (some (none, 1)) else (if (x_a0.Kind == 3) then (zmS x_a0 i30 i31 l34 i35 i36 i37 l40) else (zmT x_a0))

def zmU (x_a0 : api_Frame) (i29 : Int) (i30 : Int) (i31 : Int) (l34 : List UInt8) (i35 : Int) (i36 : Int) (i37 : Int) (l40 : List api_Field) : Option (Option (Bool × body_Body) × Int) :=
 if (!(i29 == 0)) then (zfk x_a0 i30 i31 l34 i35 i36 i37 l40 true) else (if (decide (x_a0.Kind < 1)) then (zfk x_a0 i30 i31 l34 i35 i36 i37 l40 true) else (if (decide (4 < x_a0.Kind)) then (zfk x_a0 i30 i31 l34 i35 i36 i37 l40 true) else (if (decide (x_a0.N < 0)) then (zfk x_a0 i30 i31 l34 i35 i36 i37 l40 true) else (zfk x_a0 i30 i31 l34 i35 i36 i37 l40 (decide (1099511627776 < x_a0.N))))))

def zrS (x_a0 : api_Frame) (x_a1 : Int) : Option (Option (Bool × body_Body) × Int) :=
 (zmQ x_a1).bind fun r3 =>
 zpI r3.1 (zmR x_a0 r3.2) (fun x5 => zmU x_a0 r3.2 x5.f_limit x5.f_at x5.f_line x5.f_left x5.f_sum x5.f_spent x5.f_trailers)

def zdL (x_b : body_Body) : Option Bool :=
 some x_b.f_done

def zdY (x_s : Str) : Option (Int × Str × Bool × Int) :=
 some (0, [], false, 5)

def zcu (x_a0 : body_Body) (x_a1 : Str) (i21 : Int) (i22 : Int) (t23 : Bool) : Option (Int × Str × Bool × Int × body_Body) :=
 (sTo x_a1 i21).bind fun s24 =>
 some ((i21, s24, t23, 0, (⟨default, x_a0.f_frame, i22, t23, x_a0.f_bad⟩ : body_Body)))

def zcv (x_a0 : body_Body) (x_a1 : Str) (t4 : Bool) : Option (Int × Str × Bool × Int × body_Body) :=
 if t4 then (some ((0, [], false, 8, (⟨default, x_a0.f_frame, x_a0.f_left, x_a0.f_done, x_a0.f_bad⟩ : body_Body)))) else (if (x_a0.f_frame.Kind == 3) then ((zdY x_a1).bind fun r12 =>
 some ((r12.1, r12.2.1, r12.2.2.1, r12.2.2.2, (⟨default, x_a0.f_frame, x_a0.f_left, r12.2.2.1, !(r12.2.2.2 == 0)⟩ : body_Body)))) else (if (x_a0.f_frame.Kind == 2) then ((zdC x_a0.f_left (min (x_a1.length : Int) x_a0.f_left)).bind fun i19 =>
 zcu x_a0 x_a1 (min (x_a1.length : Int) x_a0.f_left) i19 (i19 == 0)) else (zcu x_a0 x_a1 (x_a1.length : Int) x_a0.f_left x_a0.f_done)))

def zf9 (x_a0 : body_Body) (x_a1 : Str) : Option (Int × Str × Bool × Int × body_Body) :=
 if x_a0.f_done then (zcv x_a0 x_a1 true) else (zcv x_a0 x_a1 x_a0.f_bad)

def zc2 (x_b : body_Body) (t8 : Bool) : Option (Bool × Int × body_Body) :=
 some ((true, 0, (⟨default, x_b.f_frame, x_b.f_left, t8, x_b.f_bad⟩ : body_Body)))

def zgK (x_b : body_Body) : Option (Bool × Int × body_Body) :=
 if (x_b.f_frame.Kind == 4) then (zc2 x_b true) else (if (!x_b.f_done) then (some ((false, 6, (⟨default, x_b.f_frame, x_b.f_left, x_b.f_done, x_b.f_bad⟩ : body_Body)))) else (zc2 x_b x_b.f_done))

def zcw : Option (List api_Field) :=
 some []

def zdZ (x_b : body_Body) : Option (List api_Field) :=
 (zcw).bind fun r4 =>
 some r4

def zaP (x_a0 : message_reader) (i13 : Int) (s19 : Str) (i25 : Int) (i26 : Int) (i27 : Int) (t28 : Bool) (t29 : Bool) : Option (Int × Int × message_reader) :=
 (zdL ((⟨default, (⟨i25, i26⟩ : api_Frame), i27, t28, t29⟩ : body_Body))).bind fun r30 =>
 if (!r30) then (some ((0, 6, (⟨(⟨default, (⟨i25, i26⟩ : api_Frame), i27, t28, t29⟩ : body_Body), (⟨x_a0.f_m.Head, x_a0.f_m.Frame, s19, x_a0.f_m.Trailers⟩ : api_Message)⟩ : message_reader)))) else ((zdZ ((⟨default, (⟨i25, i26⟩ : api_Frame), i27, t28, t29⟩ : body_Body))).bind fun r35 =>
 some ((i13, 0, (⟨(⟨default, (⟨i25, i26⟩ : api_Frame), i27, t28, t29⟩ : body_Body), (⟨x_a0.f_m.Head, x_a0.f_m.Frame, s19, r35⟩ : api_Message)⟩ : message_reader))))

def zaQ (x_a0 : message_reader) (i13 : Int) (i14 : Int) (i15 : Int) (i16 : Int) (t17 : Bool) (t18 : Bool) (s19 : Str) (t21 : Bool) : Option (Int × Int × message_reader) :=
 if t21 then ((zgK ((⟨default, (⟨i14, i15⟩ : api_Frame), i16, t17, t18⟩ : body_Body))).bind fun r23 =>
 zaP x_a0 i13 s19 r23.2.2.f_frame.Kind r23.2.2.f_frame.N r23.2.2.f_left r23.2.2.f_done r23.2.2.f_bad) else (zaP x_a0 i13 s19 i14 i15 i16 t17 t18)

def zaR (x_a0 : message_reader) (x_a2 : Bool) (i13 : Int) (i14 : Int) (i15 : Int) (i16 : Int) (t17 : Bool) (t18 : Bool) (s19 : Str) : Option (Int × Int × message_reader) :=
 if (x_a0.f_m.Frame.Kind == 4) then (zaQ x_a0 i13 i14 i15 i16 t17 t18 s19 x_a2) else (zaQ x_a0 i13 i14 i15 i16 t17 t18 s19 false)

def zcW (x_a0 : message_reader) (x_a1 : Str) (x_a2 : Bool) : Option (Int × Int × message_reader) :=
 (zdL (⟨default, x_a0.Body.f_frame, x_a0.Body.f_left, x_a0.Body.f_done, x_a0.Body.f_bad⟩ : body_Body)).bind fun r3 =>
 if (!r3) then ((zf9 (⟨default, x_a0.Body.f_frame, x_a0.Body.f_left, x_a0.Body.f_done, x_a0.Body.f_bad⟩ : body_Body) x_a1).bind fun r6 =>
 if (!(r6.2.2.2.1 == 0)) then (some ((0, r6.2.2.2.1, (⟨(⟨default, r6.2.2.2.2.f_frame, r6.2.2.2.2.f_left, r6.2.2.2.2.f_done, r6.2.2.2.2.f_bad⟩ : body_Body), x_a0.f_m⟩ : message_reader)))) else (zaR x_a0 x_a2 r6.1 r6.2.2.2.2.f_frame.Kind r6.2.2.2.2.f_frame.N r6.2.2.2.2.f_left r6.2.2.2.2.f_done r6.2.2.2.2.f_bad r6.2.1)) else (zaR x_a0 x_a2 0 x_a0.Body.f_frame.Kind x_a0.Body.f_frame.N x_a0.Body.f_left x_a0.Body.f_done x_a0.Body.f_bad x_a0.f_m.Body)

def zh9 (i11 : Int) : Option (api_Message × Int × Int) :=
 if (!(i11 == 0)) then (some (((⟨(⟨0, [], [], 0, [], 0, []⟩ : api_Head), (⟨0, 0⟩ : api_Frame), [], []⟩ : api_Message), 0, i11))) else (none)

def zia (x_a2 : Str) (r40 : Int × Bool × Int × accum_Accum) : Option (api_Message × Int × Int) :=
 (za7 x_a2 r40.1).bind fun s78 =>
 none

def zib (x_a2 : Str) (r40 : Int × Bool × Int × accum_Accum) (i80 : Int) (i81 : Int) (i82 : Int) (t83 : Bool) (t84 : Bool) (i85 : Int) (i86 : Int) (l89 : List UInt8) (i90 : Int) (i91 : Int) (i92 : Int) (l95 : List api_Field) : Option (api_Message × Int × Int) :=
 (za7 x_a2 r40.1).bind fun s97 =>
 none

def zic (x_a2 : Str) (x_a4 : Bool) (r40 : Int × Bool × Int × accum_Accum) (r54 : api_Head × Bool) (r59 : api_Frame × Int) (i98 : Int) (i99 : Int) (i100 : Int) (t101 : Bool) (t102 : Bool) : Option (api_Message × Int × Int) :=
 (za7 x_a2 r40.1).bind fun s104 =>
 (zcW ((⟨(⟨default, (⟨i98, i99⟩ : api_Frame), i100, t101, t102⟩ : body_Body), (⟨r54.1, r59.1, [], []⟩ : api_Message)⟩ : message_reader)) s104 x_a4).bind fun r105 =>
 if (!(r105.2.1 == 0)) then (some (((⟨(⟨0, [], [], 0, [], 0, []⟩ : api_Head), (⟨0, 0⟩ : api_Frame), [], []⟩ : api_Message), 0, r105.2.1))) else ((zx r40.1 r105.1).bind fun i116 =>
 some (r105.2.2.f_m, i116, 0))

def zid (x_a1 : Str) (x_a2 : Str) (x_a3 : Int) (x_a4 : Bool) (i17 : Int) (i18 : Int) (i19 : Int) (l22 : List UInt8) (i23 : Int) (t24 : Bool) (i25 : Int) (t26 : Bool) (i27 : Int) (s28 : Str) (s29 : Str) (i30 : Int) (s31 : Str) (i32 : Int) (l35 : List api_Field) : Option (api_Message × Int × Int) :=
 if (!(i17 == 0)) then (some (((⟨(⟨0, [], [], 0, [], 0, []⟩ : api_Head), (⟨0, 0⟩ : api_Frame), [], []⟩ : api_Message), 0, i17))) else ((zh7 ((⟨i18, i19, l22, i23, t24, i25, t26, (⟨i27, s28, s29, i30, s31, i32, l35⟩ : api_Head)⟩ : accum_Accum)) x_a2).bind fun r40 =>
 if (!(r40.2.2.1 == 0)) then (some (((⟨(⟨0, [], [], 0, [], 0, []⟩ : api_Head), (⟨0, 0⟩ : api_Frame), [], []⟩ : api_Message), 0, r40.2.2.1))) else (if (!r40.2.1) then (some (((⟨(⟨0, [], [], 0, [], 0, []⟩ : api_Head), (⟨0, 0⟩ : api_Frame), [], []⟩ : api_Message), 0, 6))) else ((zh8 r40.2.2.2).bind fun r54 =>
 (zeP x_a1 r54.1).bind fun r59 =>
 if (!(r59.2 == 0)) then (some (((⟨(⟨0, [], [], 0, [], 0, []⟩ : api_Head), (⟨0, 0⟩ : api_Frame), [], []⟩ : api_Message), 0, r59.2))) else ((zrS r59.1 x_a3).bind fun r68 =>
 zpI r68.1 (zia x_a2 r40) (fun x70 => bE x70.1 (zib x_a2 r40 x70.2.f_frame.Kind x70.2.f_frame.N x70.2.f_left x70.2.f_done x70.2.f_bad x70.2.Decoder.f_limit x70.2.Decoder.f_at x70.2.Decoder.f_line x70.2.Decoder.f_left x70.2.Decoder.f_sum x70.2.Decoder.f_spent x70.2.Decoder.f_trailers) (zic x_a2 x_a4 r40 r54 r59 x70.2.f_frame.Kind x70.2.f_frame.N x70.2.f_left x70.2.f_done x70.2.f_bad))))))

def zkK (x_a0 : Int) (x_a1 : Str) (x_a2 : Str) (x_a3 : Int) (x_a4 : Bool) : Option (api_Message × Int × Int) :=
 (zpJ x_a0 x_a3).bind fun r3 =>
 zpI r3.1 (zh9 r3.2) (fun x5 => zid x_a1 x_a2 x_a3 x_a4 r3.2 x5.f_kind x5.f_limit x5.f_buf x5.f_from x5.f_took x5.f_bad x5.f_whole x5.f_got.Kind x5.f_got.Method x5.f_got.Target x5.f_got.Code x5.f_got.Reason x5.f_got.Minor x5.f_got.Fields)

def zfl (rec1 : (List Str) → Int → Int → Option (List Str)) (i9 : Int) (l25 : List Str) (i26 : Int) : Option (List Str) :=
 (zx i9 1).bind fun i27 =>
 rec1 l25 i26 i27

def zbq (x_s : Str) (x_c : UInt8) : Nat → (List Str) → Int → Int → Option (List Str)
 | 0, _, _, _ => none
 | n + 1, l7, i8, i9 =>
 if (decide (i9 < (x_s.length : Int))) then ((sAt x_s i9).bind fun b13 =>
 if (b13 == x_c) then ((zg7 x_s i8 i9).bind fun s16 =>
 if zP l7.length 1 16 then ((zx i9 1).bind fun i22 =>
 zfl (zbq x_s x_c n) i9 (l7 ++ ([s16] : List Str)) i22) else none) else (zfl (zbq x_s x_c n) i9 l7 i8)) else ((za7 x_s i8).bind fun s29 =>
 if zP l7.length 1 16 then (some (l7 ++ ([s29] : List Str))) else none)

def zfm (x_s : Str) (x_c : UInt8) : Option (List Str) :=
 zbq x_s x_c fuel [] 0 0

def zea (x_b : UInt8) (x_l : Str) : Nat → Int → Option Bool
 | 0, _ => none
 | n + 1, i3 =>
 if (decide (i3 < (x_l.length : Int))) then ((sAt x_l i3).bind fun b7 =>
 if (b7 == x_b) then (some true) else ((zx i3 1).bind fun i12 =>
 (zea x_b x_l n) i12)) else (some false)

def zgo (x_b : UInt8) (x_l : Str) : Option Bool :=
 zea x_b x_l fuel 0

def zeb (x_b : UInt8) : Option Bool :=
 (zgo x_b [48, 49, 50, 51, 52, 53, 54, 55, 56, 57]).bind fun r2 =>
 some r2

def zbg (x_s : Str) (t12 : Bool) : Option Int :=
 if t12 then (some (-1)) else ((za7 x_s 5).bind fun s16 =>
 if (s16 == [49, 46, 48]) then (some 0) else ((za7 x_s 5).bind fun s21 =>
 if (s21 == [49, 46, 49]) then (some 1) else (some 2)))

def zcH (x_s : Str) : Option Int :=
 if (!((x_s.length : Int) == 8)) then (zbg x_s true) else ((sTo x_s 5).bind fun s3 =>
 if (!(s3 == [72, 84, 84, 80, 47])) then (zbg x_s true) else ((sAt x_s 5).bind fun b5 =>
 (zeb b5).bind fun r6 =>
 if (!r6) then (zbg x_s true) else ((sAt x_s 6).bind fun b8 =>
 if (!(b8 == 46)) then (zbg x_s true) else ((sAt x_s 7).bind fun b10 =>
 (zeb b10).bind fun r11 =>
 zbg x_s (!r11)))))

def zk8 (x_b : UInt8) : Option Bool :=
 (zgo x_b [97, 98, 99, 100, 101, 102, 103, 104, 105, 106, 107, 108, 109, 110, 111, 112, 113, 114, 115, 116, 117, 118, 119, 120, 121, 122, 65, 66, 67, 68, 69, 70, 71, 72, 73, 74, 75, 76, 77, 78, 79, 80, 81, 82, 83, 84, 85, 86, 87, 88, 89, 90, 48, 49, 50, 51, 52, 53, 54, 55, 56, 57, 33, 35, 36, 37, 38, 39, 42, 43, 45, 46, 94, 95, 96, 124, 126]).bind fun r2 =>
 some r2

def zb5 (x_s : Str) : Nat → Int → Option Bool
 | 0, _ => none
 | n + 1, i3 =>
 if (decide (i3 < (x_s.length : Int))) then ((sAt x_s i3).bind fun b7 =>
 (zk8 b7).bind fun r8 =>
 if (!r8) then (some false) else ((zx i3 1).bind fun i13 =>
 (zb5 x_s n) i13)) else (some (decide (0 < (x_s.length : Int))))

def zec (x_s : Str) : Option Bool :=
 zb5 x_s fuel 0

def zfn (rec1 : Int → Option Int) (i5 : Int) (t12 : Bool) : Option Int :=
 if t12 then (some i5) else ((zx i5 1).bind fun i16 =>
 rec1 i16)

def zF (x_b : UInt8) (x_base : Int) : Nat → Int → Option Int
 | 0, _ => none
 | n + 1, i5 =>
 if (decide (i5 < x_base)) then ((sAt [48, 49, 50, 51, 52, 53, 54, 55, 56, 57, 97, 98, 99, 100, 101, 102] i5).bind fun b9 =>
 if (b9 == x_b) then (zfn (zF x_b x_base n) i5 true) else ((sAt [48, 49, 50, 51, 52, 53, 54, 55, 56, 57, 65, 66, 67, 68, 69, 70] i5).bind fun b11 =>
 zfn (zF x_b x_base n) i5 (b11 == x_b))) else (some (-1))

def zdm (x_b : UInt8) (x_base : Int) : Option Int :=
 zF x_b x_base fuel 0

def zb6 : Nat → Int → Int → Option Str
 | 0, _, _ => none
 | n + 1, x_n, x_base =>
 if (decide (x_n < x_base)) then ((zx x_n 1).bind fun i5 =>
 (zg7 [48, 49, 50, 51, 52, 53, 54, 55, 56, 57, 97, 98, 99, 100, 101, 102] x_n i5).bind fun s6 =>
 some s6) else ((zto x_n x_base).bind fun i9 =>
 ((zb6 n) i9 x_base).bind fun r10 =>
 (zvQ x_n x_base).bind fun i11 =>
 (zvQ x_n x_base).bind fun i12 =>
 (zx i12 1).bind fun i13 =>
 (zg7 [48, 49, 50, 51, 52, 53, 54, 55, 56, 57, 97, 98, 99, 100, 101, 102] i11 i13).bind fun s14 =>
 (zbU r10 s14).bind fun s15 =>
 some s15)

def zeq (x_n : Int) (x_base : Int) : Option Str := zb6 fuel x_n x_base

def zfo (rec1 : Str → Int → Option (Str × Bool)) (i5 : Int) (s21 : Str) : Option (Str × Bool) :=
 (zx i5 1).bind fun i22 =>
 rec1 s21 i22

def zfp (rec1 : Str → Int → Option (Str × Bool)) (x_base : Int) (s4 : Str) (i5 : Int) (r10 : Int) (t17 : Bool) : Option (Str × Bool) :=
 if t17 then ((zeq r10 x_base).bind fun r19 =>
 (zbU s4 r19).bind fun s20 =>
 zfo rec1 i5 s20) else (zfo rec1 i5 s4)

def zfq (x_s : Str) (s26 : Str) : Option (Str × Bool) :=
 some ((s26, !(x_s == [])))

def zaW (x_s : Str) (x_base : Int) : Nat → Str → Int → Option (Str × Bool)
 | 0, _, _ => none
 | n + 1, s4, i5 =>
 if (decide (i5 < (x_s.length : Int))) then ((sAt x_s i5).bind fun b9 =>
 (zdm b9 x_base).bind fun r10 =>
 if (decide (r10 < 0)) then (some ([], false)) else (if (!(s4 == [])) then (zfp (zaW x_s x_base n) x_base s4 i5 r10 true) else (zfp (zaW x_s x_base n) x_base s4 i5 r10 (decide (0 < r10))))) else (if (s4 == []) then (zfq x_s [48]) else (zfq x_s s4))

def ziI (x_s : Str) (x_base : Int) : Option (Str × Bool) :=
 zaW x_s x_base fuel [] 0

def zcI (t4 : Bool) : Option Bool :=
 some t4

def zjL (x_a : Str) (x_b : Str) : Option Bool :=
 if (decide ((x_a.length : Int) < (x_b.length : Int))) then (zcI true) else (if ((x_a.length : Int) == (x_b.length : Int)) then (zcI (zp0 x_a x_b)) else (zcI false))

def zcJ (x_base : Int) (r2 : Str × Bool) : Nat → Int → Int → Option (Int × Int)
 | 0, _, _ => none
 | n + 1, i17, i18 =>
 if (decide (i18 < (r2.1.length : Int))) then ((ztn i17 x_base).bind fun i22 =>
 (sAt r2.1 i18).bind fun b23 =>
 (zdm b23 x_base).bind fun r24 =>
 (zx i22 r24).bind fun i25 =>
 (zx i18 1).bind fun i27 =>
 (zcJ x_base r2 n) i25 i27) else (some (i17, 0))

def zeQ (x_base : Int) (r2 : Str × Bool) (t11 : Bool) : Option (Int × Int) :=
 if t11 then (some (0, 7)) else (zcJ x_base r2 fuel 0 0)

def zfr (x_s : Str) (x_base : Int) (x_most : Int) : Option (Int × Int) :=
 (ziI x_s x_base).bind fun r2 =>
 if (!r2.2) then (some (0, 2)) else (if (decide (x_most < 0)) then (zeQ x_base r2 true) else ((zeq x_most x_base).bind fun r9 =>
 (zjL r9 r2.1).bind fun r10 =>
 zeQ x_base r2 r10))

def zer (x_n : Int) (x_base : Int) : Option Str :=
 if (decide (x_n < 0)) then (some []) else ((zeq x_n x_base).bind fun r6 =>
 some r6)

def zd0 (r6 : Int × Int) (t10 : Bool) : Option Int :=
 if t10 then (some (-1)) else (some r6.1)

def zgW (x_s : Str) (x_most : Int) : Option Int :=
 if (decide (5 < (x_s.length : Int))) then (some (-1)) else ((zfr x_s 10 x_most).bind fun r6 =>
 if (!(r6.2 == 0)) then (zd0 r6 true) else ((zer r6.1 10).bind fun r9 =>
 zd0 r6 (!(r9 == x_s))))

def zcK (r2 : List Str) : Nat → Int → Option Bool
 | 0, _ => none
 | n + 1, i7 =>
 if (decide (i7 < (r2.length : Int))) then ((lAt r2 i7).bind fun x11 =>
 (zgW x11 255).bind fun r14 =>
 if (decide (r14 < 0)) then (some false) else ((zx i7 1).bind fun i19 =>
 (zcK r2 n) i19)) else (some ((r2.length : Int) == 4))

def zie (x_s : Str) : Option Bool :=
 (zfm x_s 46).bind fun r2 =>
 zcK r2 fuel 0

def zfW (x_b : UInt8) : Option Bool :=
 (zgo x_b [48, 49, 50, 51, 52, 53, 54, 55, 56, 57, 97, 98, 99, 100, 101, 102, 65, 66, 67, 68, 69, 70]).bind fun r2 =>
 some r2

def zd1 (rec1 : Int → Int → Option Bool) (i9 : Int) (i55 : Int) : Option Bool :=
 (zx i9 1).bind fun i56 =>
 rec1 i55 i56

def zfs (rec1 : Int → Int → Option Bool) (i8 : Int) (i9 : Int) (t50 : Bool) : Option Bool :=
 if t50 then (some false) else ((zx i8 1).bind fun i54 =>
 zd1 rec1 i9 i54)

def zb7 (rec1 : Int → Int → Option Bool) (r2 : List Str) (i8 : Int) (i9 : Int) : Nat → Int → Option Bool
 | 0, _ => none
 | n + 1, i25 =>
 (lAt r2 i9).bind fun x26 =>
 if (decide (i25 < (x26.length : Int))) then ((lAt r2 i9).bind fun x32 =>
 (sAt x32 i25).bind fun b35 =>
 (zfW b35).bind fun r36 =>
 if (!r36) then (some false) else ((zx i25 1).bind fun i41 =>
 (zb7 rec1 r2 i8 i9 n) i41)) else ((lAt r2 i9).bind fun x43 =>
 if (decide ((x43.length : Int) < 1)) then (zfs rec1 i8 i9 true) else ((lAt r2 i9).bind fun x47 =>
 zfs rec1 i8 i9 (decide (4 < (x47.length : Int)))))

def zd2 (rec1 : Int → Int → Option Bool) (r2 : List Str) (i8 : Int) (i9 : Int) (t19 : Bool) : Option Bool :=
 if t19 then ((zx i8 2).bind fun i21 =>
 zd1 rec1 i9 i21) else (zb7 rec1 r2 i8 i9 fuel 0)

def zaf (r2 : List Str) : Nat → Int → Int → Option Bool
 | 0, _, _ => none
 | n + 1, i8, i9 =>
 if (decide (i9 < (r2.length : Int))) then ((zdC (r2.length : Int) 1).bind fun i13 =>
 if (i9 == i13) then ((lAt r2 i9).bind fun x15 =>
 (zie x15).bind fun r18 =>
 zd2 (zaf r2 n) r2 i8 i9 r18) else (zd2 (zaf r2 n) r2 i8 i9 false)) else (some (i8 == 8))

def zgX (x_s : Str) : Option Bool :=
 (zfm x_s 58).bind fun r2 =>
 zaf r2 fuel 0 0

def zhv (rec4 : Str → Int → Option Bool) (i24 : Int) (s31 : Str) : Option Bool :=
 (zbU s31 [48]).bind fun s32 =>
 (zx i24 1).bind fun i34 =>
 rec4 s32 i34

def zfX (rec3 : Int → Option Bool) (i16 : Int) (s44 : Str) : Option Bool :=
 (zgX s44).bind fun r45 =>
 if r45 then (some true) else ((zx i16 1).bind fun i50 =>
 rec3 i50)

def zcx (rec3 : Int → Option Bool) (x_s : Str) (i3 : Int) (i16 : Int) : Nat → Str → Int → Option Bool
 | 0, _, _ => none
 | n + 1, s23, i24 =>
 if (decide (i24 < i16)) then (if (!(s23 == [])) then ((zbU s23 [58]).bind fun s30 =>
 zhv (zcx rec3 x_s i3 i16 n) i24 s30) else (zhv (zcx rec3 x_s i3 i16 n) i24 s23)) else ((zx i3 2).bind fun i36 =>
 (za7 x_s i36).bind fun s37 =>
 if (!(s37 == [])) then ((zbU s23 [58]).bind fun s40 =>
 (zx i3 2).bind fun i41 =>
 (za7 x_s i41).bind fun s42 =>
 (zbU s40 s42).bind fun s43 =>
 zfX rec3 i16 s43) else (zfX rec3 i16 s23))

def za2 (x_s : Str) (i3 : Int) : Nat → Int → Option Bool
 | 0, _ => none
 | n + 1, i16 =>
 if (decide (i16 ≤ 8)) then ((sTo x_s i3).bind fun s20 =>
 zcx (za2 x_s i3 n) x_s i3 i16 fuel s20 0) else (some false)

def zhw (rec1 : Int → Option Bool) (x_s : Str) (i3 : Int) (t12 : Bool) : Option Bool :=
 if t12 then ((zx i3 1).bind fun i54 =>
 rec1 i54) else (za2 x_s i3 fuel 1)

def zcy (x_s : Str) : Nat → Int → Option Bool
 | 0, _ => none
 | n + 1, i3 =>
 (zx i3 1).bind fun i4 =>
 if (decide (i4 < (x_s.length : Int))) then ((sAt x_s i3).bind fun b8 =>
 if (!(b8 == 58)) then (zhw (zcy x_s n) x_s i3 true) else ((zx i3 1).bind fun i10 =>
 (sAt x_s i10).bind fun b11 =>
 zhw (zcy x_s n) x_s i3 (!(b11 == 58)))) else ((zgX x_s).bind fun r56 =>
 some r56)

def zjq (x_s : Str) : Option Bool :=
 zcy x_s fuel 0

def zcM (x_b : UInt8) : Option Bool :=
 (zgo x_b [97, 98, 99, 100, 101, 102, 103, 104, 105, 106, 107, 108, 109, 110, 111, 112, 113, 114, 115, 116, 117, 118, 119, 120, 121, 122, 65, 66, 67, 68, 69, 70, 71, 72, 73, 74, 75, 76, 77, 78, 79, 80, 81, 82, 83, 84, 85, 86, 87, 88, 89, 90, 48, 49, 50, 51, 52, 53, 54, 55, 56, 57, 45, 46, 95, 126]).bind fun r2 =>
 some r2

def zjr (x_b : UInt8) : Option Bool :=
 (zgo x_b [33, 36, 38, 39, 40, 41, 42, 43, 44, 59, 61]).bind fun r2 =>
 some r2

def zeR (rec1 : Int → Option Bool) (i34 : Int) : Option Bool :=
 (zx i34 1).bind fun i35 =>
 rec1 i35

def zbW (rec1 : Int → Option Bool) (i3 : Int) (t19 : Bool) : Option Bool :=
 if t19 then (some false) else ((zx i3 2).bind fun i23 =>
 zeR rec1 i23)

def zgp (rec1 : Int → Option Bool) (i3 : Int) (t31 : Bool) : Option Bool :=
 if t31 then (some false) else (zeR rec1 i3)

def z8 (x_s : Str) : Nat → Int → Option Bool
 | 0, _ => none
 | n + 1, i3 =>
 if (decide (i3 < (x_s.length : Int))) then ((sAt x_s i3).bind fun b7 =>
 if (b7 == 37) then ((zx i3 2).bind fun i10 =>
 if (decide ((x_s.length : Int) ≤ i10)) then (zbW (z8 x_s n) i3 true) else ((zx i3 1).bind fun i12 =>
 (sAt x_s i12).bind fun b13 =>
 (zfW b13).bind fun r14 =>
 if (!r14) then (zbW (z8 x_s n) i3 true) else ((zx i3 2).bind fun i16 =>
 (sAt x_s i16).bind fun b17 =>
 (zfW b17).bind fun r18 =>
 zbW (z8 x_s n) i3 (!r18)))) else ((sAt x_s i3).bind fun b26 =>
 (zcM b26).bind fun r27 =>
 if (!r27) then ((sAt x_s i3).bind fun b29 =>
 (zjr b29).bind fun r30 =>
 zgp (z8 x_s n) i3 (!r30)) else (zgp (z8 x_s n) i3 false))) else (some (decide (0 < (x_s.length : Int))))

def zjM (x_s : Str) : Option Bool :=
 z8 x_s fuel 0

def zed (x_s : Str) (t12 : Bool) : Option api_Host :=
 if t12 then ((zdC (x_s.length : Int) 1).bind fun i14 =>
 (zg7 x_s 1 i14).bind fun s15 =>
 some ((⟨3, s15, (-1)⟩ : api_Host))) else ((zie x_s).bind fun r18 =>
 if r18 then (some ((⟨2, x_s, (-1)⟩ : api_Host))) else ((zjM x_s).bind fun r23 =>
 if r23 then (some ((⟨1, x_s, (-1)⟩ : api_Host))) else (some (⟨0, [], 0⟩ : api_Host))))

def zk9 (x_s : Str) : Option api_Host :=
 if (decide (2 < (x_s.length : Int))) then ((sAt x_s 0).bind fun b4 =>
 if (b4 == 91) then ((zdC (x_s.length : Int) 1).bind fun i6 =>
 (sAt x_s i6).bind fun b7 =>
 if (b7 == 93) then ((zdC (x_s.length : Int) 1).bind fun i9 =>
 (zg7 x_s 1 i9).bind fun s10 =>
 (zjq s10).bind fun r11 =>
 zed x_s r11) else (zed x_s false)) else (zed x_s false)) else (zed x_s false)

def zft (r21 : api_Host) (r25 : Int) (t28 : Bool) : Option (api_Host × Int) :=
 if t28 then (some (((⟨0, [], 0⟩ : api_Host), 27))) else (some (((⟨r21.Kind, r21.Name, r25⟩ : api_Host), 0)))

def zcX (x_s : Str) : Nat → Int → Option (api_Host × Int)
 | 0, _ => none
 | n + 1, i12 =>
 if (decide (0 ≤ i12)) then ((sAt x_s i12).bind fun b16 =>
 if (!(b16 == 58)) then ((zdC i12 1).bind fun i35 =>
 (zcX x_s n) i35) else ((sTo x_s i12).bind fun s20 =>
 (zk9 s20).bind fun r21 =>
 (zx i12 1).bind fun i23 =>
 (za7 x_s i23).bind fun s24 =>
 (zgW s24 65535).bind fun r25 =>
 if (r21.Kind == 0) then (zft r21 r25 true) else (zft r21 r25 (decide (r25 < 0))))) else (some (((⟨0, [], 0⟩ : api_Host), 27)))

def zee (x_s : Str) : Option (api_Host × Int) :=
 (zk9 x_s).bind fun r3 =>
 if (!(r3.Kind == 0)) then (some (r3, 0)) else ((zdC (x_s.length : Int) 1).bind fun i10 =>
 zcX x_s fuel i10)

def zgq (rec1 : Int → Option Int) (i3 : Int) (t6 : Bool) : Option Int :=
 if t6 then ((zx i3 1).bind fun i9 =>
 rec1 i9) else (some i3)

def zbX (x_s : Str) : Nat → Int → Option Int
 | 0, _ => none
 | n + 1, i3 =>
 if (decide (i3 < (x_s.length : Int))) then ((sAt x_s i3).bind fun b5 =>
 zgq (zbX x_s n) i3 (!(b5 == 63))) else (zgq (zbX x_s n) i3 false)

def zjN (x_s : Str) : Option Int :=
 zbX x_s fuel 0

def zeS (t7 : Bool) : Option Bool :=
 some t7

def zjO (x_b : UInt8) : Option Bool :=
 (zcM x_b).bind fun r2 =>
 if r2 then (zeS true) else ((zjr x_b).bind fun r4 =>
 if r4 then (zeS true) else (if (x_b == 58) then (zeS true) else (zeS (x_b == 64))))

def zdn (t18 : Bool) : Option Bool :=
 some t18

def zgY (t30 : Bool) : Option Bool :=
 some t30

def zes : Nat → Str → Str → Option Bool
 | 0, _, _ => none
 | n + 1, x_s, x_more =>
 if (x_s == []) then (some true) else ((sAt x_s 0).bind fun b6 =>
 if (b6 == 37) then (if (decide (2 < (x_s.length : Int))) then ((sAt x_s 1).bind fun b10 =>
 (zfW b10).bind fun r11 =>
 if r11 then ((sAt x_s 2).bind fun b13 =>
 (zfW b13).bind fun r14 =>
 if r14 then ((za7 x_s 3).bind fun s16 =>
 ((zes n) s16 x_more).bind fun r17 =>
 zdn r17) else (zdn false)) else (zdn false)) else (zdn false)) else ((sAt x_s 0).bind fun b20 =>
 (zjO b20).bind fun r21 =>
 if r21 then ((za7 x_s 1).bind fun s23 =>
 ((zes n) s23 x_more).bind fun r24 =>
 zgY r24) else ((sAt x_s 0).bind fun b25 =>
 (zgo b25 x_more).bind fun r26 =>
 if r26 then ((za7 x_s 1).bind fun s28 =>
 ((zes n) s28 x_more).bind fun r29 =>
 zgY r29) else (zgY false))))

def zmV (x_s : Str) (x_more : Str) : Option Bool := zes fuel x_s x_more

def zeT (t6 : Bool) : Option Bool :=
 some t6

def zjP (x_s : Str) : Option Bool :=
 if (decide (0 < (x_s.length : Int))) then ((sAt x_s 0).bind fun b3 =>
 if (b3 == 47) then ((zmV x_s [47]).bind fun r5 =>
 zeT r5) else (zeT false)) else (zeT false)

def zgZ (x_s : Str) : Option Bool :=
 (zmV x_s [47, 63]).bind fun r2 =>
 some r2

def zeF (x_t : api_Target) (x_s : Str) (r4 : Int) (s6 : Str) (s13 : Str) (t17 : Bool) : Option (api_Target × Bool) :=
 some (((⟨x_t.Kind, x_t.Scheme, x_t.Host, s6, s13, decide (r4 < (x_s.length : Int))⟩ : api_Target), t17))

def zc8 (x_t : api_Target) (x_s : Str) (r4 : Int) (s6 : Str) (s13 : Str) : Option (api_Target × Bool) :=
 (zjP s6).bind fun r14 =>
 if r14 then ((zgZ s13).bind fun r16 =>
 zeF x_t x_s r4 s6 s13 r16) else (zeF x_t x_s r4 s6 s13 false)

def zfY (x_t : api_Target) (x_s : Str) : Option (api_Target × Bool) :=
 (zjN x_s).bind fun r4 =>
 (sTo x_s r4).bind fun s6 =>
 if (decide (r4 < (x_s.length : Int))) then ((zx r4 1).bind fun i11 =>
 (za7 x_s i11).bind fun s12 =>
 zc8 x_t x_s r4 s6 s12) else (zc8 x_t x_s r4 s6 x_t.Query)

def zgr (rec2 : Str → Int → Option Str) (i14 : Int) (s24 : Str) : Option Str :=
 (zx i14 1).bind fun i25 =>
 rec2 s24 i25

def zbk (rec1 : Str → Int → Option Str) (x_s : Str) (s4 : Str) (i5 : Int) : Nat → Str → Int → Option Str
 | 0, _, _ => none
 | n + 1, s13, i14 =>
 if (decide (i14 < 26)) then ((sAt [65, 66, 67, 68, 69, 70, 71, 72, 73, 74, 75, 76, 77, 78, 79, 80, 81, 82, 83, 84, 85, 86, 87, 88, 89, 90] i14).bind fun b18 =>
 (sAt x_s i5).bind fun b19 =>
 if (b18 == b19) then ((zx i14 1).bind fun i22 =>
 (zg7 [97, 98, 99, 100, 101, 102, 103, 104, 105, 106, 107, 108, 109, 110, 111, 112, 113, 114, 115, 116, 117, 118, 119, 120, 121, 122] i14 i22).bind fun s23 =>
 zgr (zbk rec1 x_s s4 i5 n) i14 s23) else (zgr (zbk rec1 x_s s4 i5 n) i14 s13)) else ((zbU s4 s13).bind fun s27 =>
 (zx i5 1).bind fun i29 =>
 rec1 s27 i29)

def zbl (x_s : Str) : Nat → Str → Int → Option Str
 | 0, _, _ => none
 | n + 1, s4, i5 =>
 if (decide (i5 < (x_s.length : Int))) then ((zx i5 1).bind fun i9 =>
 (zg7 x_s i5 i9).bind fun s10 =>
 zbk (zbl x_s n) x_s s4 i5 fuel s10 0) else (some s4)

def zet (x_s : Str) : Option Str :=
 zbl x_s fuel [] 0

def zfu (r5 : api_Host × Int) (t9 : Bool) : Option (api_Target × Int) :=
 if t9 then (some (((⟨0, [], (⟨0, [], 0⟩ : api_Host), [], [], false⟩ : api_Target), 20))) else (some (((⟨3, [], r5.1, [], [], false⟩ : api_Target), 0)))

def zfv (t84 : Bool) (i85 : Int) (s86 : Str) (i87 : Int) (s88 : Str) (i89 : Int) (s90 : Str) (s91 : Str) (t92 : Bool) : Option (api_Target × Int) :=
 if (!t84) then (some (((⟨0, [], (⟨0, [], 0⟩ : api_Host), [], [], false⟩ : api_Target), 20))) else (some (((⟨i85, s86, (⟨i87, s88, i89⟩ : api_Host), s90, s91, t92⟩ : api_Target), 0)))

def zb8 (rec5 : Int → Option (api_Target × Int)) (x34 : Str) (s47 : Str) (i50 : Int) (t55 : Bool) : Option (api_Target × Int) :=
 if t55 then ((zx i50 1).bind fun i58 =>
 rec5 i58) else ((sTo s47 i50).bind fun s60 =>
 (zee s60).bind fun r61 =>
 if (!(r61.2 == 0)) then (some (((⟨0, [], (⟨0, [], 0⟩ : api_Host), [], [], false⟩ : api_Target), 20))) else (if (i50 == (s47.length : Int)) then (some (((⟨2, x34, r61.1, [], [], false⟩ : api_Target), 0))) else ((sAt s47 i50).bind fun b74 =>
 if (b74 == 63) then ((zx i50 1).bind fun i78 =>
 (za7 s47 i78).bind fun s79 =>
 (zgZ s79).bind fun r81 =>
 zfv r81 2 x34 r61.1.Kind r61.1.Name r61.1.Port [] s79 true) else ((za7 s47 i50).bind fun s82 =>
 (zfY (⟨2, x34, r61.1, [], [], false⟩ : api_Target) s82).bind fun r83 =>
 zfv r83.2 r83.1.Kind r83.1.Scheme r83.1.Host.Kind r83.1.Host.Name r83.1.Host.Port r83.1.Path r83.1.Query r83.1.HasQuery))))

def zaA (x34 : Str) (s47 : Str) : Nat → Int → Option (api_Target × Int)
 | 0, _ => none
 | n + 1, i50 =>
 if (decide (i50 < (s47.length : Int))) then ((sAt s47 i50).bind fun b52 =>
 if (!(b52 == 47)) then ((sAt s47 i50).bind fun b54 =>
 zb8 (zaA x34 s47 n) x34 s47 i50 (!(b54 == 63))) else (zb8 (zaA x34 s47 n) x34 s47 i50 false)) else (zb8 (zaA x34 s47 n) x34 s47 i50 false)

def zfw (rec3 : Str → Int → Option (api_Target × Int)) (s29 : Str) (i30 : Int) (x34 : Str) (i38 : Int) (t44 : Bool) : Option (api_Target × Int) :=
 if t44 then ((zx i30 1).bind fun i99 =>
 rec3 s29 i99) else ((za7 s29 i38).bind fun s47 =>
 zaA x34 s47 fuel 0)

def zag : Nat → Str → Int → Option (api_Target × Int)
 | 0, _, _ => none
 | n + 1, s29, i30 =>
 if (decide (i30 < ((([[104, 116, 116, 112], [104, 116, 116, 112, 115]] : List Str).length : Int)))) then ((lAt ([[104, 116, 116, 112], [104, 116, 116, 112, 115]] : List Str) i30).bind fun x34 =>
 (zx (x34.length : Int) 3).bind fun i38 =>
 if (decide ((s29.length : Int) < i38)) then (zfw (zag n) s29 i30 x34 i38 true) else ((sTo s29 i38).bind fun s41 =>
 (zet s41).bind fun r42 =>
 (zbU x34 [58, 47, 47]).bind fun s43 =>
 zfw (zag n) s29 i30 x34 i38 (!(r42 == s43)))) else (some (((⟨0, [], (⟨0, [], 0⟩ : api_Host), [], [], false⟩ : api_Target), 20)))

def zb9 (x_a1 : Str) (t16 : Bool) : Option (api_Target × Int) :=
 if t16 then (some (((⟨4, [], (⟨0, [], 0⟩ : api_Host), [], [], false⟩ : api_Target), 0))) else ((zfY ((⟨1, [], (⟨0, [], 0⟩ : api_Host), [], [], false⟩ : api_Target)) x_a1).bind fun r20 =>
 if r20.2 then (some (r20.1, 0)) else (zag fuel x_a1 0))

def ziJ (x_a0 : Str) (x_a1 : Str) : Option (api_Target × Int) :=
 if (x_a0 == [67, 79, 78, 78, 69, 67, 84]) then ((zee x_a1).bind fun r5 =>
 if (!(r5.2 == 0)) then (zfu r5 true) else (zfu r5 (decide (r5.1.Port < 0)))) else (if (x_a1 == [42]) then (zb9 x_a1 (x_a0 == [79, 80, 84, 73, 79, 78, 83])) else (zb9 x_a1 false))

def zfx (t4 : Bool) : Option Bool :=
 some t4

def zfy (x_b : UInt8) : Option Bool :=
 if (decide (32 ≤ x_b)) then (if (!(x_b == 127)) then (zfx true) else (zfx (x_b == 9))) else (zfx (x_b == 9))

def zfz (rec2 : Int → Option (api_Head × Int)) (i9 : Int) (t16 : Bool) : Option (api_Head × Int) :=
 if t16 then (some (((⟨0, [], [], 0, [], 0, []⟩ : api_Head), 24))) else ((zx i9 1).bind fun i20 =>
 rec2 i20)

def zaB (r22 : List Str) (r32 : Int) (t44 : Bool) : Option (api_Head × Int) :=
 if t44 then (some (((⟨0, [], [], 0, [], 0, []⟩ : api_Head), 20))) else ((lAt r22 0).bind fun x48 =>
 (lAt r22 1).bind fun x51 =>
 (ziJ x48 x51).bind fun r54 =>
 if (!(r54.2 == 0)) then (some (((⟨0, [], [], 0, [], 0, []⟩ : api_Head), 20))) else ((lAt r22 0).bind fun x61 =>
 (lAt r22 1).bind fun x64 =>
 some (((⟨1, x61, x64, 0, [], r32, []⟩ : api_Head), 0))))

def zfA (r72 : Int) (r90 : Int × Int) (s92 : Str) (t108 : Bool) : Option (api_Head × Int) :=
 if t108 then (some (((⟨0, [], [], 0, [], 0, []⟩ : api_Head), 20))) else (some (((⟨2, [], [], r90.1, s92, r72, []⟩ : api_Head), 0)))

def zca (r72 : Int) (r90 : Int × Int) (s92 : Str) : Nat → Int → Option (api_Head × Int)
 | 0, _ => none
 | n + 1, i95 =>
 if (decide (i95 < (s92.length : Int))) then ((sAt s92 i95).bind fun b99 =>
 (zfy b99).bind fun r100 =>
 if (!r100) then (some (((⟨0, [], [], 0, [], 0, []⟩ : api_Head), 20))) else ((zx i95 1).bind fun i105 =>
 (zca r72 r90 s92 n) i105)) else (if (!(r90.2 == 0)) then (zfA r72 r90 s92 true) else (zfA r72 r90 s92 (decide (r90.1 < 100))))

def zaC (x_a1 : Str) (r22 : List Str) (r72 : Int) (t83 : Bool) : Option (api_Head × Int) :=
 if t83 then (some (((⟨0, [], [], 0, [], 0, []⟩ : api_Head), 20))) else ((lAt r22 1).bind fun x87 =>
 (zfr x87 10 599).bind fun r90 =>
 (za7 x_a1 13).bind fun s92 =>
 zca r72 r90 s92 fuel 0)

def zaX (x_a0 : Int) (x_a1 : Str) : Nat → Int → Option (api_Head × Int)
 | 0, _ => none
 | n + 1, i9 =>
 if (decide (i9 < (x_a1.length : Int))) then ((sAt x_a1 i9).bind fun b13 =>
 if (b13 == 13) then (zfz (zaX x_a0 x_a1 n) i9 true) else ((sAt x_a1 i9).bind fun b15 =>
 zfz (zaX x_a0 x_a1 n) i9 (b15 == 10))) else ((zfm x_a1 32).bind fun r22 =>
 if (x_a0 == 1) then ((zdC (r22.length : Int) 1).bind fun i28 =>
 (lAt r22 i28).bind fun x29 =>
 (zcH x29).bind fun r32 =>
 if (r32 == 2) then (some (((⟨0, [], [], 0, [], 0, []⟩ : api_Head), 26))) else (if (!((r22.length : Int) == 3)) then (zaB r22 r32 true) else (if (decide (r32 < 0)) then (zaB r22 r32 true) else ((lAt r22 0).bind fun x40 =>
 (zec x40).bind fun r43 =>
 zaB r22 r32 (!r43))))) else ((lAt r22 0).bind fun x69 =>
 (zcH x69).bind fun r72 =>
 if (r72 == 2) then (some (((⟨0, [], [], 0, [], 0, []⟩ : api_Head), 26))) else (if (decide ((r22.length : Int) < 3)) then (zaC x_a1 r22 r72 true) else (if (decide (r72 < 0)) then (zaC x_a1 r22 r72 true) else ((lAt r22 1).bind fun x80 =>
 zaC x_a1 r22 r72 (!((x80.length : Int) == 3)))))))

def zfB (x_a0 : Int) (x_a1 : Str) (t4 : Bool) : Option (api_Head × Int) :=
 if t4 then (some (((⟨0, [], [], 0, [], 0, []⟩ : api_Head), 1))) else (zaX x_a0 x_a1 fuel 0)

def ziK (x_a0 : Int) (x_a1 : Str) : Option (api_Head × Int) :=
 if (!(x_a0 == 1)) then (zfB x_a0 x_a1 (!(x_a0 == 2))) else (zfB x_a0 x_a1 false)

def zhx (t3 : Bool) : Option Bool :=
 some t3

def zg0 (x_b : UInt8) : Option Bool :=
 if (x_b == 32) then (zhx true) else (zhx (x_b == 9))

def zeU (rec3 : Str → Option Str) (s11 : Str) (t16 : Bool) : Option Str :=
 if t16 then ((zdC (s11.length : Int) 1).bind fun i19 =>
 (sTo s11 i19).bind fun s20 =>
 rec3 s20) else (some s11)

def zbm : Nat → Str → Option Str
 | 0, _ => none
 | n + 1, s11 =>
 if (decide (0 < (s11.length : Int))) then ((zdC (s11.length : Int) 1).bind fun i13 =>
 (sAt s11 i13).bind fun b14 =>
 (zg0 b14).bind fun r15 =>
 zeU (zbm n) s11 r15) else (zeU (zbm n) s11 false)

def zeV (rec1 : Str → Option Str) (s2 : Str) (t6 : Bool) : Option Str :=
 if t6 then ((za7 s2 1).bind fun s9 =>
 rec1 s9) else (zbm fuel s2)

def zbn : Nat → Str → Option Str
 | 0, _ => none
 | n + 1, s2 =>
 if (decide (0 < (s2.length : Int))) then ((sAt s2 0).bind fun b4 =>
 (zg0 b4).bind fun r5 =>
 zeV (zbn n) s2 r5) else (zeV (zbn n) s2 false)

def zgL (x_s : Str) : Option Str :=
 zbn fuel x_s

def zcn (x_s : Str) : Nat → Int → Option Bool
 | 0, _ => none
 | n + 1, i3 =>
 if (decide (i3 < (x_s.length : Int))) then ((sAt x_s i3).bind fun b7 =>
 (zfy b7).bind fun r8 =>
 if (!r8) then (some false) else ((zx i3 1).bind fun i13 =>
 (zcn x_s n) i13)) else (some true)

def zhy (x_s : Str) : Option Bool :=
 zcn x_s fuel 0

def zmW (x_f : api_Field) (x_name : Str) : Option Bool :=
 (zet x_f.Name).bind fun r3 =>
 (zet x_name).bind fun r4 =>
 some (r3 == r4)

def zeG (rec1 : (List Str) → Int → Option (List Str)) (i7 : Int) (l26 : List Str) : Option (List Str) :=
 (zx i7 1).bind fun i27 =>
 rec1 l26 i27

def za3 (x_l : List api_Field) (x_name : Str) : Nat → (List Str) → Int → Option (List Str)
 | 0, _, _ => none
 | n + 1, l6, i7 =>
 if (decide (i7 < (x_l.length : Int))) then ((lAt x_l i7).bind fun x11 =>
 (zmW x11 x_name).bind fun r14 =>
 if r14 then ((lAt x_l i7).bind fun x17 =>
 if zP l6.length 1 16 then (zeG (za3 x_l x_name n) i7 (l6 ++ ([x17.Value] : List Str))) else none) else (zeG (za3 x_l x_name n) i7 l6)) else (some l6)

def zdo (x_l : List api_Field) (x_name : Str) : Option (List Str) :=
 za3 x_l x_name fuel [] 0

def zfC (r11 : List Str) (t25 : Bool) : Option Int :=
 if t25 then ((lAt r11 0).bind fun x27 =>
 (zee x27).bind fun r30 =>
 some r30.2) else (some 0)

def zar (r11 : List Str) (t17 : Bool) : Option Int :=
 if t17 then (some 27) else (if ((r11.length : Int) == 1) then ((lAt r11 0).bind fun x22 =>
 zfC r11 (!(x22 == []))) else (zfC r11 false))

def ziL (x_h : api_Head) : Option Int :=
 if (decide (100 < (x_h.Fields.length : Int))) then (some 3) else (if (x_h.Kind == 2) then (some 0) else ((zdo x_h.Fields [104, 111, 115, 116]).bind fun r11 =>
 if (decide (1 < (r11.length : Int))) then (zar r11 true) else (if (x_h.Minor == 1) then (zar r11 ((r11.length : Int) == 0)) else (zar r11 false))))

def zcY (rec2 : Str → Int → Option (Str × Int)) (x_s : Str) (s10 : Str) (i25 : Int) (t29 : Bool) : Option (Str × Int) :=
 if t29 then (some ([], 0)) else ((zx i25 1).bind fun i33 =>
 (zg7 x_s i25 i33).bind fun s34 =>
 (zbU s10 s34).bind fun s35 =>
 (zx i25 1).bind fun i37 =>
 rec2 s35 i37)

def zfD (rec2 : Str → Int → Option (Str × Int)) (x_s : Str) (s10 : Str) (i25 : Int) : Option (Str × Int) :=
 if (i25 == (x_s.length : Int)) then (zcY rec2 x_s s10 i25 true) else ((sAt x_s i25).bind fun b27 =>
 (zfy b27).bind fun r28 =>
 zcY rec2 x_s s10 i25 (!r28))

def zaD (x_s : Str) : Nat → Str → Int → Option (Str × Int)
 | 0, _, _ => none
 | n + 1, s10, i11 =>
 if (decide (i11 < (x_s.length : Int))) then ((sAt x_s i11).bind fun b15 =>
 if (b15 == 34) then ((zx i11 1).bind fun i18 =>
 some (s10, i18)) else ((sAt x_s i11).bind fun b21 =>
 if (b21 == 92) then ((zx i11 1).bind fun i24 =>
 zfD (zaD x_s n) x_s s10 i24) else (zfD (zaD x_s n) x_s s10 i11))) else (some ([], 0))

def zfE (x_s : Str) (t4 : Bool) : Option (Str × Int) :=
 if t4 then (some ([], 0)) else (zaD x_s fuel [] 1)

def ziM (x_s : Str) : Option (Str × Int) :=
 if ((x_s.length : Int) == 0) then (zfE x_s true) else ((sAt x_s 0).bind fun b3 =>
 zfE x_s (!(b3 == 34)))

def zaY (rec1 : Int → Int → Option Int) (i27 : Int) (i28 : Int) : Option Int :=
 if (i27 == 0) then ((zx i28 1).bind fun i31 =>
 some i31) else ((zx i28 1).bind fun i34 =>
 rec1 i27 i34)

def zS (x_s : Str) : Nat → Int → Int → Option Int
 | 0, _, _ => none
 | n + 1, i11, i12 =>
 if (decide (i12 < (x_s.length : Int))) then ((sAt x_s i12).bind fun b16 =>
 if (b16 == 40) then ((zx i11 1).bind fun i20 =>
 zaY (zS x_s n) i20 i12) else (if (b16 == 41) then ((zdC i11 1).bind fun i23 =>
 zaY (zS x_s n) i23 i12) else (if (b16 == 92) then ((zx i12 1).bind fun i26 =>
 zaY (zS x_s n) i11 i26) else (zaY (zS x_s n) i11 i12)))) else (some 0)

def ziN (x_s : Str) : Option Int :=
 (sAt x_s 0).bind fun b2 =>
 if (b2 == 34) then ((ziM x_s).bind fun r5 =>
 some r5.2) else (zS x_s fuel 0 0)

def zfF (rec1 : (List Str) → Int → Int → Option (List Str × Int)) (i9 : Int) (l41 : List Str) (i42 : Int) : Option (List Str × Int) :=
 (zx i9 1).bind fun i43 =>
 rec1 l41 i42 i43

def zcb (rec1 : (List Str) → Int → Int → Option (List Str × Int)) (x_a0 : Str) (l7 : List Str) (i8 : Int) (i9 : Int) (t16 : Bool) : Option (List Str × Int) :=
 if t16 then ((za7 x_a0 i9).bind fun s18 =>
 (ziN s18).bind fun r19 =>
 if (r19 == 0) then (some ([], 2)) else ((zx i9 r19).bind fun i25 =>
 rec1 l7 i8 i25)) else ((sAt x_a0 i9).bind fun b28 =>
 if (b28 == 44) then ((zg7 x_a0 i8 i9).bind fun s31 =>
 (zgL s31).bind fun r32 =>
 if zP l7.length 1 16 then ((zx i9 1).bind fun i38 =>
 zfF rec1 i9 (l7 ++ ([r32] : List Str)) i38) else none) else (zfF rec1 i9 l7 i8))

def zfG (rec4 : (List Str) → Int → Option (List Str × Int)) (i57 : Int) (l75 : List Str) : Option (List Str × Int) :=
 (zx i57 1).bind fun i76 =>
 rec4 l75 i76

def zaZ (l7 : List Str) (r46 : Str) : Nat → (List Str) → Int → Option (List Str × Int)
 | 0, _, _ => none
 | n + 1, l56, i57 =>
 if (decide (i57 < (((l7 ++ ([r46] : List Str)).length : Int)))) then ((lAt (l7 ++ ([r46] : List Str)) i57).bind fun x61 =>
 if (!(x61 == [])) then ((lAt (l7 ++ ([r46] : List Str)) i57).bind fun x66 =>
 if zP l56.length 1 16 then (zfG (zaZ l7 r46 n) i57 (l56 ++ ([x66] : List Str))) else none) else (zfG (zaZ l7 r46 n) i57 l56)) else (some (l56, 0))

def zah (x_a0 : Str) : Nat → (List Str) → Int → Int → Option (List Str × Int)
 | 0, _, _, _ => none
 | n + 1, l7, i8, i9 =>
 if (decide (i9 < (x_a0.length : Int))) then ((sAt x_a0 i9).bind fun b13 =>
 if (b13 == 34) then (zcb (zah x_a0 n) x_a0 l7 i8 i9 true) else ((sAt x_a0 i9).bind fun b15 =>
 zcb (zah x_a0 n) x_a0 l7 i8 i9 (b15 == 40))) else ((za7 x_a0 i8).bind fun s45 =>
 (zgL s45).bind fun r46 =>
 if zP l7.length 1 16 then (zaZ l7 r46 fuel [] 0) else none)

def zg1 (x_a0 : Str) : Option (List Str × Int) :=
 zah x_a0 fuel [] 0 0

def zbD (rec1 : (List Str) → Int → Option (List Str × Int)) (i7 : Int) (r14 : List Str × Int) : Nat → (List Str) → Int → Option (List Str × Int)
 | 0, _, _ => none
 | n + 1, l25, i26 =>
 if (decide (i26 < (r14.1.length : Int))) then ((lAt r14.1 i26).bind fun x30 =>
 (zec x30).bind fun r33 =>
 if (!r33) then (some ([], 2)) else ((lAt r14.1 i26).bind fun x38 =>
 if zP l25.length 1 16 then ((zx i26 1).bind fun i46 =>
 (zbD rec1 i7 r14 n) (l25 ++ ([x38] : List Str)) i46) else none)) else ((zx i7 1).bind fun i48 =>
 rec1 l25 i48)

def zbE (x_l : List Str) : Nat → (List Str) → Int → Option (List Str × Int)
 | 0, _, _ => none
 | n + 1, l6, i7 =>
 if (decide (i7 < (x_l.length : Int))) then ((lAt x_l i7).bind fun x11 =>
 (zg1 x11).bind fun r14 =>
 if (!(r14.2 == 0)) then (some ([], r14.2)) else (zbD (zbE x_l n) i7 r14 fuel l6 0)) else (some (l6, 0))

def zfZ (x_l : List Str) : Option (List Str × Int) :=
 zbE x_l fuel [] 0

def zcc (t30 : Bool) : Option (api_Frame × Int) :=
 if t30 then (some (((⟨0, 0⟩ : api_Frame), 30))) else (some (((⟨3, 0⟩ : api_Frame), 0)))

def zef (rec3 : (List Int) → Int → Option (api_Frame × Int)) (i45 : Int) (r52 : List Str × Int) : Nat → (List Int) → Int → Option (api_Frame × Int)
 | 0, _, _ => none
 | n + 1, l63, i64 =>
 if (decide (i64 < (r52.1.length : Int))) then ((lAt r52.1 i64).bind fun x68 =>
 (zfr x68 10 1099511627776).bind fun r71 =>
 if (!(r71.2 == 0)) then (some (((⟨0, 0⟩ : api_Frame), 28))) else (if zP l63.length 1 8 then ((zx i64 1).bind fun i82 =>
 (zef rec3 i45 r52 n) (l63 ++ [r71.1]) i82) else none)) else ((zx i45 1).bind fun i84 =>
 rec3 l63 i84)

def zeg (l44 : List Int) : Nat → Int → Option (api_Frame × Int)
 | 0, _ => none
 | n + 1, i87 =>
 if (decide (i87 < (l44.length : Int))) then ((lAt l44 i87).bind fun x91 =>
 (lAt l44 0).bind fun x94 =>
 if (!(x91 == x94)) then (some (((⟨0, 0⟩ : api_Frame), 28))) else ((zx i87 1).bind fun i101 =>
 (zeg l44 n) i101)) else (if ((l44.length : Int) == 0) then (some (((⟨0, 0⟩ : api_Frame), 28))) else ((lAt l44 0).bind fun x107 =>
 some (((⟨2, x107⟩ : api_Frame), 0))))

def zdp (r8 : List Str) : Nat → (List Int) → Int → Option (api_Frame × Int)
 | 0, _, _ => none
 | n + 1, l44, i45 =>
 if (decide (i45 < (r8.length : Int))) then ((lAt r8 i45).bind fun x49 =>
 (zg1 x49).bind fun r52 =>
 if (!(r52.2 == 0)) then (some (((⟨0, 0⟩ : api_Frame), 28))) else (zef (zdp r8 n) i45 r52 fuel l44 0)) else (zeg l44 fuel 0)

def zfH (x_a0 : api_Head) (x_a1 : Int) (r4 : List Str) (r8 : List Str) (t13 : Bool) : Option (api_Frame × Int) :=
 if t13 then (some (((⟨0, 0⟩ : api_Frame), 29))) else (if (decide (0 < (r4.length : Int))) then ((zfZ r4).bind fun r19 =>
 if (!(r19.2 == 0)) then (zcc true) else (if (x_a0.Minor == 0) then (zcc true) else (if (!((r19.1.length : Int) == 1)) then (zcc true) else ((lAt r19.1 0).bind fun x26 =>
 (zet x26).bind fun r29 =>
 zcc (!(r29 == [99, 104, 117, 110, 107, 101, 100])))))) else (if ((r8.length : Int) == 0) then (some (((⟨x_a1, 0⟩ : api_Frame), 0))) else (zdp r8 fuel [] 0)))

def zla (x_a0 : api_Head) (x_a1 : Int) : Option (api_Frame × Int) :=
 (zdo x_a0.Fields [116, 114, 97, 110, 115, 102, 101, 114, 45, 101, 110, 99, 111, 100, 105, 110, 103]).bind fun r4 =>
 (zdo x_a0.Fields [99, 111, 110, 116, 101, 110, 116, 45, 108, 101, 110, 103, 116, 104]).bind fun r8 =>
 if (decide (0 < (r4.length : Int))) then (zfH x_a0 x_a1 r4 r8 (decide (0 < (r8.length : Int)))) else (zfH x_a0 x_a1 r4 r8 false)

def zcj (x_h : api_Head) (t10 : Bool) : Option (api_Frame × Int) :=
 if t10 then (some (((⟨1, 0⟩ : api_Frame), 0))) else ((zla x_h 4).bind fun r14 =>
 some (r14.1, r14.2))

def zbr (x_method : Str) (x_h : api_Head) (t7 : Bool) : Option (api_Frame × Int) :=
 if t7 then (zcj x_h true) else (if (x_method == [67, 79, 78, 78, 69, 67, 84]) then (zcj x_h (decide (x_h.Code ≤ 299))) else (zcj x_h false))

def zfI (x_method : Str) (x_h : api_Head) : Option (api_Frame × Int) :=
 if (x_method == [72, 69, 65, 68]) then (zbr x_method x_h true) else (if (decide (x_h.Code < 200)) then (zbr x_method x_h true) else (if (x_h.Code == 204) then (zbr x_method x_h true) else (zbr x_method x_h (x_h.Code == 304))))

def ziO (x_method : Str) (x_h : api_Head) : Option (api_Frame × Int) :=
 if (x_h.Kind == 1) then ((zla x_h 1).bind fun r6 =>
 some (r6.1, r6.2)) else ((zfI x_method x_h).bind fun r9 =>
 some (r9.1, r9.2))

def zd3 (t14 : Bool) : Option Bool :=
 some t14

def zkk : Option Bool :=
 (zbU [80, 79, 83, 84, 32, 47, 32, 72, 84, 84, 80, 47, 49, 46, 49, 13, 10, 72, 111, 115, 116, 58, 32, 97, 13, 10, 67, 111, 110, 116, 101, 110, 116, 45, 76, 101, 110, 103, 116, 104, 58, 32, 50, 13, 10, 13, 10, 104, 105] [109, 111, 114, 101]).bind fun s3 =>
 (zkK 1 [] s3 99 false).bind fun r4 =>
 if (r4.2.2 == 0) then (if (r4.2.1 == ([80, 79, 83, 84, 32, 47, 32, 72, 84, 84, 80, 47, 49, 46, 49, 13, 10, 72, 111, 115, 116, 58, 32, 97, 13, 10, 67, 111, 110, 116, 101, 110, 116, 45, 76, 101, 110, 103, 116, 104, 58, 32, 50, 13, 10, 13, 10, 104, 105].length : Int)) then (if (r4.1.Body == [104, 105]) then (zd3 (r4.1.Frame == (⟨2, 2⟩ : api_Frame))) else (zd3 false)) else (zd3 false)) else (zd3 false)

def zf0 (x_s : Str) : Option Str :=
 (sTo x_s (min (x_s.length : Int) 400)).bind fun s2 =>
 some s2

def zhz (rec1 : (List api_Field) → Int → Option api_Head) (x_h : api_Head) (r4 : Str) (r6 : Str) (r8 : Str) (l14 : List api_Field) (i15 : Int) (t17 : Bool) : Option api_Head :=
 if t17 then ((lAt x_h.Fields i15).bind fun x20 =>
 (zf0 x20.Name).bind fun r23 =>
 (lAt x_h.Fields i15).bind fun x24 =>
 (zf0 x24.Value).bind fun r27 =>
 if zP l14.length 1 32 then ((zx i15 1).bind fun i33 =>
 rec1 (l14 ++ [(⟨r23, r27⟩ : api_Field)]) i33) else none) else (some (⟨x_h.Kind, r4, r6, x_h.Code, r8, x_h.Minor, l14⟩ : api_Head))

def zcz (x_h : api_Head) (r4 : Str) (r6 : Str) (r8 : Str) : Nat → (List api_Field) → Int → Option api_Head
 | 0, _, _ => none
 | n + 1, l14, i15 =>
 if (decide (i15 < (x_h.Fields.length : Int))) then (zhz (zcz x_h r4 r6 r8 n) x_h r4 r6 r8 l14 i15 (decide (i15 < 120))) else (zhz (zcz x_h r4 r6 r8 n) x_h r4 r6 r8 l14 i15 false)

def zlb (x_h : api_Head) : Option api_Head :=
 (zf0 x_h.Method).bind fun r4 =>
 (zf0 x_h.Target).bind fun r6 =>
 (zf0 x_h.Reason).bind fun r8 =>
 zcz x_h r4 r6 r8 fuel [] 0

def zhA (rec1 : (List api_Field) → Int → Option (List api_Field)) (x_l : List api_Field) (l6 : List api_Field) (i7 : Int) (t9 : Bool) : Option (List api_Field) :=
 if t9 then ((lAt x_l i7).bind fun x12 =>
 (lAt x_l i7).bind fun x15 =>
 (sTo x12.Name (min (x15.Name.length : Int) 50)).bind fun s18 =>
 (lAt x_l i7).bind fun x19 =>
 (lAt x_l i7).bind fun x22 =>
 (sTo x19.Value (min (x22.Value.length : Int) 200)).bind fun s25 =>
 if zP l6.length 1 32 then ((zx i7 1).bind fun i31 =>
 rec1 (l6 ++ [(⟨s18, s25⟩ : api_Field)]) i31) else none) else (some l6)

def zcA (x_l : List api_Field) : Nat → (List api_Field) → Int → Option (List api_Field)
 | 0, _, _ => none
 | n + 1, l6, i7 =>
 if (decide (i7 < (x_l.length : Int))) then (zhA (zcA x_l n) x_l l6 i7 (decide (i7 < 105))) else (zhA (zcA x_l n) x_l l6 i7 false)

def zlc (x_l : List api_Field) : Option (List api_Field) :=
 zcA x_l fuel [] 0

def zld (x_m : api_Message) : Option api_Message :=
 (zlb x_m.Head).bind fun r4 =>
 (sTo x_m.Body (min (x_m.Body.length : Int) 500)).bind fun s8 =>
 (zlc x_m.Trailers).bind fun r10 =>
 some (⟨r4, x_m.Frame, s8, r10⟩ : api_Message)

def zbR (x_sep : Str) (x_l : List Str) : Option Str :=
 (strings_Join x_l x_sep).bind fun r2 =>
 some r2

def zdq (s14 : Str) (t30 : Bool) : Option (Str × Int) :=
 if t30 then (some ([], 20)) else (some (s14, 0))

def zaS (s14 : Str) (r15 : api_Head × Int) (t28 : Bool) : Option (Str × Int) :=
 if (!(r15.2 == 0)) then (zdq s14 true) else (zdq s14 (!t28))

def zck (x_a0 : api_Head) (s14 : Str) : Option (Str × Int) :=
 (zbB x_a0.Kind s14).bind fun r15 =>
 if (r15.2 == 1) then (some ([], r15.2)) else (if (r15.1.Method == x_a0.Method) then (if (r15.1.Target == x_a0.Target) then (if (r15.1.Minor == x_a0.Minor) then (if (r15.1.Code == x_a0.Code) then (zaS s14 r15 (r15.1.Reason == x_a0.Reason)) else (zaS s14 r15 false)) else (zaS s14 r15 false)) else (zaS s14 r15 false)) else (zaS s14 r15 false))

def zd4 (x_a0 : api_Head) : Option (Str × Int) :=
 (zem x_a0.Minor).bind fun r3 =>
 (zbU [72, 84, 84, 80, 47, 49, 46] r3).bind fun s4 =>
 (zbR [32] ([x_a0.Method, x_a0.Target, s4] : List Str)).bind fun r7 =>
 if (x_a0.Kind == 2) then ((zem x_a0.Code).bind fun r11 =>
 (zbR [32] ([s4, r11, x_a0.Reason] : List Str)).bind fun r13 =>
 zck x_a0 r13) else (zck x_a0 r7)

def zeu (t11 : Bool) : Option Int :=
 if t11 then (some 25) else (some 0)

def zc9 (x_f : api_Field) : Option Int :=
 (zgV x_f.Name).bind fun r3 =>
 if (!r3) then (some 21) else ((zc5 zaG ([x_f.Value] : List Str)).bind fun r8 =>
 if (!r8) then (zeu true) else ((zdh x_f.Value [32, 9]).bind fun r10 =>
 zeu (!(r10 == x_f.Value))))

def zdw (x_h : api_Head) : Nat → Int → Option Int
 | 0, _ => none
 | n + 1, i10 =>
 if (decide (i10 < (x_h.Fields.length : Int))) then ((lAt x_h.Fields i10).bind fun x14 =>
 (zc9 x14).bind fun r19 =>
 if (!(r19 == 0)) then (some r19) else ((zx i10 1).bind fun i25 =>
 (zdw x_h n) i25)) else ((zh4 x_h).bind fun r27 =>
 some r27)

def zif (x_h : api_Head) : Option Int :=
 (zd4 x_h).bind fun r3 =>
 if (!(r3.2 == 0)) then (some r3.2) else (zdw x_h fuel 0)

def zeH (t7 : Bool) : Option Bool :=
 some t7

def zeI (t11 : Bool) : Option Bool :=
 some t11

def zhB (x_m : api_Message) : Option Bool :=
 if (x_m.Frame.Kind == 1) then (if (x_m.Body == []) then (zeH ((x_m.Trailers.length : Int) == 0)) else (zeH false)) else (if (x_m.Frame.Kind == 2) then (if ((x_m.Body.length : Int) == x_m.Frame.N) then (zeI ((x_m.Trailers.length : Int) == 0)) else (zeI false)) else (if (x_m.Frame.Kind == 4) then (some ((x_m.Trailers.length : Int) == 0)) else (some true)))

def zcd (x_f : api_Field) : Option (Str × Int) :=
 (zc9 x_f).bind fun r3 =>
 if (!(r3 == 0)) then (some ([], r3)) else (if (x_f.Value == []) then ((zbU x_f.Name [58]).bind fun s11 =>
 some (s11, 0)) else ((zbU x_f.Name [58, 32]).bind fun s14 =>
 (zbU s14 x_f.Value).bind fun s15 =>
 some (s15, 0)))

def zbs (x_trailers : List api_Field) : Nat → (List Str) → Int → Option (Str × Int)
 | 0, _, _ => none
 | n + 1, l7, i8 =>
 if (decide (i8 < (x_trailers.length : Int))) then ((lAt x_trailers i8).bind fun x12 =>
 (zcd x12).bind fun r17 =>
 if (!(r17.2 == 0)) then (some ([], r17.2)) else (if zP l7.length 1 16 then ((zx i8 1).bind fun i28 =>
 (zbs x_trailers n) (l7 ++ ([r17.1] : List Str)) i28) else none)) else (if (decide (100 < (x_trailers.length : Int))) then (some ([], 3)) else (if zP l7.length 2 16 then ((zbR [13, 10] (l7 ++ ([[], []] : List Str))).bind fun r38 =>
 some (r38, 0)) else none))

def zcZ (x_trailers : List api_Field) : Option (Str × Int) :=
 zbs x_trailers fuel ([[48]] : List Str) 0

def zd5 (x_m : api_Message) (t17 : Bool) : Option Int :=
 if t17 then (some 1) else ((zcZ x_m.Trailers).bind fun r21 =>
 some r21.2)

def zeW (x_method : Str) (x_m : api_Message) : Option Int :=
 (zif x_m.Head).bind fun r3 =>
 if (!(r3 == 0)) then (some r3) else ((zeP x_method x_m.Head).bind fun r9 =>
 if (!(r9.2 == 0)) then (some r9.2) else (if (!(r9.1 == x_m.Frame)) then (zd5 x_m true) else ((zhB x_m).bind fun r16 =>
 zd5 x_m (!r16))))

def znh (x_most : Int) : Option quill_Quill :=
 some (⟨[], max x_most 0⟩ : quill_Quill)

def zf1 (x_q : quill_Quill) : Option Int :=
 (zdC x_q.f_most (x_q.f_b.length : Int)).bind fun i4 =>
 some i4

def zgM (l44 : List UInt8) (i45 : Int) : Option (Int × quill_Quill) :=
 some ((0, (⟨l44, i45⟩ : quill_Quill)))

def zaa (x_l : List Str) : Nat → (List UInt8) → Int → Int → Option (Int × quill_Quill)
 | 0, _, _, _ => none
 | n + 1, l27, i28, i29 =>
 if (decide (i29 < (x_l.length : Int))) then ((lAt x_l i29).bind fun x33 =>
 if zP l27.length x33.length 1 then ((zx i29 1).bind fun i41 =>
 (zaa x_l n) (l27 ++ x33) i28 i41) else none) else (zgM l27 i28)

def zao (x_q : quill_Quill) (x_l : List Str) : Nat → Int → Int → Option (Int × quill_Quill)
 | 0, _, _ => none
 | n + 1, i7, i8 =>
 if (decide (i8 < (x_l.length : Int))) then ((lAt x_l i8).bind fun x12 =>
 if (decide (i7 < (x12.length : Int))) then (some (10, x_q)) else ((zdC i7 (x12.length : Int)).bind fun i20 =>
 (zx i8 1).bind fun i22 =>
 (zao x_q x_l n) i20 i22)) else (zaa x_l fuel x_q.f_b x_q.f_most 0)

def zgA (x_q : quill_Quill) (x_l : List Str) : Option (Int × quill_Quill) :=
 (zf1 x_q).bind fun r4 =>
 zao x_q x_l fuel r4 0

def zf2 (x_q : quill_Quill) (x_l : List Str) : Option (Int × quill_Quill) :=
 if zP 0 x_l.length 16 then (if zP x_l.length 1 16 then ((zgA x_q (x_l ++ ([[13, 10]] : List Str))).bind fun r10 =>
 some (r10.1, r10.2)) else none) else none

def zbt (x_p : head_printer) (x_s : Str) : Option head_printer :=
 (zf2 x_p.Quill ([x_s] : List Str)).bind fun r2 =>
 if (!(r2.1 == 0)) then (some (⟨r2.2, true⟩ : head_printer)) else (some (⟨r2.2, x_p.f_full⟩ : head_printer))

def zig (x_q : quill_Quill) : Option Str :=
 some x_q.f_b

def zgs (t45 : Bool) (l48 : List UInt8) (i49 : Int) : Option (Str × Int) :=
 (zbt ((⟨(⟨l48, i49⟩ : quill_Quill), t45⟩ : head_printer)) []).bind fun r50 =>
 if r50.f_full then (some ([], 3)) else ((zig r50.Quill).bind fun r59 =>
 some (r59, 0))

def zdx (x_h : api_Head) : Nat → Bool → (List UInt8) → Int → Int → Option (Str × Int)
 | 0, _, _, _, _ => none
 | n + 1, t23, l26, i27, i28 =>
 if (decide (i28 < (x_h.Fields.length : Int))) then ((lAt x_h.Fields i28).bind fun x32 =>
 (zcd x32).bind fun r37 =>
 (zbt ((⟨(⟨l26, i27⟩ : quill_Quill), t23⟩ : head_printer)) r37.1).bind fun r39 =>
 (zx i28 1).bind fun i44 =>
 (zdx x_h n) r39.f_full r39.Quill.f_b r39.Quill.f_most i44) else (zgs t23 l26 i27)

def zjQ (x_h : api_Head) (x_limit : Int) : Option (Str × Int) :=
 (zif x_h).bind fun r3 =>
 if (!(r3 == 0)) then (some ([], r3)) else ((znh x_limit).bind fun r9 =>
 (zd4 x_h).bind fun r15 =>
 (zbt (⟨r9, false⟩ : head_printer) r15.1).bind fun r17 =>
 zdx x_h fuel r17.f_full r17.Quill.f_b r17.Quill.f_most 0)

def zfJ (x_size : Int) (t3 : Bool) : Option (Option enchunk_Encoder × Int) :=
 if t3 then (some (none, 1)) else (some ((some (⟨x_size, [], false⟩ : enchunk_Encoder), 0)))

def zkl (x_size : Int) : Option (Option enchunk_Encoder × Int) :=
 if (decide (x_size < 1)) then (zfJ x_size true) else (zfJ x_size (decide (65536 < x_size)))

def zaU (x_c : enchunk_Encoder) : Option Int :=
 if x_c.f_done then (some 8) else (some 0)

def zgB (x_n : Int) : Option Str :=
 (zfR x_n 16).bind fun r2 =>
 some r2

def zfK (x_n : Int) : Option Str :=
 (zgB x_n).bind fun r2 =>
 some r2

def zda (x_data : Str) : Option Str :=
 if (x_data == []) then (some []) else ((zfK (x_data.length : Int)).bind fun r6 =>
 (zbR [13, 10] ([r6, x_data, []] : List Str)).bind fun r8 =>
 some r8)

def zcB (l30 : List Str) (i31 : Int) (s32 : Str) (t33 : Bool) : Option (Str × Int × enchunk_Encoder) :=
 (zbR [] l30).bind fun r34 =>
 some ((r34, 0, (⟨i31, s32, t33⟩ : enchunk_Encoder)))

def zap : Nat → (List Str) → Int → Str → Bool → Option (Str × Int × enchunk_Encoder)
 | 0, _, _, _, _ => none
 | n + 1, l13, i14, s15, t16 =>
 if (decide (i14 ≤ (s15.length : Int))) then ((sTo s15 i14).bind fun s20 =>
 (zda s20).bind fun r21 =>
 if zP l13.length 1 16 then ((za7 s15 i14).bind fun s27 =>
 (zap n) (l13 ++ ([r21] : List Str)) i14 s27 t16) else none) else (zcB l13 i14 s15 t16)

def zdM (x_c : enchunk_Encoder) (x_s : Str) : Option (Str × Int × enchunk_Encoder) :=
 (zaU x_c).bind fun r2 =>
 if (!(r2 == 0)) then (some ([], r2, x_c)) else ((zbU x_c.f_buf x_s).bind fun s9 =>
 zap fuel [] x_c.f_size s9 x_c.f_done)

def zdN (x_c : enchunk_Encoder) (x_trailers : List api_Field) : Option (Str × Int × enchunk_Encoder) :=
 (zaU x_c).bind fun r2 =>
 if (!(r2 == 0)) then (some ([], r2, x_c)) else ((zcZ x_trailers).bind fun r8 =>
 if (!(r8.2 == 0)) then (some ([], r8.2, x_c)) else ((zda x_c.f_buf).bind fun r14 =>
 (zbU r14 r8.1).bind fun s15 =>
 some ((s15, 0, (⟨x_c.f_size, [], true⟩ : enchunk_Encoder)))))

def zbY : Option Int :=
 some 5

def zev (x_s : Str) : Option (Str × Int) :=
 (zbY).bind fun r2 =>
 if (!(r2 == 0)) then (some ([], r2)) else (none)

def zew (x_trailers : List api_Field) : Option (Str × Int) :=
 (zbY).bind fun r2 =>
 if (!(r2 == 0)) then (some ([], r2)) else ((zcZ x_trailers).bind fun r8 =>
 if (!(r8.2 == 0)) then (some ([], r8.2)) else (none))

def zhC (x_body : Str) (x_trailers : List api_Field) (i6 : Int) : Option (Str × Int) :=
 if (!(i6 == 0)) then (some ([], i6)) else ((zev x_body).bind fun r11 =>
 (zew x_trailers).bind fun r13 =>
 if (!(r13.2 == 0)) then (some ([], r13.2)) else ((zbU r11.1 r13.1).bind fun s19 =>
 some (s19, 0)))

def zd6 (x_body : Str) (x_trailers : List api_Field) (i22 : Int) (i23 : Int) (s24 : Str) (t25 : Bool) : Option (Str × Int) :=
 if (!(i22 == 0)) then (some ([], i22)) else ((zdM (⟨i23, s24, t25⟩ : enchunk_Encoder) x_body).bind fun r30 =>
 (zdN r30.2.2 x_trailers).bind fun r33 =>
 if (!(r33.2.1 == 0)) then (some ([], r33.2.1)) else ((zbU r30.1 r33.1).bind fun s40 =>
 some (s40, 0)))

def ziP (x_size : Int) (x_body : Str) (x_trailers : List api_Field) : Option (Str × Int) :=
 (zkl x_size).bind fun r2 =>
 zpI r2.1 (zhC x_body x_trailers r2.2) (fun x4 => zd6 x_body x_trailers r2.2 x4.f_size x4.f_buf x4.f_done)

def zd7 (r9 : Str × Int) (i19 : Int) (s20 : Str) : Option (Str × Int) :=
 if (!(i19 == 0)) then (some ([], i19)) else ((zbU r9.1 s20).bind fun s25 =>
 some (s25, 0))

def zgt (x_method : Str) (x_m : api_Message) (x_limit : Int) (x_size : Int) : Option (Str × Int) :=
 (zeW x_method x_m).bind fun r3 =>
 if (!(r3 == 0)) then (some ([], r3)) else ((zjQ x_m.Head x_limit).bind fun r9 =>
 if (!(r9.2 == 0)) then (some ([], r9.2)) else (if (x_m.Frame.Kind == 3) then ((ziP x_size x_m.Body x_m.Trailers).bind fun r18 =>
 zd7 r9 r18.2 r18.1) else (zd7 r9 r9.2 x_m.Body)))

def zbZ (s18 : Str) (t33 : Bool) : Option (Str × Int) :=
 if t33 then (some ([], 20)) else (some (s18, 0))

def zeX (x_a0 : api_Head) (s18 : Str) : Option (Str × Int) :=
 (ziK x_a0.Kind s18).bind fun r19 =>
 if (r19.2 == 1) then (some ([], 1)) else (if (!(r19.2 == 0)) then (zbZ s18 true) else (if (!(r19.1.Method == x_a0.Method)) then (zbZ s18 true) else (if (!(r19.1.Target == x_a0.Target)) then (zbZ s18 true) else (if (!(r19.1.Minor == x_a0.Minor)) then (zbZ s18 true) else (if (!(r19.1.Code == x_a0.Code)) then (zbZ s18 true) else (zbZ s18 (!(r19.1.Reason == x_a0.Reason))))))))

def zih (x_a0 : api_Head) : Option (Str × Int) :=
 (zer x_a0.Minor 10).bind fun r3 =>
 (zbU [72, 84, 84, 80, 47, 49, 46] r3).bind fun s4 =>
 (zbU x_a0.Method [32]).bind fun s6 =>
 (zbU s6 x_a0.Target).bind fun s7 =>
 (zbU s7 [32]).bind fun s8 =>
 (zbU s8 s4).bind fun s9 =>
 if (x_a0.Kind == 2) then ((zbU s4 [32]).bind fun s13 =>
 (zer x_a0.Code 10).bind fun r14 =>
 (zbU s13 r14).bind fun s15 =>
 (zbU s15 [32]).bind fun s16 =>
 (zbU s16 x_a0.Reason).bind fun s17 =>
 zeX x_a0 s17) else (zeX x_a0 s9)

def zhD (t11 : Bool) : Option Int :=
 if t11 then (some 25) else (some 0)

def zg2 (x_f : api_Field) : Option Int :=
 (zec x_f.Name).bind fun r3 =>
 if (!r3) then (some 21) else ((zhy x_f.Value).bind fun r8 =>
 if (!r8) then (zhD true) else ((zgL x_f.Value).bind fun r10 =>
 zhD (!(r10 == x_f.Value))))

def zc0 (x_h : api_Head) : Nat → Int → Option Int
 | 0, _ => none
 | n + 1, i10 =>
 if (decide (i10 < (x_h.Fields.length : Int))) then ((lAt x_h.Fields i10).bind fun x14 =>
 (zg2 x14).bind fun r17 =>
 if (!(r17 == 0)) then (some r17) else ((zx i10 1).bind fun i23 =>
 (zc0 x_h n) i23)) else ((ziL x_h).bind fun r25 =>
 some r25)

def ziQ (x_h : api_Head) : Option Int :=
 (zih x_h).bind fun r3 =>
 if (!(r3.2 == 0)) then (some r3.2) else (zc0 x_h fuel 0)

def zii (x_f : api_Field) : Option Str :=
 if (x_f.Value == []) then ((zbU x_f.Name [58]).bind fun s5 =>
 some s5) else ((zbU x_f.Name [58, 32]).bind fun s8 =>
 (zbU s8 x_f.Value).bind fun s9 =>
 some s9)

def zdy (x_l : List api_Field) : Nat → Str → Int → Option (Str × Int)
 | 0, _, _ => none
 | n + 1, s4, i5 =>
 if (decide (i5 < (x_l.length : Int))) then ((lAt x_l i5).bind fun x9 =>
 (zg2 x9).bind fun r12 =>
 if (!(r12 == 0)) then (some ([], r12)) else ((lAt x_l i5).bind fun x18 =>
 (zii x18).bind fun r21 =>
 (zbU s4 r21).bind fun s22 =>
 (zbU s22 [13, 10]).bind fun s23 =>
 (zx i5 1).bind fun i25 =>
 (zdy x_l n) s23 i25)) else (if (decide (100 < (x_l.length : Int))) then (some ([], 3)) else ((zbU s4 [13, 10]).bind fun s31 =>
 some (s31, 0)))

def zij (x_l : List api_Field) : Option (Str × Int) :=
 zdy x_l fuel [48, 13, 10] 0

def zT (x_a1 : api_Message) (t28 : Bool) : Option Int :=
 if t28 then (some 1) else ((zij x_a1.Trailers).bind fun r32 =>
 some r32.2)

def zg3 (x_a0 : Str) (x_a1 : api_Message) : Option Int :=
 (ziQ x_a1.Head).bind fun r3 =>
 if (!(r3 == 0)) then (some r3) else ((ziO x_a0 x_a1.Head).bind fun r9 =>
 if (!(r9.2 == 0)) then (some r9.2) else (if (!(r9.1 == x_a1.Frame)) then (zT x_a1 true) else (if (r9.1.Kind == 1) then (if (!(x_a1.Body == [])) then (zT x_a1 true) else (if (r9.1.Kind == 2) then (if (!((x_a1.Body.length : Int) == r9.1.N)) then (zT x_a1 true) else (if (!(r9.1.Kind == 3)) then (zT x_a1 (decide (0 < (x_a1.Trailers.length : Int)))) else (zT x_a1 false))) else (if (!(r9.1.Kind == 3)) then (zT x_a1 (decide (0 < (x_a1.Trailers.length : Int)))) else (zT x_a1 false)))) else (if (r9.1.Kind == 2) then (if (!((x_a1.Body.length : Int) == r9.1.N)) then (zT x_a1 true) else (if (!(r9.1.Kind == 3)) then (zT x_a1 (decide (0 < (x_a1.Trailers.length : Int)))) else (zT x_a1 false))) else (if (!(r9.1.Kind == 3)) then (zT x_a1 (decide (0 < (x_a1.Trailers.length : Int)))) else (zT x_a1 false))))))

def zdz (x_h : api_Head) : Nat → Str → Int → Option Str
 | 0, _, _ => none
 | n + 1, s8, i9 =>
 if (decide (i9 < (x_h.Fields.length : Int))) then ((lAt x_h.Fields i9).bind fun x13 =>
 (zii x13).bind fun r16 =>
 (zbU s8 r16).bind fun s17 =>
 (zbU s17 [13, 10]).bind fun s18 =>
 (zx i9 1).bind fun i20 =>
 (zdz x_h n) s18 i20) else ((zbU s8 [13, 10]).bind fun s22 =>
 some s22)

def zjR (x_h : api_Head) : Option Str :=
 (zih x_h).bind fun r3 =>
 (zbU r3.1 [13, 10]).bind fun s5 =>
 zdz x_h fuel s5 0

def zg4 (x_data : Str) : Option Str :=
 if (x_data == []) then (some []) else ((zer (x_data.length : Int) 16).bind fun r6 =>
 (zbU r6 [13, 10]).bind fun s7 =>
 (zbU s7 x_data).bind fun s8 =>
 (zbU s8 [13, 10]).bind fun s9 =>
 some s9)

def zdA (x_size : Int) : Nat → Str → Str → Option (Str × Str)
 | 0, _, _ => none
 | n + 1, s3, s4 =>
 if (decide (x_size ≤ (s3.length : Int))) then ((sTo s3 x_size).bind fun s8 =>
 (zg4 s8).bind fun r9 =>
 (zbU s4 r9).bind fun s10 =>
 (za7 s3 x_size).bind fun s12 =>
 (zdA x_size n) s12 s10) else (some (s4, s3))

def zlI (x_size : Int) (x_data : Str) : Option (Str × Str) :=
 zdA x_size fuel x_data []

def zf3 (x_size : Int) (x_body : Str) (x_trailers : List api_Field) (t3 : Bool) : Option (Str × Int) :=
 if t3 then (some ([], 1)) else ((zij x_trailers).bind fun r7 =>
 if (!(r7.2 == 0)) then (some ([], r7.2)) else ((zlI x_size x_body).bind fun r13 =>
 (zg4 r13.2).bind fun r15 =>
 (zbU r13.1 r15).bind fun s16 =>
 (zbU s16 r7.1).bind fun s17 =>
 some (s17, 0)))

def zle (x_size : Int) (x_body : Str) (x_trailers : List api_Field) : Option (Str × Int) :=
 if (decide (x_size < 1)) then (zf3 x_size x_body x_trailers true) else (zf3 x_size x_body x_trailers (decide (65536 < x_size)))

def zfL (r9 : Str) (s24 : Str) : Option (Str × Int) :=
 (zbU r9 s24).bind fun s25 =>
 some (s25, 0)

def ziR (x_method : Str) (x_m : api_Message) (x_limit : Int) (x_size : Int) : Option (Str × Int) :=
 (zg3 x_method x_m).bind fun r3 =>
 if (!(r3 == 0)) then (some ([], r3)) else ((zjR x_m.Head).bind fun r9 =>
 if (decide (x_limit < (r9.length : Int))) then (some ([], 3)) else (if (x_m.Frame.Kind == 3) then ((zle x_size x_m.Body x_m.Trailers).bind fun r18 =>
 if (!(r18.2 == 0)) then (some ([], r18.2)) else (zfL r9 r18.1)) else (zfL r9 x_m.Body)))

def zbu (t23 : Bool) : Option Bool :=
 some t23

def zdO (x_method : Str) (x_m : api_Message) (x_two : Int × Int) : Option Bool :=
 (zkk).bind fun r4 =>
 if (!r4) then (some false) else ((zld x_m).bind fun r9 =>
 (zgt x_method r9 x_two.1 x_two.2).bind fun r15 =>
 (ziR x_method r9 x_two.1 x_two.2).bind fun r17 =>
 if (r15.1 == r17.1) then (if (r15.2 == r17.2) then ((zeW x_method r9).bind fun r21 =>
 (zg3 x_method r9).bind fun r22 =>
 zbu (r21 == r22)) else (zbu false)) else (zbu false))

end Go.Dm
end
section
namespace Go.Dm
theorem zrb (b : Bool) (v : Int) (k : Nat) (h : -1 ≤ v) : (if b = true then (k : Int) else if v = -1 then -1 else v + ((k + 1 : Nat) : Int)) =
  if (if b = true then 0 else if (v == -1) = true then -1 else v + 1) = -1 then -1 else (if b = true then 0 else if (v == -1) = true then -1 else v + 1) + (k : Int) := by
 cases b with
 | true => simp
 | false =>
  by_cases hm : v = -1
  ·subst hm; simp
  ·have h2 : ¬ (v + 1 = -1) := by omega
   have h3 : (v == -1) = false := beq_eq_false_iff_ne.2 hm
   rw [h3]
   simp only [Bool.false_eq_true, if_false, if_neg hm, if_neg h2]
   omega
theorem zp2 : ∀ (l : Str) (c : UInt8) (k : Nat), zjf l c k = if Go.Lib.indexByte l c = -1 then -1 else Go.Lib.indexByte l c + k
 | [], _, _ => rfl
 | x :: l, c, k => by
  rw [zjf, Go.Lib.indexByte, zp2 l c (k + 1)]
  exact zrb _ _ k (Go.Lib.indexByte_ge l c)
theorem zrc (x y : UInt8) : (x == y) = (y == x) := by
 by_cases h : x = y
 ·subst h; rfl
 ·rw [beq_eq_false_iff_ne.2 h, beq_eq_false_iff_ne.2 (Ne.symm h)]
theorem zrd : ∀ (s t : Str), zoh s t = t.isPrefixOf s
 | s, [] => by cases s <;> rfl
 | [], y :: t => rfl
 | x :: s, y :: t => by
  rw [zoh, List.isPrefixOf, zrd s t, zrc x y]
theorem zre : ∀ (l t : Str) (k : Nat), zjI l t k = if Go.Lib.index l t = -1 then -1 else Go.Lib.index l t + k
 | [], t, k => by
  rw [zjI, Go.Lib.index]
  cases t <;> simp [zoh]
 | x :: l, t, k => by
  rw [zjI, Go.Lib.index, zrd]
  simp only [zre l t (k + 1)]
  exact zrb _ _ k (Go.Lib.index_ge l t)
theorem zrf : ∀ (l cs : Str) (k : Nat), zmP l cs k = if Go.Lib.indexAny l cs = -1 then -1 else Go.Lib.indexAny l cs + k
 | [], _, _ => rfl
 | x :: l, cs, k => by
  rw [zmP, Go.Lib.indexAny, zrf l cs (k + 1)]
  exact zrb _ _ k (Go.Lib.indexAny_ge cs l)
theorem zuS (l : Str) (c : UInt8) : zjf l c 0 = Go.Lib.indexByte l c := by
 rw [zp2]; have := Go.Lib.indexByte_ge l c; split <;> omega
theorem zv5 (l t : Str) : zjI l t 0 = Go.Lib.index l t := by
 rw [zre]; have := Go.Lib.index_ge l t; split <;> omega
theorem zv6 (l cs : Str) : zmP l cs 0 = Go.Lib.indexAny l cs := by
 rw [zrf]; have := Go.Lib.indexAny_ge cs l; split <;> omega
end Go.Dm
end
section
namespace Go.Dm
@[simp] theorem zW (l : Str) (i : Nat) : sAt l (i : Int) = l[i]? := by simp [sAt]
@[simp] theorem zjV (l : Str) : sAt l 0 = l[0]? := by simp [sAt]
@[simp] theorem sAt_one (l : Str) : sAt l 1 = l[1]? := by simp [sAt]
@[simp] theorem sAt_two (l : Str) : sAt l 2 = l[2]? := by simp [sAt]
@[simp] theorem zas {α : Type} (l : List α) (i : Nat) : lAt l (i : Int) = l[i]? := by simp [lAt]
@[simp] theorem zo4 {α : Type} (l : List α) : lAt l 0 = l[0]? := by simp [lAt]
theorem zdP {m n : Int} (h1 : -9223372036854775808 ≤ m + n) (h2 : m + n ≤ 9223372036854775807) : zx m n = some (m + n) := by simp [zx, inI, h1, h2]
theorem zc3 {m n : Int} (h1 : -9223372036854775808 ≤ m - n) (h2 : m - n ≤ 9223372036854775807) : zdC m n = some (m - n) := by simp [zdC, inI, h1, h2]
theorem zwX {m n : Int} (h1 : -9223372036854775808 ≤ m * n) (h2 : m * n ≤ 9223372036854775807) : ztn m n = some (m * n) := by simp [ztn, inI, h1, h2]
theorem zo {i : Nat} (h : i < 4611686018427387904) : zx (i : Int) 1 = some ((i + 1 : Nat) : Int) := by
 rw [zdP (by omega) (by omega)]; simp
theorem zzH {i k : Nat} (h : i + k < 4611686018427387904) : zx (i : Int) (k : Int) = some ((i + k : Nat) : Int) := by
 rw [zdP (by omega) (by omega)]; simp
theorem zf5 {l : Str} {h : Nat} (hh : h ≤ l.length) : sTo l (h : Int) = some (l.take h) := by simp [sTo, hh]
theorem zab {l : Str} {i : Nat} (hh : i ≤ l.length) : za7 l (i : Int) = some (l.drop i) := by simp [za7, hh]
theorem zeK {l : Str} {i h : Nat} (h1 : i ≤ h) (h2 : h ≤ l.length) : zg7 l (i : Int) (h : Int) = some ((l.take h).drop i) := by simp [zg7, h1, h2]
theorem zD {l m : Str} (h : l.length + m.length ≤ 9223372036854775807) : zbU l m = some (l ++ m) := by simp [zbU, h]
theorem zt8 {n : Nat} (h : n < 1000000000000000000) : n < fuel := h

theorem zs8 {α β : Type} (l : List α) (L : Nat → Int → Option β) (F : α → Option β → Option β) (E : Option β)
  (hE : ∀ n, L (n + 1) (l.length : Int) = E) (hL : ∀ n (i : Nat) x, i < l.length → l[i]? = some x → L (n + 1) (i : Int) = F x (L n ((i + 1 : Nat) : Int))) :
  ∀ (n i : Nat), i ≤ l.length → l.length - i < n → L n (i : Int) = (l.drop i).foldr F E
 | 0, _, _, h => by omega
 | n + 1, i, hi, h => by
  by_cases hlt : i < l.length
  ·rw [hL n i _ hlt (List.getElem?_eq_getElem hlt), zs8 l L F E hE hL n (i + 1) (by omega) (by omega), List.drop_eq_getElem_cons hlt]
   rfl
  ·have : i = l.length := by omega
   subst this
   rw [hE, List.drop_length]
   rfl
theorem zjW {α β : Type} (l : List α) (L : Nat → Int → Option β) (F : α → Option β → Option β) (E : Option β) (hl : l.length < 1000000000000000000)
  (hE : ∀ n, L (n + 1) (l.length : Int) = E) (hL : ∀ n (i : Nat) x, i < l.length → l[i]? = some x → L (n + 1) (i : Int) = F x (L n ((i + 1 : Nat) : Int))) : L fuel 0 = l.foldr F E := by
 have := zs8 l L F E hE hL fuel 0 (Nat.zero_le _) (zt8 (by omega))
 simpa using this
theorem zcl {n m b : Nat} (h : (n + m) * b ≤ 140737488355328) (h2 : n + m ≤ 140737488355328) : zP n m b = true := by
 simp only [zP, Bool.and_eq_true, decide_eq_true_eq]; exact ⟨by omega, h⟩

theorem zU (p : UInt8 → Bool) (h : (List.range 256).all (fun n => p (UInt8.ofNat n)) = true) (b : UInt8) : p b = true := by
 have := List.all_eq_true.1 h b.toNat (by simpa using b.toNat_lt)
 simpa using this
theorem zxF {α : Type} (p : α → Bool) (l : List α) : l.foldr (fun x r => if p x = true then r else some false) (some true) = some (l.all p) := by
 induction l with
 | nil => rfl
 | cons x l ih => simp only [List.foldr_cons, ih, List.all_cons]; cases p x <;> simp
theorem zzI {α : Type} (p : α → Bool) (l : List α) : l.foldr (fun x r => if p x = true then some true else r) (some false) = some (l.any p) := by
 induction l with
 | nil => rfl
 | cons x l ih => simp only [List.foldr_cons, ih, List.any_cons]; cases p x <;> simp
theorem zqK (s : Str) (k : Nat) : sTo s (min (s.length : Int) (k : Int)) = some (s.take k) := by
 have e : min (s.length : Int) (k : Int) = ((min s.length k : Nat) : Int) := by omega
 rw [e, zf5 (Nat.min_le_left _ _)]
 congr 1
 rcases Nat.le_total s.length k with h | h
 ·rw [Nat.min_eq_left h, List.take_length, List.take_of_length_le h]
 ·rw [Nat.min_eq_right h]
end Go.Dm
end
section
namespace Go.Dm
def zO (b : UInt8) : Bool := decide (48 ≤ b) && decide (b ≤ 57)
def zej (b : UInt8) : UInt8 := if 65 ≤ b ∧ b ≤ 90 then b + 32 else b
def zy9 (b : UInt8) : Bool := decide (97 ≤ zej b) && decide (zej b ≤ 122)
def zgc (b : UInt8) : Bool := zO b || decide (97 ≤ zej b) && decide (zej b ≤ 102)
def zkC (b : UInt8) : Bool := zy9 b || zO b || ([45, 46, 95, 126] : Str).contains b
def zsk (b : UInt8) : Bool := ([33, 36, 38, 39, 40, 41, 42, 43, 44, 59, 61] : Str).contains b
def zoK (b : UInt8) : Bool := zkC b || zsk b || b == 58 || b == 64

theorem zv3 (l : Str) (c : UInt8) (k : Nat) : decide (0 ≤ zjf l c k) = l.contains c := by
 induction l generalizing k with
 | nil => simp [zjf]
 | cons x l ih =>
  simp only [zjf, List.contains_cons]
  by_cases h : x = c
  ·simp [h]
  ·have h' : (c == x) = false := by simp; exact fun e => h e.symm
   simp [h, h', ih]
theorem zq7 (b : UInt8) : zaO b = some (zej b) :=
 of_decide_eq_true (zU (fun b => decide (zaO b = some (zej b))) (by decide +kernel) b)
theorem zhW (b : UInt8) : z6 b = some (zO b) :=
 of_decide_eq_true (zU (fun b => decide (z6 b = some (zO b))) (by decide +kernel) b)
theorem zjB (b : UInt8) : zcG b = some (zgc b) :=
 of_decide_eq_true (zU (fun b => decide (zcG b = some (zgc b))) (by decide +kernel) b)
theorem zqt (b : UInt8) : zhp b = some (zoK b) :=
 of_decide_eq_true (zU (fun b => decide (zhp b = some (zoK b))) (by decide +kernel) b)
theorem zq8 (b : UInt8) : zeb b = some (zO b) :=
 of_decide_eq_true (zU (fun b => decide (zeb b = some (zO b))) (by decide +kernel) b)
theorem zlt (b : UInt8) : zfW b = some (zgc b) :=
 of_decide_eq_true (zU (fun b => decide (zfW b = some (zgc b))) (by decide +kernel) b)
theorem zsl (b : UInt8) : zjO b = some (zoK b) :=
 of_decide_eq_true (zU (fun b => decide (zjO b = some (zoK b))) (by decide +kernel) b)

theorem ztv (b : UInt8) (l : Str) : l.any (fun x => x == b) = l.contains b := by
 induction l with
 | nil => rfl
 | cons x l ih =>
  simp only [List.any_cons, List.contains_cons, ih]
  congr 1
  rw [Bool.eq_iff_iff, beq_iff_eq, beq_iff_eq]; exact eq_comm
theorem zuR (b : UInt8) (l : Str) (hl : l.length < 1000000000) : zgo b l = some (l.contains b) := by
 unfold zgo
 rw [zjW l (zea b l) (fun x r => if (x == b) = true then some true else r) (some false) (by omega)]
 ·rw [zzI, ztv]
 ·intro n; rw [zea]; simp only [Int.lt_irrefl, decide_false, Bool.false_eq_true, if_false]
 ·intro n i x hi hx
  rw [zea]
  simp only [Int.ofNat_lt, hi, decide_true, if_true, zW, hx, Option.bind_some, zo (show i < 4611686018427387904 by omega)]

theorem zdu {p : UInt8 → Bool} {f : UInt8 → Option Bool} (hf : ∀ b, f b = some (p b)) (s : Str) (hs : s.length < 1000000000) : zc5 f [s] = some (s.all p) := by
 unfold zc5
 have h2 : ∀ (rec1 : Int → Option Bool) (i : Int), zcs rec1 f i s fuel 0 = s.foldr (fun x r => if p x = true then r else some false) ((zx i 1).bind rec1) := by
  intro rec1 i
  refine zjW s (zcs rec1 f i s) _ _ (by omega) ?_ ?_
  ·intro n; rw [zcs]; simp only [Int.lt_irrefl, decide_false, Bool.false_eq_true, if_false]
  ·intro n k x hk hx
   rw [zcs]
   simp only [Int.ofNat_lt, hk, decide_true, if_true, zW, hx, Option.bind_some, hf, zo (show k < 4611686018427387904 by omega)]
   cases p x <;> rfl
 rw [zjW [s] (zct f [s]) (fun x r => x.foldr (fun x r => if p x = true then r else some false) r) (some true) (by simp)]
 ·simp only [List.foldr_cons, List.foldr_nil]
  exact zxF p s
 ·intro n; rw [zct]; simp only [Int.lt_irrefl, decide_false, Bool.false_eq_true, if_false]
 ·intro n i x hi hx
  have hi0 : i = 0 := by simp at hi; exact hi
  subst hi0
  simp at hx; subst hx
  rw [zct]
  simp [h2, zdP]
def zi1 (b : UInt8) : Bool := zy9 b || zO b || ([33, 35, 36, 37, 38, 39, 42, 43, 45, 46, 94, 95, 96, 124, 126] : Str).contains b
def zgd (b : UInt8) : Bool := decide (32 ≤ b) && !(b == 127) || b == 9
theorem zkU (b : UInt8) : zcF b = some (zi1 b) :=
 of_decide_eq_true (zU (fun b => decide (zcF b = some (zi1 b))) (by decide +kernel) b)
theorem zhX (b : UInt8) : zaG b = some (zgd b) :=
 of_decide_eq_true (zU (fun b => decide (zaG b = some (zgd b))) (by decide +kernel) b)
theorem zma (b : UInt8) : zbO b = some (zkC b) :=
 of_decide_eq_true (zU (fun b => decide (zbO b = some (zkC b))) (by decide +kernel) b)
theorem zq9 (b : UInt8) : zgR b = some (zsk b) :=
 of_decide_eq_true (zU (fun b => decide (zgR b = some (zsk b))) (by decide +kernel) b)
theorem ztw (b : UInt8) : zk8 b = some (zi1 b) :=
 of_decide_eq_true (zU (fun b => decide (zk8 b = some (zi1 b))) (by decide +kernel) b)
theorem zhi (b : UInt8) : zfy b = some (zgd b) :=
 of_decide_eq_true (zU (fun b => decide (zfy b = some (zgd b))) (by decide +kernel) b)
theorem znn (b : UInt8) : zcM b = some (zkC b) :=
 of_decide_eq_true (zU (fun b => decide (zcM b = some (zkC b))) (by decide +kernel) b)
theorem ztx (b : UInt8) : zjr b = some (zsk b) :=
 of_decide_eq_true (zU (fun b => decide (zjr b = some (zsk b))) (by decide +kernel) b)
theorem znD {α : Type} (p : α → Bool) (l : List α) (e : Bool) : l.foldr (fun x r => if p x = true then r else some false) (some e) = some (l.all p && e) := by
 induction l with
 | nil => simp
 | cons x l ih => simp only [List.foldr_cons, ih, List.all_cons]; cases p x <;> simp
def zhj (s : Str) : Bool := s.all zi1 && !(s == [])
theorem zjC (s : Str) (hs : s.length < 1000000000) : zec s = some (zhj s) := by
 unfold zec
 rw [zjW s (zb5 s) (fun x r => if zi1 x = true then r else some false) (some (!(s == []))) (by omega)]
 ·rw [znD]; rfl
 ·intro n; rw [zb5]; simp only [Int.lt_irrefl, decide_false, Bool.false_eq_true, if_false]
  cases s <;> simp
 ·intro n i x hi hx
  rw [zb5]
  simp only [Int.ofNat_lt, hi, decide_true, if_true, zW, hx, Option.bind_some, ztw, zo (show i < 4611686018427387904 by omega)]
  cases zi1 x <;> rfl
theorem zmt (s : Str) (hs : s.length < 1000000000) : zgV s = some (zhj s) := by
 unfold zgV zhj
 rw [zdu zkU s hs]
 cases s <;> simp [zfi]
end Go.Dm
end
section
namespace Go.Dm
def za1 (b : Nat) (l : List Nat) : Nat := l.foldl (fun n d => n * b + d) 0
theorem zsM (b : Nat) (l : List Nat) : ∀ n, l.foldl (fun n d => n * b + d) n = n * b ^ l.length + za1 b l := by
 unfold za1
 induction l with
 | nil => intro n; simp
 | cons x l ih =>
  intro n
  rw [List.foldl_cons, ih, List.foldl_cons, ih (0 * b + x), List.length_cons, Nat.pow_succ, Nat.add_mul, Nat.zero_mul, Nat.zero_add, Nat.mul_assoc, Nat.mul_comm b, Nat.add_assoc]
theorem zxR (b : Nat) : za1 b [] = 0 := rfl
theorem zji (b x : Nat) (l : List Nat) : za1 b (x :: l) = x * b ^ l.length + za1 b l := by
 have := zsM b l (0 * b + x)
 rw [Nat.zero_mul, Nat.zero_add] at this
 rw [← this]; unfold za1; rw [List.foldl_cons, Nat.zero_mul, Nat.zero_add]
theorem zpn (b x : Nat) (l : List Nat) : za1 b (l ++ [x]) = za1 b l * b + x := by
 unfold za1; rw [List.foldl_append]; rfl
theorem zqD {b : Nat} (hb : 0 < b) : ∀ {l : List Nat}, (∀ d ∈ l, d < b) → za1 b l < b ^ l.length
 | [], _ => by simp [za1]
 | x :: l, h => by
  have h1 := h x (List.mem_cons_self ..)
  have h2 := zqD hb (l := l) fun d hd => h d (List.mem_cons_of_mem _ hd)
  rw [zji, List.length_cons, Nat.pow_succ]
  have : (x + 1) * b ^ l.length ≤ b * b ^ l.length := Nat.mul_le_mul_right _ h1
  rw [Nat.add_mul, Nat.one_mul] at this
  rw [Nat.mul_comm (b ^ l.length) b]; omega
def zhK (b : Nat) : Nat → Nat → List Nat
 | 0, n => [n % b]
 | k + 1, n => if n < b then [n] else zhK b k (n / b) ++ [n % b]
def digs (b n : Nat) : List Nat := zhK b 70 n
theorem znX {b n k : Nat} (hb : 2 ≤ b) (h : n < 2 ^ (k + 1)) : n / b < 2 ^ k := by
 rw [Nat.div_lt_iff_lt_mul (by omega)]
 calc n < 2 ^ (k + 1) := h
  _ = 2 ^ k * 2 := Nat.pow_succ ..
  _ ≤ 2 ^ k * b := Nat.mul_le_mul_left _ hb
theorem znY {b : Nat} (hb : 2 ≤ b) : ∀ (k m n : Nat), k ≤ m → n < 2 ^ (k + 1) → zhK b m n = zhK b k n
  | 0, 0, n, _, _ => rfl
  | 0, m + 1, n, _, h => by
    have hn : n < b := by have : n < 2 := by simpa using h
                          omega
    show zhK b (m + 1) n = [n % b]
    rw [zhK, if_pos hn, Nat.mod_eq_of_lt hn]
  | k + 1, 0, n, h, _ => by omega
  | k + 1, m + 1, n, hm, h => by
    rw [zhK, zhK]
    split
    · rfl
    · rw [znY hb k m (n / b) (by omega) (znX hb h)]
theorem zkP {b n : Nat} (hb : 2 ≤ b) (hn : b ≤ n) (h : n < 2 ^ 64) : digs b n = digs b (n / b) ++ [n % b] := by
 have h1 := znY hb 64 70 n (by decide) (Nat.lt_of_lt_of_le h (Nat.pow_le_pow_right (by decide) (by decide)))
 have h2 := znY hb 63 70 (n / b) (by decide) (znX hb (Nat.lt_of_lt_of_le h (Nat.pow_le_pow_right (by decide) (by decide))))
 unfold digs
 rw [h1, h2, zhK, if_neg (by omega)]
theorem zeh {b n : Nat} (hn : n < b) : digs b n = [n] := by unfold digs; rw [zhK, if_pos hn]
theorem zot {b : Nat} (hb : 2 ≤ b) {P : Nat → Prop} (h0 : ∀ n, n < b → P n) (h1 : ∀ n, b ≤ n → n < 2 ^ 64 → P (n / b) → P n) : ∀ n, n < 2 ^ 64 → P n := by
 intro n
 induction n using Nat.strongRecOn with
 | _ n ih =>
  intro hn
  by_cases h : n < b
  ·exact h0 n h
  ·have : n / b < n := Nat.div_lt_self (by omega) (by omega)
   exact h1 n (by omega) hn (ih _ this (by omega))
theorem zuh {b : Nat} (hb : 2 ≤ b) : ∀ n, n < 2 ^ 64 → za1 b (digs b n) = n :=
 zot hb (fun n h => by rw [zeh h]; simp [za1]) fun n h hn ih => by
  rw [zkP hb h hn, zpn, ih, Nat.mul_comm]; exact Nat.div_add_mod n b
theorem zzT {b : Nat} (hb : 2 ≤ b) : ∀ n, n < 2 ^ 64 → ∀ d ∈ digs b n, d < b :=
 zot hb (fun n h d hd => by rw [zeh h] at hd; simp at hd; omega) fun n h hn ih d hd => by
  rw [zkP hb h hn] at hd
  rcases List.mem_append.1 hd with hd | hd
  ·exact ih d hd
  ·simp at hd; subst hd; exact Nat.mod_lt _ (by omega)
theorem zti {b n : Nat} : digs b n ≠ [] := by
 unfold digs; rw [zhK]; split <;> simp
theorem zsN {b : Nat} (hb : 2 ≤ b) : ∀ n, n < 2 ^ 64 → n = 0 ∨ (digs b n).head? ≠ some 0 :=
 zot hb (fun n h => by
  rw [zeh h]; by_cases e : n = 0
  ·exact .inl e
  ·exact .inr (by simpa using e)) fun n h hn ih => by
  right
  rw [zkP hb h hn]
  rcases ih with h0 | h0
  ·have : b ≤ n := h
   have : 0 < n / b := Nat.div_pos h (by omega)
   omega
  ·cases hd : digs b (n / b) with
   | nil => exact absurd hd zti
   | cons x l => rw [hd] at h0; simpa using h0
theorem zqO {b : Nat} (hb : 2 ≤ b) : ∀ n, n < 2 ^ 64 → (digs b n).length ≤ 71 := by
  have : ∀ k n, (zhK b k n).length ≤ k + 1 := by
    intro k
    induction k with
    | zero => intro n; simp [zhK]
    | succ k ih => intro n; rw [zhK]; split
                   · simp
                   · simp; exact ih _
  intro n _; exact this 70 n
def zqP : List Nat → List Nat → Bool
 | _, [] => false
 | [], _ :: _ => true
 | x :: l, y :: m => decide (x < y) || (x == y && zqP l m)
theorem zwB {b : Nat} (hb : 0 < b) : ∀ (l m : List Nat), l.length = m.length → (∀ d ∈ l, d < b) → (∀ d ∈ m, d < b) → zqP l m = decide (za1 b l < za1 b m)
 | [], [], _, _, _ => by simp [zqP]
 | [], _ :: _, h, _, _ => by simp at h
 | _ :: _, [], h, _, _ => by simp at h
 | x :: l, y :: m, h, hl, hm => by
  have e : l.length = m.length := by simpa using h
  have h1 := zqD hb (l := l) fun d hd => hl d (List.mem_cons_of_mem _ hd)
  have h2 := zqD hb (l := m) fun d hd => hm d (List.mem_cons_of_mem _ hd)
  rw [zqP, zwB hb l m e (fun d hd => hl d (List.mem_cons_of_mem _ hd)) (fun d hd => hm d (List.mem_cons_of_mem _ hd)), zji, zji, e]
  rw [e] at h1
  rcases Nat.lt_trichotomy x y with hxy | hxy | hxy
  ·have : (x + 1) * b ^ m.length ≤ y * b ^ m.length := Nat.mul_le_mul_right _ hxy
   rw [Nat.add_mul, Nat.one_mul] at this
   have h3 : x * b ^ m.length + za1 b l < y * b ^ m.length + za1 b m := by omega
   simp [hxy, h3]
  ·subst hxy; simp
  ·have : (y + 1) * b ^ m.length ≤ x * b ^ m.length := Nat.mul_le_mul_right _ hxy
   rw [Nat.add_mul, Nat.one_mul] at this
   have h3 : ¬ x * b ^ m.length + za1 b l < y * b ^ m.length + za1 b m := by omega
   have h4 : ¬ x < y := by omega
   have h5 : (x == y) = false := beq_eq_false_iff_ne.2 (by omega)
   simp [h3, h4, h5]
def dch (d : Nat) : UInt8 := if d < 10 then UInt8.ofNat (48 + d) else UInt8.ofNat (87 + d)
def zu (l : List Nat) : Str := l.map dch
def wor (c : UInt8) : Nat := if zO c then (c - 48).toNat else (zej c - 97).toNat + 10
def zj4 (b : Nat) (c : UInt8) : Bool := if b = 10 then zO c else zgc c
theorem zw8 : ∀ d : Nat, d < 16 → (wor (dch d) = d ∧ zgc (dch d) = true ∧ (d < 10 → zO (dch d) = true)) := by decide
theorem dch_lt : ∀ d : Nat, d < 16 → ∀ e : Nat, e < 16 → (decide (dch d < dch e) = decide (d < e) ∧ (dch d == dch e) = (d == e)) := by decide
theorem zpZ : ∀ (l m : List Nat), (∀ d ∈ l, d < 16) → (∀ d ∈ m, d < 16) → zp0 (zu l) (zu m) = zqP l m
 | [], [], _, _ => rfl
 | [], _ :: _, _, _ => rfl
 | _ :: _, [], _, _ => rfl
 | x :: l, y :: m, hl, hm => by
  have ih := zpZ l m (fun d hd => hl d (List.mem_cons_of_mem _ hd)) (fun d hd => hm d (List.mem_cons_of_mem _ hd))
  obtain ⟨h1, h2⟩ := dch_lt x (hl x (List.mem_cons_self ..)) y (hm y (List.mem_cons_self ..))
  show (decide (dch x < dch y) || (dch x == dch y && zp0 (zu l) (zu m))) = _
  rw [h1, h2, ih, zqP]
theorem zpo (b : UInt8) : zgh b = some (wor b : Int) :=
 of_decide_eq_true (zU (fun b => decide (zgh b = some (wor b : Int))) (by decide +kernel) b)
theorem zxS (c : UInt8) : (zO c = true → wor c < 10) ∧ (zgc c = true → wor c < 16) :=
 of_decide_eq_true (zU (fun c => decide ((zO c = true → wor c < 10) ∧ (zgc c = true → wor c < 16))) (by decide +kernel) c)
theorem zqQ (c : UInt8) (b : Int) (n : Nat) {i : Int} (hn : n ≤ fuel) (h : (zF c b n i).isSome = true) : zF c b fuel i = zF c b n i := by
 obtain ⟨k, hk⟩ : ∃ k, fuel = n + k := ⟨fuel - n, by omega⟩
 rw [hk]
 clear hk hn
 induction n generalizing i with
 | zero => simp [zF] at h
 | succ n ih =>
  rw [Nat.add_right_comm, zF, zF]
  rw [zF] at h
  split
  ·rename_i hlt
   rw [if_pos hlt] at h
   cases hs : sAt [48, 49, 50, 51, 52, 53, 54, 55, 56, 57, 97, 98, 99, 100, 101, 102] i with
   | none => rfl
   | some x =>
    rw [hs] at h
    simp only [Option.bind_some] at h ⊢
    split
    ·rfl
    ·rename_i hne
     rw [if_neg hne] at h
     cases hs2 : sAt [48, 49, 50, 51, 52, 53, 54, 55, 56, 57, 65, 66, 67, 68, 69, 70] i with
     | none => rfl
     | some y =>
      rw [hs2] at h
      simp only [Option.bind_some, zfn] at h ⊢
      split
      ·rfl
      ·rename_i hne2
       rw [if_neg hne2] at h
       cases hi : zx i 1 with
       | none => rfl
       | some j => rw [hi] at h; exact ih h
  ·rfl
theorem zqR (c : UInt8) : zdm c 10 = some (if zO c then (wor c : Int) else -1) := by
 have h1 : zF c 10 20 0 = some (if zO c then (wor c : Int) else -1) := of_decide_eq_true (zU (fun c => decide (zF c 10 20 0 = some (if zO c then (wor c : Int) else -1))) (by decide +kernel) c)
 unfold zdm
 rw [← h1]
 exact zqQ c 10 20 (by decide) (by rw [h1]; rfl)
theorem zqS (c : UInt8) : zdm c 16 = some (if zgc c then (wor c : Int) else -1) := by
 have h1 : zF c 16 20 0 = some (if zgc c then (wor c : Int) else -1) := of_decide_eq_true (zU (fun c => decide (zF c 16 20 0 = some (if zgc c then (wor c : Int) else -1))) (by decide +kernel) c)
 unfold zdm
 rw [← h1]
 exact zqQ c 16 20 (by decide) (by rw [h1]; rfl)
def zgD (b : Nat) : Prop := b = 10 ∨ b = 16
theorem zgD.two {b : Nat} (h : zgD b) : 2 ≤ b ∧ b ≤ 16 := by rcases h with rfl | rfl <;> omega
theorem zmg {b : Nat} (hb : zgD b) (c : UInt8) : zdm c (b : Int) = some (if zj4 b c then (wor c : Int) else -1) := by
 rcases hb with rfl | rfl
 ·exact zqR c
 ·exact zqS c
theorem zqT {b : Nat} (hb : zgD b) {c : UInt8} (h : zj4 b c = true) : wor c < b := by
 rcases hb with rfl | rfl
 ·exact (zxS c).1 h
 ·exact (zxS c).2 h
theorem zqU : ∀ d : Nat, d < 16 → zg7 [48, 49, 50, 51, 52, 53, 54, 55, 56, 57, 97, 98, 99, 100, 101, 102] (d : Int) ((d + 1 : Nat) : Int) = some [dch d] := by decide
theorem zui {b : Nat} (hb : zgD b) : ∀ (k m n : Nat), k ≤ m → n < 2 ^ (k + 1) → k < 63 → zb6 (m + 1) (n : Int) (b : Int) = some (zu (digs b n)) := by
  obtain ⟨h2, h16⟩ := hb.two
  intro k
  induction k with
  | zero =>
    intro m n _ h _
    have hn : n < b := by have : n < 2 := by simpa using h
                          omega
    rw [zb6, zeh hn]
    simp only [Int.ofNat_lt, hn, decide_true, if_true, zo (show n < 4611686018427387904 by omega), Option.bind_some, zqU n (by omega)]
    rfl
  | succ k ih =>
    intro m n hm h hk
    obtain ⟨m, rfl⟩ : ∃ j, m = j + 1 := ⟨m - 1, by omega⟩
    have hbig : n < 2 ^ 64 := Nat.lt_of_lt_of_le h (Nat.pow_le_pow_right (by decide) (by omega))
    have hq : ∀ q : Nat, q ≤ n → inI (q : Int) = true := fun q hq => zhe.2 (by
      have : n < 2 ^ 63 := Nat.lt_of_lt_of_le h (Nat.pow_le_pow_right (by decide) (by omega))
      omega)
    rw [zb6]
    by_cases hn : n < b
    · rw [zeh hn]
      simp only [Int.ofNat_lt, hn, decide_true, if_true, zo (show n < 4611686018427387904 by omega), Option.bind_some, zqU n (by omega)]
      rfl
    · have e1 : zto (n : Int) (b : Int) = some ((n / b : Nat) : Int) := by
        unfold zto
        rw [if_pos ⟨by omega, by omega, by rw [← Int.natCast_ediv]; exact hq _ (Nat.div_le_self n b)⟩, Int.natCast_ediv]
      have e2 : zvQ (n : Int) (b : Int) = some ((n % b : Nat) : Int) := by
        unfold zvQ
        rw [if_pos ⟨by omega, by omega, by rw [← Int.natCast_emod]; exact hq _ (Nat.mod_le n b)⟩, Int.natCast_emod]
      have hlt : n % b < b := Nat.mod_lt _ (by omega)
      have hlen := zqO h2 (n / b) (by have := Nat.div_le_self n b; omega)
      have hn' : ¬ decide ((n : Int) < (b : Int)) = true := by simp; omega
      have e3 := ih m (n / b) (by omega) (znX h2 h) (by omega)
      have e4 := zqU (n % b) (by omega)
      have e5 := zo (i := n % b) (by omega)
      have e6 := zkP h2 (show b ≤ n by omega) hbig
      generalize n / b = q at *
      generalize n % b = r at *
      have e7 : zbU (zu (digs b q)) [dch r] = some (zu (digs b q) ++ [dch r]) := zD (by simp [zu]; omega)
      rw [if_neg hn', e1, Option.bind_some, e3, Option.bind_some, e2, Option.bind_some, Option.bind_some, e5, Option.bind_some, e4, Option.bind_some, e7, Option.bind_some, e6]
      simp [zu]
theorem ziY {b : Nat} (hb : zgD b) (n : Nat) (hn : n < 2 ^ 63) : zeq (n : Int) (b : Int) = some (zu (digs b n)) := by
 unfold zeq
 obtain ⟨m, hm⟩ : ∃ m, fuel = m + 1 := ⟨999999999999999999, rfl⟩
 rw [hm]
 exact zui hb 62 m n (by unfold fuel at hm; omega) (by omega) (by omega)
def zha (b : Nat) (n : Int) : Str := if n < 0 then [] else zu (digs b n.toNat)
theorem zin {b : Nat} (hb : zgD b) (n : Int) (hn : inI n = true) : zer n (b : Int) = some (zha b n) := by
 obtain ⟨h1, h2⟩ := zhe.1 hn
 unfold zer zha
 by_cases h : n < 0
 ·simp [h]
 ·obtain ⟨k, rfl⟩ : ∃ k : Nat, n = k := ⟨n.toNat, by omega⟩
  simp [h, ziY hb k (by omega)]
theorem dec_eq : ∀ n, n < 2 ^ 64 → Go.Lib.decDigits n = zu (digs 10 n) :=
 zot (b := 10) (by decide) (fun n h => by rw [Go.Lib.decDigits, dif_pos h, zeh h]; simp [zu, dch, h]) fun n h hn ih => by
  rw [Go.Lib.decDigits, dif_neg (by omega), ih, zkP (by decide) h hn]
  have : n % 10 < 10 := Nat.mod_lt _ (by decide)
  simp [zu, dch, this]
theorem ziZ (n : Int) (hn : inI n = true) : zem n = some (zha 10 n) := by
 obtain ⟨h1, h2⟩ := zhe.1 hn
 unfold zem zfR zha
 by_cases h : n < 0
 ·simp [h]
 ·obtain ⟨k, rfl⟩ : ∃ k : Nat, n = k := ⟨n.toNat, by omega⟩
  have hk : ¬ ((k : Int) < 0) := by omega
  simp [hk, zdg, hn, Go.Lib.itoa, dec_eq k (by omega)]
def vals (s : Str) : List Nat := s.map wor
def zR (b : Nat) (s : Str) (most : Int) : Int × Int :=
 if (s == [] || !s.all (zj4 b)) = true then (0, 2) else if most < (za1 b (vals s) : Int) then (0, 7) else (((za1 b (vals s) : Nat) : Int), 0)
theorem zzU {b : Nat} (hb : zgD b) {s : Str} (h : s.all (zj4 b) = true) : ∀ d ∈ vals s, d < b := by
 intro d hd
 obtain ⟨c, hc, rfl⟩ := List.mem_map.1 hd
 exact zqT hb (List.all_eq_true.1 h c hc)
theorem zsO {b : Nat} (hb : 1 ≤ b) (l m : List Nat) : za1 b l ≤ za1 b (l ++ m) := by
 unfold za1
 rw [List.foldl_append]
 generalize l.foldl (fun n d => n * b + d) 0 = n
 rw [zsM]
 have : 1 ≤ b ^ m.length := Nat.one_le_pow _ _ hb
 have := Nat.le_mul_of_pos_right n this
 omega
theorem zvL {b : Nat} (hb : zgD b) (s : Str) (most : Int) (hs : s.length < 1000000000) (hd : s.all (zj4 b) = true) (hm : most < 4611686018427387904) (hm0 : -4611686018427387904 < most) (hne : s ≠ []) :
  zaF s (b : Int) most fuel 0 0 = some (if most < (za1 b (vals s) : Int) then (0, 7) else (((za1 b (vals s) : Nat) : Int), 0)) := by
 obtain ⟨h2, h16⟩ := hb.two
 have key : ∀ (n i v : Nat), i ≤ s.length → s.length - i < n → v = za1 b (vals (s.take i)) → (i = 0 ∨ (v : Int) ≤ most) → (i < s.length ∨ (v : Int) ≤ most) →
   zaF s (b : Int) most n (v : Int) (i : Int) = some (if most < (za1 b (vals s) : Int) then (0, 7) else (((za1 b (vals s) : Nat) : Int), 0)) := by
  intro n
  induction n with
  | zero => intro i v _ h; omega
  | succ n ih =>
   intro i v hi h hv h0 h1
   rw [zaF]
   by_cases hlt : i < s.length
   ·have hx : s[i]? = some s[i] := List.getElem?_eq_getElem hlt
    have hw : wor s[i] < b := zqT hb (List.all_eq_true.1 hd _ (List.getElem_mem hlt))
    have htk : vals (s.take (i + 1)) = vals (s.take i) ++ [wor s[i]] := by
     unfold vals
     rw [List.take_succ_eq_append_getElem hlt, List.map_append]; rfl
    have hv' : za1 b (vals (s.take (i + 1))) = v * b + wor s[i] := by rw [htk, zpn, ← hv]
    have hle : za1 b (vals (s.take (i + 1))) ≤ za1 b (vals s) := by
     have := zsO (b := b) (by omega) (vals (s.take (i + 1))) (vals (s.drop (i + 1)))
     unfold vals at this ⊢
     rwa [← List.map_append, List.take_append_drop] at this
    simp only [Int.ofNat_lt, hlt, decide_true, if_true, zW, hx, Option.bind_some, zpo]
    by_cases hov : most < (wor s[i] : Int)
    ·have : most < (za1 b (vals s) : Int) := by
      have := Nat.zero_le (v * b); omega
     simp [hov, zc6, this]
    ·have hsub : zdC most (wor s[i] : Int) = some (most - (wor s[i] : Int)) := zc3 (by omega) (by omega)
     have hdv : zto (most - (wor s[i] : Int)) (b : Int) = some ((most - (wor s[i] : Int)) / (b : Int)) := by
      unfold zto
      have h5 : 0 ≤ (most - (wor s[i] : Int)) / (b : Int) := Int.ediv_nonneg (by omega) (by omega)
      have h6 : (most - (wor s[i] : Int)) / (b : Int) ≤ most - (wor s[i] : Int) := Int.ediv_le_self _ (by omega)
      rw [if_pos ⟨by omega, by omega, by rw [zhe]; omega⟩]
     have hiff : (most - (wor s[i] : Int)) / (b : Int) < (v : Int) ↔ most < ((v * b + wor s[i] : Nat) : Int) := by
      rw [Int.ediv_lt_iff_lt_mul (by omega)]
      push_cast
      omega
     simp only [hov, decide_false, Bool.false_eq_true, if_false, hsub, hdv, Option.bind_some, zc6]
     by_cases hov2 : (most - (wor s[i] : Int)) / (b : Int) < (v : Int)
     ·have h7 : most < (za1 b (vals s) : Int) := by have := hiff.1 hov2; omega
      simp [hov2, h7]
     ·have h7 : ((v * b + wor s[i] : Nat) : Int) ≤ most := by have := (not_congr hiff).1 hov2; omega
      have hmul : ztn (v : Int) (b : Int) = some ((v * b : Nat) : Int) := by
       rw [zwX (by rw [← Int.natCast_mul]; omega) (by rw [← Int.natCast_mul]; omega), Int.natCast_mul]
      have hadd : zx ((v * b : Nat) : Int) (wor s[i] : Int) = some ((v * b + wor s[i] : Nat) : Int) := by
       rw [zdP (by omega) (by omega)]; simp
      simp only [hov2, decide_false, Bool.false_eq_true, if_false, hmul, hadd, Option.bind_some, zo (show i < 4611686018427387904 by omega)]
      exact ih (i + 1) (v * b + wor s[i]) (by omega) (by omega) hv'.symm (.inr h7) (.inr h7)
   ·have : i = s.length := by omega
    subst this
    rw [List.take_length] at hv
    have h8 : ¬ most < (za1 b (vals s) : Int) := by rw [← hv]; rcases h1 with h1 | h1 <;> omega
    simp [h8, hv]
 have := key fuel 0 0 (Nat.zero_le _) (by unfold fuel; omega) (by simp [vals, za1]) (.inl rfl) (.inl (by cases s with | nil => exact absurd rfl hne | cons _ _ => simp))
 simpa using this
theorem zqp {b : Nat} (hb : zgD b) (s : Str) (most : Int) (hs : s.length < 1000000000) (hm : most < 4611686018427387904) (hm0 : -4611686018427387904 < most) {f : UInt8 → Option Bool} (hf : ∀ c, f c = some (zj4 b c)) :
  zho s (b : Int) most f = some (zR b s most) := by
 unfold zho zR
 rcases zcD (s == []) with h | h
 ·rw [h]; simp [zc7]
 ·rw [h]
  rw [zdu hf s hs]
  simp only [Bool.false_eq_true, if_false, Option.bind_some, zc7, Bool.false_or]
  rcases zcD (s.all (zj4 b)) with h2 | h2
  ·rw [h2]
   simp only [Bool.not_true, Bool.false_eq_true, if_false]
   exact zvL hb s most hs h2 hm hm0 (by simpa using h)
  ·rw [h2]; simp
theorem zei (s : Str) (most : Int) (hs : s.length < 1000000000) (hm : most < 4611686018427387904) (hm0 : -4611686018427387904 < most) : zbz s most = some (zR 10 s most) := by
 unfold zbz
 have := zqp (.inl rfl) s most hs hm hm0 (f := z6) zhW
 rw [show ((10 : Nat) : Int) = 10 from rfl] at this
 rw [this]; rfl
def ziv : List Nat → List Nat
 | 0 :: l => ziv l
 | l => l
theorem zpp (b : Nat) : ∀ l, za1 b (ziv l) = za1 b l
 | [] => rfl
 | 0 :: l => by rw [ziv, zpp b l, zji, Nat.zero_mul, Nat.zero_add]
 | (n + 1) :: l => rfl
theorem zqV : ∀ l, (ziv l).head? ≠ some 0
 | [] => by simp [ziv]
 | 0 :: l => by rw [ziv]; exact zqV l
 | (n + 1) :: l => by simp [ziv]
theorem zsP : ∀ {l : List Nat} {d : Nat}, d ∈ ziv l → d ∈ l
 | [], _, h => h
 | 0 :: l, d, h => by rw [ziv] at h; exact List.mem_cons_of_mem _ (zsP h)
 | (n + 1) :: l, _, h => h
theorem zsQ : ∀ l, (ziv l).length ≤ l.length
 | [] => Nat.le_refl _
 | 0 :: l => by rw [ziv]; have := zsQ l; simp; omega
 | (n + 1) :: l => Nat.le_refl _
def ziw (l : List Nat) : List Nat := if ziv l = [] then [0] else ziv l
theorem zxT {b : Nat} (hb : zgD b) (s : Str) (hs : s.length < 1000000000) :
  ziI s (b : Int) = some (if s.all (zj4 b) then (zu (ziw (vals s)), !(s == [])) else ([], false)) := by
 obtain ⟨h2, h16⟩ := hb.two
 unfold ziI
 have key : ∀ (n i : Nat) (acc : List Nat), i ≤ s.length → s.length - i < n → acc.length ≤ i → (acc = [] ∨ acc.head? ≠ some 0) →
   zaW s (b : Int) n (zu acc) (i : Int) = some (if (s.drop i).all (zj4 b) then (zu (if acc = [] then ziw (vals (s.drop i)) else acc ++ vals (s.drop i)), !(s == [])) else ([], false)) := by
  intro n
  induction n with
  | zero => intro i acc _ h; omega
  | succ n ih =>
   intro i acc hi h ha h0
   rw [zaW]
   by_cases hlt : i < s.length
   ·have hx : s[i]? = some s[i] := List.getElem?_eq_getElem hlt
    rw [List.drop_eq_getElem_cons hlt]
    generalize hc : s[i] = c at hx ⊢
    simp only [Int.ofNat_lt, hlt, decide_true, if_true, zW, hx, Option.bind_some, zmg hb, List.all_cons]
    rcases zcD (zj4 b c) with hdg | hdg
    ·have hw := zqT hb hdg
     have hw0 : ¬ ((wor c : Int) < 0) := by omega
     have hdig : zeq (wor c : Int) (b : Int) = some [dch (wor c)] := by
      rw [ziY hb _ (by omega), zeh hw]; rfl
     have hcat : zbU (zu acc) [dch (wor c)] = some (zu (acc ++ [wor c])) := by
      rw [zD (by simp [zu]; omega)]; simp [zu]
     simp only [hdg, if_true, hw0, decide_false, Bool.false_eq_true, if_false, zfp, zfo, hdig, hcat, Option.bind_some, zo (show i < 4611686018427387904 by omega), Bool.true_and]
     have hvc : vals (c :: s.drop (i + 1)) = wor c :: vals (s.drop (i + 1)) := rfl
     cases acc with
     | nil =>
      by_cases hz : wor c = 0
      ·have hz' : ¬ (0 < (wor c : Int)) := by omega
       simp only [show (zu [] == ([] : Str)) = true from rfl, Bool.not_true, Bool.false_eq_true, if_false, hz', decide_false]
       have := ih (i + 1) [] (by omega) (by omega) (by simp) (.inl rfl)
       rw [show zu [] = ([] : Str) from rfl] at this ⊢
       rw [this]
       simp only [if_true, hvc, hz, ziw, ziv]
      ·have hz' : 0 < (wor c : Int) := by omega
       simp only [show (zu [] == ([] : Str)) = true from rfl, Bool.not_true, Bool.false_eq_true, if_false, hz', decide_true, if_true]
       rw [ih (i + 1) ([] ++ [wor c]) (by omega) (by omega) (by simp) (.inr (by simpa using hz))]
       obtain ⟨m, hm⟩ : ∃ m, wor c = m + 1 := ⟨wor c - 1, by omega⟩
       simp [hvc, ziw, hm, ziv]
     | cons y acc =>
      simp only [show (zu (y :: acc) == ([] : Str)) = false from rfl, Bool.not_false, if_true]
      have hy : (y :: acc ++ [wor c]) = [] ∨ (y :: acc ++ [wor c]).head? ≠ some 0 := by
       right
       rcases h0 with h0 | h0
       ·cases h0
       ·simpa using h0
      rw [ih (i + 1) (y :: acc ++ [wor c]) (by omega) (by omega) (by simp at ha ⊢; omega) hy]
      simp [hvc]
    ·simp [hdg]
   ·have : i = s.length := by omega
    subst this
    simp only [Int.lt_irrefl, decide_false, Bool.false_eq_true, if_false, List.drop_length, List.all_nil, if_true, zfq]
    cases acc with
    | nil => simp [zu, ziw, vals, ziv, dch]
    | cons y acc => simp [zu, vals]
 have := key fuel 0 [] (Nat.zero_le _) (by unfold fuel; omega) (by simp) (.inl rfl)
 simpa [zu] using this
theorem zuj {b : Nat} (hb : 0 < b) {l : List Nat} (h : ∀ d ∈ l, d < b) : ziw l ≠ [] ∧ (∀ d ∈ ziw l, d < b) ∧ (ziw l = [0] ∨ (ziw l).head? ≠ some 0) ∧ za1 b (ziw l) = za1 b l ∧ (ziw l).length ≤ l.length + 1 := by
 unfold ziw
 by_cases e : ziv l = []
 ·rw [if_pos e]
  have := zpp b l
  rw [e, zxR] at this
  refine ⟨by simp, fun d hd => by simp at hd; omega, .inl rfl, by simp [za1] at this ⊢; exact this, by simp⟩
 ·rw [if_neg e]
  exact ⟨e, fun d hd => h d (zsP hd), .inr (zqV l), zpp b l, by have := zsQ l; omega⟩
theorem zxU {b : Nat} (hb : 2 ≤ b) (l m : List Nat) (hl0 : l ≠ []) (hm0 : m ≠ []) (hl : ∀ d ∈ l, d < b) (hm : ∀ d ∈ m, d < b) (zl : l = [0] ∨ l.head? ≠ some 0) (zm : m = [0] ∨ m.head? ≠ some 0) :
  (decide (l.length < m.length) || (l.length == m.length && zqP l m)) = decide (za1 b l < za1 b m) := by
 have low : ∀ x : List Nat, x ≠ [] → x.head? ≠ some 0 → b ^ (x.length - 1) ≤ za1 b x := by
  intro x hx h0
  cases x with
  | nil => exact absurd rfl hx
  | cons y t =>
   have hy : 1 ≤ y := by
    rcases Nat.eq_zero_or_pos y with e | e
    ·subst e; simp at h0
    ·exact e
   rw [zji, List.length_cons, Nat.add_sub_cancel]
   have := Nat.mul_le_mul_right (b ^ t.length) hy
   rw [Nat.one_mul] at this; omega
 have cmp : ∀ x y : List Nat, x ≠ [] → y ≠ [] → (∀ d ∈ x, d < b) → (y = [0] ∨ y.head? ≠ some 0) → x.length < y.length → za1 b x < za1 b y := by
  intro x y hx hy hxd zy h
  have hyh : y.head? ≠ some 0 := by
   rcases zy with e | e
   ·have : 1 ≤ x.length := by cases x with | nil => exact absurd rfl hx | cons _ _ => simp
    rw [e] at h
    have h' : x.length < 1 := h
    omega
   ·exact e
  have h1 := zqD (b := b) (by omega) hxd
  have h2 := low y hy hyh
  have h3 : b ^ x.length ≤ b ^ (y.length - 1) := Nat.pow_le_pow_right (by omega) (by omega)
  omega
 rcases Nat.lt_trichotomy l.length m.length with h | h | h
 ·have := cmp l m hl0 hm0 hl zm h
  simp [h, this]
 ·rw [h, zwB (b := b) (by omega) l m h hl hm]; simp
 ·have h1 := cmp m l hm0 hl0 hm zl h
  have h2 : ¬ l.length < m.length := by omega
  have h3 : (l.length == m.length) = false := beq_eq_false_iff_ne.2 (by omega)
  have h4 : ¬ za1 b l < za1 b m := by omega
  simp [h2, h3, h4]
theorem zjj (l : List Nat) : (zu l).length = l.length := by simp [zu]
theorem zpq {b : Nat} (hb : zgD b) (l : List Nat) (q : Bool) (hl : ∀ d ∈ l, d < b) (hlen : l.length < 2000000000) (hv : za1 b l < 4611686018427387904) :
  zcJ (b : Int) (zu l, q) fuel 0 0 = some (((za1 b l : Nat) : Int), 0) := by
 obtain ⟨h2, h16⟩ := hb.two
 have key : ∀ (n i v : Nat), i ≤ l.length → l.length - i < n → v = za1 b (l.take i) → zcJ (b : Int) (zu l, q) n (v : Int) (i : Int) = some (((za1 b l : Nat) : Int), 0) := by
  intro n
  induction n with
  | zero => intro i v _ h; omega
  | succ n ih =>
   intro i v hi h hvv
   rw [zcJ]
   by_cases hlt : i < l.length
   ·have hx : (zu l)[i]? = some (dch l[i]) := by simp [zu, hlt]
    have hd : l[i] < b := hl _ (List.getElem_mem hlt)
    obtain ⟨w1, w2, w3⟩ := zw8 l[i] (by omega)
    have hdg : zj4 b (dch l[i]) = true := by
     rcases hb with rfl | rfl
     ·exact w3 hd
     ·exact w2
    have hv' : za1 b (l.take (i + 1)) = v * b + l[i] := by
     rw [List.take_succ_eq_append_getElem hlt, zpn, ← hvv]
    have hle : za1 b (l.take (i + 1)) ≤ za1 b l := by
     have := zsO (b := b) (by omega) (l.take (i + 1)) (l.drop (i + 1))
     rwa [List.take_append_drop] at this
    have hmul : ztn (v : Int) (b : Int) = some ((v * b : Nat) : Int) := by
     rw [zwX (by rw [← Int.natCast_mul]; omega) (by rw [← Int.natCast_mul]; omega), Int.natCast_mul]
    have hadd : zx ((v * b : Nat) : Int) (l[i] : Int) = some ((v * b + l[i] : Nat) : Int) := by
     rw [zdP (by omega) (by omega)]; simp
    simp only [zjj, Int.ofNat_lt, hlt, decide_true, if_true, hmul, Option.bind_some, zW, hx, zmg hb, hdg, w1, hadd, zo (show i < 4611686018427387904 by omega)]
    exact ih (i + 1) _ (by omega) (by omega) hv'.symm
   ·have : i = l.length := by omega
    subst this
    rw [List.take_length] at hvv
    simp [zjj, hvv]
 have := key fuel 0 0 (Nat.zero_le _) (by unfold fuel; omega) (by simp [za1])
 simpa using this
theorem zkw {b : Nat} (hb : zgD b) (s : Str) (most : Int) (hs : s.length < 1000000000) (hm : most < 4611686018427387904) (hm0 : -4611686018427387904 < most) : zfr s (b : Int) most = some (zR b s most) := by
 obtain ⟨h2, h16⟩ := hb.two
 unfold zfr zR
 rw [zxT hb s hs, Option.bind_some]
 rcases zcD (s.all (zj4 b)) with hd | hd
 ·rw [hd]
  simp only [if_true, Bool.not_true, Bool.or_false]
  rcases zcD (s == []) with he | he
  ·rw [he]; simp
  ·rw [he]
   have hv := zzU hb hd
   obtain ⟨c1, c2, c3, c4, c5⟩ := zuj (b := b) (by omega) hv
   have hlen : (vals s).length = s.length := by simp [vals]
   simp only [Bool.not_false, Bool.not_true, Bool.false_eq_true, if_false]
   by_cases hneg : most < 0
   ·have h7 : most < (za1 b (vals s) : Int) := by omega
    simp [hneg, h7, zeQ]
   ·obtain ⟨k, rfl⟩ : ∃ k : Nat, most = k := ⟨most.toNat, by omega⟩
    have hk : k < 2 ^ 64 := by omega
    have hless : zjL (zu (digs b k)) (zu (ziw (vals s))) = some (decide (k < za1 b (vals s))) := by
     unfold zjL
     have d1 := zzT h2 k hk
     have d3 : digs b k = [0] ∨ (digs b k).head? ≠ some 0 := by
      rcases zsN h2 k hk with e | e
      ·left; subst e; exact zeh (by omega)
      ·exact .inr e
     have := zxU h2 (digs b k) (ziw (vals s)) zti c1 d1 c2 d3 c3
     rw [zuh h2 k hk, c4] at this
     rw [← this, zjj, zjj, zpZ _ _ (fun d hd => by have := d1 d hd; omega) (fun d hd => by have := c2 d hd; omega)]
     by_cases h1 : (digs b k).length < (ziw (vals s)).length
     ·simp [h1, zcI]
     ·by_cases h3 : (digs b k).length = (ziw (vals s)).length
      ·simp [h3, zcI]
      ·have h4 : (((digs b k).length : Int) == ((ziw (vals s)).length : Int)) = false := beq_eq_false_iff_ne.2 (by omega)
       simp [h1, h3, h4, zcI]
    simp only [hneg, decide_false, Bool.false_eq_true, if_false, ziY hb k (by omega), Option.bind_some, hless, zeQ]
    by_cases h7 : k < za1 b (vals s)
    ·have h8 : (k : Int) < (za1 b (vals s) : Int) := by omega
     simp [h7, h8]
    ·have h8 : ¬ ((k : Int) < (za1 b (vals s) : Int)) := by omega
     simp only [h7, decide_false, Bool.false_eq_true, if_false, h8]
     rw [zpq hb _ _ c2 (by omega) (by rw [c4]; omega), c4]
 ·rw [hd]; simp
end Go.Dm
end
section
namespace Go.Dm
def low (s : Str) : Str := s.map zej
theorem ziq (s : Str) (hs : s.length < 1000000000) : zgJ s = some (low s) := by
 unfold zgJ
 rw [if_pos (by omega)]
 unfold low
 clear hs
 induction s with
 | nil => rfl
 | cons x s ih => simp [List.mapM_cons, zq7, ih]
theorem upAt : ∀ j : Nat, j < 26 → (([65, 66, 67, 68, 69, 70, 71, 72, 73, 74, 75, 76, 77, 78, 79, 80, 81, 82, 83, 84, 85, 86, 87, 88, 89, 90] : Str)[j]? = some (UInt8.ofNat (65 + j)) ∧
  zg7 [97, 98, 99, 100, 101, 102, 103, 104, 105, 106, 107, 108, 109, 110, 111, 112, 113, 114, 115, 116, 117, 118, 119, 120, 121, 122] (j : Int) ((j + 1 : Nat) : Int) = some [UInt8.ofNat (97 + j)]) := by decide
theorem zpt (rec1 : Str → Int → Option Str) (t : Str) (s4 : Str) (i : Nat) (x : UInt8) (hx : t[i]? = some x) : ∀ (k j n : Nat) (s : Str), j + k = 26 → k < n →
  zbk rec1 t s4 (i : Int) n s (j : Int) = (zbU s4 (if 65 + j ≤ x.toNat ∧ x.toNat < 91 then [x + 32] else s)).bind fun s27 => (zx (i : Int) 1).bind fun i29 => rec1 s27 i29 := by
 intro k
 induction k with
 | zero =>
  intro j n s hj hn
  obtain ⟨n, rfl⟩ : ∃ m, n = m + 1 := ⟨n - 1, by omega⟩
  obtain rfl : j = 26 := by omega
  have h0 : ¬ (65 + 26 ≤ x.toNat ∧ x.toNat < 91) := by omega
  rw [zbk, if_neg h0]
  rfl
 | succ k ih =>
  intro j n s hj hn
  obtain ⟨n, rfl⟩ : ∃ m, n = m + 1 := ⟨n - 1, by omega⟩
  obtain ⟨h1, h2⟩ := upAt j (by omega)
  have hj26 : (j : Int) < 26 := by omega
  rw [zbk]
  simp only [hj26, decide_true, if_true, zW, h1, hx, Option.bind_some, zo (show j < 4611686018427387904 by omega), h2, zgr]
  rw [ih (j + 1) n _ (by omega) (by omega), ih (j + 1) n _ (by omega) (by omega)]
  by_cases he : UInt8.ofNat (65 + j) = x
  ·subst he
   have e1 : (UInt8.ofNat (65 + j)).toNat = 65 + j := by simp; omega
   have e2 : UInt8.ofNat (97 + j) = UInt8.ofNat (65 + j) + 32 := by
    apply UInt8.toNat_inj.1; simp; omega
   simp only [beq_self_eq_true, if_true, e1]
   rw [if_neg (by omega), if_pos (by omega), e2]
  ·have hb : (UInt8.ofNat (65 + j) == x) = false := beq_eq_false_iff_ne.2 he
   have hne : x.toNat ≠ 65 + j := fun e => he (by apply UInt8.toNat_inj.1; simp; omega)
   simp only [hb, Bool.false_eq_true, if_false]
   have : (65 + (j + 1) ≤ x.toNat ∧ x.toNat < 91) ↔ (65 + j ≤ x.toNat ∧ x.toNat < 91) := by omega
   simp only [this]
theorem zxc (x : UInt8) : (if 65 ≤ x.toNat ∧ x.toNat < 91 then [x + 32] else [x]) = [zej x] := by
 have hi : (65 ≤ x ∧ x ≤ 90) ↔ (65 ≤ x.toNat ∧ x.toNat < 91) := by
  have h1 : (65 ≤ x) ↔ (65 ≤ x.toNat) := Iff.rfl
  have h2 : (x ≤ 90) ↔ (x.toNat ≤ 90) := Iff.rfl
  rw [h1, h2]; omega
 unfold zej
 by_cases h : 65 ≤ x.toNat ∧ x.toNat < 91
 ·rw [if_pos h, if_pos (hi.2 h)]
 ·rw [if_neg h, if_neg (fun e => h (hi.1 e))]
theorem zir (s : Str) (hs : s.length < 1000000000) : zet s = some (low s) := by
 unfold zet
 have key : ∀ (n i : Nat) (acc : Str), acc.length = i → i ≤ s.length → s.length - i < n → zbl s n acc (i : Int) = some (acc ++ low (s.drop i)) := by
  intro n
  induction n with
  | zero => intro i acc _ _ h; omega
  | succ n ih =>
   intro i acc ha hi h
   rw [zbl]
   by_cases hlt : i < s.length
   ·have hx : s[i]? = some s[i] := List.getElem?_eq_getElem hlt
    have e1 : (s.take (i + 1)).drop i = [s[i]] := by
     rw [List.drop_take, List.drop_eq_getElem_cons hlt, show i + 1 - i = 1 by omega]
     rfl
    have h2 := zpt (zbl s n) s acc i s[i] hx 26 0 fuel [s[i]] rfl (by unfold fuel; omega)
    simp only [Int.natCast_zero, Nat.add_zero, zxc] at h2
    simp only [Int.ofNat_lt, hlt, decide_true, if_true, zo (show i < 4611686018427387904 by omega), Option.bind_some, zeK (show i ≤ i + 1 by omega) (show i + 1 ≤ s.length by omega), e1, h2, zD (show acc.length + [zej s[i]].length ≤ 9223372036854775807 by simp; omega)]
    rw [ih (i + 1) _ (by simp [ha]) (by omega) (by omega), List.drop_eq_getElem_cons hlt]
    show some ((acc ++ [zej s[i]]) ++ low (s.drop (i + 1))) = some (acc ++ (zej s[i] :: low (s.drop (i + 1))))
    rw [List.append_assoc]
    rfl
   ·have : i = s.length := by omega
    subst this
    simp [low]
 have := key fuel 0 [] rfl (Nat.zero_le _) (by unfold fuel; omega)
 simpa using this
theorem zny (a b : Str) (ha : a.length < 1000000000) (hb : b.length < 1000000000) : zh3 a b = some (low a == low b) := by
 unfold zh3
 rw [ziq a ha, ziq b hb]; rfl
end Go.Dm
end
section
namespace Go.Dm
def upto (cs s : Str) : Str := s.takeWhile (fun c => !cs.contains c)
def zb0 (cs s : Str) : Str := s.dropWhile (fun c => !cs.contains c)
theorem zdS (cs s : Str) : upto cs s ++ zb0 cs s = s := List.takeWhile_append_dropWhile
theorem zoO (cs s : Str) : (upto cs s).length ≤ s.length := by
 have := congrArg List.length (zdS cs s); simp at this; omega
theorem zne (cs s : Str) : s.take (upto cs s).length = upto cs s := by
 have h := zdS cs s
 conv => lhs; arg 2; rw [← h]
 exact List.take_left
theorem zkW (cs s : Str) : s.drop (upto cs s).length = zb0 cs s := by
 have h := zdS cs s
 conv => lhs; arg 2; rw [← h]
 exact List.drop_left
theorem zfO (cs s : Str) : zb0 cs s = [] ↔ (upto cs s).length = s.length := by
 have h := congrArg List.length (zdS cs s)
 simp only [List.length_append] at h
 rw [← List.length_eq_zero_iff]; omega
theorem zsX {cs s : Str} {c : UInt8} {r : Str} (h : zb0 cs s = c :: r) : cs.contains c = true := by
 have := List.head?_dropWhile_not (fun c => !cs.contains c) s
 unfold zb0 at h
 rw [h] at this
 simpa using this
theorem zu0 {cs s : Str} : ∀ c ∈ upto cs s, cs.contains c = false := by
 intro c hc
 have h : (upto cs s).all (fun c => !cs.contains c) = true := List.all_takeWhile
 have := List.all_eq_true.1 h c hc
 simpa using this
theorem zj9 {cs s : Str} {x : UInt8} (h : cs.contains x = true) : upto cs (x :: s) = [] := by
 unfold upto; rw [List.takeWhile_cons_of_neg (by rw [h]; simp)]
theorem zka {cs s : Str} {x : UInt8} (h : cs.contains x = true) : zb0 cs (x :: s) = x :: s := by
 unfold zb0; rw [List.dropWhile_cons_of_neg (by rw [h]; simp)]
theorem zkb {cs s : Str} {x : UInt8} (h : cs.contains x = false) : upto cs (x :: s) = x :: upto cs s := by
 unfold upto; rw [List.takeWhile_cons_of_pos (by rw [h]; rfl)]
theorem zkc {cs s : Str} {x : UInt8} (h : cs.contains x = false) : zb0 cs (x :: s) = zb0 cs s := by
 unfold zb0; rw [List.dropWhile_cons_of_pos (by rw [h]; rfl)]

theorem zsY (cs : Str) : ∀ (s : Str) (k : Nat), zmP s cs k = if zb0 cs s = [] then -1 else ((k + (upto cs s).length : Nat) : Int)
 | [], k => by simp [zmP, zb0]
 | x :: s, k => by
  simp only [zmP]
  by_cases h : cs.contains x = true
  ·rw [if_pos h, zj9 h, zka h]; simp
  ·have h' : cs.contains x = false := by simpa using h
   rw [if_neg h, zsY cs s (k + 1)]
   rw [zkc h', zkb h', List.length_cons]
   split
   ·rfl
   ·congr 1; omega
theorem ztF (s p : Str) (hs : s.length < 1000000000) : stringslite_HasPrefix s p = some (p.isPrefixOf s) := by
 unfold stringslite_HasPrefix
 by_cases h : p.length ≤ s.length
 ·have h' : (p.length : Int) ≤ (s.length : Int) := by omega
  simp only [h', decide_true, if_true, zf5 h, Option.bind_some, zat]
  congr 1
  rw [Bool.eq_iff_iff, beq_iff_eq, List.isPrefixOf_iff_prefix, List.prefix_iff_eq_take]
  exact eq_comm
 ·have h' : ¬ (p.length : Int) ≤ (s.length : Int) := by omega
  simp only [h', decide_false, Bool.false_eq_true, if_false, zat]
  congr 1
  rw [eq_comm, Bool.eq_false_iff]
  intro hp
  rw [List.isPrefixOf_iff_prefix] at hp
  exact h hp.length_le
theorem zfd (s p : Str) (hs : s.length < 1000000000) : strings_HasPrefix s p = some (p.isPrefixOf s) := by
 unfold strings_HasPrefix
 rw [ztF s p hs]; rfl
theorem zja (s cs : Str) (hs : s.length < 1000000000) (hc : cs.length < 1000000000) (ha : cs.all (fun c => c.toNat < 128) = true) :
  strings_IndexAny s cs = some (if zb0 cs s = [] then -1 else ((upto cs s).length : Int)) := by
 unfold strings_IndexAny
 rw [if_pos ⟨by omega, by omega, ha⟩, zsY, Nat.zero_add]
theorem zu1 (cs s : Str) : zb0 cs s = [] ↔ s.any cs.contains = false := by
 induction s with
 | nil => simp [zb0]
 | cons x s ih =>
  rcases zcD (cs.contains x) with h | h
  ·rw [zka h, List.any_cons, h]; simp
  ·rw [zkc h, ih, List.any_cons, h, Bool.false_or]
theorem zly (s cs : Str) (hs : s.length < 1000000000) (hc : cs.length < 1000000000) (ha : cs.all (fun c => c.toNat < 128) = true) : strings_ContainsAny s cs = some (s.any cs.contains) := by
 unfold strings_ContainsAny
 rw [zja s cs hs hc ha, Option.bind_some]
 rcases zcD (s.any cs.contains) with h | h
 ·have e : ¬ zb0 cs s = [] := fun e => by rw [(zu1 cs s).1 e] at h; cases h
  rw [if_neg e, h]; simp
 ·rw [if_pos ((zu1 cs s).2 h), h]; rfl

end Go.Dm
end
section
namespace Go.Dm
def scn (s : Str) (k : Nat) : scan_Scanner := ⟨s, (k : Int)⟩
theorem zj6 (s : Str) : ziC s = some (scn s 0) := rfl
theorem zlo (s : Str) (k : Nat) : zby (scn s k) = some (k : Int) := rfl
theorem zoy {s : Str} {k : Nat} (h : k ≤ s.length) : zY (scn s k) = some (s.drop k) := by
 unfold zY scn
 rw [zab h]; rfl
theorem zmk {s : Str} {k : Nat} (h : k ≤ s.length) : zaI (scn s k) = some (s.drop k == []) := by
 unfold zaI
 rw [zoy h]; rfl
theorem zkx {s : Str} {k : Nat} (h : k ≤ s.length) (hd : s.drop k = []) : zB (scn s k) = some (0, false) := by
 unfold zB
 rw [zmk h, hd]; rfl
theorem zjx {s : Str} {k : Nat} {x : UInt8} {r : Str} (h : k ≤ s.length) (hd : s.drop k = x :: r) : zB (scn s k) = some (x, true) := by
 unfold zB
 rw [zmk h, hd]
 have hx : s[k]? = some x := by
  have := congrArg (·[0]?) hd
  simpa using this
 simp [scn, hx]
theorem zsf {s : Str} {k : Nat} (b : UInt8) (h : k ≤ s.length) (hd : s.drop k = []) : zn (scn s k) b = some (false, scn s k) := by
 unfold zn
 rw [zkx h hd]; rfl
theorem zhc {s : Str} {k : Nat} {x : UInt8} {r : Str} (b : UInt8) (h : k ≤ s.length) (hs : s.length < 1000000000) (hd : s.drop k = x :: r) : zn (scn s k) b = some (x == b, if x == b then scn s (k + 1) else scn s k) := by
 unfold zn
 rw [zjx h hd]
 simp only [Option.bind_some, Bool.not_true, Bool.false_eq_true, if_false, zb1]
 rcases zcD (x == b) with hb | hb
 ·rw [hb]; simp [scn, zo (show k < 4611686018427387904 by omega)]
 ·rw [hb]; simp
theorem zhd {s : Str} {k : Nat} {x : UInt8} {r : Str} (hd : s.drop k = x :: r) : k < s.length ∧ s.drop (k + 1) = r := by
 have hl : k < s.length := by
  rcases Nat.lt_or_ge k s.length with h | h
  ·exact h
  ·rw [List.drop_eq_nil_of_le h] at hd; cases hd
 refine ⟨hl, ?_⟩
 rw [List.drop_eq_getElem_cons hl] at hd
 exact (List.cons.inj hd).2
theorem zsg {f : UInt8 → Option Bool} {p : UInt8 → Bool} (hf : ∀ b, f b = some (p b)) {s : Str} {k : Nat} (hs : s.length < 1000000000) (hk : k ≤ s.length) :
  zal (scn s k) f = some ((s.drop k).takeWhile p, scn s (k + ((s.drop k).takeWhile p).length)) := by
 unfold zal
 rw [zlo, Option.bind_some]
 show zN f k fuel s k = _
 have key : ∀ (n i : Nat), k ≤ i → i ≤ s.length → s.length - i < n → zN f k n s i = some ((s.take (i + ((s.drop i).takeWhile p).length)).drop k, scn s (i + ((s.drop i).takeWhile p).length)) := by
  intro n
  induction n with
  | zero => intro i _ _ h; omega
  | succ n ih =>
   intro i hki hi h
   rw [zN]
   have e : (⟨s, (i : Int)⟩ : scan_Scanner) = scn s i := rfl
   rw [e]
   cases hd : s.drop i with
   | nil =>
    rw [zkx hi hd]
    simp [zaT, zbH, zeK hki hi, scn]
   | cons x r =>
    obtain ⟨hlt, hr⟩ := zhd hd
    rw [zjx hi hd]
    simp only [Option.bind_some, Bool.not_true, Bool.false_eq_true, if_false, hf, zaT, zo (show i < 4611686018427387904 by omega), ih (i + 1) (by omega) (by omega) (by omega), hr, List.takeWhile_cons]
    rcases zcD (p x) with hp | hp
    ·rw [hp]; simp [Nat.add_assoc, Nat.add_comm 1]
    ·rw [hp]; simp [zbH, zeK hki hi, scn]
 rw [key fuel k (Nat.le_refl _) hk (by unfold fuel; omega)]
 congr 2
 rw [List.drop_take, Nat.add_sub_cancel_left]
 have := List.takeWhile_prefix (l := s.drop k) p
 exact (List.prefix_iff_eq_take.1 this).symm
theorem zlp (p : UInt8 → Bool) (s : Str) : (s.takeWhile p).length ≤ s.length := (List.takeWhile_prefix p).length_le
theorem zxb (p : UInt8 → Bool) (s : Str) (k : Nat) (hk : k ≤ s.length) : s.drop (k + ((s.drop k).takeWhile p).length) = (s.drop k).dropWhile p ∧ k + ((s.drop k).takeWhile p).length ≤ s.length := by
 refine ⟨?_, ?_⟩
 ·rw [← List.drop_drop]
  generalize s.drop k = t
  have h := List.takeWhile_append_dropWhile (p := p) (l := t)
  conv => lhs; arg 2; rw [← h]
  exact List.drop_left
 ·have := zlp p (s.drop k)
  rw [List.length_drop] at this; omega
end Go.Dm
end
section
namespace Go.Dm
structure At (s : Str) (k : Nat) (r : Str) : Prop where
 le : k ≤ s.length
 drop : s.drop k = r
theorem At.zero (s : Str) : At s 0 s := ⟨Nat.zero_le _, rfl⟩
theorem At.len {s : Str} {k : Nat} {r : Str} (h : At s k r) : k + r.length = s.length := by
 have := congrArg List.length h.drop
 rw [List.length_drop] at this
 have := h.le
 omega
theorem At.le_len {s : Str} {k : Nat} {r : Str} (h : At s k r) : r.length ≤ s.length := by have := h.len; omega
theorem At.next {s : Str} {k : Nat} {r : Str} (h : At s k r) (n : Nat) (hn : n ≤ r.length) : At s (k + n) (r.drop n) :=
 ⟨by have := h.len; omega, by rw [← List.drop_drop, h.drop]⟩
def zw0 : Str → UInt8 × Bool
 | [] => (0, false)
 | x :: _ => (x, true)
def zhI (b : UInt8) (r : Str) : Bool := r.head? == some b
def zav (b : UInt8) (r : Str) : Str := if zhI b r then r.drop 1 else r
theorem zbT (b x : UInt8) (r : Str) : zhI b (x :: r) = (x == b) := Option.some_beq_some ..
theorem zaE (b : UInt8) (r : Str) : zav b (b :: r) = r := by unfold zav; rw [zbT, beq_self_eq_true, if_pos rfl]; rfl
theorem zoo {b : UInt8} {r : Str} (h : zhI b r = false) : zav b r = r := by unfold zav; rw [h]; rfl
theorem zgP {b : UInt8} {r : Str} (h : zhI b r = true) : r = b :: zav b r := by
 cases r with
 | nil => cases h
 | cons x r =>
  rw [zbT] at h
  have : x = b := by simpa using h
  subst this
  rw [zaE]
section
variable {s r : Str} {k : Nat}
theorem zwx (h : At s k r) : zaI (scn s k) = some (r == []) := by rw [zmk h.le, h.drop]
theorem zub (h : At s k r) : zY (scn s k) = some r := by rw [zoy h.le, h.drop]
theorem zo7 (h : At s k r) : zB (scn s k) = some (zw0 r) := by
 cases r with
 | nil => exact zkx h.le h.drop
 | cons x r => exact zjx h.le h.drop
theorem zgC (hs : s.length < 1000000000) (b : UInt8) (h : At s k r) : ∃ k', At s k' (zav b r) ∧ zn (scn s k) b = some (zhI b r, scn s k') := by
 cases r with
 | nil => exact ⟨k, h, zsf b h.le h.drop⟩
 | cons x r =>
  rw [zhc b h.le hs h.drop, zbT]
  unfold zav
  rw [zbT]
  cases x == b with
  | true => exact ⟨k + 1, h.next 1 (by simp), rfl⟩
  | false => exact ⟨k, h, rfl⟩
theorem zr4 {f : UInt8 → Option Bool} {p : UInt8 → Bool} (hf : ∀ b, f b = some (p b)) (hs : s.length < 1000000000) (h : At s k r) : ∃ k', At s k' (r.dropWhile p) ∧ zal (scn s k) f = some (r.takeWhile p, scn s k') := by
 have e := zsg hf hs h.le
 rw [h.drop] at e
 have hd := zxb p s k h.le
 rw [h.drop] at hd
 exact ⟨_, ⟨hd.2, hd.1⟩, e⟩
theorem zzL (hs : s.length < 1000000000) (h : At s k r) : ∃ k', At s k' (r.dropWhile zi1) ∧ zbM (scn s k) = some (r.takeWhile zi1, !(r.takeWhile zi1 == []), scn s k') := by
 obtain ⟨k', h1, h2⟩ := zr4 zkU hs h
 refine ⟨k', h1, ?_⟩
 unfold zbM
 rw [h2]; rfl
theorem zAH (hs : s.length < 1000000000) (t : Str) (ht : t.length < 1000000000) (h : At s k r) : ∃ k', At s k' (if t.isPrefixOf r then r.drop t.length else r) ∧ zcg (scn s k) t = some (t.isPrefixOf r, scn s k') := by
 unfold zcg
 have := h.le_len
 rw [zub h, Option.bind_some, zfd r t (by omega), Option.bind_some]
 cases hp : t.isPrefixOf r with
 | false => exact ⟨k, h, rfl⟩
 | true =>
  have hl := (List.isPrefixOf_iff_prefix.1 hp).length_le
  have hk := h.len
  rw [if_pos rfl]
  show ∃ k', At s k' (r.drop t.length) ∧ ((zx (k : Int) (t.length : Int)).bind fun i9 => some (true, (⟨s, i9⟩ : scan_Scanner))) = _
  rw [zdP (by omega) (by omega), Option.bind_some]
  exact ⟨k + t.length, h.next _ hl, by unfold scn; simp⟩
end
end Go.Dm
end
section
namespace Go.Dm
theorem zbo (c : UInt8) (s : Str) : zi c s ≠ [] := by
 cases s with
 | nil => simp [zi]
 | cons x s =>
  unfold zi
  split
  ·simp
  ·split <;> simp
theorem zns {b c : UInt8} {l : Str} (h : b ≠ c) : Go.Lib.index (b :: l) [c] = if Go.Lib.index l [c] = -1 then -1 else Go.Lib.index l [c] + 1 := by
 have hp : ([c] : List UInt8).isPrefixOf (b :: l) = false := by simp [List.isPrefixOf, Ne.symm h]
 rw [Go.Lib.index, hp]; simp
theorem znt (c : UInt8) (l : Str) : Go.Lib.index (c :: l) [c] = 0 := by
 rw [Go.Lib.index]; simp [List.isPrefixOf]
theorem zn2 (c : UInt8) : ∀ (s : Str) (k : Nat), Go.Lib.count s [c] = k → Go.Lib.splitK [c] 0 k s = zi c s
 | [], k, h => by
  rw [Go.Lib.count_one] at h
  simp at h; subst h; rfl
 | b :: l, k, h => by
  by_cases hb : b = c
  ·subst hb
   rw [Go.Lib.count_cons_eq] at h
   obtain ⟨m, rfl⟩ : ∃ m, k = m + 1 := ⟨k - 1, by omega⟩
   have ih := zn2 b l m (by omega)
   unfold Go.Lib.splitK
   rw [znt]
   simp [zi, ih]
  ·rw [Go.Lib.count_cons_ne b c l hb] at h
   have ih := zn2 c l k h
   unfold zi
   rw [if_neg hb, ← ih]
   cases k with
   | zero => simp [Go.Lib.splitK]
   | succ k =>
    unfold Go.Lib.splitK
    rw [zns hb]
    have hge := Go.Lib.index_ge l [c]
    by_cases hm : Go.Lib.index l [c] = -1
    ·rw [Go.Lib.count_miss hm] at h; omega
    ·obtain ⟨j, hj⟩ : ∃ j : Nat, Go.Lib.index l [c] = j := ⟨(Go.Lib.index l [c]).toNat, by omega⟩
     have e1 : ¬ ((j : Int) + 1 = -1) := by omega
     have e2 : ¬ ((j : Int) = -1) := by omega
     have e3 : ((j : Int) + 1).toNat = j + 1 := by omega
     rw [hj]
     simp [e1, e2, e3, Nat.add_right_comm j 1 1]
theorem zps (s : Str) (c : UInt8) (hs : s.length < 1000000000) : strings_Split s [c] = some (zi c s) := by
 unfold strings_Split
 rw [if_pos ⟨by omega, by simp⟩]
 rw [zn2 c s _ rfl]
def zgE (p : Str) : List Str → List Str
 | [] => [p]
 | h :: t => (p ++ h) :: t
theorem zaH (c x : UInt8) (s : Str) : zi c (x :: s) = if x = c then [] :: zi c s else zgE [x] (zi c s) := by
 rw [zi]
 split
 ·rfl
 ·cases h : zi c s <;> rfl
theorem zn3 (l : List Str) (h : l ≠ []) : zgE [] l = l := by
 cases l with
 | nil => exact absurd rfl h
 | cons a t => rfl
theorem znu (p q : Str) (l : List Str) (h : l ≠ []) : zgE p (zgE q l) = zgE (p ++ q) l := by
 cases l with
 | nil => exact absurd rfl h
 | cons a t => simp [zgE]
theorem zmh (c : UInt8) : ∀ (a s : Str), c ∉ a → zi c (a ++ s) = zgE a (zi c s)
 | [], s, _ => (zn3 _ (zbo c s)).symm
 | x :: a, s, h => by
  have hx : ¬ x = c := fun e => h (by simp [e])
  rw [List.cons_append, zaH, if_neg hx, zmh c a s (fun e => h (List.mem_cons_of_mem _ e)), znu _ _ _ (zbo c s)]
  rfl
theorem zhb {c : UInt8} {a : Str} (h : c ∉ a) : zi c a = [a] := by
 have := zmh c a [] h
 simpa [zi, zgE] using this
theorem zfa {c : UInt8} {a : Str} (s : Str) (h : c ∉ a) : zi c (a ++ c :: s) = a :: zi c s := by
 rw [zmh c a _ h, zaH, if_pos rfl]
 simp [zgE]
theorem zdb {c : UInt8} : ∀ {s p : Str}, p ∈ zi c s → c ∉ p ∧ p.length ≤ s.length ∧ ∀ x ∈ p, x ∈ s
 | [], p, h => by
  simp [zi] at h; subst h; simp
 | x :: s, p, h => by
  rw [zaH] at h
  split at h
  ·rcases List.mem_cons.1 h with rfl | h
   ·simp
   ·obtain ⟨h1, h2, h3⟩ := zdb h
    exact ⟨h1, by simp; omega, fun y hy => List.mem_cons_of_mem _ (h3 y hy)⟩
  ·rename_i hx
   cases hl : zi c s with
   | nil => exact absurd hl (zbo c s)
   | cons a t =>
    rw [hl] at h
    rcases List.mem_cons.1 h with rfl | h
    ·obtain ⟨h1, h2, h3⟩ := zdb (c := c) (s := s) (p := a) (by rw [hl]; simp)
     refine ⟨?_, by simp; omega, ?_⟩
     ·simp only [List.singleton_append, List.mem_cons, not_or]; exact ⟨fun e => hx e.symm, h1⟩
     ·intro y hy
      simp only [List.singleton_append, List.mem_cons] at hy ⊢
      rcases hy with hy | hy
      ·exact .inl hy
      ·exact .inr (h3 y hy)
    ·obtain ⟨h1, h2, h3⟩ := zdb (c := c) (s := s) (p := p) (by rw [hl]; exact List.mem_cons_of_mem _ h)
     exact ⟨h1, by simp; omega, fun y hy => List.mem_cons_of_mem _ (h3 y hy)⟩
theorem zfb (c : UInt8) : ∀ s : Str, (zi c s).length ≤ s.length + 1
 | [] => by simp [zi]
 | x :: s => by
  have ih := zfb c s
  rw [zaH]
  split
  ·simp; omega
  ·cases hl : zi c s with
   | nil => exact absurd hl (zbo c s)
   | cons a t => rw [hl] at ih; simp [zgE] at ih ⊢; omega
theorem zjw (s : Str) (c : UInt8) (hs : s.length < 1000000000) : zfm s c = some (zi c s) := by
 unfold zfm
 have key : ∀ (n i k : Nat) (acc : List Str), k ≤ i → i ≤ s.length → acc.length ≤ i → s.length - i < n → zbq s c n acc (k : Int) (i : Int) = some (acc ++ zgE ((s.take i).drop k) (zi c (s.drop i))) := by
  intro n
  induction n with
  | zero => intro i k acc _ _ _ h; omega
  | succ n ih =>
   intro i k acc hk hi ha h
   rw [zbq]
   by_cases hlt : i < s.length
   ·have hx : s[i]? = some s[i] := List.getElem?_eq_getElem hlt
    have ht : (s.take (i + 1)).drop k = (s.take i).drop k ++ [s[i]] := by
     rw [List.take_succ_eq_append_getElem hlt, List.drop_append_of_le_length (by simp; omega)]
    simp only [Int.ofNat_lt, hlt, decide_true, if_true, zW, hx, Option.bind_some, zfl, zo (show i < 4611686018427387904 by omega), zeK hk hi]
    rw [List.drop_eq_getElem_cons hlt, zaH]
    by_cases he : s[i] = c
    ·simp only [he, beq_self_eq_true, if_true, zcl (n := acc.length) (m := 1) (b := 16) (by omega) (by omega)]
     rw [ih (i + 1) (i + 1) _ (by omega) (by omega) (by simp; omega) (by omega)]
     have e0 : (s.take (i + 1)).drop (i + 1) = [] := by simp
     rw [e0, zn3 _ (zbo _ _)]
     simp [zgE]
    ·have hb : (s[i] == c) = false := beq_eq_false_iff_ne.2 he
     simp only [hb, Bool.false_eq_true, if_false, he]
     rw [ih (i + 1) k _ (by omega) (by omega) (by omega) (by omega), ht, znu _ _ _ (zbo _ _)]
   ·have : i = s.length := by omega
    subst this
    simp only [Int.lt_irrefl, decide_false, Bool.false_eq_true, if_false, zab hk, Option.bind_some, zcl (n := acc.length) (m := 1) (b := 16) (by omega) (by omega), if_true]
    simp [zi, zgE]
 have := key fuel 0 0 [] (Nat.le_refl _) (Nat.zero_le _) (Nat.le_refl _) (by unfold fuel; omega)
 simp only [Int.natCast_zero, List.nil_append, List.take_zero, List.drop_nil, List.drop_zero] at this
 rw [this, zn3 _ (zbo _ _)]
end Go.Dm
end
section
namespace Go.Dm
theorem zzz {b : Nat} : ∀ {x : List Nat}, x ≠ [] → x.head? ≠ some 0 → b ^ (x.length - 1) ≤ za1 b x
 | [], h, _ => absurd rfl h
 | y :: t, _, h0 => by
  have hy : 1 ≤ y := by
   rcases Nat.eq_zero_or_pos y with e | e
   ·subst e; simp at h0
   ·exact e
  rw [zji, List.length_cons, Nat.add_sub_cancel]
  have := Nat.mul_le_mul_right (b ^ t.length) hy
  rw [Nat.one_mul] at this; omega
theorem zwl {k n : Nat} (hk : 1 ≤ k) (h64 : n < 2 ^ 64) (hn : n < 10 ^ k) : (digs 10 n).length ≤ k := by
 rcases zsN (b := 10) (by decide) n h64 with e | e
 ·subst e; rw [zeh (by decide)]; exact hk
 ·have h1 := zzz (b := 10) zti e
  rw [zuh (by decide) n h64] at h1
  rcases Nat.lt_or_ge k (digs 10 n).length with h | h
  ·have : 10 ^ k ≤ 10 ^ ((digs 10 n).length - 1) := Nat.pow_le_pow_right (by decide) (by omega)
   omega
  ·exact h
def zdF (s : Str) (most : Int) : Bool := (zR 10 s most).2 == 0 && zha 10 (zR 10 s most).1 == s
theorem zjH {b : Nat} {s : Str} {most : Int} (h : (zR b s most).2 = 0) (hm : most < 4611686018427387904) : 0 ≤ (zR b s most).1 ∧ (zR b s most).1 ≤ most ∧ inI (zR b s most).1 = true := by
 unfold zR at *
 split at h
 ·cases h
 ·rename_i h1
  rw [if_neg h1]
  split at h
  ·cases h
  ·rename_i h2
   rw [if_neg h2]
   refine ⟨by simp only; omega, by simp only; omega, by rw [zhe]; simp only; omega⟩
theorem zki (s : Str) (most : Int) (hs : s.length < 1000000000) (hm : most < 4611686018427387904) (hm0 : -4611686018427387904 < most) : zcQ s most = some (zdF s most) := by
 unfold zcQ zdF
 rw [zei s most hs hm hm0, Option.bind_some]
 by_cases h : (zR 10 s most).2 = 0
 ·have hi := (zjH h hm).2.2
  simp [h, ziZ _ hi, zch]
 ·simp [h, zch]
theorem zmM (s : Str) (most : Int) (hs : s.length < 1000000000) (hm : most < 100000) (hm0 : -4611686018427387904 < most) : zgW s most = some (if zdF s most then (zR 10 s most).1 else -1) := by
 unfold zgW
 have hR := zkw (b := 10) (.inl rfl) s most hs (by omega) hm0
 rw [show ((10 : Nat) : Int) = 10 from rfl] at hR
 by_cases hl : 5 < (s.length : Int)
 ·have : zdF s most = false := by
   rw [Bool.eq_false_iff]
   intro h
   unfold zdF at h
   simp only [Bool.and_eq_true, beq_iff_eq] at h
   obtain ⟨h1, h2⟩ := h
   obtain ⟨g1, g2, g3⟩ := zjH (b := 10) h1 (by omega)
   have hlen := congrArg List.length h2
   unfold zha at hlen
   rw [if_neg (by omega), zjj] at hlen
   have := zwl (k := 5) (n := (zR 10 s most).1.toNat) (by decide) (by omega) (by omega)
   omega
  simp [hl, this]
 ·simp only [hl, decide_false, Bool.false_eq_true, if_false, hR, Option.bind_some]
  unfold zdF
  by_cases h : (zR 10 s most).2 = 0
  ·have hi := (zjH h (by omega)).2.2
   have hT := zin (b := 10) (.inl rfl) _ hi
   rw [show ((10 : Nat) : Int) = 10 from rfl] at hT
   simp only [h, beq_self_eq_true, Bool.not_true, Bool.false_eq_true, if_false, hT, Option.bind_some, zd0, Bool.true_and]
   rcases zcD (zha 10 (zR 10 s most).1 == s) with h2 | h2 <;> rw [h2] <;> simp
  ·have h' : ((zR 10 s most).2 == 0) = false := beq_eq_false_iff_ne.2 h
   simp [h', zd0]
def zgI (s : Str) : Bool := (zi 46 s).all (fun x => zdF x 255) && decide (((zi 46 s).length : Int) = 4)
theorem zs4 {α β : Type} {f : α → Option β} {g : α → β} : ∀ {l : List α}, (∀ x ∈ l, f x = some (g x)) → l.mapM f = some (l.map g)
 | [], _ => rfl
 | x :: l, h => by
  rw [List.mapM_cons, h x (List.mem_cons_self ..), zs4 fun y hy => h y (List.mem_cons_of_mem _ hy)]; rfl
theorem zk3 (s : Str) (hs : s.length < 1000000000) : zeO s = some (zgI s) := by
 unfold zeO zgI
 rw [if_pos hs, zs4 (g := fun x => zdF x 255) fun x hx => zki x 255 (by have := (zdb hx).2.1; omega) (by decide) (by decide)]
 simp only [Option.bind_some, List.length_map, List.all_map]
 rfl
theorem znT (s : Str) (hs : s.length < 1000000000) : zie s = some (zgI s) := by
 unfold zie zgI
 rw [zjw s 46 hs, Option.bind_some]
 have hlen := zfb 46 s
 have hm := fun x (h : x ∈ zi 46 s) => (zdb h).2.1
 generalize zi 46 s = l at *
 rw [zjW l (zcK l) (fun x r => if zdF x 255 = true then r else some false) (some (decide ((l.length : Int) = 4))) (by omega)]
 ·exact znD _ _ _
 ·intro n; rw [zcK]; simp only [Int.lt_irrefl, decide_false, Bool.false_eq_true, if_false]
  rw [show ((l.length : Int) == 4) = decide ((l.length : Int) = 4) from rfl]
 ·intro n i x hi hx
  have hxl := hm x (List.mem_of_getElem? hx)
  rw [zcK]
  simp only [Int.ofNat_lt, hi, decide_true, if_true, zas, hx, Option.bind_some, zmM x 255 (by omega) (by decide) (by decide), zo (show i < 4611686018427387904 by omega)]
  rcases zcD (zdF x 255) with h | h
  ·have h2 : (zR 10 x 255).2 = 0 := by unfold zdF at h; simp at h; exact h.1
   have h3 := (zjH h2 (by decide)).1
   have h4 : ¬ (zR 10 x 255).1 < 0 := by omega
   rw [h]; simp [h4]
  ·rw [h]; simp
def zk4 : Str → Bool
 | [] => true
 | c :: s => if c == 37 then (match s with
  | a :: b :: r => zgc a && zgc b && zk4 r
  | _ => false) else (zkC c || zsk c) && zk4 s
theorem zs5 (s : Str) : zk4 (37 :: s) = (match s with | a :: b :: r => zgc a && zgc b && zk4 r | _ => false) := by
 rw [zk4.eq_def]
 match s with
 | [] => rfl
 | [_] => rfl
 | _ :: _ :: _ => rfl
theorem zs6 (c : UInt8) (s : Str) (h : (c == 37) = false) : zk4 (c :: s) = ((zkC c || zsk c) && zk4 s) := by
 rw [zk4.eq_def]; simp only [h, Bool.false_eq_true, if_false]
def zlG (s : Str) : Bool := !(s == []) && zk4 s
theorem zpG (s : Str) (hs : s.length < 1000000000) : zgi s = some (zlG s) := by
 unfold zgi zlG
 rcases zcD (s == []) with h0 | h0
 ·rw [h0]; simp
 rw [h0]
 simp only [Bool.false_eq_true, if_false, Bool.not_false, Bool.true_and]
 have key : ∀ (n : Nat) (s : Str), s.length < n → s.length < 1000000000 → zau n s = some (zk4 s) := by
  intro n
  induction n with
  | zero => intro s h; omega
  | succ n ih =>
   intro s h hs
   rw [zau]
   cases s with
   | nil => simp [zk4]
   | cons c s =>
    have h1 : ((c :: s == ([] : Str))) = false := rfl
    have e1 : za7 (c :: s) 1 = some s := by
     have := zab (l := c :: s) (i := 1) (by simp)
     simpa using this
    simp only [List.length_cons] at h hs
    simp only [h1, Bool.not_false, if_true, zfT, zjV, List.getElem?_cons_zero, Option.bind_some, zma, zq9, zdU, e1, ih s (by omega) (by omega), Bool.false_eq_true, if_false]
    rcases zcD (c == 37) with hc | hc
    ·have : c = 37 := by simpa using hc
     subst this
     have hu : zkC 37 = false := by decide
     have hb : zsk 37 = false := by decide
     rw [zs5]
     match s, h, hs with
     | [], _, _ => simp [hu, hb, zad]
     | [a], _, _ => simp [hu, hb, zad]
     | a :: b :: r, h, hs =>
      have h2 : (3 : Int) ≤ ((37 :: a :: b :: r : Str).length : Int) := by simp only [List.length_cons]; omega
      have e3 : za7 (37 :: a :: b :: r) 3 = some r := by
       have := zab (l := 37 :: a :: b :: r) (i := 3) (by simp)
       simpa using this
      have e2 : zg7 (37 :: a :: b :: r) 1 3 = some [a, b] := by
       have := zeK (l := 37 :: a :: b :: r) (i := 1) (h := 3) (by decide) (by simp)
       simpa using this
      simp only [List.length_cons] at h hs
      simp only [h2, decide_true, if_true, beq_self_eq_true, e2, Option.bind_some, zdu zjB [a, b] (by simp), zad, e3, ih r (by omega) (by omega), hu, hb, Bool.false_eq_true, if_false]
      cases ha : zgc a <;> cases hb : zgc b <;> simp [ha, hb]
    ·rw [zs6 c s hc, hc]
     simp only [Bool.false_eq_true, if_false, zad]
     have : (if (decide ((3 : Int) ≤ ((c :: s).length : Int))) = true then some false else some false) = some false := by split <;> rfl
     rw [this]
     simp only [Option.bind_some, Bool.false_eq_true, if_false]
     cases hp : zkC c <;> cases hq : zsk c <;> simp
 exact key fuel s (zt8 (by omega)) hs
theorem zpH (rec1 : Int → Option Bool) (i : Nat) (t : Bool) (hi : i < 4000000000) : zbW rec1 (i : Int) t = if t = true then some false else rec1 ((i + 3 : Nat) : Int) := by
 unfold zbW zeR
 have i2 : zx (i : Int) 2 = some ((i + 2 : Nat) : Int) := by rw [zdP (by omega) (by omega)]; simp
 have i3 : zx ((i + 2 : Nat) : Int) 1 = some ((i + 3 : Nat) : Int) := zo (i := i + 2) (by omega)
 rw [i2, Option.bind_some, i3, Option.bind_some]
theorem zsB (s : Str) (hs : s.length < 1000000000) : zjM s = some (zlG s) := by
 unfold zjM zlG
 have key : ∀ (n i : Nat), i ≤ s.length → s.length - i < n → z8 s n (i : Int) = some (zk4 (s.drop i) && !(s == [])) := by
  intro n
  induction n with
  | zero => intro i _ h; omega
  | succ n ih =>
   intro i hi h
   rw [z8]
   cases hd : s.drop i with
   | nil =>
    have : i = s.length := by have := congrArg List.length hd; simp at this; omega
    subst this
    simp only [Int.lt_irrefl, decide_false, Bool.false_eq_true, if_false, zk4, Bool.true_and]
    cases s <;> simp
   | cons c t =>
    have hlt : i < s.length := by have := congrArg List.length hd; simp at this; omega
    have hx : s[i]? = some c := by have := congrArg (·[0]?) hd; simpa using this
    have ht : s.drop (i + 1) = t := by rw [← List.drop_drop, hd]; rfl
    have htl : t.length = s.length - (i + 1) := by rw [← ht]; simp
    have i2 : zx (i : Int) 2 = some ((i + 2 : Nat) : Int) := by rw [zdP (by omega) (by omega)]; simp
    simp only [Int.ofNat_lt, hlt, decide_true, if_true, zW, hx, Option.bind_some, zo (show i < 4611686018427387904 by omega), i2]
    rcases zcD (c == 37) with hc | hc
    ·have : c = 37 := by simpa using hc
     subst this
     rw [zs5]
     match t, ht, htl with
     | [], ht, htl =>
      have : (s.length : Int) ≤ ((i + 2 : Nat) : Int) := by simp at htl; omega
      simp only [beq_self_eq_true, if_true, this, decide_true, zbW, Bool.false_and]
     | [a], ht, htl =>
      have : (s.length : Int) ≤ ((i + 2 : Nat) : Int) := by simp at htl; omega
      simp only [beq_self_eq_true, if_true, this, decide_true, zbW, Bool.false_and]
     | a :: b :: r, ht, htl =>
      have hlt2 : ¬ (s.length : Int) ≤ ((i + 2 : Nat) : Int) := by simp at htl; omega
      have ha : s[i + 1]? = some a := by have := congrArg (·[0]?) ht; simpa using this
      have hb : s[i + 2]? = some b := by have := congrArg (·[1]?) ht; simpa using this
      have hr : s.drop (i + 3) = r := by
       have : (s.drop (i + 1)).drop 2 = r := by rw [ht]; rfl
       rwa [List.drop_drop] at this
      have hi3 : i + 3 ≤ s.length := by simp at htl; omega
      have hih := ih (i + 3) hi3 (by omega)
      rw [hr] at hih
      have hj := zpH (z8 s n) i
      simp only [beq_self_eq_true, if_true, hlt2, decide_false, Bool.false_eq_true, if_false, zW, ha, hb, Option.bind_some, zlt, hj _ (by omega), hih]
      cases zgc a <;> cases zgc b <;> simp
    ·rw [zs6 c t hc, hc]
     have hih := ih (i + 1) (by omega) (by omega)
     rw [ht] at hih
     simp only [Bool.false_eq_true, if_false, znn, ztx, Option.bind_some, zgp, zeR, zo (show i < 4611686018427387904 by omega), hih]
     cases zkC c <;> cases zsk c <;> simp
 have := key fuel 0 (Nat.zero_le _) (by unfold fuel; omega)
 simp only [Int.natCast_zero, List.drop_zero] at this
 rw [this, Bool.and_comm]
def under (a b : Str) : Bool := zlG a && zlG b && !zgI a && !zgI b && (low a == low b || ((46 :: low b) : Str).isSuffixOf (low a))
end Go.Dm
end
section
namespace Go.Dm
def zc1 (t : Str) : Str → Option (Str × Str)
 | [] => none
 | x :: s => if t.isPrefixOf (x :: s) then some ([], (x :: s).drop t.length) else (zc1 t s).map fun p => (x :: p.1, p.2)
theorem zfM {t : Str} : ∀ {s a b : Str}, zc1 t s = some (a, b) → s = a ++ t ++ b
 | [], _, _, h => by cases h
 | x :: s, a, b, h => by
  rw [zc1] at h
  split at h
  ·rename_i hp
   obtain ⟨r, hr⟩ := List.isPrefixOf_iff_prefix.1 hp
   simp only [Option.some.injEq, Prod.mk.injEq] at h
   obtain ⟨rfl, rfl⟩ := h
   rw [← hr]; simp
  ·cases hc : zc1 t s with
   | none => rw [hc] at h; cases h
   | some p =>
    rw [hc] at h
    simp only [Option.map_some, Option.some.injEq, Prod.mk.injEq] at h
    obtain ⟨rfl, rfl⟩ := h
    have := zfM (a := p.1) (b := p.2) hc
    rw [List.cons_append, List.cons_append, ← this]
theorem ztc {t : Str} (ht : t ≠ []) : ∀ s : Str, Go.Lib.index s t = match zc1 t s with | none => -1 | some p => (p.1.length : Int)
 | [] => by
  cases t with
  | nil => exact absurd rfl ht
  | cons y t => rfl
 | x :: s => by
  rw [Go.Lib.index, zc1, ztc ht s]
  cases t.isPrefixOf (x :: s) with
  | true => rfl
  | false =>
   cases zc1 t s with
   | none => rfl
   | some p =>
    simp only [Bool.false_eq_true, if_false, Option.map_some, List.length_cons]
    have : ((p.1.length : Int) == -1) = false := beq_eq_false_iff_ne.2 (by omega)
    rw [this]
    simp
theorem zm7 (s t : Str) (hs : s.length < 1000000000) (ht : t ≠ []) : strings_Cut s t = some (match zc1 t s with | none => (s, [], false) | some p => (p.1, p.2, true)) := by
 unfold strings_Cut Go.Lib.cut
 rw [if_pos (by omega), ztc ht]
 congr 1
 cases hc : zc1 t s with
 | none => rfl
 | some p =>
  have e := zfM (a := p.1) (b := p.2) hc
  have h0 : (0 : Int) ≤ (p.1.length : Int) := by omega
  simp only [h0, if_true, Int.toNat_natCast]
  have e1 : s.take p.1.length = p.1 := by rw [e, List.append_assoc, List.take_left']; rfl
  have e2 : s.drop (p.1.length + t.length) = p.2 := by rw [e, List.drop_left']; simp
  rw [e1, e2]
def grp (x : Str) : Bool := decide (1 ≤ x.length) && decide (x.length ≤ 4) && x.all zgc
def zL (last : Bool) : List Str → Option Nat
 | [] => some 0
 | [x] => if last && zgI x then some 2 else if grp x then some 1 else none
 | x :: y :: l => if grp x then (zL last (y :: l)).map (· + 1) else none
theorem zop (last : Bool) : ∀ (l m : List Str), m ≠ [] → zL last (l ++ m) = (zL false l).bind fun a => (zL last m).map (· + a)
 | [], m, _ => by simp [zL]
 | [x], m, hm => by
  cases m with
  | nil => exact absurd rfl hm
  | cons y m =>
   show zL last (x :: y :: m) = _
   rw [zL, zL]
   cases grp x <;> simp
 | x :: y :: l, m, hm => by
  show zL last (x :: y :: (l ++ m)) = _
  have ih := zop last (y :: l) m hm
  rw [zL, zL]
  rw [List.cons_append] at ih
  rw [ih]
  cases grp x with
  | false => rfl
  | true =>
   simp only [if_true]
   cases zL false (y :: l) with
   | none => rfl
   | some a =>
    cases zL last m with
    | none => rfl
    | some b => simp; omega
def zr6 (a : Nat) : Option Nat → Int
 | none => -1
 | some k => ((a + k : Nat) : Int)
theorem zpb (rec1 : Int → Int → Option Int) (a i : Nat) (hi : i < 4000000000) : zbN rec1 (i : Int) (a : Int) = rec1 (a : Int) ((i + 1 : Nat) : Int) := by
 unfold zbN; rw [zo (by omega), Option.bind_some]
theorem zpc (rec1 : Int → Int → Option Int) (a i : Nat) (t : Bool) (hi : i < 4000000000) (ha : a < 4000000000) : za5 rec1 (a : Int) (i : Int) t = if t = true then rec1 ((a + 1 : Nat) : Int) ((i + 1 : Nat) : Int) else some (-1) := by
 unfold za5
 rw [zo (by omega), Option.bind_some, zpb rec1 (a + 1) i hi]
theorem zud (rec1 : Int → Int → Option Int) (a i : Nat) (x : Str) (t : Bool) (hi : i < 4000000000) (ha : a < 4000000000) (hx : x.length < 1000000000) :
  za6 rec1 (a : Int) (i : Int) x t = if t = true then rec1 ((a + 2 : Nat) : Int) ((i + 1 : Nat) : Int) else if grp x = true then rec1 ((a + 1 : Nat) : Int) ((i + 1 : Nat) : Int) else some (-1) := by
 unfold za6 grp
 have i2 : zx (a : Int) 2 = some ((a + 2 : Nat) : Int) := by rw [zdP (by omega) (by omega)]; simp
 have e1 : decide ((1 : Int) ≤ (x.length : Int)) = decide (1 ≤ x.length) := decide_eq_decide.2 (by omega)
 have e2 : decide ((x.length : Int) ≤ 4) = decide (x.length ≤ 4) := decide_eq_decide.2 (by omega)
 rw [i2, Option.bind_some, zpb rec1 (a + 2) i hi, zdu zjB x hx, Option.bind_some, zpc rec1 a i _ hi ha, zpc rec1 a i _ hi ha, e1, e2]
 generalize rec1 _ _ = r1
 generalize rec1 _ _ = r2
 generalize decide (1 ≤ x.length) = d1
 generalize decide (x.length ≤ 4) = d2
 generalize x.all zgc = d3
 cases t <;> cases d1 <;> cases d2 <;> cases d3 <;> rfl
theorem zlL (last : Bool) (x : Str) : zL last [x] = if last && zgI x then some 2 else if grp x then some 1 else none := rfl
theorem zkv (last : Bool) (x y : Str) (l : List Str) : zL last (x :: y :: l) = if grp x then (zL last (y :: l)).map (· + 1) else none := rfl
theorem zxM (a : Nat) (o : Option Nat) : zr6 a (o.map (· + 1)) = zr6 (a + 1) o := by
 cases o with
 | none => rfl
 | some k => simp only [Option.map_some, zr6]; congr 1; omega
theorem zlM (last : Bool) (l : List Str) (hl : l.length < 1000000000) (hx : ∀ x ∈ l, x.length < 1000000000) : ∀ (n i a : Nat), i ≤ l.length → l.length - i < n → a ≤ 2 * i → zI last l n (a : Int) (i : Int) = some (zr6 a (zL last (l.drop i)))
 | 0, _, _, _, h, _ => by omega
 | n + 1, i, a, hi, h, ha => by
  rw [zI]
  cases hd : l.drop i with
  | nil =>
   have : i = l.length := by have := congrArg List.length hd; simp at this; omega
   subst this
   simp [zL, zr6]
  | cons x t =>
   have hlt : i < l.length := by have := congrArg List.length hd; simp at this; omega
   have hxx : l[i]? = some x := by have := congrArg (·[0]?) hd; simpa using this
   have ht : l.drop (i + 1) = t := by rw [← List.drop_drop, hd]; rfl
   have htl : t.length = l.length - (i + 1) := by rw [← ht]; simp
   have hxl := hx x (List.mem_of_getElem? hxx)
   have hsub : zdC (l.length : Int) 1 = some ((l.length - 1 : Nat) : Int) := by rw [zc3 (by omega) (by omega)]; congr 1; omega
   have ih1 := zlM last l hl hx n (i + 1) (a + 1) (by omega) (by omega) (by omega)
   have ih2 := zlM last l hl hx n (i + 1) (a + 2) (by omega) (by omega) (by omega)
   rw [ht] at ih1 ih2
   have j2 := fun t => zud (zI last l n) a i x t (by omega) (by omega) hxl
   simp only [Int.ofNat_lt, hlt, decide_true, if_true, zas, hxx, Option.bind_some, hsub, zk3 x hxl, j2, ih1, ih2]
   cases t with
   | nil =>
    have hei : ((i : Int) == ((l.length - 1 : Nat) : Int)) = true := by simp at htl; simp; omega
    rw [hei, zlL]
    have en : ∀ b, zL b [] = some 0 := fun _ => rfl
    rw [en]
    cases last <;> cases zgI x <;> cases grp x <;> rfl
   | cons y t =>
    have hei : ((i : Int) == ((l.length - 1 : Nat) : Int)) = false := by simp at htl; simp; omega
    rw [hei, zkv]
    have := zxM a (zL last (y :: t))
    have hn : zr6 a none = -1 := rfl
    cases last <;> cases grp x <;> simp only [if_true, Bool.false_eq_true, if_false, this, hn]
def za0 (s : Str) : List Str := if s = [] then [] else zi 58 s
theorem zpW (s : Str) (last : Bool) (hs : s.length < 900000000) : zcm s last = some (zr6 0 (zL last (za0 s))) := by
 unfold zcm za0
 by_cases h0 : s = []
 ·subst h0; rfl
 ·have h1 : (s == []) = false := beq_eq_false_iff_ne.2 h0
  rw [h1, if_neg h0]
  have hl := zfb 58 s
  simp only [Bool.false_eq_true, if_false, zps s 58 (by omega), Option.bind_some]
  have := zlM last (zi 58 s) (by omega) (fun x hx => by have := (zdb hx).2.1; omega) fuel 0 0 (by omega) (by unfold fuel; omega) (by omega)
  simpa using this
theorem ztd (last : Bool) : ∀ (l : List Str) (k : Nat), zL last l = some k → k ≤ l.length + 1
 | [], k, h => by cases h; omega
 | [x], k, h => by
  rw [zlL] at h
  split at h
  ·cases h; simp
  ·split at h
   ·cases h; simp
   ·cases h
 | x :: y :: l, k, h => by
  rw [zkv] at h
  split at h
  ·obtain ⟨j, hj, rfl⟩ := Option.map_eq_some_iff.1 h
   have := ztd last (y :: l) j hj
   simp only [List.length_cons] at this ⊢
   omega
  ·cases h
theorem zpd (s : Str) (last : Bool) (hs : s.length < 900000000) (k : Nat) (h : zL last (za0 s) = some k) : k < 1000000000 := by
 have h1 := ztd last _ k h
 have h2 := zfb 58 s
 unfold za0 at h1
 split at h1
 ·simp at h1; omega
 ·omega
def zhJ (s : Str) : Bool := zL true (zi 58 s) == some 8
def zte (s : Str) : Bool := match zc1 [58, 58] s with
 | none => zhJ s
 | some p => match zL false (za0 p.1), zL true (za0 p.2) with
  | some a, some b => decide (a + b ≤ 7)
  | _, _ => false
theorem Six_eq (s : Str) (hs : s.length < 900000000) : zfS s = some (zte s) := by
 unfold zfS zte
 rw [zm7 s [58, 58] (by omega) (by simp), Option.bind_some]
 cases hc : zc1 [58, 58] s with
 | none =>
  simp only [Bool.not_false, if_true, zpW s true hs, Option.bind_some, zhJ]
  unfold za0
  split
  ·rename_i h; subst h; rfl
  ·cases zL true (zi 58 s) with
   | none => rfl
   | some k =>
    simp only [zr6, Nat.zero_add, Option.some.injEq]
    by_cases h : k = 8
    ·subst h; rfl
    ·have h1 : ((k : Int) == 8) = false := beq_eq_false_iff_ne.2 (by omega)
     rw [h1]; simp [h]
 | some p =>
  have e := congrArg List.length (zfM (a := p.1) (b := p.2) hc)
  simp only [List.length_append] at e
  simp only [Bool.not_true, Bool.false_eq_true, if_false, zpW p.1 false (by omega), zpW p.2 true (by omega), Option.bind_some]
  cases ha : zL false (za0 p.1) with
  | none => simp [zr6, zbA]
  | some a =>
   cases hb : zL true (za0 p.2) with
   | none => simp [zr6, zbA]
   | some b =>
    have hb' := (zpd p.1 false (by omega) a ha)
    have hb2 := (zpd p.2 true (by omega) b hb)
    simp only [zr6, Nat.zero_add]
    have e0 : decide ((0 : Int) ≤ (a : Int)) = true := by simp
    have e1 : decide ((0 : Int) ≤ (b : Int)) = true := by simp
    rw [e0, e1, if_pos rfl, if_pos rfl, zzH (by omega), Option.bind_some]
    unfold zbA
    congr 1
    exact decide_eq_decide.2 (by omega)
theorem zvG (rec1 : Int → Int → Option Bool) (l : List Str) (a i : Nat) (x : Str) (hx : l[i]? = some x) (hxl : x.length < 1000000000) (hi : i < 2000000000) (ha : a < 4000000000) :
  zb7 rec1 l (a : Int) (i : Int) fuel 0 = if grp x = true then rec1 ((a + 1 : Nat) : Int) ((i + 1 : Nat) : Int) else some false := by
 have key : ∀ (n j : Nat), j ≤ x.length → x.length - j < n → zb7 rec1 l (a : Int) (i : Int) n (j : Int) = if (x.drop j).all zgc = true then (if (decide (1 ≤ x.length) && decide (x.length ≤ 4)) = true then rec1 ((a + 1 : Nat) : Int) ((i + 1 : Nat) : Int) else some false) else some false := by
  intro n
  induction n with
  | zero => intro j _ h; omega
  | succ n ih =>
   intro j hj h
   rw [zb7]
   rw [zas, hx]
   simp only [Option.bind_some]
   by_cases hlt : j < x.length
   ·have e : decide ((j : Int) < (x.length : Int)) = true := decide_eq_true (by omega)
    have hc : x[j]? = some x[j] := List.getElem?_eq_getElem hlt
    rw [e, if_pos rfl, zW, hc, Option.bind_some, zlt, Option.bind_some, zo (by omega), Option.bind_some, ih (j + 1) (by omega) (by omega), List.drop_eq_getElem_cons hlt, List.all_cons]
    cases zgc x[j] <;> rfl
   ·have hjl : j = x.length := by omega
    subst hjl
    have e : decide ((x.length : Int) < (x.length : Int)) = false := decide_eq_false (by omega)
    have e1 : decide ((x.length : Int) < 1) = !decide (1 ≤ x.length) := by rw [← decide_not]; exact decide_eq_decide.2 (by omega)
    have e2 : decide (4 < (x.length : Int)) = !decide (x.length ≤ 4) := by rw [← decide_not]; exact decide_eq_decide.2 (by omega)
    rw [e, if_neg (by decide), List.drop_length, e1, e2]
    unfold zfs zd1
    rw [zo (by omega), Option.bind_some, zo (by omega), Option.bind_some]
    generalize rec1 _ _ = r1
    generalize decide (1 ≤ x.length) = d1
    generalize decide (x.length ≤ 4) = d2
    cases d1 <;> cases d2 <;> rfl
 have := key fuel 0 (Nat.zero_le _) (by unfold fuel; omega)
 rw [show (0 : Int) = ((0 : Nat) : Int) from rfl, this, List.drop_zero]
 unfold grp
 generalize rec1 _ _ = r1
 generalize decide (1 ≤ x.length) = d1
 generalize decide (x.length ≤ 4) = d2
 generalize x.all zgc = d3
 cases d1 <;> cases d2 <;> cases d3 <;> rfl
def isW (a : Nat) : Option Nat → Bool
 | none => false
 | some k => a + k == 8
theorem zzN (a : Nat) (o : Option Nat) : isW a (o.map (· + 1)) = isW (a + 1) o := by
 cases o with
 | none => rfl
 | some k => simp only [Option.map_some, isW]; congr 1; omega
theorem zm8 (l : List Str) (hl : l.length < 1000000000) (hx : ∀ x ∈ l, x.length < 1000000000) : ∀ (n i a : Nat), i ≤ l.length → l.length - i < n → a ≤ 2 * i → zaf l n (a : Int) (i : Int) = some (isW a (zL true (l.drop i)))
 | 0, _, _, _, h, _ => by omega
 | n + 1, i, a, hi, h, ha => by
  rw [zaf]
  cases hd : l.drop i with
  | nil =>
   have : i = l.length := by have := congrArg List.length hd; simp at this; omega
   subst this
   have e : decide ((l.length : Int) < (l.length : Int)) = false := decide_eq_false (by omega)
   rw [e, if_neg (by decide)]
   show some ((a : Int) == 8) = some (a + 0 == 8)
   congr 1
   by_cases h8 : a = 8
   ·subst h8; rfl
   ·rw [beq_eq_false_iff_ne.2 (show (a : Int) ≠ 8 by omega), beq_eq_false_iff_ne.2 (show a + 0 ≠ 8 by omega)]
  | cons x t =>
   have hlt : i < l.length := by have := congrArg List.length hd; simp at this; omega
   have hxx : l[i]? = some x := by have := congrArg (·[0]?) hd; simpa using this
   have ht : l.drop (i + 1) = t := by rw [← List.drop_drop, hd]; rfl
   have htl : t.length = l.length - (i + 1) := by rw [← ht]; simp
   have hxl := hx x (List.mem_of_getElem? hxx)
   have hsub : zdC (l.length : Int) 1 = some ((l.length - 1 : Nat) : Int) := by rw [zc3 (by omega) (by omega)]; congr 1; omega
   have ih1 := zm8 l hl hx n (i + 1) (a + 1) (by omega) (by omega) (by omega)
   have ih2 := zm8 l hl hx n (i + 1) (a + 2) (by omega) (by omega) (by omega)
   rw [ht] at ih1 ih2
   have e : decide ((i : Int) < (l.length : Int)) = true := decide_eq_true (by omega)
   have i2 : zx (a : Int) 2 = some ((a + 2 : Nat) : Int) := by rw [zdP (by omega) (by omega)]; simp
   have j2 : ∀ t, zd2 (zaf l n) l (a : Int) (i : Int) t = if t = true then some (isW (a + 2) (zL true (l.drop (i + 1)))) else if grp x = true then some (isW (a + 1) (zL true (l.drop (i + 1)))) else some false := by
    intro t
    unfold zd2 zd1
    rw [i2, Option.bind_some, zo (by omega), Option.bind_some, zvG _ l a i x hxx hxl (by omega) (by omega), ht, ih1, ih2]
   rw [e, if_pos rfl, hsub, Option.bind_some, zas, hxx, Option.bind_some, znT x hxl, Option.bind_some, j2, j2, ht]
   cases t with
   | nil =>
    have hei : ((i : Int) == ((l.length - 1 : Nat) : Int)) = true := by simp at htl; simp; omega
    rw [hei, zlL]
    have en : ∀ b, zL b [] = some 0 := fun _ => rfl
    rw [en]
    cases zgI x <;> cases grp x <;> rfl
   | cons y t =>
    have hei : ((i : Int) == ((l.length - 1 : Nat) : Int)) = false := by simp at htl; simp; omega
    rw [hei, zkv]
    have := zzN a (zL true (y :: t))
    have hn : isW a none = false := rfl
    cases grp x <;> simp only [if_true, Bool.false_eq_true, if_false, this, hn]
theorem zvH (s : Str) (hs : s.length < 900000000) : zgX s = some (zhJ s) := by
 unfold zgX zhJ
 have hl := zfb 58 s
 rw [zjw s 58 (by omega), Option.bind_some]
 have := zm8 (zi 58 s) (by omega) (fun x hx => by have := (zdb hx).2.1; omega) fuel 0 0 (by omega) (by unfold fuel; omega) (by omega)
 rw [List.drop_zero] at this
 rw [show (0 : Int) = ((0 : Nat) : Int) from rfl, this]
 congr 1
 cases zL true (zi 58 s) with
 | none => rfl
 | some k => simp only [isW, Nat.zero_add]; exact (Option.some_beq_some ..).symm
def zr7 : Nat → Str → Str
 | 0, s => s
 | k + 1, s => zr7 k (if s = [] then [48] else s ++ [58, 48])
def zvI (s b : Str) : Str := if b = [] then s else s ++ 58 :: b
theorem zwz (p : Str) (l m : List Str) (h : l ≠ []) : zgE p (l ++ m) = zgE p l ++ m := by
 cases l with
 | nil => exact absurd rfl h
 | cons x l => rfl
theorem zm9 (c : UInt8) : ∀ x y : Str, zi c (x ++ c :: y) = zi c x ++ zi c y
 | [], y => by rw [List.nil_append, zaH, if_pos rfl]; rfl
 | z :: x, y => by
  rw [List.cons_append, zaH, zaH, zm9 c x y]
  split
  ·rfl
  ·rw [zwz _ _ _ (zbo c x)]
theorem zlN : ∀ (k : Nat) (s : Str), s ≠ [] → zi 58 (zr7 k s) = zi 58 s ++ List.replicate k [48]
 | 0, s, _ => by simp [zr7]
 | k + 1, s, h => by
  rw [zr7, if_neg h, zlN k _ (by simp), show s ++ [58, 48] = s ++ (58 : UInt8) :: [48] from rfl, zm9, List.append_assoc]
  rfl
theorem zr8 (k : Nat) (s : Str) : zi 58 (zr7 (k + 1) s) = za0 s ++ List.replicate (k + 1) [48] := by
 unfold za0
 split
 ·rename_i h
  subst h
  rw [zr7, if_pos rfl, zlN k _ (by simp)]
  rfl
 ·rename_i h
  rw [zlN _ _ h]
theorem zxN : zgI [48] = false := by simp [zgI, zi]
theorem zvJ : grp [48] = true := by decide
theorem zna (last : Bool) : ∀ k : Nat, zL last (List.replicate (k + 1) [48]) = some (k + 1)
 | 0 => by rw [show List.replicate (0 + 1) ([48] : Str) = [[48]] from rfl, zlL, zxN, zvJ]; cases last <;> rfl
 | k + 1 => by
  have ih := zna last k
  rw [List.replicate_succ] at ih
  rw [List.replicate_succ, List.replicate_succ, zkv, zvJ, ih]
  rfl
def zpe (k : Nat) (a b : Str) : Bool := match zL false (za0 a), zL true (za0 b) with
 | some x, some y => decide (x + y + k ≤ 8)
 | _, _ => false
def sixE (k : Nat) (a b : Str) : Bool := match zL false (za0 a), zL true (za0 b) with
 | some x, some y => x + y + k == 8
 | _, _ => false
theorem zwA (k : Nat) (a b : Str) : zhJ (zvI (zr7 (k + 1) a) b) = sixE (k + 1) a b := by
 unfold zhJ sixE
 have e : zi 58 (zvI (zr7 (k + 1) a) b) = za0 a ++ (List.replicate (k + 1) [48] ++ za0 b) := by
  unfold zvI
  split
  ·rename_i h; subst h; rw [zr8]; simp [za0]
  ·rename_i h
   rw [zm9, zr8, List.append_assoc]
   congr 2
   unfold za0; rw [if_neg h]
 rw [e, zop _ _ _ (by simp [List.replicate_succ])]
 have e2 : zL true (List.replicate (k + 1) [48] ++ za0 b) = (zL true (za0 b)).map (· + (k + 1)) := by
  by_cases hb : za0 b = []
  ·rw [hb, List.append_nil, zna]
   simp [zL]
  ·rw [zop _ _ _ hb, zna]; rfl
 rw [e2]
 cases zL false (za0 a) with
 | none => rfl
 | some x =>
  cases zL true (za0 b) with
  | none => rfl
  | some y =>
   simp only [Option.bind_some, Option.map_some]
   have : y + (k + 1) + x = x + y + (k + 1) := by omega
   rw [this]
   exact Option.some_beq_some ..
theorem ztf (rec3 : Int → Option Bool) (k : Nat) (t : Str) (ht : t.length < 900000000) (hk : k < 100) : zfX rec3 (k : Int) t = if zhJ t = true then some true else rec3 ((k + 1 : Nat) : Int) := by
 unfold zfX
 rw [zvH t ht, Option.bind_some, zo (by omega), Option.bind_some]
theorem zpX (rec3 : Int → Option Bool) (s b : Str) (i k : Nat) (hi : i + 2 ≤ s.length) (hs : s.length < 400000000) (hb : s.drop (i + 2) = b) (hk : k < 100) : ∀ (n j : Nat) (t : Str), j ≤ k → k - j < n → t.length ≤ s.length + 2 * j →
  zcx rec3 s (i : Int) (k : Int) n t (j : Int) = if zhJ (zvI (zr7 (k - j) t) b) = true then some true else rec3 ((k + 1 : Nat) : Int)
 | 0, _, _, _, h, _ => by omega
 | n + 1, j, t, hj, h, ht => by
  rw [zcx]
  by_cases hlt : j < k
  ·have e : decide ((j : Int) < (k : Int)) = true := decide_eq_true (by omega)
   have hkj : k - j = (k - (j + 1)) + 1 := by omega
   rw [e, if_pos rfl, hkj, zr7]
   unfold zhv
   rw [zo (by omega)]
   simp only [Option.bind_some]
   by_cases h0 : t = []
   ·subst h0
    have hn : (!(([] : Str) == [])) = false := rfl
    have := zpX rec3 s b i k hi hs hb hk n (j + 1) [48] (by omega) (by omega) (by simp; omega)
    rw [hn, if_neg (by decide), zD (by simp), Option.bind_some, if_pos rfl]
    exact this
   ·have hn : (!(t == [])) = true := by simp [h0]
    have := zpX rec3 s b i k hi hs hb hk n (j + 1) (t ++ [58, 48]) (by omega) (by omega) (by simp; omega)
    rw [hn, if_pos rfl, zD (by simp; omega), Option.bind_some, zD (by simp; omega), Option.bind_some, if_neg h0, List.append_assoc]
    exact this
  ·have hjk : j = k := by omega
   subst hjk
   have e : decide ((j : Int) < (j : Int)) = false := decide_eq_false (by omega)
   have i2 : zx (i : Int) 2 = some ((i + 2 : Nat) : Int) := by rw [zdP (by omega) (by omega)]; simp
   have hbl : b.length ≤ s.length := by rw [← hb]; simp
   rw [e, if_neg (by decide), Nat.sub_self, zr7, i2, Option.bind_some, zab hi, Option.bind_some, hb]
   unfold zvI
   by_cases h0 : b = []
   ·subst h0
    have hn : (!(([] : Str) == [])) = false := rfl
    rw [hn, if_neg (by decide), if_pos rfl, ztf rec3 j t (by omega) hk]
   ·have hn : (!(b == [])) = true := by simp [h0]
    rw [hn, if_pos rfl, zD (by simp; omega), Option.bind_some, Option.bind_some, zab hi, Option.bind_some, hb, zD (by simp; omega), Option.bind_some, if_neg h0, List.append_assoc]
    exact ztf rec3 j (t ++ 58 :: b) (by simp; omega) hk
theorem zzP (k : Nat) (a b : Str) : zpe k a b = (sixE k a b || zpe (k + 1) a b) := by
 unfold zpe sixE
 cases zL false (za0 a) with
 | none => rfl
 | some x =>
  cases zL true (za0 b) with
  | none => rfl
  | some y =>
   show decide (x + y + k ≤ 8) = (x + y + k == 8 || decide (x + y + (k + 1) ≤ 8))
   rw [Bool.eq_iff_iff]
   simp only [decide_eq_true_eq, Bool.or_eq_true, beq_iff_eq]
   omega
theorem ztg (s b : Str) (i : Nat) (hi : i + 2 ≤ s.length) (hs : s.length < 400000000) (hb : s.drop (i + 2) = b) : ∀ (n k : Nat), k ≤ 8 → 8 - k + 1 < n → za2 s (i : Int) n ((k + 1 : Nat) : Int) = some (zpe (k + 1) (s.take i) b)
 | 0, _, _, h => by omega
 | n + 1, k, hk, h => by
  rw [za2]
  by_cases hlt : k < 8
  ·have e : decide (((k + 1 : Nat) : Int) ≤ 8) = true := decide_eq_true (by omega)
   have ih := ztg s b i hi hs hb n (k + 1) (by omega) (by omega)
   rw [e, if_pos rfl, zf5 (by omega), Option.bind_some]
   have := zpX (za2 s (i : Int) n) s b i (k + 1) hi hs hb (by omega) fuel 0 (s.take i) (by omega) (by unfold fuel; omega) (by simp; omega)
   rw [Nat.sub_zero] at this
   rw [show (0 : Int) = ((0 : Nat) : Int) from rfl, this, ih, zwA, zzP (k + 1)]
   cases sixE (k + 1) (s.take i) b <;> rfl
  ·have : k = 8 := by omega
   subst this
   have e : decide (((8 + 1 : Nat) : Int) ≤ 8) = false := by decide
   rw [e, if_neg (by decide)]
   congr 1
   unfold zpe
   cases zL false (za0 (s.take i)) with
   | none => rfl
   | some x =>
    cases zL true (za0 b) with
    | none => rfl
    | some y => exact (decide_eq_false (by omega)).symm
theorem zAK (a b : Str) : zpe 1 a b = (match zL false (za0 a), zL true (za0 b) with | some a, some b => decide (a + b ≤ 7) | _, _ => false) := by
 unfold zpe
 cases zL false (za0 a) with
 | none => rfl
 | some x =>
  cases zL true (za0 b) with
  | none => rfl
  | some y => exact decide_eq_decide.2 (by omega)
theorem zue (s : Str) (hs : s.length < 400000000) : zjq s = some (zte s) := by
 unfold zjq
 have key : ∀ (n i : Nat), i ≤ s.length → s.length - i < n → zcy s n (i : Int) = some (match zc1 [58, 58] (s.drop i) with | none => zhJ s | some p => zpe 1 (s.take (i + p.1.length)) p.2) := by
  intro n
  induction n with
  | zero => intro i _ h; omega
  | succ n ih =>
   intro i hi h
   rw [zcy, zo (by omega), Option.bind_some]
   by_cases hlt : i + 1 < s.length
   ·have e : decide (((i + 1 : Nat) : Int) < (s.length : Int)) = true := decide_eq_true (by omega)
    have hd : s.drop i = s[i] :: s[i + 1] :: s.drop (i + 2) := by rw [List.drop_eq_getElem_cons (by omega), List.drop_eq_getElem_cons hlt]
    have hd1 : s.drop (i + 1) = s[i + 1] :: s.drop (i + 2) := List.drop_eq_getElem_cons hlt
    have g0 : s[i]? = some s[i] := List.getElem?_eq_getElem (by omega)
    have g1 : s[i + 1]? = some s[i + 1] := List.getElem?_eq_getElem hlt
    have ih1 := ih (i + 1) (by omega) (by omega)
    have hL3 := ztg s (s.drop (i + 2)) i (by omega) hs rfl fuel 0 (by omega) (by unfold fuel; omega)
    have next : (match zc1 [58, 58] (s[i] :: s.drop (i + 1)) with | none => zhJ s | some p => zpe 1 (s.take (i + p.1.length)) p.2) = if ([58, 58] : Str).isPrefixOf (s[i] :: s.drop (i + 1)) = true then zpe 1 (s.take i) (s.drop (i + 2)) else (match zc1 [58, 58] (s.drop (i + 1)) with | none => zhJ s | some p => zpe 1 (s.take (i + 1 + p.1.length)) p.2) := by
     rw [zc1]
     cases ([58, 58] : Str).isPrefixOf (s[i] :: s.drop (i + 1)) with
     | true =>
      rw [if_pos rfl, if_pos rfl]
      show zpe 1 (s.take (i + 0)) (List.drop (1 + 1) (s[i] :: s.drop (i + 1))) = _
      rw [hd1]; rfl
     | false =>
      rw [if_neg (by decide), if_neg (by decide)]
      cases zc1 [58, 58] (s.drop (i + 1)) with
      | none => rfl
      | some p =>
       show zpe 1 (s.take (i + (p.1.length + 1))) p.2 = _
       rw [show i + (p.1.length + 1) = i + 1 + p.1.length from by omega]
    rw [e, if_pos rfl, zW, g0, Option.bind_some, Option.bind_some, zW, g1, Option.bind_some, List.drop_eq_getElem_cons (show i < s.length by omega), next]
    unfold zhw
    rw [zo (by omega), Option.bind_some, ih1]
    have hp : ([58, 58] : Str).isPrefixOf (s[i] :: s.drop (i + 1)) = (s[i] == 58 && s[i + 1] == 58) := by
     rw [hd1]
     simp only [List.isPrefixOf_cons_cons, List.isPrefixOf_nil_left, Bool.and_true]
     rw [zrc 58, zrc 58]
    rw [hp]
    have hL3' : za2 s (i : Int) fuel 1 = some (zpe 1 (s.take i) (s.drop (i + 2))) := hL3
    rw [hL3']
    cases s[i] == 58 <;> cases s[i + 1] == 58 <;> rfl
   ·have e : decide (((i + 1 : Nat) : Int) < (s.length : Int)) = false := decide_eq_false (by omega)
    rw [e, if_neg (by decide), zvH s (by omega), Option.bind_some]
    have : zc1 [58, 58] (s.drop i) = none := by
     cases hd : s.drop i with
     | nil => rfl
     | cons x t =>
      have : t = [] := by have := congrArg List.length hd; simp at this; exact List.eq_nil_of_length_eq_zero (by omega)
      subst this
      rw [zc1]
      simp [List.isPrefixOf, zc1]
    rw [this]
 have := key fuel 0 (Nat.zero_le _) (by unfold fuel; omega)
 rw [List.drop_zero] at this
 rw [show (0 : Int) = ((0 : Nat) : Int) from rfl, this]
 unfold zte
 congr 1
 cases hc : zc1 [58, 58] s with
 | none => rfl
 | some p =>
  have e := zfM (a := p.1) (b := p.2) hc
  have e1 : s.take (0 + p.1.length) = p.1 := by rw [Nat.zero_add, e, List.append_assoc, List.take_left']; rfl
  simp only [e1]
  exact zAK p.1 p.2
end Go.Dm
end
section
namespace Go.Dm
def zq6 (s : Str) : Str := (s.take (s.length - 1)).drop 1
def zls (s : Str) : Bool := decide (2 < s.length) && s[0]? == some 91 && s[s.length - 1]? == some 93 && zte (zq6 s)
def zgb (s : Str) : Int × Str := if zls s then (3, zq6 s) else if zgI s then (2, s) else if zlG s then (1, s) else (0, s)
theorem zuP (x y : UInt8) : ((some x : Option UInt8) == some y) = (x == y) := Option.some_beq_some ..
theorem zxd (s : Str) : (zq6 s).length ≤ s.length := by unfold zq6; simp; omega
theorem znz {β : Type} (s : Str) (hs : s.length < 400000000) (f : Str → Option Bool) (hf : ∀ t, t.length < 400000000 → f t = some (zte t)) (J : Bool → Option β) :
  (if (decide (2 < (s.length : Int))) then ((sAt s 0).bind fun b6 => if (b6 == 91) then ((zdC (s.length : Int) 1).bind fun i8 => (sAt s i8).bind fun b9 => if (b9 == 93) then ((zdC (s.length : Int) 1).bind fun i11 => (zg7 s 1 i11).bind fun s12 => (f s12).bind fun r13 => J r13) else J false) else J false) else J false) = J (zls s) := by
 unfold zls
 by_cases h : 2 < s.length
 ·have e : decide (2 < (s.length : Int)) = true := decide_eq_true (by omega)
  have e' : decide (2 < s.length) = true := decide_eq_true h
  have g0 : s[0]? = some s[0] := List.getElem?_eq_getElem (by omega)
  have g1 : s[s.length - 1]? = some s[s.length - 1] := List.getElem?_eq_getElem (by omega)
  have i1 : zdC (s.length : Int) 1 = some ((s.length - 1 : Nat) : Int) := by rw [zc3 (by omega) (by omega)]; congr 1; omega
  have s1 : zg7 s 1 ((s.length - 1 : Nat) : Int) = some (zq6 s) := zeK (i := 1) (by omega) (by omega)
  have := zxd s
  rw [e, e', if_pos rfl, show (0 : Int) = ((0 : Nat) : Int) from rfl, zW, g0, Option.bind_some, i1, Option.bind_some, zW, g1, Option.bind_some, Option.bind_some, s1, Option.bind_some, hf _ (by omega), Option.bind_some, zuP, zuP]
  cases s[0] == 91 <;> cases s[s.length - 1] == 93 <;> rfl
 ·rw [decide_eq_false (show ¬ (2 < (s.length : Int)) by omega), decide_eq_false h]; rfl
theorem zmr (s : Str) (hs : s.length < 400000000) : zgS s = some (⟨(zgb s).1, (zgb s).2, -1⟩, !((zgb s).1 == 0)) := by
 unfold zgS
 rw [znz s hs zfS (fun t ht => Six_eq t (by omega)) (zb2 s)]
 unfold zb2 zcR zgb
 cases hb : zls s with
 | true =>
  have h : 2 < s.length := by unfold zls at hb; simp at hb; exact hb.1.1.1
  have i1 : zdC (s.length : Int) 1 = some ((s.length - 1 : Nat) : Int) := by rw [zc3 (by omega) (by omega)]; congr 1; omega
  have s1 : zg7 s 1 ((s.length - 1 : Nat) : Int) = some (zq6 s) := zeK (i := 1) (by omega) (by omega)
  rw [if_pos rfl, i1, Option.bind_some, s1, Option.bind_some, if_pos rfl]
 | false =>
  rw [if_neg (by decide), zk3 s (by omega), Option.bind_some, zpG s (by omega), Option.bind_some]
  cases zgI s <;> cases zlG s <;> rfl
theorem zp1 (s : Str) (hs : s.length < 400000000) : zk9 s = some (if (zgb s).1 == 0 then ⟨0, [], 0⟩ else ⟨(zgb s).1, (zgb s).2, -1⟩) := by
 unfold zk9
 rw [znz s hs zjq zue (zed s)]
 unfold zed zgb
 cases hb : zls s with
 | true =>
  have h : 2 < s.length := by unfold zls at hb; simp at hb; exact hb.1.1.1
  have i1 : zdC (s.length : Int) 1 = some ((s.length - 1 : Nat) : Int) := by rw [zc3 (by omega) (by omega)]; congr 1; omega
  have s1 : zg7 s 1 ((s.length - 1 : Nat) : Int) = some (zq6 s) := zeK (i := 1) (by omega) (by omega)
  rw [if_pos rfl, i1, Option.bind_some, s1, Option.bind_some, if_pos rfl]
  rfl
 | false =>
  rw [if_neg (by decide), znT s (by omega), Option.bind_some, zsB s (by omega), Option.bind_some]
  cases zgI s <;> cases zlG s <;> rfl
def ziy (s : Str) (c : UInt8) : Nat → Option Nat
 | 0 => none
 | k + 1 => if s[k]? = some c then some k else ziy s c k
theorem zms {s : Str} {c : UInt8} : ∀ {k i : Nat}, ziy s c k = some i → i < k ∧ s[i]? = some c
 | 0, _, h => by cases h
 | k + 1, i, h => by
  rw [ziy] at h
  split at h
  ·rename_i h2; cases h; exact ⟨by omega, h2⟩
  ·have := zms h; exact ⟨by omega, this.2⟩
theorem zkT (s : Str) (c : UInt8) (hs : s.length < 1000000000) : zaw s c = some (match ziy s c s.length with | none => -1 | some k => (k : Int)) := by
 unfold zaw zbh
 have key : ∀ (n k : Nat), k ≤ s.length → k < n → zH s c n ((k : Int) - 1) = some (match ziy s c k with | none => -1 | some j => (j : Int)) := by
  intro n
  induction n with
  | zero => intro k _ h; omega
  | succ n ih =>
   intro k hk h
   rw [zH]
   cases k with
   | zero => rw [decide_eq_false (by omega)]; rfl
   | succ k =>
    have e1 : ((k + 1 : Nat) : Int) - 1 = (k : Int) := by omega
    have g : s[k]? = some s[k] := List.getElem?_eq_getElem (by omega)
    rw [e1, decide_eq_true (show (0 : Int) ≤ (k : Int) by omega), if_pos rfl, zW, g, Option.bind_some, zc3 (by omega) (by omega), Option.bind_some, ih k (by omega) (by omega), ziy, g]
    by_cases hc : s[k] = c
    ·have : (s[k] == c) = true := by simp [hc]
     rw [this, if_pos rfl, if_pos (by rw [hc])]
    ·have : (s[k] == c) = false := beq_eq_false_iff_ne.2 hc
     rw [this, if_neg (by decide), if_neg (by simpa using hc)]
 rw [zc3 (by omega) (by omega), Option.bind_some, key fuel s.length (Nat.le_refl _) (by unfold fuel; omega), Option.bind_some]
def zcf (s : Str) : api_Host × Int :=
 if !((zgb s).1 == 0) then (⟨(zgb s).1, (zgb s).2, -1⟩, 0) else match ziy s 58 s.length with
 | none => (⟨0, [], 0⟩, 27)
 | some k => if !((zgb (s.take k)).1 == 0) && zdF (s.drop (k + 1)) 65535 then (⟨(zgb (s.take k)).1, (zgb (s.take k)).2, (zR 10 (s.drop (k + 1)) 65535).1⟩, 0) else (⟨0, [], 0⟩, 27)
theorem zhh (s : Str) (hs : s.length < 400000000) : zcS s = some (zcf s) := by
 unfold zcS zcf
 rw [zmr s hs, Option.bind_some]
 cases !((zgb s).1 == 0) with
 | true => rfl
 | false =>
  show (if false = true then _ else _) = some (if false = true then _ else _)
  rw [if_neg (by decide), if_neg (by decide), zkT s 58 (by omega), Option.bind_some]
  cases hl : ziy s 58 s.length with
  | none => rfl
  | some k =>
   have hk := (zms hl).1
   show (if decide ((k : Int) < 0) = true then _ else _) = _
   rw [decide_eq_false (show ¬ ((k : Int) < 0) by omega), if_neg (by decide), zf5 (by omega), Option.bind_some, zmr _ (by simp; omega), Option.bind_some]
   unfold zdi
   rw [zo (by omega), Option.bind_some, zab (by omega), Option.bind_some, Option.bind_some, zab (by omega), Option.bind_some, zki _ _ (by simp; omega) (by decide) (by decide), Option.bind_some, zei _ _ (by simp; omega) (by decide) (by decide), Option.bind_some]
   dsimp only
   cases (zgb (s.take k)).1 == 0 <;> cases zdF (s.drop (k + 1)) 65535 <;> rfl
theorem zjz (s : Str) (hs : s.length < 400000000) : zee s = some (zcf s) := by
 unfold zee zcf
 have key : ∀ (n k : Nat), k ≤ s.length → k < n → zcX s n ((k : Int) - 1) = some (match ziy s 58 k with
   | none => (⟨0, [], 0⟩, 27)
   | some k => if !((zgb (s.take k)).1 == 0) && zdF (s.drop (k + 1)) 65535 then (⟨(zgb (s.take k)).1, (zgb (s.take k)).2, (zR 10 (s.drop (k + 1)) 65535).1⟩, 0) else (⟨0, [], 0⟩, 27)) := by
  intro n
  induction n with
  | zero => intro k _ h; omega
  | succ n ih =>
   intro k hk h
   rw [zcX]
   cases k with
   | zero => rw [decide_eq_false (by omega)]; rfl
   | succ k =>
    have e1 : ((k + 1 : Nat) : Int) - 1 = (k : Int) := by omega
    have g : s[k]? = some s[k] := List.getElem?_eq_getElem (by omega)
    rw [e1, decide_eq_true (show (0 : Int) ≤ (k : Int) by omega), if_pos rfl, zW, g, Option.bind_some, zc3 (by omega) (by omega), Option.bind_some, ih k (by omega) (by omega), ziy, g]
    by_cases hc : s[k] = 58
    ·have : (s[k] == 58) = true := by simp [hc]
     rw [this, if_neg (by decide), if_pos (by rw [hc]), zf5 (by omega), Option.bind_some, zp1 _ (by simp; omega), Option.bind_some, zo (by omega), Option.bind_some, zab (by omega), Option.bind_some, zmM _ _ (by simp; omega) (by decide) (by decide), Option.bind_some]
     unfold zft
     dsimp only
     cases h0 : (zgb (s.take k)).1 == 0 with
     | true => rfl
     | false =>
      simp only [Bool.false_eq_true, if_false, h0, Bool.not_false, Bool.true_and]
      cases hsm : zdF (s.drop (k + 1)) 65535 with
      | false => rfl
      | true =>
       have h2 : (zR 10 (s.drop (k + 1)) 65535).2 = 0 := by unfold zdF at hsm; simp at hsm; exact hsm.1
       have h3 := (zjH h2 (by decide)).1
       simp only [if_true]
       rw [decide_eq_false (by omega)]; rfl
    ·have : (s[k] == 58) = false := beq_eq_false_iff_ne.2 hc
     rw [this, Bool.not_false, if_pos rfl, if_neg (by simpa using hc)]
 rw [zp1 s hs, Option.bind_some]
 cases h0 : (zgb s).1 == 0 with
 | true =>
  simp only [if_true, beq_self_eq_true, Bool.not_true, Bool.false_eq_true, if_false]
  rw [zc3 (by omega) (by omega), Option.bind_some, key fuel s.length (Nat.le_refl _) (by unfold fuel; omega)]
 | false =>
  simp only [Bool.false_eq_true, if_false, h0, Bool.not_false, if_true]
end Go.Dm
end
section
namespace Go.Dm
def pqL (more : Str) : Str → Bool
 | [] => true
 | c :: s => if c == 37 then (match s with
  | a :: b :: r => zgc a && zgc b && pqL more r
  | _ => false) else (zoK c || more.contains c) && pqL more s
theorem zw3 (more s : Str) : pqL more (37 :: s) = (match s with | a :: b :: r => zgc a && zgc b && pqL more r | _ => false) := by
 rw [pqL.eq_def]
 match s with
 | [] => rfl
 | [_] => rfl
 | _ :: _ :: _ => rfl
theorem zw4 (more : Str) (c : UInt8) (s : Str) (h : (c == 37) = false) : pqL more (c :: s) = ((zoK c || more.contains c) && pqL more s) := by
 rw [pqL.eq_def]; simp only [h, Bool.false_eq_true, if_false]
theorem zAL (l : Str) (c : UInt8) : decide (0 ≤ zjf l c 0) = l.contains c := zv3 l c 0
theorem zqm (rec1 : Int → Option Bool) (i : Nat) (hi : i < 4000000000) : zgT rec1 (i : Int) = rec1 ((i + 1 : Nat) : Int) := by
 unfold zgT; rw [zo (by omega), Option.bind_some]
theorem zvK (rec1 : Int → Option Bool) (i : Nat) (t : Bool) (hi : i < 3000000000) : zd9 rec1 (i : Int) t = if t = true then rec1 ((i + 3 : Nat) : Int) else some false := by
 unfold zd9
 have i2 : zx (i : Int) 2 = some ((i + 2 : Nat) : Int) := by rw [zdP (by omega) (by omega)]; simp
 rw [i2, Option.bind_some, zqm rec1 (i + 2) (by omega)]
theorem zqn (s more : Str) (hs : s.length < 1000000000) (hm : more.contains 37 = false) : zk5 s more = some (pqL more s) := by
 unfold zk5
 have key : ∀ (n i : Nat), i ≤ s.length → s.length - i < n → zbc s more n (i : Int) = some (pqL more (s.drop i)) := by
  intro n
  induction n with
  | zero => intro i _ h; omega
  | succ n ih =>
   intro i hi h
   rw [zbc]
   cases hd : s.drop i with
   | nil =>
    have : i = s.length := by have := congrArg List.length hd; simp at this; omega
    subst this
    simp only [Int.lt_irrefl, decide_false, Bool.false_eq_true, if_false, pqL]
   | cons c t =>
    have hlt : i < s.length := by have := congrArg List.length hd; simp at this; omega
    have hx : s[i]? = some c := by have := congrArg (·[0]?) hd; simpa using this
    have ht : s.drop (i + 1) = t := by rw [← List.drop_drop, hd]; rfl
    have htl : t.length = s.length - (i + 1) := by rw [← ht]; simp
    have i2 : zx (i : Int) 2 = some ((i + 2 : Nat) : Int) := by rw [zdP (by omega) (by omega)]; simp
    have i3 : zx (i : Int) 3 = some ((i + 3 : Nat) : Int) := by rw [zdP (by omega) (by omega)]; simp
    have hih := ih (i + 1) (by omega) (by omega)
    rw [ht] at hih
    have j4 := zqm (zbc s more n) i (by omega)
    have j3 := zvK (zbc s more n) i
    simp only [Int.ofNat_lt, hlt, decide_true, if_true, zW, hx, Option.bind_some, zqt, strings_IndexByte, zAL, ziD, j4, hih]
    rcases zcD (c == 37) with hc | hc
    ·have : c = 37 := by simpa using hc
     subst this
     have hp : zoK 37 = false := by decide
     rw [zw3, hp, hm]
     simp only [Bool.false_eq_true, if_false, beq_self_eq_true, if_true, i2, Option.bind_some, zo (show i < 4611686018427387904 by omega), i3]
     match t, ht, htl with
     | [], ht, htl =>
      have : ¬ ((i + 2 : Nat) : Int) < (s.length : Int) := by simp at htl; omega
      simp only [this, decide_false, Bool.false_eq_true, if_false, j3 false (by omega)]
     | [a], ht, htl =>
      have : ¬ ((i + 2 : Nat) : Int) < (s.length : Int) := by simp at htl; omega
      simp only [this, decide_false, Bool.false_eq_true, if_false, j3 false (by omega)]
     | a :: b :: r, ht, htl =>
      have hlt2 : ((i + 2 : Nat) : Int) < (s.length : Int) := by simp at htl; omega
      have hr : s.drop (i + 3) = r := by
       have : (s.drop (i + 1)).drop 2 = r := by rw [ht]; rfl
       rwa [List.drop_drop] at this
      have hi3 : i + 3 ≤ s.length := by simp at htl; omega
      have hih := ih (i + 3) hi3 (by omega)
      rw [hr] at hih
      have hsub : zg7 s ((i + 1 : Nat) : Int) ((i + 3 : Nat) : Int) = some [a, b] := by
       rw [zeK (by omega) hi3, List.drop_take, ht]
       have : i + 3 - (i + 1) = 2 := by omega
       rw [this]; rfl
      simp only [hlt2, decide_true, if_true, hsub, Option.bind_some, zdu zjB [a, b] (by simp), j3 _ (show i < 3000000000 by omega), hih]
      cases ha : zgc a <;> cases hb : zgc b <;> simp [ha, hb]
    ·rw [zw4 more c t hc, hc]
     cases zoK c <;> cases hq : more.contains c <;> simp [zd9]
 have := key fuel 0 (Nat.zero_le _) (by unfold fuel; omega)
 simpa using this
theorem zqo (s more : Str) (hs : s.length < 1000000000) (hm : more.length < 1000000000) : zmV s more = some (pqL more s) := by
 unfold zmV
 have key : ∀ (n : Nat) (s : Str), s.length < n → s.length < 1000000000 → zes n s more = some (pqL more s) := by
  intro n
  induction n with
  | zero => intro s h; omega
  | succ n ih =>
   intro s h hs
   rw [zes]
   cases s with
   | nil => simp [pqL]
   | cons c s =>
    have h1 : ((c :: s == ([] : Str))) = false := rfl
    have e1 : za7 (c :: s) 1 = some s := by
     have := zab (l := c :: s) (i := 1) (by simp)
     simpa using this
    simp only [List.length_cons] at h hs
    simp only [h1, Bool.false_eq_true, if_false, zjV, List.getElem?_cons_zero, Option.bind_some, zsl, zuR _ more hm, zgY, e1, ih s (by omega) (by omega)]
    rcases zcD (c == 37) with hc | hc
    ·have : c = 37 := by simpa using hc
     subst this
     rw [zw3]
     match s, h, hs with
     | [], _, _ => simp [zdn]
     | [a], _, _ => simp [zdn]
     | a :: b :: r, h, hs =>
      have h2 : (2 : Int) < ((37 :: a :: b :: r : Str).length : Int) := by simp only [List.length_cons]; omega
      have e3 : za7 (37 :: a :: b :: r) 3 = some r := by
       have := zab (l := 37 :: a :: b :: r) (i := 3) (by simp)
       simpa using this
      have a1 : sAt (37 :: a :: b :: r) 1 = some a := by simp
      have a2 : sAt (37 :: a :: b :: r) 2 = some b := by simp
      simp only [List.length_cons] at h hs
      simp only [h2, decide_true, if_true, beq_self_eq_true, a1, a2, Option.bind_some, zlt, zdn, e3, ih r (by omega) (by omega)]
      cases ha : zgc a <;> cases hb : zgc b <;> simp [ha, hb]
    ·rw [zw4 more c s hc, hc]
     cases zoK c <;> cases more.contains c <;> simp
 exact key fuel s (zt8 (by omega)) hs
def ze1 (s : Str) : Bool := (([47] : Str).isPrefixOf s) && pqL [47] s
def ze7 (s : Str) : Bool := pqL [47, 63] s
theorem zsJ (s : Str) (hs : s.length < 1000000000) : zjJ s = some (ze1 s) := by
 unfold zjJ ze1
 rw [zfd s [47] hs, Option.bind_some, zqn s [47] hs (by decide), Option.bind_some]
 cases ([47] : Str).isPrefixOf s <;> simp [zgj]
theorem zsb (s : Str) (hs : s.length < 1000000000) : ziE s = some (ze7 s) := by
 unfold ziE ze7
 rw [zqn s [47, 63] hs (by decide), Option.bind_some]
theorem zsK (s : Str) (hs : s.length < 1000000000) : zjP s = some (ze1 s) := by
 unfold zjP ze1
 rw [zqo s [47] hs (by decide)]
 cases s with
 | nil => rfl
 | cons c s =>
  have h2 : (0 : Int) < ((c :: s : Str).length : Int) := by simp only [List.length_cons]; omega
  simp only [h2, decide_true, if_true, zjV, List.getElem?_cons_zero, Option.bind_some, zeT, List.isPrefixOf_cons_cons, List.isPrefixOf_nil_left, Bool.and_true]
  rcases zcD (c == 47) with h | h
  ·have : c = 47 := by simpa using h
   subst this; simp
  ·have : ((47 : UInt8) == c) = false := by rw [beq_eq_false_iff_ne] at h ⊢; exact fun e => h e.symm
   rw [h, this]; simp
theorem znb (s : Str) (hs : s.length < 1000000000) : zgZ s = some (ze7 s) := by
 unfold zgZ ze7
 rw [zqo s [47, 63] hs (by decide), Option.bind_some]
theorem zxO (c : UInt8) : ∀ s : Str, Go.Lib.index s [c] = if zb0 [c] s = [] then -1 else ((upto [c] s).length : Int) := by
 intro s
 induction s with
 | nil => rfl
 | cons x s ih =>
  by_cases h : x = c
  ·subst h
   rw [znt, zka (by simp), zj9 (by simp)]; simp
  ·rw [zns h, ih]
   have hx : ([c] : Str).contains x = false := by simp [h]
   rw [zkc hx, zkb hx]
   split
   ·rfl
   ·rename_i h2
    rw [if_neg (by omega)]
    simp
def zM (c : UInt8) (s : Str) : Str × Str × Bool := (upto [c] s, (zb0 [c] s).drop 1, !(zb0 [c] s == []))
theorem zl6 (s : Str) (c : UInt8) (hs : s.length < 1000000000) : strings_Cut s [c] = some (zM c s) := by
 unfold strings_Cut Go.Lib.cut zM
 rw [if_pos (by omega), zxO]
 congr 1
 by_cases h2 : zb0 [c] s = []
 ·rw [if_pos h2, if_neg (by omega)]
  have e := zdS [c] s
  rw [h2, List.append_nil] at e
  rw [h2, e]; rfl
 ·have h3 : (zb0 [c] s == []) = false := beq_eq_false_iff_ne.2 h2
  rw [h3, if_neg h2, if_pos (by omega)]
  have e : s.drop ((upto [c] s).length + 1) = (zb0 [c] s).drop 1 := by rw [← List.drop_drop, zkW]
  simp only [Int.toNat_natCast, zne, List.length_singleton, e, Bool.not_false]
theorem zsc (c : UInt8) (s : Str) (h : (zM c s).2.2 = true) : (zM c s).1 ++ c :: (zM c s).2.1 = s := by
 have e := zdS [c] s
 unfold zM at h ⊢
 simp only [Bool.not_eq_true', beq_eq_false_iff_ne] at h
 cases hf : zb0 [c] s with
 | nil => exact absurd hf h
 | cons x r =>
  have := zsX hf
  have hx : x = c := by simpa using this
  subst hx
  rw [hf] at e
  simpa [hf] using e
theorem zlO (c : UInt8) (s : Str) (h : (zM c s).2.2 = false) : zM c s = (s, [], false) := by
 have e := zdS [c] s
 unfold zM at h ⊢
 simp only [Bool.not_eq_false', beq_iff_eq] at h
 rw [h, List.append_nil] at e
 rw [h, e]; rfl
theorem znj (c : UInt8) (s : Str) : (zM c s).1.length ≤ s.length ∧ (zM c s).2.1.length ≤ s.length := by
 have e := congrArg List.length (zdS [c] s)
 rw [List.length_append] at e
 unfold zM
 simp only [List.length_drop]
 omega
def zsL (s : Str) : Str × Str × Bool × Int :=
 if ze1 (zM 63 s).1 && ze7 (zM 63 s).2.1 then ((zM 63 s).1, (zM 63 s).2.1, (zM 63 s).2.2, 0) else ([], [], false, 2)
theorem zpf (s : Str) (hs : s.length < 1000000000) : zk6 s = some (zsL s) := by
 unfold zk6 zsL
 have := znj 63 s
 rw [zl6 s 63 hs, Option.bind_some, zsJ _ (by omega), Option.bind_some, zsb _ (by omega), Option.bind_some]
 cases ze1 (zM 63 s).1 <;> cases ze7 (zM 63 s).2.1 <;> simp [zhq]
end Go.Dm
end
section
namespace Go.Dm
def zsZ : api_Target := ⟨0, [], ⟨0, [], 0⟩, [], [], false⟩
def zlU (t : api_Target) (s : Str) : api_Target × Bool :=
 if s = [] then (t, true) else
  (⟨t.Kind, t.Scheme, t.Host, if s.head? == some 63 then [] else (zsL s).1, (zsL (if s.head? == some 63 then 47 :: s else s)).2.1, (zsL (if s.head? == some 63 then 47 :: s else s)).2.2.1⟩, (zsL (if s.head? == some 63 then 47 :: s else s)).2.2.2 == 0)
theorem zmx (t : api_Target) (s : Str) (hs : s.length < 900000000) : zgU t s = some (zlU t s) := by
 unfold zgU zlU
 cases s with
 | nil => rfl
 | cons c r =>
  have h1 : ((c :: r == ([] : Str))) = false := rfl
  rw [h1, if_neg (by decide), if_neg (by simp), show (0 : Int) = ((0 : Nat) : Int) from rfl, zW, List.getElem?_cons_zero, Option.bind_some, List.head?_cons, Option.some_beq_some]
  unfold zfg zff
  simp only [List.length_cons] at hs
  cases hc : c == 63 with
  | true =>
   rw [if_pos rfl, if_pos rfl, zD (by simp only [List.length_cons, List.length_nil]; omega), Option.bind_some, show ([47] : Str) ++ c :: r = 47 :: c :: r from rfl, zpf _ (by simp only [List.length_cons]; omega), Option.bind_some]
   rfl
  | false =>
   rw [if_neg (by decide), if_neg (by decide), zpf _ (by simp only [List.length_cons]; omega), Option.bind_some, if_neg (by decide)]
   rfl
def zlV : Str := [104, 116, 116, 112]
def zi2 : Str := [104, 116, 116, 112, 115]
def zu6 (s : Str) : api_Target × Bool := match zc1 [58, 47, 47] s with
 | none => (⟨2, low s, ⟨0, [], 0⟩, [], [], false⟩, false)
 | some p => if low p.1 == zlV || low p.1 == zi2 then
   (if (zcf (upto [47, 63] p.2)).2 == 0 then zlU ⟨2, low p.1, (zcf (upto [47, 63] p.2)).1, [], [], false⟩ (zb0 [47, 63] p.2) else (⟨2, low p.1, ⟨0, [], 0⟩, [], [], false⟩, false))
  else (⟨2, low p.1, ⟨0, [], 0⟩, [], [], false⟩, false)
theorem zrw (a b c : Str) (q : Bool) (hb : b.length < 300000000) : zbP (a, b, q) c ((upto [47, 63] b).length : Int) = some (if (zcf (upto [47, 63] b)).2 == 0 then zlU ⟨2, c, (zcf (upto [47, 63] b)).1, [], [], false⟩ (zb0 [47, 63] b) else (⟨2, c, ⟨0, [], 0⟩, [], [], false⟩, false)) := by
 unfold zbP
 have hu := zoO [47, 63] b
 have hf : (zb0 [47, 63] b).length ≤ b.length := by
  have := congrArg List.length (zdS [47, 63] b); rw [List.length_append] at this; omega
 dsimp only
 rw [zf5 hu, Option.bind_some, zne, zhh _ (by omega), Option.bind_some, zab hu, Option.bind_some, zkW, zmx _ _ (by omega), Option.bind_some]
 cases (zcf (upto [47, 63] b)).2 == 0 <;> rfl
theorem zoa (s : Str) (hs : s.length < 300000000) : zeC s = some (zu6 s) := by
 unfold zeC zu6
 rw [zm7 s _ (by omega) (by simp), Option.bind_some]
 cases hc : zc1 [58, 47, 47] s with
 | none =>
  dsimp only
  rw [ziq s (by omega), Option.bind_some]
  rfl
 | some p =>
  have e := congrArg List.length (zfM (a := p.1) (b := p.2) hc)
  simp only [List.length_append, List.length_cons, List.length_nil] at e
  have hu := zoO [47, 63] p.2
  dsimp only
  rw [ziq p.1 (by omega), Option.bind_some]
  have hj : zam (p.1, p.2, true) (low p.1) false = some (if (zcf (upto [47, 63] p.2)).2 == 0 then zlU ⟨2, low p.1, (zcf (upto [47, 63] p.2)).1, [], [], false⟩ (zb0 [47, 63] p.2) else (⟨2, low p.1, ⟨0, [], 0⟩, [], [], false⟩, false)) := by
   unfold zam
   rw [if_neg (by decide)]
   dsimp only
   rw [zja p.2 [47, 63] (by omega) (by decide) (by decide), Option.bind_some]
   have hj2 := zrw p.1 p.2 (low p.1) true (by omega)
   by_cases h0 : zb0 [47, 63] p.2 = []
   ·rw [if_pos h0, decide_eq_true (by omega), if_pos rfl]
    rw [(zfO _ _).1 h0] at hj2
    exact hj2
   ·rw [if_neg h0, decide_eq_false (by omega), if_neg (by decide)]
    exact hj2
  have hj0 : zam (p.1, p.2, true) (low p.1) true = some (⟨2, low p.1, ⟨0, [], 0⟩, [], [], false⟩, false) := rfl
  rw [hj, hj0, if_neg (by decide)]
  show (if (!(low p.1 == zlV)) = true then zam (p.1, p.2, true) (low p.1) (!(low p.1 == zi2)) else _) = _
  cases low p.1 == zlV with
  | true => rfl
  | false =>
   cases low p.1 == zi2 with
   | true => rw [Bool.not_false, if_pos rfl, Bool.not_true, hj]; rfl
   | false => rw [Bool.not_false, if_pos rfl, hj0]; rfl
def zrx : Str := [79, 80, 84, 73, 79, 78, 83]
def zmy : Str := [67, 79, 78, 78, 69, 67, 84]
def ofT (m s : Str) : api_Target × Bool := if s == [42] then (⟨4, [], ⟨0, [], 0⟩, [], [], false⟩, m == zrx) else if ([47] : Str).isPrefixOf s then zlU ⟨1, [], ⟨0, [], 0⟩, [], [], false⟩ s else zu6 s
theorem ztM (m s : Str) (hs : s.length < 300000000) : zk7 m s = some (ofT m s) := by
 unfold zk7 ofT
 rw [zfd s [47] (by omega), Option.bind_some, zoa s hs, Option.bind_some, zmx _ s (by omega), Option.bind_some]
 cases s == [42] <;> cases ([47] : Str).isPrefixOf s <;> rfl
def zjF (m s : Str) : api_Target × Int :=
 if m == zmy then (if (zcf s).2 == 0 && !decide ((zcf s).1.Port < 0) then (⟨3, [], (zcf s).1, [], [], false⟩, 0) else (zsZ, 20))
 else if (ofT m s).2 then ((ofT m s).1, 0) else (zsZ, 20)
theorem zqw (m s : Str) (hs : s.length < 300000000) : zhr m s = some (zjF m s) := by
 unfold zhr zjF zeD
 rw [zhh s (by omega), Option.bind_some, ztM m s hs, Option.bind_some]
 show (if (m == zmy) = true then _ else _) = _
 cases m == zmy <;> cases (zcf s).2 == 0 <;> cases decide ((zcf s).1.Port < 0) <;> cases (ofT m s).2 <;> rfl
end Go.Dm
end
section
namespace Go.Dm
theorem zvN (c : UInt8) (s : Str) : (zM c s).1 ++ (if (zM c s).2.2 = true then c :: (zM c s).2.1 else []) = s := by
 rcases zcD (zM c s).2.2 with h | h
 ·rw [if_pos h]; exact zsc c s h
 ·rw [if_neg (by rw [h]; decide), zlO c s h, List.append_nil]
theorem ztl {s : Str} (h : ze1 s = true) : ∃ r, s = 47 :: r := by
 unfold ze1 at h
 simp only [Bool.and_eq_true] at h
 obtain ⟨r, hr⟩ := List.isPrefixOf_iff_prefix.1 h.1
 exact ⟨r, hr.symm⟩
def zxX : api_Target := ⟨1, [], ⟨0, [], 0⟩, [], [], false⟩
end Go.Dm
end
