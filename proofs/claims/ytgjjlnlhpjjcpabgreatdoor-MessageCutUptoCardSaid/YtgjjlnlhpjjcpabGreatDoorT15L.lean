/-
 The models' words: partial operations as functions into Option. No program in sight.
 The models of the functions: written by a program (wip/gen) off the translation. No program in sight.
 The library's functions as the models say them, and as the library's contracts say them. No program in sight.
 Plain tools for the laws: the partial operations at natural numbers, loops over lists. No program in sight.
 Layer 1 (bytes): what the program's and the reference's models come to.
 Layer 3 (numbers): reading and writing: the program's and the document's come to the same. No program in sight.
 Fold
-/
import Derived.Lib.ItoaNum
import Derived.Lib.SplitLaws
import Derived.Lib.SlTrimSet
import Derived.Lib.Join
import Derived.Lib.IndexMore
import Derived.Lib.Bytealg
import Derived.Lib.Index
import Derived.Lib.IndexAny
section
namespace Go.Dm
abbrev Str := List UInt8

def inI (n : Int) : Bool := decide (-9223372036854775808 ≤ n) && decide (n ≤ 9223372036854775807)
theorem zgQ {n : Int} : inI n = true ↔ -9223372036854775808 ≤ n ∧ n ≤ 9223372036854775807 := by simp [inI]

def zaR (m n : Int) : Option Int := if inI (m + n) then some (m + n) else none
def zdB (m n : Int) : Option Int := if inI (m - n) then some (m - n) else none
def zrX (m n : Int) : Option Int := if inI (m * n) then some (m * n) else none
def iDiv (m n : Int) : Option Int := if 0 ≤ m ∧ 1 ≤ n ∧ inI (m / n) = true then some (m / n) else none
def iMod (m n : Int) : Option Int := if 0 ≤ m ∧ 1 ≤ n ∧ inI (m % n) = true then some (m % n) else none
def sAt (l : Str) (i : Int) : Option UInt8 := if 0 ≤ i then l[i.toNat]? else none
def sTo (l : Str) (h : Int) : Option Str := if 0 ≤ h ∧ h ≤ l.length then some (l.take h.toNat) else none
def ze8 (l : Str) (i : Int) : Option Str := if 0 ≤ i ∧ i ≤ l.length then some (l.drop i.toNat) else none
def zjm (l : Str) (i h : Int) : Option Str := if 0 ≤ i ∧ i ≤ h ∧ h ≤ l.length then some ((l.take h.toNat).drop i.toNat) else none
def zj9 (l m : Str) : Option Str := if l.length + m.length ≤ 9223372036854775807 then some (l ++ m) else none
def lAt {α : Type} (l : List α) (i : Int) : Option α := if 0 ≤ i then l[i.toNat]? else none
def lTo {α : Type} (l : List α) (h : Int) : Option (List α) := if 0 ≤ h ∧ h ≤ l.length then some (l.take h.toNat) else none
def zqN {α : Type} (l : List α) (i : Int) : Option (List α) := if 0 ≤ i ∧ i ≤ l.length then some (l.drop i.toNat) else none
def lSub {α : Type} (l : List α) (i h : Int) : Option (List α) := if 0 ≤ i ∧ i ≤ h ∧ h ≤ l.length then some ((l.take h.toNat).drop i.toNat) else none
def zF (n m bytes : Nat) : Bool := decide (n + m ≤ 9223372036854775807) && decide ((n + m) * bytes ≤ 140737488355328)
theorem og {α : Type} {b : Bool} {x : Option α} {r : α} (h : (if b = true then x else none) = some r) : b = true ∧ x = some r := by
 cases b with
 | false => cases h
 | true => exact ⟨rfl, h⟩
theorem zht (b : Bool) : b = true ∨ b = false := by cases b <;> simp
theorem ob {α β : Type} {m : Option α} {f : α → Option β} {r : β} (h : m.bind f = some r) : ∃ x, m = some x ∧ f x = some r := by
 cases m with
 | none => cases h
 | some x => exact ⟨x, rfl, h⟩
theorem it {α : Type} {b : Bool} {x y : Option α} {r : α} (hb : b = true) (h : (if b = true then x else y) = some r) : x = some r := by rwa [if_pos hb] at h
theorem ie {α : Type} {b : Bool} {x y : Option α} {r : α} (hb : b = false) (h : (if b = true then x else y) = some r) : y = some r := by rwa [if_neg (by simp [hb])] at h

def fuel : Nat := 1000000000000000000
abbrev yob := @Option.bind_some
abbrev yfn := @Bool.false_ne_true
abbrev yla := @List.length_append
abbrev ylc := @List.length_cons
abbrev yln := @List.length_nil
abbrev ydg := @List.drop_eq_getElem_cons
abbrev yaa := @List.append_assoc
abbrev ydt := @decide_eq_true
abbrev ydf := @decide_eq_false
abbrev ygg := @List.getElem?_eq_getElem
abbrev ygm := @List.getElem_mem
abbrev ylt := @List.length_take
abbrev yld := @List.length_drop
abbrev ydl := @List.drop_length
abbrev ymc := @List.mem_cons
abbrev ybs := @beq_self_eq_true
abbrev yz := @Nat.zero_le
abbrev yna := @List.nil_append
abbrev yan := @List.append_nil
abbrev ynt := @Bool.not_true
abbrev ynf := @Bool.not_false
end Go.Dm
end
section
set_option linter.unusedVariables false
set_option maxRecDepth 10000
namespace Go.Dm
structure api_Field where
 Name : Str
 Value : Str
deriving DecidableEq, Inhabited
structure api_Head where
 Kind : Int
 Method : Str
 Target : Str
 Code : Int
 Reason : Str
 Minor : Int
 Fields : List api_Field
deriving DecidableEq, Inhabited
structure accum_Accum where
 f_kind : Int
 f_limit : Int
 f_buf : List UInt8
 f_from : Int
 f_took : Bool
 f_bad : Int
 f_whole : Bool
 f_got : api_Head
deriving DecidableEq, Inhabited
structure scan_Scanner where
 f_s : Str
 f_at : Int
deriving DecidableEq, Inhabited
structure startline_line where
 Scanner : scan_Scanner
deriving DecidableEq, Inhabited
structure api_Host where
 Kind : Int
 Name : Str
 Port : Int
deriving DecidableEq, Inhabited
structure api_Target where
 Kind : Int
 Scheme : Str
 Host : api_Host
 Path : Str
 Query : Str
 HasQuery : Bool
deriving DecidableEq, Inhabited
structure bag_Bag where
 f_l : List api_Field
deriving DecidableEq, Inhabited
structure commas_splitter where
 Scanner : scan_Scanner
 f_out : List Str
 f_from : Int
 f_s : Str
deriving DecidableEq, Inhabited
structure quoted_reader where
 Scanner : scan_Scanner
 f_out : List UInt8
deriving DecidableEq, Inhabited
structure api_Frame where
 Kind : Int
 N : Int
deriving DecidableEq, Inhabited
structure length_reader where
 Bag : bag_Bag
 f_minor : Int
deriving DecidableEq, Inhabited
structure dechunk_Decoder where
 f_limit : Int
 f_at : Int
 f_line : List UInt8
 f_left : Int
 f_sum : Int
 f_spent : Int
 f_trailers : List api_Field
deriving DecidableEq, Inhabited
structure body_Body where
 Decoder : dechunk_Decoder
 f_frame : api_Frame
 f_left : Int
 f_done : Bool
 f_bad : Bool
deriving DecidableEq, Inhabited
structure api_Attr where
 Name : Str
 Value : Str
 Has : Bool
deriving DecidableEq, Inhabited
structure api_Message where
 Head : api_Head
 Frame : api_Frame
 Body : Str
 Trailers : List api_Field
deriving DecidableEq, Inhabited
structure message_reader where
 Body : body_Body
 f_m : api_Message
deriving DecidableEq, Inhabited
structure quill_Quill where
 f_b : List UInt8
 f_most : Int
deriving DecidableEq, Inhabited
structure head_printer where
 Quill : quill_Quill
 f_full : Bool
deriving DecidableEq, Inhabited
structure enchunk_Encoder where
 f_size : Int
 f_buf : Str
 f_done : Bool
deriving DecidableEq, Inhabited
abbrev zkI {α : Type} {β : Sort _} (o : Option α) (k0 : β) (k1 : α → β) : β := match o with | none => k0 | some x => k1 x
theorem zpS {α β : Type} {o : Option α} {k0 R : β} {k1 : α → β} (h : o = none) (hm : zkI o k0 k1 = R) : k0 = R := by subst h; exact hm
theorem zpT {α β : Type} {o : Option α} {x : α} {k0 R : β} {k1 : α → β} (h : o = some x) (hm : zkI o k0 k1 = R) : k1 x = R := by subst h; exact hm
abbrev bE {β : Sort _} (b : Bool) (k1 k0 : β) : β := match b with | true => k1 | false => k0
theorem bE_t {β : Type} {b : Bool} {k1 k0 R : β} (h : b = true) (hm : bE b k1 k0 = R) : k1 = R := by subst h; exact hm
theorem bE_f {β : Type} {b : Bool} {k1 k0 R : β} (h : b = false) (hm : bE b k1 k0 = R) : k0 = R := by subst h; exact hm
theorem bE_pt {b : Bool} {k1 k0 : Prop} (h : b = true) (hm : bE b k1 k0) : k1 := by subst h; exact hm
theorem bE_pf {b : Bool} {k1 k0 : Prop} (h : b = false) (hm : bE b k1 k0) : k0 := by subst h; exact hm
theorem zmU {α : Type} {o : Option α} {k0 : Prop} {k1 : α → Prop} (h : o = none) (hm : zkI o k0 k1) : k0 := by subst h; exact hm
theorem zmV {α : Type} {o : Option α} {x : α} {k0 : Prop} {k1 : α → Prop} (h : o = some x) (hm : zkI o k0 k1) : k1 x := by subst h; exact hm

def zgS : Str → UInt8 → Nat → Int
 | [], _, _ => -1
 | x :: l, c, k => if x == c then (k : Int) else zgS l c (k + 1)
def strings_IndexByte (s : Str) (c : UInt8) : Option Int := some (zgS s c 0)
def zkJ : Str → Str → Bool
 | _, [] => true
 | [], _ :: _ => false
 | x :: s, y :: t => x == y && zkJ s t
def zha : Str → Str → Nat → Int
 | s, t, k => if zkJ s t then (k : Int) else match s with
  | [] => -1
  | _ :: s => zha s t (k + 1)
def strings_Index (s t : Str) : Option Int := if s.length < 4294967281 then some (zha s t 0) else none
def strings_Cut (s t : Str) : Option (Str × Str × Bool) := if s.length < 4294967281 then some (Go.Lib.cut s t) else none
def zjo : Str → Str → Nat → Int
 | [], _, _ => -1
 | x :: l, cs, k => if cs.contains x then (k : Int) else zjo l cs (k + 1)
def strings_IndexAny (s cs : Str) : Option Int := if s.length < 4294967281 ∧ cs.length < 4294967281 ∧ cs.all (fun c => c.toNat < 128) then some (zjo s cs 0) else none
def strings_Split (s sep : Str) : Option (List Str) := if s.length < 4294967281 ∧ 1 ≤ sep.length then some (Go.Lib.splitK sep 0 (Go.Lib.countB ⟨s.toArray⟩ ⟨sep.toArray⟩) s) else none
def zq (c : UInt8) : Str → List Str
 | [] => [[]]
 | x :: s => if x = c then [] :: zq c s else match zq c s with
  | [] => [[x]]
  | h :: t => (x :: h) :: t
def ziY (k : Nat) : UInt8 := if k < 10 then UInt8.ofNat (48 + k) else UInt8.ofNat (87 + k)
def ziy : Nat → Nat → Str
 | 0, u => [ziY u]
 | g + 1, u => if u < 16 then [ziY u] else ziy g (u / 16) ++ [ziY (u % 16)]
def zcz (n b : Int) : Option Str := if inI n = true ∧ b = 10 then some (Go.Lib.itoa n) else if b = 16 ∧ 0 ≤ n ∧ n < 1048576 then some (ziy 4 n.toNat) else none
def zcA (s cs : Str) : Option Str := if s.length < 4294967281 ∧ cs.length < 4294967281 ∧ cs.all (fun c => c.toNat < 128) then some (Go.Lib.trimS s cs) else none
def strings_Join (l : List Str) (sep : Str) : Option Str := if l.length ≤ 140737488355328 ∧ (Go.Lib.join l sep).length ≤ 140737488355328 then some (Go.Lib.join l sep) else none
def zdq (x_kind : Int) (x_limit : Int) (t6 : Bool) : Option (Option accum_Accum × Int) :=
 if t6 then (some (none, 1)) else (some ((some ((⟨x_kind, x_limit, [], 0, false, 0, false, (⟨0, [], [], 0, [], 0, []⟩ : api_Head)⟩ : accum_Accum)), 0)))

def zjV (x_kind : Int) (x_limit : Int) : Option (Option accum_Accum × Int) :=
 if (!(x_kind == 1)) then (if (!(x_kind == 2)) then (zdq x_kind x_limit true) else (if (decide (x_limit < 0)) then (zdq x_kind x_limit true) else (zdq x_kind x_limit (decide (65536 < x_limit))))) else (if (decide (x_limit < 0)) then (zdq x_kind x_limit true) else (zdq x_kind x_limit (decide (65536 < x_limit))))

def za0 (x_a : accum_Accum) (t8 : Bool) : Option Bool :=
 (zdB (x_a.f_buf.length : Int) 1).bind fun i9 =>
 (lAt x_a.f_buf i9).bind fun x10 =>
 some (!((x10 == 10) == t8))

def zc0 (x_a : accum_Accum) : Option Bool :=
 if (decide (1 < (x_a.f_buf.length : Int))) then ((zdB (x_a.f_buf.length : Int) 2).bind fun i4 =>
 (lAt x_a.f_buf i4).bind fun x5 =>
 za0 x_a (x5 == 13)) else (za0 x_a false)

def strings_ContainsAny (x_s : Str) (x_chars : Str) : Option Bool :=
 (strings_IndexAny x_s x_chars).bind fun r2 =>
 some (decide (0 ≤ r2))

def zy (x_s : Str) (x_c : UInt8) : Nat → Int → Option Int
 | 0, _ => none
 | n + 1, i4 =>
 if (decide (0 ≤ i4)) then ((sAt x_s i4).bind fun b8 =>
 if (b8 == x_c) then (some i4) else ((zdB i4 1).bind fun i13 =>
 (zy x_s x_c n) i13)) else (some (-1))

def zaQ (x_s : Str) (x_c : UInt8) : Option Int :=
 (zdB (x_s.length : Int) 1).bind fun i2 =>
 zy x_s x_c fuel i2

def zaa (x_s : Str) (x_c : UInt8) : Option Int :=
 (zaQ x_s x_c).bind fun r2 =>
 some r2

def zfo (x_s : Str) : Option scan_Scanner :=
 some (⟨x_s, 0⟩ : scan_Scanner)

def zA (x_c : scan_Scanner) : Option Str :=
 (ze8 x_c.f_s x_c.f_at).bind fun s4 =>
 some s4

def zY (t4 : Bool) : Option Bool :=
 some t4

def stringslite_HasPrefix (x_s : Str) (x_prefix : Str) : Option Bool :=
 if (decide ((x_prefix.length : Int) ≤ (x_s.length : Int))) then ((sTo x_s (x_prefix.length : Int)).bind fun s3 =>
 zY (s3 == x_prefix)) else (zY false)

def strings_HasPrefix (x_s : Str) (x_prefix : Str) : Option Bool :=
 (stringslite_HasPrefix x_s x_prefix).bind fun r2 =>
 some r2

def zbG (x_c : scan_Scanner) (x_t : Str) : Option (Bool × scan_Scanner) :=
 (zA x_c).bind fun r2 =>
 (strings_HasPrefix r2 x_t).bind fun r3 =>
 if (!r3) then (some (false, x_c)) else ((zaR x_c.f_at (x_t.length : Int)).bind fun i9 =>
 some ((true, (⟨x_c.f_s, i9⟩ : scan_Scanner))))

def zZ (x_c : scan_Scanner) : Option Bool :=
 (zA x_c).bind fun r2 =>
 some (r2 == [])

def zn (x_c : scan_Scanner) : Option (UInt8 × Bool) :=
 (zZ x_c).bind fun r2 =>
 if r2 then (some (0, false)) else ((sAt x_c.f_s x_c.f_at).bind fun b7 =>
 some (b7, true))

def zel (t3 : Bool) : Option Bool :=
 some t3

def zH (x_b : UInt8) : Option Bool :=
 if (decide (48 ≤ x_b)) then (zel (decide (x_b ≤ 57))) else (zel false)

def zbz (x_c : scan_Scanner) (t5 : Bool) : Option (Bool × scan_Scanner) :=
 if t5 then (some (false, x_c)) else ((zaR x_c.f_at 1).bind fun i9 =>
 some ((true, (⟨x_c.f_s, i9⟩ : scan_Scanner))))

def zd (x_c : scan_Scanner) (x_b : UInt8) : Option (Bool × scan_Scanner) :=
 (zn x_c).bind fun r2 =>
 if (!r2.2) then (zbz x_c true) else (zbz x_c (!(r2.1 == x_b)))

def zaH (x_p : startline_line) (r3 : UInt8 × Bool) (t7 : Bool) : Option (Int × Bool × scan_Scanner) :=
 if t7 then (some (0, false, x_p.Scanner)) else ((zd x_p.Scanner r3.1).bind fun r11 =>
 some ((((r3.1 - 48).toNat : Int), true, r11.2)))

def zaI (x_p : startline_line) : Option (Int × Bool × scan_Scanner) :=
 (zn x_p.Scanner).bind fun r3 =>
 if (!r3.2) then (zaH x_p r3 true) else ((zH r3.1).bind fun r6 =>
 zaH x_p r3 (!r6))

def zam (r9 : Int × Bool × scan_Scanner) (r15 : Int × Bool × scan_Scanner) (t20 : Bool) : Option (Int × Int × Bool × scan_Scanner) :=
 some (r9.1, r15.1, t20, r15.2.2)

def zai (x_p : startline_line) : Option (Int × Int × Bool × scan_Scanner) :=
 (zbG x_p.Scanner [72, 84, 84, 80, 47]).bind fun r3 =>
 if (!r3.1) then (some (0, 0, false, r3.2)) else ((zaI (⟨r3.2⟩ : startline_line)).bind fun r9 =>
 (zd r9.2.2 46).bind fun r12 =>
 (zaI (⟨r12.2⟩ : startline_line)).bind fun r15 =>
 if r9.2.1 then (if r12.1 then (zam r9 r15 r15.2.1) else (zam r9 r15 false)) else (zam r9 r15 false))

def zaE (t13 : Bool) : Option Bool :=
 some t13

def zcr (x_s : Str) : Option Bool :=
 (zfo x_s).bind fun r2 =>
 (zai (⟨r2⟩ : startline_line)).bind fun r6 =>
 if r6.2.2.1 then ((zZ r6.2.2.2).bind fun r10 =>
 if r10 then (if (!(r6.1 == 1)) then (zaE true) else (zaE (decide (1 < r6.2.1)))) else (zaE false)) else (zaE false)

def za3 (x_c : scan_Scanner) : Option Int :=
 some x_c.f_at

def zba (r2 : Int) (s14 : Str) (i15 : Int) : Option (Str × scan_Scanner) :=
 (zjm s14 r2 i15).bind fun s18 =>
 some ((s18, (⟨s14, i15⟩ : scan_Scanner)))

def zay (rec1 : Str → Int → Option (Str × scan_Scanner)) (r2 : Int) (s4 : Str) (i5 : Int) (t10 : Bool) : Option (Str × scan_Scanner) :=
 if t10 then (zba r2 s4 i5) else ((zaR i5 1).bind fun i13 =>
 rec1 s4 i13)

def zB (x_is : UInt8 → Option Bool) (r2 : Int) : Nat → Str → Int → Option (Str × scan_Scanner)
 | 0, _, _ => none
 | n + 1, s4, i5 =>
 (zn (⟨s4, i5⟩ : scan_Scanner)).bind fun r6 =>
 if (!r6.2) then (zay (zB x_is r2 n) r2 s4 i5 true) else ((x_is r6.1).bind fun r9 =>
 zay (zB x_is r2 n) r2 s4 i5 (!r9))

def zI (x_c : scan_Scanner) (x_is : UInt8 → Option Bool) : Option (Str × scan_Scanner) :=
 (za3 x_c).bind fun r2 =>
 zB x_is r2 fuel x_c.f_s x_c.f_at

def zfp (x_b : UInt8) (t3 : Bool) : Option UInt8 :=
 if t3 then (some (x_b + 32)) else (some x_b)

def zar (x_b : UInt8) : Option UInt8 :=
 if (decide (65 ≤ x_b)) then (zfp x_b (decide (x_b ≤ 90))) else (zfp x_b false)

def zem (t5 : Bool) : Option Bool :=
 some t5

def zf7 (x_b : UInt8) : Option Bool :=
 (zar x_b).bind fun r2 =>
 if (decide (97 ≤ r2)) then ((zar x_b).bind fun r4 =>
 zem (decide (r4 ≤ 122))) else (zem false)

def zgW (x_b : UInt8) (x_l : Str) : Option Bool :=
 (strings_IndexByte x_l x_b).bind fun r2 =>
 some (decide (0 ≤ r2))

def zc1 (t7 : Bool) : Option Bool :=
 some t7

def zb6 (x_b : UInt8) : Option Bool :=
 (zf7 x_b).bind fun r2 =>
 if r2 then (zc1 true) else ((zH x_b).bind fun r4 =>
 if r4 then (zc1 true) else ((zgW x_b [33, 35, 36, 37, 38, 39, 42, 43, 45, 46, 94, 95, 96, 124, 126]).bind fun r6 =>
 zc1 r6))

def zbf (x_c : scan_Scanner) : Option (Str × Bool × scan_Scanner) :=
 (zI x_c zb6).bind fun r2 =>
 some ((r2.1, !(r2.1 == []), r2.2))

def zbU (x_b : UInt8) : Option Bool :=
 some (!(x_b == 32))

def zaJ (r3 : Int × Int × Bool × scan_Scanner) (t8 : Bool) : Option (Int × Bool × scan_Scanner) :=
 some (r3.2.1, t8, r3.2.2.2)

def zaK (x_p : startline_line) : Option (Int × Bool × scan_Scanner) :=
 (zai x_p).bind fun r3 =>
 if r3.2.2.1 then (if (r3.1 == 1) then (zaJ r3 (decide (r3.2.1 ≤ 1))) else (zaJ r3 false)) else (zaJ r3 false)

def zcB (rec1 : Int → Option Bool) (x_is : UInt8 → Option Bool) (i3 : Int) (x7 : Str) : Nat → Int → Option Bool
 | 0, _ => none
 | n + 1, i12 =>
 if (decide (i12 < (x7.length : Int))) then ((sAt x7 i12).bind fun b17 =>
 (x_is b17).bind fun r18 =>
 if (!r18) then (some false) else ((zaR i12 1).bind fun i23 =>
 (zcB rec1 x_is i3 x7 n) i23)) else ((zaR i3 1).bind fun i25 =>
 rec1 i25)

def zcC (x_is : UInt8 → Option Bool) (x_l : List Str) : Nat → Int → Option Bool
 | 0, _ => none
 | n + 1, i3 =>
 if (decide (i3 < (x_l.length : Int))) then ((lAt x_l i3).bind fun x7 =>
 zcB (zcC x_is x_l n) x_is i3 x7 fuel 0) else (some true)

def zcs (x_is : UInt8 → Option Bool) (x_l : List Str) : Option Bool :=
 zcC x_is x_l fuel 0

def zeH (x_b : UInt8) : Option Int :=
 (zH x_b).bind fun r2 =>
 if r2 then (some (((x_b - 48).toNat : Int))) else ((zar x_b).bind fun r7 =>
 (zaR (((r7 - 97).toNat : Int)) 10).bind fun i8 =>
 some i8)

def zct (rec2 : Int → Int → Option (Int × Int)) (x_base : Int) (i11 : Int) (i12 : Int) (r18 : Int) (t23 : Bool) : Option (Int × Int) :=
 if t23 then (some (0, 7)) else ((zrX i11 x_base).bind fun i27 =>
 (zaR i27 r18).bind fun i28 =>
 (zaR i12 1).bind fun i30 =>
 rec2 i28 i30)

def zaC (x_s : Str) (x_base : Int) (x_most : Int) : Nat → Int → Int → Option (Int × Int)
 | 0, _, _ => none
 | n + 1, i11, i12 =>
 if (decide (i12 < (x_s.length : Int))) then ((sAt x_s i12).bind fun b17 =>
 (zeH b17).bind fun r18 =>
 if (decide (x_most < r18)) then (zct (zaC x_s x_base x_most n) x_base i11 i12 r18 true) else ((zdB x_most r18).bind fun i21 =>
 (iDiv i21 x_base).bind fun i22 =>
 zct (zaC x_s x_base x_most n) x_base i11 i12 r18 (decide (i22 < i11)))) else (some (i11, 0))

def zcu (x_s : Str) (x_base : Int) (x_most : Int) (t5 : Bool) : Option (Int × Int) :=
 if t5 then (some (0, 2)) else (zaC x_s x_base x_most fuel 0 0)

def zen (x_s : Str) (x_base : Int) (x_most : Int) (x_is : UInt8 → Option Bool) : Option (Int × Int) :=
 if (x_s == []) then (zcu x_s x_base x_most true) else ((zcs x_is ([x_s] : List Str)).bind fun r4 =>
 zcu x_s x_base x_most (!r4))

def za4 (x_s : Str) (x_most : Int) : Option (Int × Int) :=
 (zen x_s 10 x_most zH).bind fun r2 =>
 some (r2.1, r2.2)

def zeo (x_n : Int) (x_base : Int) : Option Str :=
 if (decide (x_n < 0)) then (some []) else ((zcz x_n x_base).bind fun r6 =>
 some r6)

def zdr (x_n : Int) : Option Str :=
 (zeo x_n 10).bind fun r2 =>
 some r2

def zbH (t6 : Bool) : Option Bool :=
 some t6

def zce (x_s : Str) (x_most : Int) : Option Bool :=
 (za4 x_s x_most).bind fun r2 =>
 if (r2.2 == 0) then ((zdr r2.1).bind fun r5 =>
 zbH (r5 == x_s)) else (zbH false)

def zdP (s : Str) : Option Bool := if s.length < 1000000000 then ((zq 46 s).mapM (fun x => zce x 255)).bind fun bs => some (bs.all id && decide ((bs.length : Int) = 4)) else none

def zd6 (t7 : Bool) : Option Bool :=
 some t7

def zae (x_b : UInt8) : Option Bool :=
 (zH x_b).bind fun r2 =>
 if r2 then (zd6 true) else ((zar x_b).bind fun r4 =>
 if (decide (97 ≤ r4)) then ((zar x_b).bind fun r6 =>
 zd6 (decide (r6 ≤ 102))) else (zd6 false))

def zbg (rec1 : Int → Int → Option Int) (i13 : Int) (i36 : Int) : Option Int :=
 (zaR i13 1).bind fun i37 =>
 rec1 i36 i37

def zaF (rec1 : Int → Int → Option Int) (i12 : Int) (i13 : Int) (t32 : Bool) : Option Int :=
 if t32 then ((zaR i12 1).bind fun i34 =>
 zbg rec1 i13 i34) else (some (-1))

def zaG (rec1 : Int → Int → Option Int) (i12 : Int) (i13 : Int) (x17 : Str) (t25 : Bool) : Option Int :=
 if t25 then ((zaR i12 2).bind fun i27 =>
 zbg rec1 i13 i27) else (if (decide (1 ≤ (x17.length : Int))) then (if (decide ((x17.length : Int) ≤ 4)) then ((zcs zae ([x17] : List Str)).bind fun r31 =>
 zaF rec1 i12 i13 r31) else (zaF rec1 i12 i13 false)) else (zaF rec1 i12 i13 false))

def zw (x_last : Bool) (r6 : List Str) : Nat → Int → Int → Option Int
 | 0, _, _ => none
 | n + 1, i12, i13 =>
 if (decide (i13 < (r6.length : Int))) then ((lAt r6 i13).bind fun x17 =>
 if x_last then ((zdB (r6.length : Int) 1).bind fun i22 =>
 if (i13 == i22) then ((zdP x17).bind fun r24 =>
 zaG (zw x_last r6 n) i12 i13 x17 r24) else (zaG (zw x_last r6 n) i12 i13 x17 false)) else (zaG (zw x_last r6 n) i12 i13 x17 false)) else (some i12)

def zbP (x_s : Str) (x_last : Bool) : Option Int :=
 if (x_s == []) then (some 0) else ((strings_Split x_s [58]).bind fun r6 =>
 zw x_last r6 fuel 0 0)

def za5 (t15 : Bool) : Option Bool :=
 some t15

def zep (x_s : Str) : Option Bool :=
 (strings_Cut x_s [58, 58]).bind fun r2 =>
 if (!r2.2.2) then ((zbP x_s true).bind fun r6 =>
 some (r6 == 8)) else ((zbP r2.1 false).bind fun r9 =>
 (zbP r2.2.1 true).bind fun r10 =>
 if (decide (0 ≤ r9)) then (if (decide (0 ≤ r10)) then ((zaR r9 r10).bind fun i14 =>
 za5 (decide (i14 ≤ 7))) else (za5 false)) else (za5 false))

def zL (t8 : Bool) : Option Bool :=
 some t8

def zeq (x_s : Str) : Option Bool :=
 if (decide (3 ≤ (x_s.length : Int))) then ((sAt x_s 0).bind fun b3 =>
 if (b3 == 37) then ((zjm x_s 1 3).bind fun s5 =>
 (zcs zae ([s5] : List Str)).bind fun r7 =>
 zL r7) else (zL false)) else (zL false)

def zbb (t7 : Bool) : Option Bool :=
 some t7

def zbh (x_b : UInt8) : Option Bool :=
 (zf7 x_b).bind fun r2 =>
 if r2 then (zbb true) else ((zH x_b).bind fun r4 =>
 if r4 then (zbb true) else ((zgW x_b [45, 46, 95, 126]).bind fun r6 =>
 zbb r6))

def zfb (x_b : UInt8) : Option Bool :=
 (zgW x_b [33, 36, 38, 39, 40, 41, 42, 43, 44, 59, 61]).bind fun r2 =>
 some r2

def zc2 (rec1 : Str → Option Bool) (s6 : Str) (t19 : Bool) : Option Bool :=
 if t19 then ((ze8 s6 1).bind fun s21 =>
 rec1 s21) else (some false)

def zaj : Nat → Str → Option Bool
 | 0, _ => none
 | n + 1, s6 =>
 if (!(s6 == [])) then ((zeq s6).bind fun r10 =>
 if r10 then ((ze8 s6 3).bind fun s13 =>
 (zaj n) s13) else ((sAt s6 0).bind fun b14 =>
 (zbh b14).bind fun r15 =>
 if r15 then (zc2 (zaj n) s6 true) else ((sAt s6 0).bind fun b17 =>
 (zfb b17).bind fun r18 =>
 zc2 (zaj n) s6 r18))) else (some true)

def zeI (x_s : Str) : Option Bool :=
 if (x_s == []) then (some false) else (zaj fuel x_s)

def zcf (i24 : Int) (s25 : Str) : Option (api_Host × Bool) :=
 some (((⟨i24, s25, (-1)⟩ : api_Host), !(i24 == 0)))

def zbA (x_s : Str) (t14 : Bool) : Option (api_Host × Bool) :=
 if t14 then ((zdB (x_s.length : Int) 1).bind fun i16 =>
 (zjm x_s 1 i16).bind fun s17 =>
 zcf 3 s17) else ((zdP x_s).bind fun r18 =>
 if r18 then (zcf 2 x_s) else ((zeI x_s).bind fun r21 =>
 if r21 then (zcf 1 x_s) else (zcf 0 x_s)))

def zfc (x_s : Str) : Option (api_Host × Bool) :=
 if (decide (2 < (x_s.length : Int))) then ((sAt x_s 0).bind fun b6 =>
 if (b6 == 91) then ((zdB (x_s.length : Int) 1).bind fun i8 =>
 (sAt x_s i8).bind fun b9 =>
 if (b9 == 93) then ((zdB (x_s.length : Int) 1).bind fun i11 =>
 (zjm x_s 1 i11).bind fun s12 =>
 (zep s12).bind fun r13 =>
 zbA x_s r13) else (zbA x_s false)) else (zbA x_s false)) else (zbA x_s false)

def zcD (x_s : Str) (r10 : Int) (r17 : api_Host × Bool) (t24 : Bool) : Option (api_Host × Int) :=
 if t24 then (some (((⟨0, [], 0⟩ : api_Host), 27))) else ((zaR r10 1).bind fun i28 =>
 (ze8 x_s i28).bind fun s29 =>
 (za4 s29 65535).bind fun r30 =>
 some (((⟨r17.1.Kind, r17.1.Name, r30.1⟩ : api_Host), 0)))

def zcg (x_s : Str) : Option (api_Host × Int) :=
 (zfc x_s).bind fun r3 =>
 if r3.2 then (some (r3.1, 0)) else ((zaa x_s 58).bind fun r10 =>
 if (decide (r10 < 0)) then (some (((⟨0, [], 0⟩ : api_Host), 27))) else ((sTo x_s r10).bind fun s16 =>
 (zfc s16).bind fun r17 =>
 if (!r17.2) then (zcD x_s r10 r17 true) else ((zaR r10 1).bind fun i21 =>
 (ze8 x_s i21).bind fun s22 =>
 (zce s22 65535).bind fun r23 =>
 zcD x_s r10 r17 (!r23))))

def ze2 (s : Str) : Option Str := if s.length < 4294967281 then s.mapM zar else none

def zdD (t7 : Bool) : Option Bool :=
 some t7

def zfq (x_b : UInt8) : Option Bool :=
 (zbh x_b).bind fun r2 =>
 if r2 then (zdD true) else ((zfb x_b).bind fun r4 =>
 if r4 then (zdD true) else ((zgW x_b [58, 64]).bind fun r6 =>
 zdD r6))

def zfd (rec1 : Int → Option Bool) (i27 : Int) : Option Bool :=
 (zaR i27 1).bind fun i28 =>
 rec1 i28

def zdj (rec1 : Int → Option Bool) (i3 : Int) (t23 : Bool) : Option Bool :=
 if t23 then ((zaR i3 2).bind fun i25 =>
 zfd rec1 i25) else (some false)

def zgh (rec1 : Int → Option Bool) (x_s : Str) (i3 : Int) (t12 : Bool) : Option Bool :=
 if t12 then (zfd rec1 i3) else ((sAt x_s i3).bind fun b14 =>
 if (b14 == 37) then ((zaR i3 2).bind fun i16 =>
 if (decide (i16 < (x_s.length : Int))) then ((zaR i3 1).bind fun i18 =>
 (zaR i3 3).bind fun i19 =>
 (zjm x_s i18 i19).bind fun s20 =>
 (zcs zae ([s20] : List Str)).bind fun r22 =>
 zdj rec1 i3 r22) else (zdj rec1 i3 false)) else (zdj rec1 i3 false))

def za6 (x_s : Str) (x_more : Str) : Nat → Int → Option Bool
 | 0, _ => none
 | n + 1, i3 =>
 if (decide (i3 < (x_s.length : Int))) then ((sAt x_s i3).bind fun b7 =>
 (zfq b7).bind fun r8 =>
 if r8 then (zgh (za6 x_s x_more n) x_s i3 true) else ((sAt x_s i3).bind fun b10 =>
 (strings_IndexByte x_more b10).bind fun r11 =>
 zgh (za6 x_s x_more n) x_s i3 (decide (0 ≤ r11)))) else (some true)

def zh6 (x_s : Str) (x_more : Str) : Option Bool :=
 za6 x_s x_more fuel 0

def zeJ (t5 : Bool) : Option Bool :=
 some t5

def zhb (x_s : Str) : Option Bool :=
 (strings_HasPrefix x_s [47]).bind fun r2 =>
 if r2 then ((zh6 x_s [47]).bind fun r4 =>
 zeJ r4) else (zeJ false)

def zgi (x_s : Str) : Option Bool :=
 (zh6 x_s [47, 63]).bind fun r2 =>
 some r2

def zfr (r2 : Str × Str × Bool) (t7 : Bool) : Option (Str × Str × Bool × Int) :=
 if t7 then (some ([], [], false, 2)) else (some (r2.1, r2.2.1, r2.2.2, 0))

def zh7 (x_s : Str) : Option (Str × Str × Bool × Int) :=
 (strings_Cut x_s [63]).bind fun r2 =>
 (zhb r2.1).bind fun r4 =>
 if (!r4) then (zfr r2 true) else ((zgi r2.2.1).bind fun r6 =>
 zfr r2 (!r6))

def zd7 (x_t : api_Target) (r15 : Str × Str × Bool × Int) (s19 : Str) : Option (api_Target × Bool) :=
 some (((⟨x_t.Kind, x_t.Scheme, x_t.Host, s19, r15.2.1, r15.2.2.1⟩ : api_Target), r15.2.2.2 == 0))

def zd8 (x_t : api_Target) (b9 : UInt8) (s14 : Str) : Option (api_Target × Bool) :=
 (zh7 s14).bind fun r15 =>
 if (b9 == 63) then (zd7 x_t r15 []) else (zd7 x_t r15 r15.1)

def zfe (x_t : api_Target) (x_s : Str) : Option (api_Target × Bool) :=
 if (x_s == []) then (some (x_t, true)) else ((sAt x_s 0).bind fun b9 =>
 if (b9 == 63) then ((zj9 [47] x_s).bind fun s13 =>
 zd8 x_t b9 s13) else (zd8 x_t b9 x_s))

def zbi (r3 : Str × Str × Bool) (r5 : Str) (i18 : Int) : Option (api_Target × Bool) :=
 (sTo r3.2.1 i18).bind fun s19 =>
 (zcg s19).bind fun r20 =>
 if (!(r20.2 == 0)) then (some (((⟨2, r5, (⟨0, [], 0⟩ : api_Host), [], [], false⟩ : api_Target), false))) else ((ze8 r3.2.1 i18).bind fun s28 =>
 (zfe (⟨2, r5, r20.1, [], [], false⟩ : api_Target) s28).bind fun r29 =>
 some (r29.1, r29.2))

def zU (r3 : Str × Str × Bool) (r5 : Str) (t10 : Bool) : Option (api_Target × Bool) :=
 if t10 then (some (((⟨2, r5, (⟨0, [], 0⟩ : api_Host), [], [], false⟩ : api_Target), false))) else ((strings_IndexAny r3.2.1 [47, 63]).bind fun r14 =>
 if (decide (r14 < 0)) then (zbi r3 r5 (r3.2.1.length : Int)) else (zbi r3 r5 r14))

def zdE (x_s : Str) : Option (api_Target × Bool) :=
 (strings_Cut x_s [58, 47, 47]).bind fun r3 =>
 (ze2 r3.1).bind fun r5 =>
 if (!r3.2.2) then (zU r3 r5 true) else (if (!(r5 == [104, 116, 116, 112])) then (zU r3 r5 (!(r5 == [104, 116, 116, 112, 115]))) else (zU r3 r5 false))

def zh8 (x_method : Str) (x_s : Str) : Option (api_Target × Bool) :=
 if (x_s == [42]) then (some (((⟨4, [], (⟨0, [], 0⟩ : api_Host), [], [], false⟩ : api_Target), x_method == [79, 80, 84, 73, 79, 78, 83]))) else ((strings_HasPrefix x_s [47]).bind fun r7 =>
 if (!r7) then ((zdE x_s).bind fun r10 =>
 some (r10.1, r10.2)) else ((zfe ((⟨1, [], (⟨0, [], 0⟩ : api_Host), [], [], false⟩ : api_Target)) x_s).bind fun r13 =>
 some (r13.1, r13.2)))

def zdF (r5 : api_Host × Int) (t9 : Bool) : Option (api_Target × Int) :=
 if t9 then (some (((⟨0, [], (⟨0, [], 0⟩ : api_Host), [], [], false⟩ : api_Target), 20))) else (some (((⟨3, [], r5.1, [], [], false⟩ : api_Target), 0)))

def zfs (x_method : Str) (x_s : Str) : Option (api_Target × Int) :=
 if (x_method == [67, 79, 78, 78, 69, 67, 84]) then ((zcg x_s).bind fun r5 =>
 if (!(r5.2 == 0)) then (zdF r5 true) else (zdF r5 (decide (r5.1.Port < 0)))) else ((zh8 x_method x_s).bind fun r15 =>
 if (!r15.2) then (some (((⟨0, [], (⟨0, [], 0⟩ : api_Host), [], [], false⟩ : api_Target), 20))) else (some (r15.1, 0)))

def zG (r17 : Str × Bool × scan_Scanner) (r23 : Str × scan_Scanner) (r29 : Int × Bool × scan_Scanner) (t41 : Bool) : Option (api_Head × Int) :=
 if t41 then (some (((⟨0, [], [], 0, [], 0, []⟩ : api_Head), 20))) else (some (((⟨1, r17.1, r23.1, 0, [], r29.1, []⟩ : api_Head), 0)))

def zcE (x_a0 : Str) : Option (api_Head × Int) :=
 (zaa x_a0 32).bind fun r5 =>
 (zaR r5 1).bind fun i6 =>
 (ze8 x_a0 i6).bind fun s7 =>
 (zcr s7).bind fun r8 =>
 if r8 then (some (((⟨0, [], [], 0, [], 0, []⟩ : api_Head), 26))) else ((zfo x_a0).bind fun r13 =>
 (zbf r13).bind fun r17 =>
 (zd r17.2.2 32).bind fun r20 =>
 (zI r20.2 zbU).bind fun r23 =>
 (zd r23.2 32).bind fun r26 =>
 (zaK (⟨r26.2⟩ : startline_line)).bind fun r29 =>
 (zfs r17.1 r23.1).bind fun r32 =>
 if (!r17.2.1) then (zG r17 r23 r29 true) else (if (!r20.1) then (zG r17 r23 r29 true) else (if (!r26.1) then (zG r17 r23 r29 true) else (if (!r29.2.1) then (zG r17 r23 r29 true) else ((zZ r29.2.2).bind fun r39 =>
 if (!r39) then (zG r17 r23 r29 true) else (zG r17 r23 r29 (!(r32.2 == 0))))))))

def zds (t3 : Bool) : Option Bool :=
 some t3

def zgA (x_b : UInt8) : Option Bool :=
 if (decide (32 < x_b)) then (zds (decide (x_b < 127))) else (zds false)

def zer (t3 : Bool) : Option Bool :=
 some t3

def zcO (x_b : UInt8) : Option Bool :=
 if (x_b == 32) then (zer true) else (zer (x_b == 9))

def zc3 (t6 : Bool) : Option Bool :=
 some t6

def zah (x_b : UInt8) : Option Bool :=
 (zgA x_b).bind fun r2 =>
 if r2 then (zc3 true) else ((zcO x_b).bind fun r4 =>
 if r4 then (zc3 true) else (zc3 (decide (127 < x_b))))

def zC (r14 : Int × Bool × scan_Scanner) (r23 : Bool × scan_Scanner) (r26 : Int × Int) (t37 : Bool) : Option (api_Head × Int) :=
 if t37 then (some (((⟨0, [], [], 0, [], 0, []⟩ : api_Head), 20))) else ((zA r23.2).bind fun r41 =>
 some (((⟨2, [], [], r26.1, r41, r14.1, []⟩ : api_Head), 0)))

def zc4 (x_a0 : Str) : Option (api_Head × Int) :=
 (strings_Cut x_a0 [32]).bind fun r3 =>
 (zcr r3.1).bind fun r5 =>
 if r5 then (some (((⟨0, [], [], 0, [], 0, []⟩ : api_Head), 26))) else ((zfo x_a0).bind fun r10 =>
 (zaK (⟨r10⟩ : startline_line)).bind fun r14 =>
 (zd r14.2.2 32).bind fun r17 =>
 (zI r17.2 zH).bind fun r20 =>
 (zd r20.2 32).bind fun r23 =>
 (za4 r20.1 599).bind fun r26 =>
 if (!r14.2.1) then (zC r14 r23 r26 true) else (if (!r17.1) then (zC r14 r23 r26 true) else (if (!r23.1) then (zC r14 r23 r26 true) else (if (!((r20.1.length : Int) == 3)) then (zC r14 r23 r26 true) else (if (!(r26.2 == 0)) then (zC r14 r23 r26 true) else (if (decide (r26.1 < 100)) then (zC r14 r23 r26 true) else ((zA r23.2).bind fun r34 =>
 (zcs zah ([r34] : List Str)).bind fun r36 =>
 zC r14 r23 r26 (!r36))))))))

def zch (x_kind : Int) (x_s : Str) (t4 : Bool) : Option (api_Head × Int) :=
 if t4 then (some (((⟨0, [], [], 0, [], 0, []⟩ : api_Head), 1))) else ((strings_ContainsAny x_s [13, 10]).bind fun r7 =>
 if r7 then (some (((⟨0, [], [], 0, [], 0, []⟩ : api_Head), 24))) else (if (x_kind == 1) then ((zcE x_s).bind fun r13 =>
 some (r13.1, r13.2)) else ((zc4 x_s).bind fun r18 =>
 some (r18.1, r18.2))))

def za7 (x_kind : Int) (x_s : Str) : Option (api_Head × Int) :=
 if (!(x_kind == 1)) then (zch x_kind x_s (!(x_kind == 2))) else (zch x_kind x_s false)

def z8 (x_c : scan_Scanner) : Option (Str × scan_Scanner) :=
 (zI x_c zcO).bind fun r2 =>
 some (r2.1, r2.2)

def zci (r17 : Str × Bool × scan_Scanner) (r20 : Str × scan_Scanner) (t26 : Bool) (s27 : Str) (i28 : Int) : Option (api_Field × Int) :=
 if t26 then (some (((⟨[], []⟩ : api_Field), 21))) else (if (!(r20.1 == [])) then (some (((⟨[], []⟩ : api_Field), 22))) else ((zA (⟨s27, i28⟩ : scan_Scanner)).bind fun r34 =>
 (zcs zah ([r34] : List Str)).bind fun r36 =>
 if (!r36) then (some (((⟨[], []⟩ : api_Field), 25))) else ((zA (⟨s27, i28⟩ : scan_Scanner)).bind fun r41 =>
 (zcA r41 [32, 9]).bind fun r42 =>
 some (((⟨r17.1, r42⟩ : api_Field), 0)))))

def za8 (x_s : Str) : Option (api_Field × Int) :=
 (strings_ContainsAny x_s [13, 10]).bind fun r3 =>
 if r3 then (some (((⟨[], []⟩ : api_Field), 24))) else ((zfo x_s).bind fun r8 =>
 (z8 r8).bind fun r11 =>
 if (!(r11.1 == [])) then (some (((⟨[], []⟩ : api_Field), 23))) else ((zbf r11.2).bind fun r17 =>
 (z8 r17.2.2).bind fun r20 =>
 if (!r17.2.1) then (zci r17 r20 true r20.2.f_s r20.2.f_at) else ((zd r20.2 58).bind fun r24 =>
 zci r17 r20 (!r24.1) r24.2.f_s r24.2.f_at)))

def zu (x_s : List api_Field) : Option (List api_Field) :=
 if zF 0 x_s.length 32 then (some x_s) else none

def zjW (x_l : List api_Field) : Option bag_Bag :=
 (zu x_l).bind fun r2 =>
 some (⟨r2⟩ : bag_Bag)

def zgT (x_b : bag_Bag) : Option (List api_Field) :=
 (zu x_b.f_l).bind fun r4 =>
 some r4

def zfV (x_a : Str) (x_b : Str) : Option Bool :=
 (ze2 x_a).bind fun r2 =>
 (ze2 x_b).bind fun r3 =>
 some (r2 == r3)

def zcF (rec1 : (List Str) → Int → Option (List Str)) (i10 : Int) (l28 : List Str) : Option (List Str) :=
 (zaR i10 1).bind fun i29 =>
 rec1 l28 i29

def zas (x_name : Str) (r3 : List api_Field) : Nat → (List Str) → Int → Option (List Str)
 | 0, _, _ => none
 | n + 1, l9, i10 =>
 if (decide (i10 < (r3.length : Int))) then ((lAt r3 i10).bind fun x14 =>
 (zfV x14.Name x_name).bind fun r19 =>
 if r19 then (if zF l9.length 1 16 then (zcF (zas x_name r3 n) i10 (l9 ++ ([x14.Value] : List Str))) else none) else (zcF (zas x_name r3 n) i10 l9)) else (some l9)

def zcj (x_b : bag_Bag) (x_name : Str) : Option (List Str) :=
 (zgT x_b).bind fun r3 =>
 zas x_name r3 fuel [] 0

def zeK (rec2 : Int → Option Bool) (i21 : Int) (t33 : Bool) : Option Bool :=
 if t33 then (some false) else ((zaR i21 1).bind fun i37 =>
 rec2 i37)

def zb7 (r11 : List Str) : Nat → Int → Option Bool
 | 0, _ => none
 | n + 1, i21 =>
 if (decide (i21 < (r11.length : Int))) then ((lAt r11 i21).bind fun x25 =>
 (zcg x25).bind fun r29 =>
 if (!(r29.2 == 0)) then (zeK (zb7 r11 n) i21 (!(x25 == []))) else (zeK (zb7 r11 n) i21 false)) else (some true)

def zcP (r11 : List Str) (t16 : Bool) : Option Bool :=
 if t16 then (some false) else (zb7 r11 fuel 0)

def zhc (x_h : api_Head) : Option Bool :=
 if (!(x_h.Kind == 1)) then (some true) else ((zjW x_h.Fields).bind fun r7 =>
 (zcj r7 [72, 111, 115, 116]).bind fun r11 =>
 if (decide (1 < (r11.length : Int))) then (zcP r11 true) else (zcP r11 (decide ((r11.length : Int) < x_h.Minor))))

def zfW (x_h : api_Head) : Option Int :=
 if (decide (100 < (x_h.Fields.length : Int))) then (some 3) else ((zhc x_h).bind fun r6 =>
 if (!r6) then (some 27) else (some 0))

def zeL (i75 : Int) (s76 : Str) (s77 : Str) (i78 : Int) (s79 : Str) (i80 : Int) (l83 : List api_Field) : Option (api_Head × Int) :=
 (zfW (⟨i75, s76, s77, i78, s79, i80, l83⟩ : api_Head)).bind fun r84 =>
 if (!(r84 == 0)) then (some (((⟨0, [], [], 0, [], 0, []⟩ : api_Head), r84))) else (some (((⟨i75, s76, s77, i78, s79, i80, l83⟩ : api_Head), 0)))

def zdQ (l41 : List Str) : Nat → Int → Str → Str → Int → Str → Int → (List api_Field) → Int → Option (api_Head × Int)
 | 0, _, _, _, _, _, _, _, _ => none
 | n + 1, i45, s46, s47, i48, s49, i50, l53, i54 =>
 if (decide (i54 < (l41.length : Int))) then ((lAt l41 i54).bind fun x58 =>
 (za8 x58).bind fun r62 =>
 if (!(r62.2 == 0)) then (some (((⟨0, [], [], 0, [], 0, []⟩ : api_Head), r62.2))) else (if zF l53.length 1 32 then ((zaR i54 1).bind fun i74 =>
 (zdQ l41 n) i45 s46 s47 i48 s49 i50 (l53 ++ [r62.1]) i74) else none)) else (zeL i45 s46 s47 i48 s49 i50 l53)

def zdR (x_a0 : Int) (x_a1 : Str) (r12 : Int) (t19 : Bool) : Option (api_Head × Int) :=
 if t19 then (some (((⟨0, [], [], 0, [], 0, []⟩ : api_Head), 6))) else ((sTo x_a1 r12).bind fun s23 =>
 (strings_Split s23 [13, 10]).bind fun r24 =>
 (lAt r24 0).bind fun x28 =>
 (za7 x_a0 x28).bind fun r31 =>
 if (!(r31.2 == 0)) then (some (((⟨0, [], [], 0, [], 0, []⟩ : api_Head), r31.2))) else ((zqN r24 1).bind fun l41 =>
 zdQ l41 fuel r31.1.Kind r31.1.Method r31.1.Target r31.1.Code r31.1.Reason r31.1.Minor r31.1.Fields 0))

def zhd (x_a0 : Int) (x_a1 : Str) (x_a2 : Int) : Option (api_Head × Int) :=
 (za7 x_a0 []).bind fun r3 =>
 if (r3.2 == 1) then (some (((⟨0, [], [], 0, [], 0, []⟩ : api_Head), r3.2))) else ((strings_Index x_a1 [13, 10, 13, 10]).bind fun r12 =>
 if (decide (x_a2 < (x_a1.length : Int))) then (some (((⟨0, [], [], 0, [], 0, []⟩ : api_Head), 3))) else (if (decide (r12 < 0)) then (zdR x_a0 x_a1 r12 true) else ((zaR r12 4).bind fun i18 =>
 zdR x_a0 x_a1 r12 (!(i18 == (x_a1.length : Int))))))

def zbV (x_a : accum_Accum) (i16 : Int) : Option (Bool × Int × accum_Accum) :=
 some ((false, i16, (⟨x_a.f_kind, x_a.f_limit, x_a.f_buf, (x_a.f_buf.length : Int), x_a.f_took, x_a.f_bad, x_a.f_whole, x_a.f_got⟩ : accum_Accum)))

def zc5 (x_a : accum_Accum) (x_s : Str) : Option (Bool × Int × accum_Accum) :=
 if (x_a.f_from == 0) then ((za7 x_a.f_kind x_s).bind fun r5 =>
 zbV x_a r5.2) else (if (!(x_s == [])) then ((za8 x_s).bind fun r10 =>
 zbV x_a r10.2) else ((zhd x_a.f_kind x_a.f_buf x_a.f_limit).bind fun r11 =>
 some ((r11.2 == 0, r11.2, (⟨x_a.f_kind, x_a.f_limit, x_a.f_buf, x_a.f_from, x_a.f_took, x_a.f_bad, x_a.f_whole, r11.1⟩ : accum_Accum)))))

def zb9 (x_a : accum_Accum) (x_b : UInt8) : Option (Bool × Int × accum_Accum) :=
 if (decide (x_a.f_limit ≤ (x_a.f_buf.length : Int))) then (some (false, 3, x_a)) else (if zF x_a.f_buf.length 1 1 then ((zc0 (⟨x_a.f_kind, x_a.f_limit, x_a.f_buf ++ [x_b], x_a.f_from, x_a.f_took, x_a.f_bad, x_a.f_whole, x_a.f_got⟩ : accum_Accum)).bind fun r11 =>
 if r11 then (some ((false, 24, (⟨x_a.f_kind, x_a.f_limit, x_a.f_buf ++ [x_b], x_a.f_from, x_a.f_took, x_a.f_bad, x_a.f_whole, x_a.f_got⟩ : accum_Accum)))) else (if (!(x_b == 10)) then (some ((false, 0, (⟨x_a.f_kind, x_a.f_limit, x_a.f_buf ++ [x_b], x_a.f_from, x_a.f_took, x_a.f_bad, x_a.f_whole, x_a.f_got⟩ : accum_Accum)))) else ((zdB (((x_a.f_buf ++ [x_b]).length : Int)) 2).bind fun i20 =>
 (lSub (x_a.f_buf ++ [x_b]) x_a.f_from i20).bind fun l21 =>
 (zc5 (⟨x_a.f_kind, x_a.f_limit, x_a.f_buf ++ [x_b], x_a.f_from, x_a.f_took, x_a.f_bad, x_a.f_whole, x_a.f_got⟩ : accum_Accum) l21).bind fun r24 =>
 some (r24.1, r24.2.1, r24.2.2)))) else none)

def zbW (rec2 : Int → Int → (List UInt8) → Int → Bool → Int → Bool → Int → Str → Str → Int → Str → Int → (List api_Field) → Int → Option (Int × Bool × Int × accum_Accum)) (i27 : Int) (r34 : Bool × Int × accum_Accum) (t42 : Bool) : Option (Int × Bool × Int × accum_Accum) :=
 if t42 then ((zaR i27 1).bind fun i45 =>
 some ((i45, r34.1, r34.2.1, (⟨r34.2.2.f_kind, r34.2.2.f_limit, [], r34.2.2.f_from, r34.2.2.f_took, r34.2.1, r34.1, r34.2.2.f_got⟩ : accum_Accum)))) else ((zaR i27 1).bind fun i48 =>
 rec2 r34.2.2.f_kind r34.2.2.f_limit r34.2.2.f_buf r34.2.2.f_from r34.2.2.f_took r34.2.1 r34.1 r34.2.2.f_got.Kind r34.2.2.f_got.Method r34.2.2.f_got.Target r34.2.2.f_got.Code r34.2.2.f_got.Reason r34.2.2.f_got.Minor r34.2.2.f_got.Fields i48)

def zcT (x_a1 : Str) (i49 : Int) (i50 : Int) (l53 : List UInt8) (i54 : Int) (t55 : Bool) (i56 : Int) (t57 : Bool) (i58 : Int) (s59 : Str) (s60 : Str) (i61 : Int) (s62 : Str) (i63 : Int) (l66 : List api_Field) : Option (Int × Bool × Int × accum_Accum) :=
 some (((x_a1.length : Int), false, 0, (⟨i49, i50, l53, i54, t55, i56, t57, (⟨i58, s59, s60, i61, s62, i63, l66⟩ : api_Head)⟩ : accum_Accum)))

def zM (x_a1 : Str) : Nat → Int → Int → (List UInt8) → Int → Bool → Int → Bool → Int → Str → Str → Int → Str → Int → (List api_Field) → Int → Option (Int × Bool × Int × accum_Accum)
 | 0, _, _, _, _, _, _, _, _, _, _, _, _, _, _, _ => none
 | n + 1, i9, i10, l13, i14, t15, i16, t17, i18, s19, s20, i21, s22, i23, l26, i27 =>
 if (decide (i27 < (x_a1.length : Int))) then ((sAt x_a1 i27).bind fun b33 =>
 (zb9 ((⟨i9, i10, l13, i14, true, i16, t17, (⟨i18, s19, s20, i21, s22, i23, l26⟩ : api_Head)⟩ : accum_Accum)) b33).bind fun r34 =>
 if r34.1 then (zbW (zM x_a1 n) i27 r34 true) else (zbW (zM x_a1 n) i27 r34 (!(r34.2.1 == 0)))) else (zcT x_a1 i9 i10 l13 i14 t15 i16 t17 i18 s19 s20 i21 s22 i23 l26)

def zbX (x_a0 : accum_Accum) (x_a1 : Str) (t4 : Bool) : Option (Int × Bool × Int × accum_Accum) :=
 if t4 then (some (0, false, 8, x_a0)) else (zM x_a1 fuel x_a0.f_kind x_a0.f_limit x_a0.f_buf x_a0.f_from x_a0.f_took x_a0.f_bad x_a0.f_whole x_a0.f_got.Kind x_a0.f_got.Method x_a0.f_got.Target x_a0.f_got.Code x_a0.f_got.Reason x_a0.f_got.Minor x_a0.f_got.Fields 0)

def zca (x_a0 : accum_Accum) (x_a1 : Str) : Option (Int × Bool × Int × accum_Accum) :=
 if (!(x_a0.f_bad == 0)) then (zbX x_a0 x_a1 true) else (zbX x_a0 x_a1 x_a0.f_whole)

def zcb (x_a : accum_Accum) : Option (api_Head × Bool) :=
 if (!x_a.f_whole) then (some (((⟨0, [], [], 0, [], 0, []⟩ : api_Head), false))) else (if zF 0 x_a.f_got.Fields.length 32 then (some (x_a.f_got, true)) else none)

def zaT (x_p : commas_splitter) (l12 : List Str) : Option commas_splitter :=
 (za3 x_p.Scanner).bind fun r13 =>
 some (⟨x_p.Scanner, l12, r13, x_p.f_s⟩ : commas_splitter)

def za1 (x_p : commas_splitter) (x_at : Int) : Option commas_splitter :=
 (zjm x_p.f_s x_p.f_from x_at).bind fun s1 =>
 (zcA s1 [32, 9]).bind fun r2 =>
 if (!(r2 == [])) then (if zF x_p.f_out.length 1 16 then (zaT x_p (x_p.f_out ++ ([r2] : List Str))) else none) else (zaT x_p x_p.f_out)

def zck (x_p : commas_splitter) (s33 : Str) (i34 : Int) : Option (Bool × commas_splitter) :=
 some ((true, (⟨(⟨s33, i34⟩ : scan_Scanner), x_p.f_out, x_p.f_from, x_p.f_s⟩ : commas_splitter)))

def zf (x_p : commas_splitter) : Nat → Str → Int → Int → Option (Bool × commas_splitter)
 | 0, _, _, _ => none
 | n + 1, s3, i4, i5 =>
 if (decide (0 < i5)) then ((zn (⟨s3, i4⟩ : scan_Scanner)).bind fun r9 =>
 if (!r9.2) then (some ((false, (⟨(⟨s3, i4⟩ : scan_Scanner), x_p.f_out, x_p.f_from, x_p.f_s⟩ : commas_splitter)))) else ((zd (⟨s3, i4⟩ : scan_Scanner) r9.1).bind fun r15 =>
 if (r9.1 == 40) then ((zaR i5 1).bind fun i21 =>
 (zf x_p n) r15.2.f_s r15.2.f_at i21) else (if (r9.1 == 41) then ((zdB i5 1).bind fun i24 =>
 (zf x_p n) r15.2.f_s r15.2.f_at i24) else (if (r9.1 == 92) then ((zn r15.2).bind fun r27 =>
 if r27.2 then ((zd r15.2 r27.1).bind fun r31 =>
 (zf x_p n) r31.2.f_s r31.2.f_at i5) else ((zf x_p n) r15.2.f_s r15.2.f_at i5)) else ((zf x_p n) r15.2.f_s r15.2.f_at i5))))) else (zck x_p s3 i4)

def zaL (x_p : commas_splitter) : Option (Bool × commas_splitter) :=
 zf x_p fuel x_p.Scanner.f_s x_p.Scanner.f_at 1

def zbc (x_r : quoted_reader) (r2 : Bool × scan_Scanner) (r5 : UInt8 × Bool) (t9 : Bool) : Option (Bool × quoted_reader) :=
 if t9 then (some ((false, (⟨r2.2, x_r.f_out⟩ : quoted_reader)))) else (if zF x_r.f_out.length 1 1 then ((zd r2.2 r5.1).bind fun r18 =>
 some ((r18.1, (⟨r18.2, x_r.f_out ++ [r5.1]⟩ : quoted_reader)))) else none)

def zbj (x_r : quoted_reader) : Option (Bool × quoted_reader) :=
 (zd x_r.Scanner 92).bind fun r2 =>
 (zn r2.2).bind fun r5 =>
 if (!r5.2) then (zbc x_r r2 r5 true) else ((zah r5.1).bind fun r8 =>
 zbc x_r r2 r5 (!r8))

def zbB (x_c : scan_Scanner) (x_at : Int) (t4 : Bool) : Option (Bool × scan_Scanner) :=
 if t4 then (some (false, x_c)) else (some ((true, (⟨x_c.f_s, x_at⟩ : scan_Scanner))))

def zcG (x_c : scan_Scanner) (x_at : Int) : Option (Bool × scan_Scanner) :=
 if (decide (x_at < 0)) then (zbB x_c x_at true) else ((za3 x_c).bind fun r3 =>
 zbB x_c x_at (decide (r3 < x_at)))

def zd9 (r2 : Int) (t27 : Bool) (s28 : Str) (i29 : Int) (l32 : List UInt8) : Option (Str × Bool × scan_Scanner) :=
 if (!t27) then ((zcG (⟨s28, i29⟩ : scan_Scanner) r2).bind fun r35 =>
 some ([], false, r35.2)) else (some ((l32, true, (⟨s28, i29⟩ : scan_Scanner))))

def zc6 (rec1 : Str → Int → (List UInt8) → Bool → Option (Str × Bool × scan_Scanner)) (r2 : Int) (l13 : List UInt8) (t14 : Bool) (t18 : Bool) (s19 : Str) (i20 : Int) : Option (Str × Bool × scan_Scanner) :=
 if t18 then ((zbj ((⟨(⟨s19, i20⟩ : scan_Scanner), l13⟩ : quoted_reader))).bind fun r23 =>
 rec1 r23.2.Scanner.f_s r23.2.Scanner.f_at r23.2.f_out r23.1) else (zd9 r2 t14 s19 i20 l13)

def zaB (r2 : Int) : Nat → Str → Int → (List UInt8) → Bool → Option (Str × Bool × scan_Scanner)
 | 0, _, _, _, _ => none
 | n + 1, s9, i10, l13, t14 =>
 if t14 then ((zd (⟨s9, i10⟩ : scan_Scanner) 34).bind fun r16 =>
 zc6 (zaB r2 n) r2 l13 t14 (!r16.1) r16.2.f_s r16.2.f_at) else (zc6 (zaB r2 n) r2 l13 t14 false s9 i10)

def zgj (x_c : scan_Scanner) : Option (Str × Bool × scan_Scanner) :=
 (za3 x_c).bind fun r2 =>
 (zd x_c 34).bind fun r6 =>
 zaB r2 fuel r6.2.f_s r6.2.f_at [] r6.1

def zbI (l34 : List Str) (i35 : Int) (s36 : Str) (s37 : Str) (i38 : Int) : Option (Bool × commas_splitter) :=
 some ((true, (⟨(⟨s37, i38⟩ : scan_Scanner), l34, i35, s36⟩ : commas_splitter)))

def zS (x_p : commas_splitter) : Option (Bool × commas_splitter) :=
 (za3 x_p.Scanner).bind fun r2 =>
 (zd x_p.Scanner 44).bind fun r4 =>
 if r4.1 then ((za1 (⟨r4.2, x_p.f_out, x_p.f_from, x_p.f_s⟩ : commas_splitter) r2).bind fun r8 =>
 zbI r8.f_out r8.f_from r8.f_s r8.Scanner.f_s r8.Scanner.f_at) else ((zd r4.2 40).bind fun r12 =>
 if r12.1 then ((zaL (⟨r12.2, x_p.f_out, x_p.f_from, x_p.f_s⟩ : commas_splitter)).bind fun r16 =>
 some (r16.1, r16.2)) else ((zn r12.2).bind fun r21 =>
 if (r21.1 == 34) then ((zgj r12.2).bind fun r25 =>
 some ((r25.2.1, (⟨r25.2.2, x_p.f_out, x_p.f_from, x_p.f_s⟩ : commas_splitter)))) else ((zd r12.2 r21.1).bind fun r30 =>
 zbI x_p.f_out x_p.f_from x_p.f_s r30.2.f_s r30.2.f_at)))

def zeU (x_s : Str) (l26 : List Str) (i27 : Int) (s28 : Str) (s29 : Str) (i30 : Int) : Option (List Str × Int) :=
 (za1 ((⟨(⟨s29, i30⟩ : scan_Scanner), l26, i27, s28⟩ : commas_splitter)) (x_s.length : Int)).bind fun r31 =>
 some (r31.f_out, 0)

def zbQ (x_s : Str) : Nat → (List Str) → Int → Str → Str → Int → Option (List Str × Int)
 | 0, _, _, _, _, _ => none
 | n + 1, l8, i9, s10, s11, i12 =>
 (zZ (⟨s11, i12⟩ : scan_Scanner)).bind fun r13 =>
 if (!r13) then ((zS ((⟨(⟨s11, i12⟩ : scan_Scanner), l8, i9, s10⟩ : commas_splitter))).bind fun r17 =>
 if (!r17.1) then (some ([], 2)) else ((zbQ x_s n) r17.2.f_out r17.2.f_from r17.2.f_s r17.2.Scanner.f_s r17.2.Scanner.f_at)) else (zeU x_s l8 i9 s10 s11 i12)

def zes (x_s : Str) : Option (List Str × Int) :=
 (zfo x_s).bind fun r2 =>
 zbQ x_s fuel [] 0 x_s r2.f_s r2.f_at

def zea (t5 : Bool) : Option Bool :=
 some t5

def zff (x_s : Str) : Option Bool :=
 if (!(x_s == [])) then ((zcs zb6 ([x_s] : List Str)).bind fun r4 =>
 zea r4) else (zea false)

def zbk (rec1 : (List Str) → Int → Option (List Str × Int)) (l6 : List Str) (i7 : Int) (r15 : List Str × Int) : Nat → Int → Option (List Str × Int)
 | 0, _ => none
 | n + 1, i24 =>
 if (decide (i24 < (r15.1.length : Int))) then ((lAt r15.1 i24).bind fun x28 =>
 (zff x28).bind fun r32 =>
 if (!r32) then (some ([], 2)) else ((zaR i24 1).bind fun i37 =>
 (zbk rec1 l6 i7 r15 n) i37)) else (if zF l6.length r15.1.length 16 then ((zaR i7 1).bind fun i43 =>
 rec1 (l6 ++ r15.1) i43) else none)

def zbl (x_l : List Str) : Nat → (List Str) → Int → Option (List Str × Int)
 | 0, _, _ => none
 | n + 1, l6, i7 =>
 if (decide (i7 < (x_l.length : Int))) then ((lAt x_l i7).bind fun x11 =>
 (zes x11).bind fun r15 =>
 if (!(r15.2 == 0)) then (some ([], r15.2)) else (zbk (zbl x_l n) l6 i7 r15 fuel 0)) else (some (l6, 0))

def zeM (x_l : List Str) : Option (List Str × Int) :=
 zbl x_l fuel [] 0

def zP (t15 : Bool) : Option (api_Frame × Int) :=
 if t15 then (some (((⟨0, 0⟩ : api_Frame), 30))) else (some (((⟨3, 0⟩ : api_Frame), 0)))

def zbC (x_r : length_reader) (x_l : List Str) : Option (api_Frame × Int) :=
 (zeM x_l).bind fun r4 =>
 if (!(r4.2 == 0)) then (zP true) else (if (x_r.f_minor == 0) then (zP true) else (if (!((r4.1.length : Int) == 1)) then (zP true) else ((lAt r4.1 0).bind fun x11 =>
 (zfV x11 [99, 104, 117, 110, 107, 101, 100]).bind fun r14 =>
 zP (!r14))))

def zJ (rec2 : Int → Int → Option (api_Frame × Int)) (i25 : Int) (r33 : Int × Int) (t37 : Bool) : Option (api_Frame × Int) :=
 if t37 then (some (((⟨0, 0⟩ : api_Frame), 28))) else ((zaR i25 1).bind fun i42 =>
 rec2 r33.1 i42)

def zl (rec1 : Int → Int → Option (api_Frame × Int)) (i7 : Int) (r15 : List Str × Int) : Nat → Int → Int → Option (api_Frame × Int)
 | 0, _, _ => none
 | n + 1, i24, i25 =>
 if (decide (i25 < (r15.1.length : Int))) then ((lAt r15.1 i25).bind fun x29 =>
 (za4 x29 1099511627776).bind fun r33 =>
 if (!(r33.2 == 0)) then (zJ (zl rec1 i7 r15 n) i25 r33 true) else (if (decide (0 ≤ i24)) then (zJ (zl rec1 i7 r15 n) i25 r33 (!(r33.1 == i24))) else (zJ (zl rec1 i7 r15 n) i25 r33 false))) else ((zaR i7 1).bind fun i44 =>
 rec1 i24 i44)

def zx (x_l : List Str) : Nat → Int → Int → Option (api_Frame × Int)
 | 0, _, _ => none
 | n + 1, i6, i7 =>
 if (decide (i7 < (x_l.length : Int))) then ((lAt x_l i7).bind fun x11 =>
 (zes x11).bind fun r15 =>
 if (!(r15.2 == 0)) then (some (((⟨0, 0⟩ : api_Frame), 28))) else (zl (zx x_l n) i7 r15 fuel i6 0)) else (if (decide (i6 < 0)) then (some (((⟨0, 0⟩ : api_Frame), 28))) else (some (((⟨2, i6⟩ : api_Frame), 0))))

def zbd (x_r : length_reader) (x_l : List Str) : Option (api_Frame × Int) :=
 zx x_l fuel (-1) 0

def zdt (x_h : api_Head) (x_none : Int) (r4 : bag_Bag) (r10 : List Str) (r13 : List Str) (t18 : Bool) : Option (api_Frame × Int) :=
 if t18 then (some (((⟨0, 0⟩ : api_Frame), 29))) else (if (decide (0 < (r10.length : Int))) then ((zbC (⟨r4, x_h.Minor⟩ : length_reader) r10).bind fun r23 =>
 some (r23.1, r23.2)) else (if (decide (0 < (r13.length : Int))) then ((zbd (⟨r4, x_h.Minor⟩ : length_reader) r13).bind fun r27 =>
 some (r27.1, r27.2)) else (some (((⟨x_none, 0⟩ : api_Frame), 0)))))

def zgX (x_h : api_Head) (x_none : Int) : Option (api_Frame × Int) :=
 (zjW x_h.Fields).bind fun r4 =>
 (zcj r4 [84, 114, 97, 110, 115, 102, 101, 114, 45, 69, 110, 99, 111, 100, 105, 110, 103]).bind fun r10 =>
 (zcj r4 [67, 111, 110, 116, 101, 110, 116, 45, 76, 101, 110, 103, 116, 104]).bind fun r13 =>
 if (decide (0 < (r10.length : Int))) then (zdt x_h x_none r4 r10 r13 (decide (0 < (r13.length : Int)))) else (zdt x_h x_none r4 r10 r13 false)

def zft (x_h : api_Head) : Option (api_Frame × Int) :=
 (zgX x_h 1).bind fun r4 =>
 some (r4.1, r4.2)

def zV (t7 : Bool) : Option Bool :=
 some t7

def zdG (x_method : Str) (x_code : Int) : Option Bool :=
 if (x_method == [72, 69, 65, 68]) then (zV true) else (if (decide (x_code < 200)) then (zV true) else (if (x_code == 204) then (zV true) else (if (x_code == 304) then (zV true) else (if (x_method == [67, 79, 78, 78, 69, 67, 84]) then (zV (decide (x_code < 300))) else (zV false)))))

def zeV (x_method : Str) (x_h : api_Head) : Option (api_Frame × Int) :=
 (zdG x_method x_h.Code).bind fun r4 =>
 if r4 then (some (((⟨1, 0⟩ : api_Frame), 0))) else ((zgX x_h 4).bind fun r9 =>
 some (r9.1, r9.2))

def zcQ (x_method : Str) (x_h : api_Head) : Option (api_Frame × Int) :=
 if (x_h.Kind == 1) then ((zft x_h).bind fun r6 =>
 some (r6.1, r6.2)) else ((zeV x_method x_h).bind fun r9 =>
 some (r9.1, r9.2))

def zfu (x_limit : Int) (t3 : Bool) : Option (Option dechunk_Decoder × Int) :=
 if t3 then (some (none, 1)) else (some ((some (⟨x_limit, 0, [], 0, 0, 0, []⟩ : dechunk_Decoder), 0)))

def zhy (x_limit : Int) : Option (Option dechunk_Decoder × Int) :=
 if (decide (x_limit < 0)) then (zfu x_limit true) else (zfu x_limit (decide (65536 < x_limit)))

def zgk (x_a0 : api_Frame) (t26 : Bool) : Option (Option (Bool × body_Body) × Int) :=
 some ((some (false, (⟨default, x_a0, x_a0.N, t26, false⟩ : body_Body)), 0))

def zhz (x_a0 : api_Frame) : Option (Option (Bool × body_Body) × Int) :=
 if (x_a0.Kind == 1) then (zgk x_a0 true) else (if (x_a0.Kind == 2) then (zgk x_a0 (x_a0.N == 0)) else (zgk x_a0 false))

def zeb (x_a0 : api_Frame) (t16 : Bool) : Option (Option (Bool × body_Body) × Int) :=
 if t16 then (some (none, 1)) else (if (x_a0.Kind == 3) then (zhz x_a0) else (zhz x_a0))

def zjp (x_a0 : api_Frame) (i11 : Int) : Option (Option (Bool × body_Body) × Int) :=
 if (!(i11 == 0)) then (zeb x_a0 true) else (if (decide (x_a0.Kind < 1)) then (zeb x_a0 true) else (if (decide (4 < x_a0.Kind)) then (zeb x_a0 true) else (if (decide (x_a0.N < 0)) then (zeb x_a0 true) else (zeb x_a0 (decide (1099511627776 < x_a0.N))))))

def zgl (x_a0 : api_Frame) (i30 : Int) (i31 : Int) (l34 : List UInt8) (i35 : Int) (i36 : Int) (i37 : Int) (l40 : List api_Field) (t55 : Bool) : Option (Option (Bool × body_Body) × Int) :=
 some ((some (true, (⟨(⟨i30, i31, l34, i35, i36, i37, l40⟩ : dechunk_Decoder), x_a0, x_a0.N, t55, false⟩ : body_Body)), 0))

def zjq (x_a0 : api_Frame) (i30 : Int) (i31 : Int) (l34 : List UInt8) (i35 : Int) (i36 : Int) (i37 : Int) (l40 : List api_Field) : Option (Option (Bool × body_Body) × Int) :=
 if (x_a0.Kind == 1) then (zgl x_a0 i30 i31 l34 i35 i36 i37 l40 true) else (if (x_a0.Kind == 2) then (zgl x_a0 i30 i31 l34 i35 i36 i37 l40 (x_a0.N == 0)) else (zgl x_a0 i30 i31 l34 i35 i36 i37 l40 false))

def zfv (x_a0 : api_Frame) (t59 : Bool) : Option (Option (Bool × body_Body) × Int) :=
 some ((some (false, (⟨default, x_a0, x_a0.N, t59, false⟩ : body_Body)), 0))

def zjr (x_a0 : api_Frame) : Option (Option (Bool × body_Body) × Int) :=
 if (x_a0.Kind == 1) then (zfv x_a0 true) else (if (x_a0.Kind == 2) then (zfv x_a0 (x_a0.N == 0)) else (zfv x_a0 false))

def zec (x_a0 : api_Frame) (i30 : Int) (i31 : Int) (l34 : List UInt8) (i35 : Int) (i36 : Int) (i37 : Int) (l40 : List api_Field) (t45 : Bool) : Option (Option (Bool × body_Body) × Int) :=
 if t45 then (some (none, 1)) else (if (x_a0.Kind == 3) then (zjq x_a0 i30 i31 l34 i35 i36 i37 l40) else (zjr x_a0))

def zgm (x_a0 : api_Frame) (i29 : Int) (i30 : Int) (i31 : Int) (l34 : List UInt8) (i35 : Int) (i36 : Int) (i37 : Int) (l40 : List api_Field) : Option (Option (Bool × body_Body) × Int) :=
 if (!(i29 == 0)) then (zec x_a0 i30 i31 l34 i35 i36 i37 l40 true) else (if (decide (x_a0.Kind < 1)) then (zec x_a0 i30 i31 l34 i35 i36 i37 l40 true) else (if (decide (4 < x_a0.Kind)) then (zec x_a0 i30 i31 l34 i35 i36 i37 l40 true) else (if (decide (x_a0.N < 0)) then (zec x_a0 i30 i31 l34 i35 i36 i37 l40 true) else (zec x_a0 i30 i31 l34 i35 i36 i37 l40 (decide (1099511627776 < x_a0.N))))))

def zgn (x_a0 : api_Frame) (x_a1 : Int) : Option (Option (Bool × body_Body) × Int) :=
 (zhy x_a1).bind fun r3 =>
 zkI r3.1 (zjp x_a0 r3.2) (fun x5 => zgm x_a0 r3.2 x5.f_limit x5.f_at x5.f_line x5.f_left x5.f_sum x5.f_spent x5.f_trailers)

def zc7 (x_b : body_Body) : Option Bool :=
 some x_b.f_done

def zac (x_d : dechunk_Decoder) (x_s : Str) (i7 : Int) (i8 : Int) : Option (Str × dechunk_Decoder) :=
 (sTo x_s (min x_d.f_left (x_s.length : Int))).bind fun s9 =>
 some ((s9, (⟨x_d.f_limit, i7, x_d.f_line, i8, x_d.f_sum, x_d.f_spent, x_d.f_trailers⟩ : dechunk_Decoder)))

def zbD (x_d : dechunk_Decoder) (x_s : Str) : Option (Str × dechunk_Decoder) :=
 (zdB x_d.f_left (min x_d.f_left (x_s.length : Int))).bind fun i3 =>
 if (i3 == 0) then (zac x_d x_s 2 2) else (zac x_d x_s x_d.f_at i3)

def zbs (x_d : dechunk_Decoder) (i10 : Int) (i14 : Int) : Option (Int × dechunk_Decoder) :=
 some ((0, (⟨x_d.f_limit, i14, x_d.f_line, i10, x_d.f_sum, x_d.f_spent, x_d.f_trailers⟩ : dechunk_Decoder)))

def zbt (x_d : dechunk_Decoder) (x_b : UInt8) (b5 : UInt8) : Option (Int × dechunk_Decoder) :=
 if (!(x_b == b5)) then (some (31, x_d)) else ((zdB x_d.f_left 1).bind fun i10 =>
 if (i10 == 0) then (zbs x_d i10 0) else (zbs x_d i10 x_d.f_at))

def zdW (x_d : dechunk_Decoder) (x_b : UInt8) : Option (Int × dechunk_Decoder) :=
 if (x_d.f_left == 1) then (zbt x_d x_b 10) else (zbt x_d x_b 13)

def zgo (x_s : Str) (x_most : Int) : Option (Int × Int) :=
 (zen x_s 16 x_most zae).bind fun r2 =>
 some (r2.1, r2.2)

def zcl (r9 : Int × Int) (l14 : List api_Attr) (t23 : Bool) : Option (Int × List api_Attr × Int) :=
 if t23 then (some (0, [], 31)) else (if (!(r9.2 == 0)) then (some (0, [], r9.2)) else (some (r9.1, l14, 0)))

def zcm (r6 : Str × scan_Scanner) (r9 : Int × Int) : Nat → (List api_Attr) → Option (Int × List api_Attr × Int)
 | 0, _ => none
 | n + 1, l14 =>
 (zd r6.2 59).bind fun r15 =>
 if r15.1 then (none) else ((zZ r15.2).bind fun r21 =>
 if (!r21) then (zcl r9 l14 true) else (zcl r9 l14 (r9.2 == 2)))

def zdH (x_s : Str) : Option (Int × List api_Attr × Int) :=
 (zfo x_s).bind fun r2 =>
 (zI r2 zae).bind fun r6 =>
 (zgo r6.1 1099511627776).bind fun r9 =>
 zcm r6 r9 fuel []

def zaM (x_d : dechunk_Decoder) (x_s : Str) : Option (Int × dechunk_Decoder) :=
 (zdH x_s).bind fun r2 =>
 if (!(r2.2.2 == 0)) then (some (r2.2.2, x_d)) else ((zdB 1099511627776 x_d.f_sum).bind fun i9 =>
 if (decide (i9 < r2.1)) then (some (7, x_d)) else (if (r2.1 == 0) then (some ((0, (⟨x_d.f_limit, 3, x_d.f_line, x_d.f_left, x_d.f_sum, x_d.f_spent, x_d.f_trailers⟩ : dechunk_Decoder)))) else ((zaR x_d.f_sum r2.1).bind fun i19 =>
 some ((0, (⟨x_d.f_limit, 1, x_d.f_line, r2.1, i19, x_d.f_spent, x_d.f_trailers⟩ : dechunk_Decoder))))))

def zaN (x_d : dechunk_Decoder) (x_s : Str) : Option (Bool × Int × dechunk_Decoder) :=
 if (x_s == []) then (some (true, 0, x_d)) else ((za8 x_s).bind fun r6 =>
 if (!(r6.2 == 0)) then (some (false, r6.2, x_d)) else (if (decide (100 ≤ (x_d.f_trailers.length : Int))) then (some (false, 3, x_d)) else (if zF x_d.f_trailers.length 1 32 then (some ((false, 0, (⟨x_d.f_limit, x_d.f_at, x_d.f_line, x_d.f_left, x_d.f_sum, x_d.f_spent, x_d.f_trailers ++ [r6.1]⟩ : dechunk_Decoder)))) else none)))

def z6 (x_a0 : dechunk_Decoder) (x_a1 : UInt8) (i5 : Int) (t12 : Bool) (t14 : Bool) : Option (Bool × Int × dechunk_Decoder) :=
 if t14 then (some ((false, 3, (⟨x_a0.f_limit, x_a0.f_at, x_a0.f_line, x_a0.f_left, x_a0.f_sum, i5, x_a0.f_trailers⟩ : dechunk_Decoder)))) else (if (!((x_a1 == 10) == t12)) then (some ((false, 24, (⟨x_a0.f_limit, x_a0.f_at, x_a0.f_line, x_a0.f_left, x_a0.f_sum, i5, x_a0.f_trailers⟩ : dechunk_Decoder)))) else (if (!(x_a1 == 10)) then (if zF x_a0.f_line.length 1 1 then (some ((false, 0, (⟨x_a0.f_limit, x_a0.f_at, x_a0.f_line ++ [x_a1], x_a0.f_left, x_a0.f_sum, i5, x_a0.f_trailers⟩ : dechunk_Decoder)))) else none) else ((zdB (x_a0.f_line.length : Int) 1).bind fun i29 =>
 (lTo x_a0.f_line i29).bind fun l31 =>
 if (x_a0.f_at == 0) then ((zaM (⟨x_a0.f_limit, x_a0.f_at, [], x_a0.f_left, x_a0.f_sum, i5, x_a0.f_trailers⟩ : dechunk_Decoder) l31).bind fun r38 =>
 some (false, r38.1, r38.2)) else ((zaN (⟨x_a0.f_limit, x_a0.f_at, [], x_a0.f_left, x_a0.f_sum, i5, x_a0.f_trailers⟩ : dechunk_Decoder) l31).bind fun r46 =>
 some (r46.1, r46.2.1, r46.2.2)))))

def zK (x_a0 : dechunk_Decoder) (x_a1 : UInt8) (i5 : Int) (t12 : Bool) : Option (Bool × Int × dechunk_Decoder) :=
 if (decide (4098 ≤ (x_a0.f_line.length : Int))) then (z6 x_a0 x_a1 i5 t12 true) else (z6 x_a0 x_a1 i5 t12 (decide (x_a0.f_limit < i5)))

def zp (x_a0 : dechunk_Decoder) (x_a1 : UInt8) (i5 : Int) : Option (Bool × Int × dechunk_Decoder) :=
 if (decide (0 < (x_a0.f_line.length : Int))) then ((zdB (x_a0.f_line.length : Int) 1).bind fun i8 =>
 (lAt x_a0.f_line i8).bind fun x9 =>
 zK x_a0 x_a1 i5 (x9 == 13)) else (zK x_a0 x_a1 i5 false)

def zv (x_a0 : dechunk_Decoder) (x_a1 : UInt8) : Option (Bool × Int × dechunk_Decoder) :=
 if (x_a0.f_at == 3) then ((zaR x_a0.f_spent 1).bind fun i4 =>
 zp x_a0 x_a1 i4) else (zp x_a0 x_a1 x_a0.f_spent)

def zr (x_d : dechunk_Decoder) (x_s : Str) : Option (Int × Str × Bool × Int × dechunk_Decoder) :=
 if (x_d.f_at == 1) then ((zbD x_d x_s).bind fun r5 =>
 some (((r5.1.length : Int), r5.1, false, 0, r5.2))) else (if (x_d.f_at == 2) then ((sAt x_s 0).bind fun b15 =>
 (zdW x_d b15).bind fun r16 =>
 some (1, [], false, r16.1, r16.2)) else ((sAt x_s 0).bind fun b24 =>
 (zv x_d b24).bind fun r25 =>
 some (1, [], r25.1, r25.2.1, r25.2.2)))

def zbJ (i44 : Int) (t45 : Bool) (i46 : Int) (l49 : List UInt8) (i50 : Int) (i55 : Int) (i56 : Int) (i57 : Int) (l60 : List api_Field) (i64 : Int) (l67 : List UInt8) : Option (Int × Str × Bool × Int × dechunk_Decoder) :=
 some ((i44, l49, t45, i46, (⟨i50, i64, l67, i55, i56, i57, l60⟩ : dechunk_Decoder)))

def zbK (i44 : Int) (t45 : Bool) (i46 : Int) (l49 : List UInt8) (i50 : Int) (i51 : Int) (l54 : List UInt8) (i55 : Int) (i56 : Int) (i57 : Int) (l60 : List api_Field) (t62 : Bool) : Option (Int × Str × Bool × Int × dechunk_Decoder) :=
 if t62 then (zbJ i44 t45 i46 l49 i50 i55 i56 i57 l60 4 []) else (zbJ i44 t45 i46 l49 i50 i55 i56 i57 l60 i51 l54)

def zc8 (i44 : Int) (t45 : Bool) (i46 : Int) (l49 : List UInt8) (i50 : Int) (i51 : Int) (l54 : List UInt8) (i55 : Int) (i56 : Int) (i57 : Int) (l60 : List api_Field) : Option (Int × Str × Bool × Int × dechunk_Decoder) :=
 if t45 then (zbK i44 t45 i46 l49 i50 i51 l54 i55 i56 i57 l60 true) else (zbK i44 t45 i46 l49 i50 i51 l54 i55 i56 i57 l60 (!(i46 == 0)))

def zad (rec1 : (List UInt8) → Int → Int → (List UInt8) → Int → Int → Int → (List api_Field) → Int → Bool → Int → Option (Int × Str × Bool × Int × dechunk_Decoder)) (x_s : Str) (l10 : List UInt8) (i11 : Int) (i12 : Int) (l15 : List UInt8) (i16 : Int) (i17 : Int) (i18 : Int) (l21 : List api_Field) (i22 : Int) (t23 : Bool) (i24 : Int) (t27 : Bool) : Option (Int × Str × Bool × Int × dechunk_Decoder) :=
 if t27 then ((ze8 x_s i22).bind fun s31 =>
 (zr (⟨i11, i12, l15, i16, i17, i18, l21⟩ : dechunk_Decoder) s31).bind fun r32 =>
 if zF l10.length r32.2.1.length 1 then ((zaR i22 r32.1).bind fun i43 =>
 rec1 (l10 ++ r32.2.1) r32.2.2.2.2.f_limit r32.2.2.2.2.f_at r32.2.2.2.2.f_line r32.2.2.2.2.f_left r32.2.2.2.2.f_sum r32.2.2.2.2.f_spent r32.2.2.2.2.f_trailers i43 r32.2.2.1 r32.2.2.2.1) else none) else (zc8 i22 t23 i24 l10 i11 i12 l15 i16 i17 i18 l21)

def zt (x_s : Str) : Nat → (List UInt8) → Int → Int → (List UInt8) → Int → Int → Int → (List api_Field) → Int → Bool → Int → Option (Int × Str × Bool × Int × dechunk_Decoder)
 | 0, _, _, _, _, _, _, _, _, _, _, _ => none
 | n + 1, l10, i11, i12, l15, i16, i17, i18, l21, i22, t23, i24 =>
 if (decide (i22 < (x_s.length : Int))) then (if (!t23) then (zad (zt x_s n) x_s l10 i11 i12 l15 i16 i17 i18 l21 i22 t23 i24 (i24 == 0)) else (zad (zt x_s n) x_s l10 i11 i12 l15 i16 i17 i18 l21 i22 t23 i24 false)) else (zad (zt x_s n) x_s l10 i11 i12 l15 i16 i17 i18 l21 i22 t23 i24 false)

def zT (x_d : dechunk_Decoder) (x_s : Str) : Option (Int × Str × Bool × Int × dechunk_Decoder) :=
 if (x_d.f_at == 4) then (some (0, [], false, 8, x_d)) else (zt x_s fuel [] x_d.f_limit x_d.f_at x_d.f_line x_d.f_left x_d.f_sum x_d.f_spent x_d.f_trailers 0 false 0)

def zdY (x_a0 : body_Body) (x_a1 : Str) (i26 : Int) (i27 : Int) (t28 : Bool) : Option (Int × Str × Bool × Int × body_Body) :=
 (sTo x_a1 i26).bind fun s29 =>
 some ((i26, s29, t28, 0, (⟨x_a0.Decoder, x_a0.f_frame, i27, t28, x_a0.f_bad⟩ : body_Body)))

def zdZ (x_a0 : body_Body) (x_a1 : Str) (t4 : Bool) : Option (Int × Str × Bool × Int × body_Body) :=
 if t4 then (some (0, [], false, 8, x_a0)) else (if (x_a0.f_frame.Kind == 3) then ((zT x_a0.Decoder x_a1).bind fun r12 =>
 some ((r12.1, r12.2.1, r12.2.2.1, r12.2.2.2.1, (⟨r12.2.2.2.2, x_a0.f_frame, x_a0.f_left, r12.2.2.1, !(r12.2.2.2.1 == 0)⟩ : body_Body)))) else (if (x_a0.f_frame.Kind == 2) then ((zdB x_a0.f_left (min (x_a1.length : Int) x_a0.f_left)).bind fun i24 =>
 zdY x_a0 x_a1 (min (x_a1.length : Int) x_a0.f_left) i24 (i24 == 0)) else (zdY x_a0 x_a1 (x_a1.length : Int) x_a0.f_left x_a0.f_done)))

def zfw (x_a0 : body_Body) (x_a1 : Str) : Option (Int × Str × Bool × Int × body_Body) :=
 if x_a0.f_done then (zdZ x_a0 x_a1 true) else (zdZ x_a0 x_a1 x_a0.f_bad)

def zet (x_b : body_Body) (t8 : Bool) : Option (Bool × Int × body_Body) :=
 some ((true, 0, (⟨x_b.Decoder, x_b.f_frame, x_b.f_left, t8, x_b.f_bad⟩ : body_Body)))

def zhO (x_b : body_Body) : Option (Bool × Int × body_Body) :=
 if (x_b.f_frame.Kind == 4) then (zet x_b true) else (if (!x_b.f_done) then (some (false, 6, x_b)) else (zet x_b x_b.f_done))

def zbu (x_d : dechunk_Decoder) : Option (List api_Field) :=
 if zF 0 x_d.f_trailers.length 32 then (some x_d.f_trailers) else none

def zdu (x_b : body_Body) : Option (List api_Field) :=
 (zbu x_b.Decoder).bind fun r4 =>
 some r4

def zaU (x_a0 : message_reader) (i17 : Int) (s34 : Str) (i44 : Int) (i45 : Int) (i46 : Int) (t47 : Bool) (t48 : Bool) (i49 : Int) (i50 : Int) (l53 : List UInt8) (i54 : Int) (i55 : Int) (i56 : Int) (l59 : List api_Field) : Option (Int × Int × message_reader) :=
 (zc7 ((⟨(⟨i49, i50, l53, i54, i55, i56, l59⟩ : dechunk_Decoder), (⟨i44, i45⟩ : api_Frame), i46, t47, t48⟩ : body_Body))).bind fun r60 =>
 if (!r60) then (some ((0, 6, (⟨(⟨(⟨i49, i50, l53, i54, i55, i56, l59⟩ : dechunk_Decoder), (⟨i44, i45⟩ : api_Frame), i46, t47, t48⟩ : body_Body), (⟨x_a0.f_m.Head, x_a0.f_m.Frame, s34, x_a0.f_m.Trailers⟩ : api_Message)⟩ : message_reader)))) else ((zdu ((⟨(⟨i49, i50, l53, i54, i55, i56, l59⟩ : dechunk_Decoder), (⟨i44, i45⟩ : api_Frame), i46, t47, t48⟩ : body_Body))).bind fun r65 =>
 some ((i17, 0, (⟨(⟨(⟨i49, i50, l53, i54, i55, i56, l59⟩ : dechunk_Decoder), (⟨i44, i45⟩ : api_Frame), i46, t47, t48⟩ : body_Body), (⟨x_a0.f_m.Head, x_a0.f_m.Frame, s34, r65⟩ : api_Message)⟩ : message_reader))))

def zaV (x_a0 : message_reader) (i17 : Int) (i18 : Int) (i19 : Int) (i20 : Int) (t21 : Bool) (t22 : Bool) (i23 : Int) (i24 : Int) (l27 : List UInt8) (i28 : Int) (i29 : Int) (i30 : Int) (l33 : List api_Field) (s34 : Str) (t36 : Bool) : Option (Int × Int × message_reader) :=
 if t36 then ((zhO ((⟨(⟨i23, i24, l27, i28, i29, i30, l33⟩ : dechunk_Decoder), (⟨i18, i19⟩ : api_Frame), i20, t21, t22⟩ : body_Body))).bind fun r38 =>
 zaU x_a0 i17 s34 r38.2.2.f_frame.Kind r38.2.2.f_frame.N r38.2.2.f_left r38.2.2.f_done r38.2.2.f_bad r38.2.2.Decoder.f_limit r38.2.2.Decoder.f_at r38.2.2.Decoder.f_line r38.2.2.Decoder.f_left r38.2.2.Decoder.f_sum r38.2.2.Decoder.f_spent r38.2.2.Decoder.f_trailers) else (zaU x_a0 i17 s34 i18 i19 i20 t21 t22 i23 i24 l27 i28 i29 i30 l33)

def zaW (x_a0 : message_reader) (x_a2 : Bool) (i17 : Int) (i18 : Int) (i19 : Int) (i20 : Int) (t21 : Bool) (t22 : Bool) (i23 : Int) (i24 : Int) (l27 : List UInt8) (i28 : Int) (i29 : Int) (i30 : Int) (l33 : List api_Field) (s34 : Str) : Option (Int × Int × message_reader) :=
 if (x_a0.f_m.Frame.Kind == 4) then (zaV x_a0 i17 i18 i19 i20 t21 t22 i23 i24 l27 i28 i29 i30 l33 s34 x_a2) else (zaV x_a0 i17 i18 i19 i20 t21 t22 i23 i24 l27 i28 i29 i30 l33 s34 false)

def za2 (x_a0 : message_reader) (x_a1 : Str) (x_a2 : Bool) : Option (Int × Int × message_reader) :=
 (zc7 x_a0.Body).bind fun r3 =>
 if (!r3) then ((zfw x_a0.Body x_a1).bind fun r6 =>
 if (!(r6.2.2.2.1 == 0)) then (some ((0, r6.2.2.2.1, (⟨r6.2.2.2.2, x_a0.f_m⟩ : message_reader)))) else (zaW x_a0 x_a2 r6.1 r6.2.2.2.2.f_frame.Kind r6.2.2.2.2.f_frame.N r6.2.2.2.2.f_left r6.2.2.2.2.f_done r6.2.2.2.2.f_bad r6.2.2.2.2.Decoder.f_limit r6.2.2.2.2.Decoder.f_at r6.2.2.2.2.Decoder.f_line r6.2.2.2.2.Decoder.f_left r6.2.2.2.2.Decoder.f_sum r6.2.2.2.2.Decoder.f_spent r6.2.2.2.2.Decoder.f_trailers r6.2.1)) else (zaW x_a0 x_a2 0 x_a0.Body.f_frame.Kind x_a0.Body.f_frame.N x_a0.Body.f_left x_a0.Body.f_done x_a0.Body.f_bad x_a0.Body.Decoder.f_limit x_a0.Body.Decoder.f_at x_a0.Body.Decoder.f_line x_a0.Body.Decoder.f_left x_a0.Body.Decoder.f_sum x_a0.Body.Decoder.f_spent x_a0.Body.Decoder.f_trailers x_a0.f_m.Body)

def zbY (x_b : body_Body) : Option Bool :=
 some x_b.f_done

def zc9 (x_s : Str) : Option (Int × Str × Bool × Int) :=
 some (0, [], false, 5)

def zak (x_a0 : body_Body) (x_a1 : Str) (i21 : Int) (i22 : Int) (t23 : Bool) : Option (Int × Str × Bool × Int × body_Body) :=
 (sTo x_a1 i21).bind fun s24 =>
 some ((i21, s24, t23, 0, (⟨default, x_a0.f_frame, i22, t23, x_a0.f_bad⟩ : body_Body)))

def zaX (x_a0 : body_Body) (x_a1 : Str) (t4 : Bool) : Option (Int × Str × Bool × Int × body_Body) :=
 if t4 then (some ((0, [], false, 8, (⟨default, x_a0.f_frame, x_a0.f_left, x_a0.f_done, x_a0.f_bad⟩ : body_Body)))) else (if (x_a0.f_frame.Kind == 3) then ((zc9 x_a1).bind fun r12 =>
 some ((r12.1, r12.2.1, r12.2.2.1, r12.2.2.2, (⟨default, x_a0.f_frame, x_a0.f_left, r12.2.2.1, !(r12.2.2.2 == 0)⟩ : body_Body)))) else (if (x_a0.f_frame.Kind == 2) then ((zdB x_a0.f_left (min (x_a1.length : Int) x_a0.f_left)).bind fun i19 =>
 zak x_a0 x_a1 (min (x_a1.length : Int) x_a0.f_left) i19 (i19 == 0)) else (zak x_a0 x_a1 (x_a1.length : Int) x_a0.f_left x_a0.f_done)))

def zcU (x_a0 : body_Body) (x_a1 : Str) : Option (Int × Str × Bool × Int × body_Body) :=
 if x_a0.f_done then (zaX x_a0 x_a1 true) else (zaX x_a0 x_a1 x_a0.f_bad)

def zcp (x_b : body_Body) (t8 : Bool) : Option (Bool × Int × body_Body) :=
 some ((true, 0, (⟨default, x_b.f_frame, x_b.f_left, t8, x_b.f_bad⟩ : body_Body)))

def ze3 (x_b : body_Body) : Option (Bool × Int × body_Body) :=
 if (x_b.f_frame.Kind == 4) then (zcp x_b true) else (if (!x_b.f_done) then (some ((false, 6, (⟨default, x_b.f_frame, x_b.f_left, x_b.f_done, x_b.f_bad⟩ : body_Body)))) else (zcp x_b x_b.f_done))

def zb2 : Option (List api_Field) :=
 some []

def zda (x_b : body_Body) : Option (List api_Field) :=
 (zb2).bind fun r4 =>
 some r4

def zat (x_a0 : message_reader) (i13 : Int) (s19 : Str) (i25 : Int) (i26 : Int) (i27 : Int) (t28 : Bool) (t29 : Bool) : Option (Int × Int × message_reader) :=
 (zbY ((⟨default, (⟨i25, i26⟩ : api_Frame), i27, t28, t29⟩ : body_Body))).bind fun r30 =>
 if (!r30) then (some ((0, 6, (⟨(⟨default, (⟨i25, i26⟩ : api_Frame), i27, t28, t29⟩ : body_Body), (⟨x_a0.f_m.Head, x_a0.f_m.Frame, s19, x_a0.f_m.Trailers⟩ : api_Message)⟩ : message_reader)))) else ((zda ((⟨default, (⟨i25, i26⟩ : api_Frame), i27, t28, t29⟩ : body_Body))).bind fun r35 =>
 some ((i13, 0, (⟨(⟨default, (⟨i25, i26⟩ : api_Frame), i27, t28, t29⟩ : body_Body), (⟨x_a0.f_m.Head, x_a0.f_m.Frame, s19, r35⟩ : api_Message)⟩ : message_reader))))

def zau (x_a0 : message_reader) (i13 : Int) (i14 : Int) (i15 : Int) (i16 : Int) (t17 : Bool) (t18 : Bool) (s19 : Str) (t21 : Bool) : Option (Int × Int × message_reader) :=
 if t21 then ((ze3 ((⟨default, (⟨i14, i15⟩ : api_Frame), i16, t17, t18⟩ : body_Body))).bind fun r23 =>
 zat x_a0 i13 s19 r23.2.2.f_frame.Kind r23.2.2.f_frame.N r23.2.2.f_left r23.2.2.f_done r23.2.2.f_bad) else (zat x_a0 i13 s19 i14 i15 i16 t17 t18)

def zav (x_a0 : message_reader) (x_a2 : Bool) (i13 : Int) (i14 : Int) (i15 : Int) (i16 : Int) (t17 : Bool) (t18 : Bool) (s19 : Str) : Option (Int × Int × message_reader) :=
 if (x_a0.f_m.Frame.Kind == 4) then (zau x_a0 i13 i14 i15 i16 t17 t18 s19 x_a2) else (zau x_a0 i13 i14 i15 i16 t17 t18 s19 false)

def zaf (x_a0 : message_reader) (x_a1 : Str) (x_a2 : Bool) : Option (Int × Int × message_reader) :=
 (zbY (⟨default, x_a0.Body.f_frame, x_a0.Body.f_left, x_a0.Body.f_done, x_a0.Body.f_bad⟩ : body_Body)).bind fun r3 =>
 if (!r3) then ((zcU (⟨default, x_a0.Body.f_frame, x_a0.Body.f_left, x_a0.Body.f_done, x_a0.Body.f_bad⟩ : body_Body) x_a1).bind fun r6 =>
 if (!(r6.2.2.2.1 == 0)) then (some ((0, r6.2.2.2.1, (⟨(⟨default, r6.2.2.2.2.f_frame, r6.2.2.2.2.f_left, r6.2.2.2.2.f_done, r6.2.2.2.2.f_bad⟩ : body_Body), x_a0.f_m⟩ : message_reader)))) else (zav x_a0 x_a2 r6.1 r6.2.2.2.2.f_frame.Kind r6.2.2.2.2.f_frame.N r6.2.2.2.2.f_left r6.2.2.2.2.f_done r6.2.2.2.2.f_bad r6.2.1)) else (zav x_a0 x_a2 0 x_a0.Body.f_frame.Kind x_a0.Body.f_frame.N x_a0.Body.f_left x_a0.Body.f_done x_a0.Body.f_bad x_a0.f_m.Body)

def zfX (i11 : Int) : Option (api_Message × Int × Int) :=
 if (!(i11 == 0)) then (some (((⟨(⟨0, [], [], 0, [], 0, []⟩ : api_Head), (⟨0, 0⟩ : api_Frame), [], []⟩ : api_Message), 0, i11))) else (none)

def zdb (x_a2 : Str) (r40 : Int × Bool × Int × accum_Accum) : Option (api_Message × Int × Int) :=
 (ze8 x_a2 r40.1).bind fun s78 =>
 none

def zbm (x_a2 : Str) (x_a4 : Bool) (r40 : Int × Bool × Int × accum_Accum) (r54 : api_Head × Bool) (r59 : api_Frame × Int) (i80 : Int) (i81 : Int) (i82 : Int) (t83 : Bool) (t84 : Bool) (i85 : Int) (i86 : Int) (l89 : List UInt8) (i90 : Int) (i91 : Int) (i92 : Int) (l95 : List api_Field) : Option (api_Message × Int × Int) :=
 (ze8 x_a2 r40.1).bind fun s97 =>
 (za2 ((⟨(⟨(⟨i85, i86, l89, i90, i91, i92, l95⟩ : dechunk_Decoder), (⟨i80, i81⟩ : api_Frame), i82, t83, t84⟩ : body_Body), (⟨r54.1, r59.1, [], []⟩ : api_Message)⟩ : message_reader)) s97 x_a4).bind fun r98 =>
 if (!(r98.2.1 == 0)) then (some (((⟨(⟨0, [], [], 0, [], 0, []⟩ : api_Head), (⟨0, 0⟩ : api_Frame), [], []⟩ : api_Message), 0, r98.2.1))) else ((zaR r40.1 r98.1).bind fun i113 =>
 some (r98.2.2.f_m, i113, 0))

def zbn (x_a2 : Str) (x_a4 : Bool) (r40 : Int × Bool × Int × accum_Accum) (r54 : api_Head × Bool) (r59 : api_Frame × Int) (i115 : Int) (i116 : Int) (i117 : Int) (t118 : Bool) (t119 : Bool) : Option (api_Message × Int × Int) :=
 (ze8 x_a2 r40.1).bind fun s121 =>
 (zaf ((⟨(⟨default, (⟨i115, i116⟩ : api_Frame), i117, t118, t119⟩ : body_Body), (⟨r54.1, r59.1, [], []⟩ : api_Message)⟩ : message_reader)) s121 x_a4).bind fun r122 =>
 if (!(r122.2.1 == 0)) then (some (((⟨(⟨0, [], [], 0, [], 0, []⟩ : api_Head), (⟨0, 0⟩ : api_Frame), [], []⟩ : api_Message), 0, r122.2.1))) else ((zaR r40.1 r122.1).bind fun i133 =>
 some (r122.2.2.f_m, i133, 0))

def zdc (x_a1 : Str) (x_a2 : Str) (x_a3 : Int) (x_a4 : Bool) (i17 : Int) (i18 : Int) (i19 : Int) (l22 : List UInt8) (i23 : Int) (t24 : Bool) (i25 : Int) (t26 : Bool) (i27 : Int) (s28 : Str) (s29 : Str) (i30 : Int) (s31 : Str) (i32 : Int) (l35 : List api_Field) : Option (api_Message × Int × Int) :=
 if (!(i17 == 0)) then (some (((⟨(⟨0, [], [], 0, [], 0, []⟩ : api_Head), (⟨0, 0⟩ : api_Frame), [], []⟩ : api_Message), 0, i17))) else ((zca ((⟨i18, i19, l22, i23, t24, i25, t26, (⟨i27, s28, s29, i30, s31, i32, l35⟩ : api_Head)⟩ : accum_Accum)) x_a2).bind fun r40 =>
 if (!(r40.2.2.1 == 0)) then (some (((⟨(⟨0, [], [], 0, [], 0, []⟩ : api_Head), (⟨0, 0⟩ : api_Frame), [], []⟩ : api_Message), 0, r40.2.2.1))) else (if (!r40.2.1) then (some (((⟨(⟨0, [], [], 0, [], 0, []⟩ : api_Head), (⟨0, 0⟩ : api_Frame), [], []⟩ : api_Message), 0, 6))) else ((zcb r40.2.2.2).bind fun r54 =>
 (zcQ x_a1 r54.1).bind fun r59 =>
 if (!(r59.2 == 0)) then (some (((⟨(⟨0, [], [], 0, [], 0, []⟩ : api_Head), (⟨0, 0⟩ : api_Frame), [], []⟩ : api_Message), 0, r59.2))) else ((zgn r59.1 x_a3).bind fun r68 =>
 zkI r68.1 (zdb x_a2 r40) (fun x70 => bE x70.1 (zbm x_a2 x_a4 r40 r54 r59 x70.2.f_frame.Kind x70.2.f_frame.N x70.2.f_left x70.2.f_done x70.2.f_bad x70.2.Decoder.f_limit x70.2.Decoder.f_at x70.2.Decoder.f_line x70.2.Decoder.f_left x70.2.Decoder.f_sum x70.2.Decoder.f_spent x70.2.Decoder.f_trailers) (zbn x_a2 x_a4 r40 r54 r59 x70.2.f_frame.Kind x70.2.f_frame.N x70.2.f_left x70.2.f_done x70.2.f_bad))))))

def z7 (x_a0 : Int) (x_a1 : Str) (x_a2 : Str) (x_a3 : Int) (x_a4 : Bool) : Option (api_Message × Int × Int) :=
 (zjV x_a0 x_a3).bind fun r3 =>
 zkI r3.1 (zfX r3.2) (fun x5 => zdc x_a1 x_a2 x_a3 x_a4 r3.2 x5.f_kind x5.f_limit x5.f_buf x5.f_from x5.f_took x5.f_bad x5.f_whole x5.f_got.Kind x5.f_got.Method x5.f_got.Target x5.f_got.Code x5.f_got.Reason x5.f_got.Minor x5.f_got.Fields)

def zdd (t14 : Bool) : Option Bool :=
 some t14

def zhA : Option Bool :=
 (zj9 [80, 79, 83, 84, 32, 47, 32, 72, 84, 84, 80, 47, 49, 46, 49, 13, 10, 72, 111, 115, 116, 58, 32, 97, 13, 10, 67, 111, 110, 116, 101, 110, 116, 45, 76, 101, 110, 103, 116, 104, 58, 32, 50, 13, 10, 13, 10, 104, 105] [109, 111, 114, 101]).bind fun s3 =>
 (z7 1 [] s3 99 false).bind fun r4 =>
 if (r4.2.2 == 0) then (if (r4.2.1 == ([80, 79, 83, 84, 32, 47, 32, 72, 84, 84, 80, 47, 49, 46, 49, 13, 10, 72, 111, 115, 116, 58, 32, 97, 13, 10, 67, 111, 110, 116, 101, 110, 116, 45, 76, 101, 110, 103, 116, 104, 58, 32, 50, 13, 10, 13, 10, 104, 105].length : Int)) then (if (r4.1.Body == [104, 105]) then (zdd (r4.1.Frame == (⟨2, 2⟩ : api_Frame))) else (zdd false)) else (zdd false)) else (zdd false)

def zeu (x_s : Str) : Option Str :=
 (sTo x_s (min (x_s.length : Int) 400)).bind fun s2 =>
 some s2

def zfx (rec1 : (List api_Field) → Int → Option api_Head) (x_h : api_Head) (r4 : Str) (r6 : Str) (r8 : Str) (l14 : List api_Field) (i15 : Int) (t17 : Bool) : Option api_Head :=
 if t17 then ((lAt x_h.Fields i15).bind fun x20 =>
 (zeu x20.Name).bind fun r23 =>
 (lAt x_h.Fields i15).bind fun x24 =>
 (zeu x24.Value).bind fun r27 =>
 if zF l14.length 1 32 then ((zaR i15 1).bind fun i33 =>
 rec1 (l14 ++ [(⟨r23, r27⟩ : api_Field)]) i33) else none) else (some (⟨x_h.Kind, r4, r6, x_h.Code, r8, x_h.Minor, l14⟩ : api_Head))

def zcH (x_h : api_Head) (r4 : Str) (r6 : Str) (r8 : Str) : Nat → (List api_Field) → Int → Option api_Head
 | 0, _, _ => none
 | n + 1, l14, i15 =>
 if (decide (i15 < (x_h.Fields.length : Int))) then (zfx (zcH x_h r4 r6 r8 n) x_h r4 r6 r8 l14 i15 (decide (i15 < 120))) else (zfx (zcH x_h r4 r6 r8 n) x_h r4 r6 r8 l14 i15 false)

def zh9 (x_h : api_Head) : Option api_Head :=
 (zeu x_h.Method).bind fun r4 =>
 (zeu x_h.Target).bind fun r6 =>
 (zeu x_h.Reason).bind fun r8 =>
 zcH x_h r4 r6 r8 fuel [] 0

def zfy (rec1 : (List api_Field) → Int → Option (List api_Field)) (x_l : List api_Field) (l6 : List api_Field) (i7 : Int) (t9 : Bool) : Option (List api_Field) :=
 if t9 then ((lAt x_l i7).bind fun x12 =>
 (lAt x_l i7).bind fun x15 =>
 (sTo x12.Name (min (x15.Name.length : Int) 50)).bind fun s18 =>
 (lAt x_l i7).bind fun x19 =>
 (lAt x_l i7).bind fun x22 =>
 (sTo x19.Value (min (x22.Value.length : Int) 200)).bind fun s25 =>
 if zF l6.length 1 32 then ((zaR i7 1).bind fun i31 =>
 rec1 (l6 ++ [(⟨s18, s25⟩ : api_Field)]) i31) else none) else (some l6)

def zcI (x_l : List api_Field) : Nat → (List api_Field) → Int → Option (List api_Field)
 | 0, _, _ => none
 | n + 1, l6, i7 =>
 if (decide (i7 < (x_l.length : Int))) then (zfy (zcI x_l n) x_l l6 i7 (decide (i7 < 105))) else (zfy (zcI x_l n) x_l l6 i7 false)

def zia (x_l : List api_Field) : Option (List api_Field) :=
 zcI x_l fuel [] 0

def zfY (x_m : api_Message) : Option api_Message :=
 (zh9 x_m.Head).bind fun r4 =>
 (sTo x_m.Body (min (x_m.Body.length : Int) 500)).bind fun s8 =>
 (zia x_m.Trailers).bind fun r10 =>
 some (⟨r4, x_m.Frame, s8, r10⟩ : api_Message)

def zbo (x_sep : Str) (x_l : List Str) : Option Str :=
 (strings_Join x_l x_sep).bind fun r2 =>
 some r2

def zcJ (s14 : Str) (t30 : Bool) : Option (Str × Int) :=
 if t30 then (some ([], 20)) else (some (s14, 0))

def zaw (s14 : Str) (r15 : api_Head × Int) (t28 : Bool) : Option (Str × Int) :=
 if (!(r15.2 == 0)) then (zcJ s14 true) else (zcJ s14 (!t28))

def zbL (x_a0 : api_Head) (s14 : Str) : Option (Str × Int) :=
 (za7 x_a0.Kind s14).bind fun r15 =>
 if (r15.2 == 1) then (some ([], r15.2)) else (if (r15.1.Method == x_a0.Method) then (if (r15.1.Target == x_a0.Target) then (if (r15.1.Minor == x_a0.Minor) then (if (r15.1.Code == x_a0.Code) then (zaw s14 r15 (r15.1.Reason == x_a0.Reason)) else (zaw s14 r15 false)) else (zaw s14 r15 false)) else (zaw s14 r15 false)) else (zaw s14 r15 false))

def zde (x_a0 : api_Head) : Option (Str × Int) :=
 (zdr x_a0.Minor).bind fun r3 =>
 (zj9 [72, 84, 84, 80, 47, 49, 46] r3).bind fun s4 =>
 (zbo [32] ([x_a0.Method, x_a0.Target, s4] : List Str)).bind fun r7 =>
 if (x_a0.Kind == 2) then ((zdr x_a0.Code).bind fun r11 =>
 (zbo [32] ([s4, r11, x_a0.Reason] : List Str)).bind fun r13 =>
 zbL x_a0 r13) else (zbL x_a0 r7)

def zdv (t11 : Bool) : Option Int :=
 if t11 then (some 25) else (some 0)

def zcv (x_f : api_Field) : Option Int :=
 (zff x_f.Name).bind fun r3 =>
 if (!r3) then (some 21) else ((zcs zah ([x_f.Value] : List Str)).bind fun r8 =>
 if (!r8) then (zdv true) else ((zcA x_f.Value [32, 9]).bind fun r10 =>
 zdv (!(r10 == x_f.Value))))

def zdS (x_h : api_Head) : Nat → Int → Option Int
 | 0, _ => none
 | n + 1, i10 =>
 if (decide (i10 < (x_h.Fields.length : Int))) then ((lAt x_h.Fields i10).bind fun x14 =>
 (zcv x14).bind fun r19 =>
 if (!(r19 == 0)) then (some r19) else ((zaR i10 1).bind fun i25 =>
 (zdS x_h n) i25)) else ((zfW x_h).bind fun r27 =>
 some r27)

def zfZ (x_h : api_Head) : Option Int :=
 (zde x_h).bind fun r3 =>
 if (!(r3.2 == 0)) then (some r3.2) else (zdS x_h fuel 0)

def zdI (t7 : Bool) : Option Bool :=
 some t7

def zdJ (t11 : Bool) : Option Bool :=
 some t11

def zfz (x_m : api_Message) : Option Bool :=
 if (x_m.Frame.Kind == 1) then (if (x_m.Body == []) then (zdI ((x_m.Trailers.length : Int) == 0)) else (zdI false)) else (if (x_m.Frame.Kind == 2) then (if ((x_m.Body.length : Int) == x_m.Frame.N) then (zdJ ((x_m.Trailers.length : Int) == 0)) else (zdJ false)) else (if (x_m.Frame.Kind == 4) then (some ((x_m.Trailers.length : Int) == 0)) else (some true)))

def zbE (x_f : api_Field) : Option (Str × Int) :=
 (zcv x_f).bind fun r3 =>
 if (!(r3 == 0)) then (some ([], r3)) else (if (x_f.Value == []) then ((zj9 x_f.Name [58]).bind fun s11 =>
 some (s11, 0)) else ((zj9 x_f.Name [58, 32]).bind fun s14 =>
 (zj9 s14 x_f.Value).bind fun s15 =>
 some (s15, 0)))

def zbM (x_trailers : List api_Field) : Nat → (List Str) → Int → Option (Str × Int)
 | 0, _, _ => none
 | n + 1, l7, i8 =>
 if (decide (i8 < (x_trailers.length : Int))) then ((lAt x_trailers i8).bind fun x12 =>
 (zbE x12).bind fun r17 =>
 if (!(r17.2 == 0)) then (some ([], r17.2)) else (if zF l7.length 1 16 then ((zaR i8 1).bind fun i28 =>
 (zbM x_trailers n) (l7 ++ ([r17.1] : List Str)) i28) else none)) else (if (decide (100 < (x_trailers.length : Int))) then (some ([], 3)) else (if zF l7.length 2 16 then ((zbo [13, 10] (l7 ++ ([[], []] : List Str))).bind fun r38 =>
 some (r38, 0)) else none))

def zcn (x_trailers : List api_Field) : Option (Str × Int) :=
 zbM x_trailers fuel ([[48]] : List Str) 0

def zdf (x_m : api_Message) (t17 : Bool) : Option Int :=
 if t17 then (some 1) else ((zcn x_m.Trailers).bind fun r21 =>
 some r21.2)

def zeN (x_method : Str) (x_m : api_Message) : Option Int :=
 (zfZ x_m.Head).bind fun r3 =>
 if (!(r3 == 0)) then (some r3) else ((zcQ x_method x_m.Head).bind fun r9 =>
 if (!(r9.2 == 0)) then (some r9.2) else (if (!(r9.1 == x_m.Frame)) then (zdf x_m true) else ((zfz x_m).bind fun r16 =>
 zdf x_m (!r16))))

def zjX (x_most : Int) : Option quill_Quill :=
 some (⟨[], max x_most 0⟩ : quill_Quill)

def zev (x_q : quill_Quill) : Option Int :=
 (zdB x_q.f_most (x_q.f_b.length : Int)).bind fun i4 =>
 some i4

def ze4 (l44 : List UInt8) (i45 : Int) : Option (Int × quill_Quill) :=
 some ((0, (⟨l44, i45⟩ : quill_Quill)))

def zW (x_l : List Str) : Nat → (List UInt8) → Int → Int → Option (Int × quill_Quill)
 | 0, _, _, _ => none
 | n + 1, l27, i28, i29 =>
 if (decide (i29 < (x_l.length : Int))) then ((lAt x_l i29).bind fun x33 =>
 if zF l27.length x33.length 1 then ((zaR i29 1).bind fun i41 =>
 (zW x_l n) (l27 ++ x33) i28 i41) else none) else (ze4 l27 i28)

def zag (x_q : quill_Quill) (x_l : List Str) : Nat → Int → Int → Option (Int × quill_Quill)
 | 0, _, _ => none
 | n + 1, i7, i8 =>
 if (decide (i8 < (x_l.length : Int))) then ((lAt x_l i8).bind fun x12 =>
 if (decide (i7 < (x12.length : Int))) then (some (10, x_q)) else ((zdB i7 (x12.length : Int)).bind fun i20 =>
 (zaR i8 1).bind fun i22 =>
 (zag x_q x_l n) i20 i22)) else (zW x_l fuel x_q.f_b x_q.f_most 0)

def zeW (x_q : quill_Quill) (x_l : List Str) : Option (Int × quill_Quill) :=
 (zev x_q).bind fun r4 =>
 zag x_q x_l fuel r4 0

def zew (x_q : quill_Quill) (x_l : List Str) : Option (Int × quill_Quill) :=
 if zF 0 x_l.length 16 then (if zF x_l.length 1 16 then ((zeW x_q (x_l ++ ([[13, 10]] : List Str))).bind fun r10 =>
 some (r10.1, r10.2)) else none) else none

def zaY (x_p : head_printer) (x_s : Str) : Option head_printer :=
 (zew x_p.Quill ([x_s] : List Str)).bind fun r2 =>
 if (!(r2.1 == 0)) then (some (⟨r2.2, true⟩ : head_printer)) else (some (⟨r2.2, x_p.f_full⟩ : head_printer))

def zf0 (x_q : quill_Quill) : Option Str :=
 some x_q.f_b

def zeO (t45 : Bool) (l48 : List UInt8) (i49 : Int) : Option (Str × Int) :=
 (zaY ((⟨(⟨l48, i49⟩ : quill_Quill), t45⟩ : head_printer)) []).bind fun r50 =>
 if r50.f_full then (some ([], 3)) else ((zf0 r50.Quill).bind fun r59 =>
 some (r59, 0))

def zdT (x_h : api_Head) : Nat → Bool → (List UInt8) → Int → Int → Option (Str × Int)
 | 0, _, _, _, _ => none
 | n + 1, t23, l26, i27, i28 =>
 if (decide (i28 < (x_h.Fields.length : Int))) then ((lAt x_h.Fields i28).bind fun x32 =>
 (zbE x32).bind fun r37 =>
 (zaY ((⟨(⟨l26, i27⟩ : quill_Quill), t23⟩ : head_printer)) r37.1).bind fun r39 =>
 (zaR i28 1).bind fun i44 =>
 (zdT x_h n) r39.f_full r39.Quill.f_b r39.Quill.f_most i44) else (zeO t23 l26 i27)

def zhe (x_h : api_Head) (x_limit : Int) : Option (Str × Int) :=
 (zfZ x_h).bind fun r3 =>
 if (!(r3 == 0)) then (some ([], r3)) else ((zjX x_limit).bind fun r9 =>
 (zde x_h).bind fun r15 =>
 (zaY (⟨r9, false⟩ : head_printer) r15.1).bind fun r17 =>
 zdT x_h fuel r17.f_full r17.Quill.f_b r17.Quill.f_most 0)

def zed (x_size : Int) (t3 : Bool) : Option (Option enchunk_Encoder × Int) :=
 if t3 then (some (none, 1)) else (some ((some (⟨x_size, [], false⟩ : enchunk_Encoder), 0)))

def zhB (x_size : Int) : Option (Option enchunk_Encoder × Int) :=
 if (decide (x_size < 1)) then (zed x_size true) else (zed x_size (decide (65536 < x_size)))

def zaz (x_c : enchunk_Encoder) : Option Int :=
 if x_c.f_done then (some 8) else (some 0)

def zeX (x_n : Int) : Option Str :=
 (zeo x_n 16).bind fun r2 =>
 some r2

def zee (x_n : Int) : Option Str :=
 (zeX x_n).bind fun r2 =>
 some r2

def zcw (x_data : Str) : Option Str :=
 if (x_data == []) then (some []) else ((zee (x_data.length : Int)).bind fun r6 =>
 (zbo [13, 10] ([r6, x_data, []] : List Str)).bind fun r8 =>
 some r8)

def zb3 (l30 : List Str) (i31 : Int) (s32 : Str) (t33 : Bool) : Option (Str × Int × enchunk_Encoder) :=
 (zbo [] l30).bind fun r34 =>
 some ((r34, 0, (⟨i31, s32, t33⟩ : enchunk_Encoder)))

def zal : Nat → (List Str) → Int → Str → Bool → Option (Str × Int × enchunk_Encoder)
 | 0, _, _, _, _ => none
 | n + 1, l13, i14, s15, t16 =>
 if (decide (i14 ≤ (s15.length : Int))) then ((sTo s15 i14).bind fun s20 =>
 (zcw s20).bind fun r21 =>
 if zF l13.length 1 16 then ((ze8 s15 i14).bind fun s27 =>
 (zal n) (l13 ++ ([r21] : List Str)) i14 s27 t16) else none) else (zb3 l13 i14 s15 t16)

def zcV (x_c : enchunk_Encoder) (x_s : Str) : Option (Str × Int × enchunk_Encoder) :=
 (zaz x_c).bind fun r2 =>
 if (!(r2 == 0)) then (some ([], r2, x_c)) else ((zj9 x_c.f_buf x_s).bind fun s9 =>
 zal fuel [] x_c.f_size s9 x_c.f_done)

def zcW (x_c : enchunk_Encoder) (x_trailers : List api_Field) : Option (Str × Int × enchunk_Encoder) :=
 (zaz x_c).bind fun r2 =>
 if (!(r2 == 0)) then (some ([], r2, x_c)) else ((zcn x_trailers).bind fun r8 =>
 if (!(r8.2 == 0)) then (some ([], r8.2, x_c)) else ((zcw x_c.f_buf).bind fun r14 =>
 (zj9 r14 r8.1).bind fun s15 =>
 some ((s15, 0, (⟨x_c.f_size, [], true⟩ : enchunk_Encoder)))))

def zbv : Option Int :=
 some 5

def zdw (x_s : Str) : Option (Str × Int) :=
 (zbv).bind fun r2 =>
 if (!(r2 == 0)) then (some ([], r2)) else (none)

def zdx (x_trailers : List api_Field) : Option (Str × Int) :=
 (zbv).bind fun r2 =>
 if (!(r2 == 0)) then (some ([], r2)) else ((zcn x_trailers).bind fun r8 =>
 if (!(r8.2 == 0)) then (some ([], r8.2)) else (none))

def zfA (x_body : Str) (x_trailers : List api_Field) (i6 : Int) : Option (Str × Int) :=
 if (!(i6 == 0)) then (some ([], i6)) else ((zdw x_body).bind fun r11 =>
 (zdx x_trailers).bind fun r13 =>
 if (!(r13.2 == 0)) then (some ([], r13.2)) else ((zj9 r11.1 r13.1).bind fun s19 =>
 some (s19, 0)))

def zdg (x_body : Str) (x_trailers : List api_Field) (i22 : Int) (i23 : Int) (s24 : Str) (t25 : Bool) : Option (Str × Int) :=
 if (!(i22 == 0)) then (some ([], i22)) else ((zcV (⟨i23, s24, t25⟩ : enchunk_Encoder) x_body).bind fun r30 =>
 (zcW r30.2.2 x_trailers).bind fun r33 =>
 if (!(r33.2.1 == 0)) then (some ([], r33.2.1)) else ((zj9 r30.1 r33.1).bind fun s40 =>
 some (s40, 0)))

def zgp (x_size : Int) (x_body : Str) (x_trailers : List api_Field) : Option (Str × Int) :=
 (zhB x_size).bind fun r2 =>
 zkI r2.1 (zfA x_body x_trailers r2.2) (fun x4 => zdg x_body x_trailers r2.2 x4.f_size x4.f_buf x4.f_done)

def zdh (r9 : Str × Int) (i19 : Int) (s20 : Str) : Option (Str × Int) :=
 if (!(i19 == 0)) then (some ([], i19)) else ((zj9 r9.1 s20).bind fun s25 =>
 some (s25, 0))

def zeP (x_method : Str) (x_m : api_Message) (x_limit : Int) (x_size : Int) : Option (Str × Int) :=
 (zeN x_method x_m).bind fun r3 =>
 if (!(r3 == 0)) then (some ([], r3)) else ((zhe x_m.Head x_limit).bind fun r9 =>
 if (!(r9.2 == 0)) then (some ([], r9.2)) else (if (x_m.Frame.Kind == 3) then ((zgp x_size x_m.Body x_m.Trailers).bind fun r18 =>
 zdh r9 r18.2 r18.1) else (zdh r9 r9.2 x_m.Body)))

def zcX (t20 : Bool) : Option Bool :=
 some t20

def zcY (t32 : Bool) : Option Bool :=
 some t32

def zao (x_method : Str) (x_k : UInt16) (r8 : api_Message) (r14 : Str × Int) (t17 : Bool) : Option Bool :=
 if t17 then (if (!(r14.2 == 0)) then (zcX true) else (zcX (r8.Frame.Kind == 4))) else ((iMod (x_k.toNat : Int) (r14.1.length : Int)).bind fun i22 =>
 (sTo r14.1 i22).bind fun s23 =>
 (z7 r8.Head.Kind x_method s23 65536 ((x_k % 2) == 0)).bind fun r24 =>
 if (r24.2.1 == 0) then (zcY (r24.2.2 == 6)) else (zcY false))

def zex (x_method : Str) (x_m : api_Message) (x_k : UInt16) : Option Bool :=
 (zhA).bind fun r3 =>
 if (!r3) then (some false) else ((zfY x_m).bind fun r8 =>
 (zeP x_method r8 65536 5).bind fun r14 =>
 if (!(r14.2 == 0)) then (zao x_method x_k r8 r14 true) else (zao x_method x_k r8 r14 (r8.Frame.Kind == 4)))

end Go.Dm
end
section
namespace Go.Dm
theorem znw (b : Bool) (v : Int) (k : Nat) (h : -1 ≤ v) : (if b = true then (k : Int) else if v = -1 then -1 else v + ((k + 1 : Nat) : Int)) =
  if (if b = true then 0 else if (v == -1) = true then -1 else v + 1) = -1 then -1 else (if b = true then 0 else if (v == -1) = true then -1 else v + 1) + (k : Int) := by
 cases b with
 | true => simp
 | false =>
  by_cases hm : v = -1
  ·subst hm; simp
  ·have h2 : ¬ (v + 1 = -1) := by omega
   have h3 : (v == -1) = false := beq_eq_false_iff_ne.2 hm;rw [h3];simp only [Bool.false_eq_true, if_false, if_neg hm, if_neg h2];omega
theorem zmp : ∀ (l : Str) (c : UInt8) (k : Nat), zgS l c k = if Go.Lib.indexByte l c = -1 then -1 else Go.Lib.indexByte l c + k
 | [], _, _ => rfl
 | x :: l, c, k => by
  rw [zgS, Go.Lib.indexByte, zmp l c (k + 1)];exact znw _ _ k (Go.Lib.indexByte_ge l c)
theorem zve (x y : UInt8) : (x == y) = (y == x) := by
 by_cases h : x = y
 ·subst h; rfl
 ·rw [beq_eq_false_iff_ne.2 h, beq_eq_false_iff_ne.2 (Ne.symm h)]
theorem znx : ∀ (s t : Str), zkJ s t = t.isPrefixOf s
 | s, [] => by cases s <;> rfl
 | [], y :: t => rfl
 | x :: s, y :: t => by
  rw [zkJ, List.isPrefixOf, znx s t, zve x y]
theorem zny : ∀ (l t : Str) (k : Nat), zha l t k = if Go.Lib.index l t = -1 then -1 else Go.Lib.index l t + k
 | [], t, k => by
  rw [zha, Go.Lib.index];cases t <;> simp [zkJ]
 | x :: l, t, k => by
  rw [zha, Go.Lib.index, znx];simp only [zny l t (k + 1)];exact znw _ _ k (Go.Lib.index_ge l t)
theorem znz : ∀ (l cs : Str) (k : Nat), zjo l cs k = if Go.Lib.indexAny l cs = -1 then -1 else Go.Lib.indexAny l cs + k
 | [], _, _ => rfl
 | x :: l, cs, k => by
  rw [zjo, Go.Lib.indexAny, znz l cs (k + 1)];exact znw _ _ k (Go.Lib.indexAny_ge cs l)
theorem zqM (l : Str) (c : UInt8) : zgS l c 0 = Go.Lib.indexByte l c := by
 rw [zmp]; have := Go.Lib.indexByte_ge l c; split <;> omega
theorem znA (l t : Str) : zha l t 0 = Go.Lib.index l t := by
 rw [zny]; have := Go.Lib.index_ge l t; split <;> omega
theorem zrW (l cs : Str) : zjo l cs 0 = Go.Lib.indexAny l cs := by
 rw [znz]; have := Go.Lib.indexAny_ge cs l; split <;> omega
end Go.Dm
end
section
namespace Go.Dm
@[simp] theorem zhK (l : Str) (i : Nat) : sAt l (i : Int) = l[i]? := by simp [sAt]
@[simp] theorem zog (l : Str) : sAt l 0 = l[0]? := by simp [sAt]
@[simp] theorem sAt_one (l : Str) : sAt l 1 = l[1]? := by simp [sAt]
@[simp] theorem sAt_two (l : Str) : sAt l 2 = l[2]? := by simp [sAt]
@[simp] theorem zbw {α : Type} (l : List α) (i : Nat) : lAt l (i : Int) = l[i]? := by simp [lAt]
@[simp] theorem zru {α : Type} (l : List α) : lAt l 0 = l[0]? := by simp [lAt]
theorem zez {m n : Int} (h1 : -9223372036854775808 ≤ m + n) (h2 : m + n ≤ 9223372036854775807) : zaR m n = some (m + n) := by simp [zaR, inI, h1, h2]
theorem zbN {m n : Int} (h1 : -9223372036854775808 ≤ m - n) (h2 : m - n ≤ 9223372036854775807) : zdB m n = some (m - n) := by simp [zdB, inI, h1, h2]
theorem zw7 {m n : Int} (h1 : -9223372036854775808 ≤ m * n) (h2 : m * n ≤ 9223372036854775807) : zrX m n = some (m * n) := by simp [zrX, inI, h1, h2]
theorem zE {i : Nat} (h : i < 4611686018427387904) : zaR (i : Int) 1 = some ((i + 1 : Nat) : Int) := by
 rw [zez (by omega) (by omega)]; simp
theorem zlI {i k : Nat} (h : i + k < 4611686018427387904) : zaR (i : Int) (k : Int) = some ((i + k : Nat) : Int) := by
 rw [zez (by omega) (by omega)]; simp
theorem zeY {l : Str} {h : Nat} (hh : h ≤ l.length) : sTo l (h : Int) = some (l.take h) := by simp [sTo, hh]
theorem zdU {l : Str} {i : Nat} (hh : i ≤ l.length) : ze8 l (i : Int) = some (l.drop i) := by simp [ze8, hh]
theorem zgt {l : Str} {i h : Nat} (h1 : i ≤ h) (h2 : h ≤ l.length) : zjm l (i : Int) (h : Int) = some ((l.take h).drop i) := by simp [zjm, h1, h2]
theorem zf8 {l m : Str} (h : l.length + m.length ≤ 9223372036854775807) : zj9 l m = some (l ++ m) := by simp [zj9, h]
theorem zsJ {n : Nat} (h : n < 1000000000000000000) : n < fuel := h

theorem zps {α β : Type} (l : List α) (L : Nat → Int → Option β) (F : α → Option β → Option β) (E : Option β)
  (hE : ∀ n, L (n + 1) (l.length : Int) = E) (hL : ∀ n (i : Nat) x, i < l.length → l[i]? = some x → L (n + 1) (i : Int) = F x (L n ((i + 1 : Nat) : Int))) :
  ∀ (n i : Nat), i ≤ l.length → l.length - i < n → L n (i : Int) = (l.drop i).foldr F E
 | 0, _, _, h => by omega
 | n + 1, i, hi, h => by
  by_cases hlt : i < l.length
  ·rw [hL n i _ hlt (List.getElem?_eq_getElem hlt), zps l L F E hE hL n (i + 1) (by omega) (by omega), List.drop_eq_getElem_cons hlt];rfl
  ·have : i = l.length := by omega
   subst this;rw [hE, List.drop_length];rfl
theorem zoh {α β : Type} (l : List α) (L : Nat → Int → Option β) (F : α → Option β → Option β) (E : Option β) (hl : l.length < 1000000000000000000)
  (hE : ∀ n, L (n + 1) (l.length : Int) = E) (hL : ∀ n (i : Nat) x, i < l.length → l[i]? = some x → L (n + 1) (i : Int) = F x (L n ((i + 1 : Nat) : Int))) : L fuel 0 = l.foldr F E := by
 have := zps l L F E hE hL fuel 0 (Nat.zero_le _) (zsJ (by omega));simpa using this
theorem zb4 {n m b : Nat} (h : (n + m) * b ≤ 140737488355328) (h2 : n + m ≤ 140737488355328) : zF n m b = true := by
 simp only [zF, Bool.and_eq_true, decide_eq_true_eq]; exact ⟨by omega, h⟩

theorem zaP (p : UInt8 → Bool) (h : (List.range 256).all (fun n => p (UInt8.ofNat n)) = true) (b : UInt8) : p b = true := by
 have := List.all_eq_true.1 h b.toNat (by simpa using b.toNat_lt);simpa using this
theorem ztH {α : Type} (p : α → Bool) (l : List α) : l.foldr (fun x r => if p x = true then r else some false) (some true) = some (l.all p) := by
 induction l with
 | nil => rfl
 | cons x l ih => simp only [List.foldr_cons, ih, List.all_cons]; cases p x <;> simp
theorem zmY (s : Str) (k : Nat) : sTo s (min (s.length : Int) (k : Int)) = some (s.take k) := by
 have e : min (s.length : Int) (k : Int) = ((min s.length k : Nat) : Int) := by omega
 rw [e, zeY (Nat.min_le_left _ _)]
 congr 1
 rcases Nat.le_total s.length k with h | h
 ·rw [Nat.min_eq_left h, List.take_length, List.take_of_length_le h]
 ·rw [Nat.min_eq_right h]
end Go.Dm
end
section
namespace Go.Dm
def zab (b : UInt8) : Bool := decide (48 ≤ b) && decide (b ≤ 57)
def zjI (b : UInt8) : UInt8 := if 65 ≤ b ∧ b ≤ 90 then b + 32 else b
def zvS (b : UInt8) : Bool := decide (97 ≤ zjI b) && decide (zjI b ≤ 122)
def zgF (b : UInt8) : Bool := zab b || decide (97 ≤ zjI b) && decide (zjI b ≤ 102)
def zkX (b : UInt8) : Bool := zvS b || zab b || ([45, 46, 95, 126] : Str).contains b
def zsg (b : UInt8) : Bool := ([33, 36, 38, 39, 40, 41, 42, 43, 44, 59, 61] : Str).contains b
def zpt (b : UInt8) : Bool := zkX b || zsg b || b == 58 || b == 64

theorem zsh (l : Str) (c : UInt8) (k : Nat) : decide (0 ≤ zgS l c k) = l.contains c := by
 induction l generalizing k with
 | nil => simp [zgS]
 | cons x l ih =>
  simp only [zgS, List.contains_cons]
  by_cases h : x = c
  ·simp [h]
  ·have h' : (c == x) = false := by simp; exact fun e => h e.symm
   simp [h, h', ih]
theorem zoj (b : UInt8) : zar b = some (zjI b) :=
 of_decide_eq_true (zaP (fun b => decide (zar b = some (zjI b))) (by decide +kernel) b)
theorem zf3 (b : UInt8) : zH b = some (zab b) :=
 of_decide_eq_true (zaP (fun b => decide (zH b = some (zab b))) (by decide +kernel) b)
theorem zej (b : UInt8) : zae b = some (zgF b) :=
 of_decide_eq_true (zaP (fun b => decide (zae b = some (zgF b))) (by decide +kernel) b)
theorem zmO (b : UInt8) : zfq b = some (zpt b) :=
 of_decide_eq_true (zaP (fun b => decide (zfq b = some (zpt b))) (by decide +kernel) b)
theorem zb8 {p : UInt8 → Bool} {f : UInt8 → Option Bool} (hf : ∀ b, f b = some (p b)) (s : Str) (hs : s.length < 1000000000) : zcs f [s] = some (s.all p) := by
 unfold zcs
 have h2 : ∀ (rec1 : Int → Option Bool) (i : Int), zcB rec1 f i s fuel 0 = s.foldr (fun x r => if p x = true then r else some false) ((zaR i 1).bind rec1) := by
  intro rec1 i;refine zoh s (zcB rec1 f i s) _ _ (by omega) ?_ ?_
  ·intro n; rw [zcB]; simp only [Int.lt_irrefl, decide_false, Bool.false_eq_true, if_false]
  ·intro n k x hk hx;rw [zcB];simp only [Int.ofNat_lt, hk, decide_true, if_true, zhK, hx, yob, hf, zE (show k < 4611686018427387904 by omega)];cases p x <;> rfl
 rw [zoh [s] (zcC f [s]) (fun x r => x.foldr (fun x r => if p x = true then r else some false) r) (some true) (by simp)]
 ·simp only [List.foldr_cons, List.foldr_nil];exact ztH p s
 ·intro n; rw [zcC]; simp only [Int.lt_irrefl, decide_false, Bool.false_eq_true, if_false]
 ·intro n i x hi hx
  have hi0 : i = 0 := by simp at hi; exact hi
  subst hi0;simp at hx; subst hx;rw [zcC];simp [h2, zez]
def zbp (b : UInt8) : Bool := zvS b || zab b || ([33, 35, 36, 37, 38, 39, 42, 43, 45, 46, 94, 95, 96, 124, 126] : Str).contains b
def zgG (b : UInt8) : Bool := decide (32 ≤ b) && !(b == 127) || b == 9
theorem zig (b : UInt8) : zb6 b = some (zbp b) :=
 of_decide_eq_true (zaP (fun b => decide (zb6 b = some (zbp b))) (by decide +kernel) b)
theorem zeA (b : UInt8) : zah b = some (zgG b) :=
 of_decide_eq_true (zaP (fun b => decide (zah b = some (zgG b))) (by decide +kernel) b)
theorem zi2 (b : UInt8) : zbh b = some (zkX b) :=
 of_decide_eq_true (zaP (fun b => decide (zbh b = some (zkX b))) (by decide +kernel) b)
theorem zok (b : UInt8) : zfb b = some (zsg b) :=
 of_decide_eq_true (zaP (fun b => decide (zfb b = some (zsg b))) (by decide +kernel) b)
def zfi (s : Str) : Bool := s.all zbp && !(s == [])
theorem zjJ (s : Str) (hs : s.length < 1000000000) : zff s = some (zfi s) := by
 unfold zff zfi;rw [zb8 zig s hs];cases s <;> simp [zea]
end Go.Dm
end
section
namespace Go.Dm
def zgs (b : Nat) (l : List Nat) : Nat := l.foldl (fun n d => n * b + d) 0
theorem ztB (b : Nat) (l : List Nat) : ∀ n, l.foldl (fun n d => n * b + d) n = n * b ^ l.length + zgs b l := by
 unfold zgs
 induction l with
 | nil => intro n; simp
 | cons x l ih =>
  intro n;rw [List.foldl_cons, ih, List.foldl_cons, ih (0 * b + x), ylc, Nat.pow_succ, Nat.add_mul, Nat.zero_mul, Nat.zero_add, Nat.mul_assoc, Nat.mul_comm b, Nat.add_assoc]
theorem zpn (b x : Nat) (l : List Nat) : zgs b (l ++ [x]) = zgs b l * b + x := by
 unfold zgs; rw [List.foldl_append]; rfl
def zfN (b : Nat) : Nat → Nat → List Nat
 | 0, n => [n % b]
 | k + 1, n => if n < b then [n] else zfN b k (n / b) ++ [n % b]
def digs (b n : Nat) : List Nat := zfN b 70 n
theorem zn8 {b n k : Nat} (hb : 2 ≤ b) (h : n < 2 ^ (k + 1)) : n / b < 2 ^ k := by
 rw [Nat.div_lt_iff_lt_mul (by omega)]
 calc n < 2 ^ (k + 1) := h
  _ = 2 ^ k * 2 := Nat.pow_succ ..
  _ ≤ 2 ^ k * b := Nat.mul_le_mul_left _ hb
theorem zkS {b : Nat} (hb : 2 ≤ b) : ∀ (k m n : Nat), k ≤ m → n < 2 ^ (k + 1) → zfN b m n = zfN b k n
  | 0, 0, n, _, _ => rfl
  | 0, m + 1, n, _, h => by
    have hn : n < b := by have : n < 2 := by simpa using h
                          omega
    show zfN b (m + 1) n = [n % b];rw [zfN, if_pos hn, Nat.mod_eq_of_lt hn]
  | k + 1, 0, n, h, _ => by omega
  | k + 1, m + 1, n, hm, h => by
    rw [zfN, zfN]
    split
    · rfl
    · rw [zkS hb k m (n / b) (by omega) (zn8 hb h)]
theorem zmd {b n : Nat} (hb : 2 ≤ b) (hn : b ≤ n) (h : n < 2 ^ 64) : digs b n = digs b (n / b) ++ [n % b] := by
 have h1 := zkS hb 64 70 n (by decide) (Nat.lt_of_lt_of_le h (Nat.pow_le_pow_right (by decide) (by decide)));have h2 := zkS hb 63 70 (n / b) (by decide) (zn8 hb (Nat.lt_of_lt_of_le h (Nat.pow_le_pow_right (by decide) (by decide))));unfold digs;rw [h1, h2, zfN, if_neg (by omega)]
theorem zkT {b n : Nat} (hn : n < b) : digs b n = [n] := by unfold digs; rw [zfN, if_pos hn]
theorem zn9 {b : Nat} (hb : 2 ≤ b) {P : Nat → Prop} (h0 : ∀ n, n < b → P n) (h1 : ∀ n, b ≤ n → n < 2 ^ 64 → P (n / b) → P n) : ∀ n, n < 2 ^ 64 → P n := by
 intro n
 induction n using Nat.strongRecOn with
 | _ n ih =>
  intro hn
  by_cases h : n < b
  ·exact h0 n h
  ·have : n / b < n := Nat.div_lt_self (by omega) (by omega);exact h1 n (by omega) hn (ih _ this (by omega))
theorem zvN {b : Nat} (hb : 2 ≤ b) : ∀ n, n < 2 ^ 64 → zgs b (digs b n) = n :=
 zn9 hb (fun n h => by rw [zkT h]; simp [zgs]) fun n h hn ih => by
  rw [zmd hb h hn, zpn, ih, Nat.mul_comm]; exact Nat.div_add_mod n b
theorem zp6 {b : Nat} (hb : 2 ≤ b) : ∀ n, n < 2 ^ 64 → ∀ d ∈ digs b n, d < b :=
 zn9 hb (fun n h d hd => by rw [zkT h] at hd; simp at hd; omega) fun n h hn ih d hd => by
  rw [zmd hb h hn] at hd
  rcases List.mem_append.1 hd with hd | hd
  ·exact ih d hd
  ·simp at hd; subst hd; exact Nat.mod_lt _ (by omega)
theorem zw2 {b n : Nat} : digs b n ≠ [] := by
 unfold digs; rw [zfN]; split <;> simp
theorem zrm {b : Nat} (hb : 2 ≤ b) : ∀ n, n < 2 ^ 64 → (digs b n).length ≤ 71 := by
  have : ∀ k n, (zfN b k n).length ≤ k + 1 := by
    intro k
    induction k with
    | zero => intro n; simp [zfN]
    | succ k ih => intro n; rw [zfN]; split
                   · simp
                   · simp; exact ih _
  intro n _; exact this 70 n
def dch (d : Nat) : UInt8 := if d < 10 then UInt8.ofNat (48 + d) else UInt8.ofNat (87 + d)
def zi (l : List Nat) : Str := l.map dch
def wor (c : UInt8) : Nat := if zab c then (c - 48).toNat else (zjI c - 97).toNat + 10
def zmC (b : Nat) (c : UInt8) : Bool := if b = 10 then zab c else zgF c
theorem zpo : ∀ d : Nat, d < 16 → (wor (dch d) = d ∧ zgF (dch d) = true ∧ (d < 10 → zab (dch d) = true)) := by decide
theorem zme (b : UInt8) : zeH b = some (wor b : Int) :=
 of_decide_eq_true (zaP (fun b => decide (zeH b = some (wor b : Int))) (by decide +kernel) b)
theorem zvO (c : UInt8) : (zab c = true → wor c < 10) ∧ (zgF c = true → wor c < 16) :=
 of_decide_eq_true (zaP (fun c => decide ((zab c = true → wor c < 10) ∧ (zgF c = true → wor c < 16))) (by decide +kernel) c)
def zoa (b : Nat) : Prop := b = 10 ∨ b = 16
theorem zoa.two {b : Nat} (h : zoa b) : 2 ≤ b ∧ b ≤ 16 := by rcases h with rfl | rfl <;> omega
theorem zvP {b : Nat} (hb : zoa b) {c : UInt8} (h : zmC b c = true) : wor c < b := by
 rcases hb with rfl | rfl
 ·exact (zvO c).1 h
 ·exact (zvO c).2 h
def zjB (b : Nat) (n : Int) : Str := if n < 0 then [] else zi (digs b n.toNat)
theorem dec_eq : ∀ n, n < 2 ^ 64 → Go.Lib.decDigits n = zi (digs 10 n) :=
 zn9 (b := 10) (by decide) (fun n h => by rw [Go.Lib.decDigits, dif_pos h, zkT h]; simp [zi, dch, h]) fun n h hn ih => by
  rw [Go.Lib.decDigits, dif_neg (by omega), ih, zmd (by decide) h hn];have : n % 10 < 10 := Nat.mod_lt _ (by decide);simp [zi, dch, this]
theorem zgE (n : Int) (hn : inI n = true) : zdr n = some (zjB 10 n) := by
 obtain ⟨h1, h2⟩ := zgQ.1 hn;unfold zdr zeo zjB
 by_cases h : n < 0
 ·simp [h]
 ·obtain ⟨k, rfl⟩ : ∃ k : Nat, n = k := ⟨n.toNat, by omega⟩
  have hk : ¬ ((k : Int) < 0) := by omega
  simp [hk, zcz, hn, Go.Lib.itoa, dec_eq k (by omega)]
def vals (s : Str) : List Nat := s.map wor
def zaO (b : Nat) (s : Str) (most : Int) : Int × Int :=
 if (s == [] || !s.all (zmC b)) = true then (0, 2) else if most < (zgs b (vals s) : Int) then (0, 7) else (((zgs b (vals s) : Nat) : Int), 0)
theorem ztC {b : Nat} (hb : 1 ≤ b) (l m : List Nat) : zgs b l ≤ zgs b (l ++ m) := by
 unfold zgs;rw [List.foldl_append];generalize l.foldl (fun n d => n * b + d) 0 = n;rw [ztB];have : 1 ≤ b ^ m.length := Nat.one_le_pow _ _ hb;have := Nat.le_mul_of_pos_right n this;omega
theorem zsf {b : Nat} (hb : zoa b) (s : Str) (most : Int) (hs : s.length < 1000000000) (hd : s.all (zmC b) = true) (hm : most < 4611686018427387904) (hm0 : -4611686018427387904 < most) (hne : s ≠ []) :
  zaC s (b : Int) most fuel 0 0 = some (if most < (zgs b (vals s) : Int) then (0, 7) else (((zgs b (vals s) : Nat) : Int), 0)) := by
 obtain ⟨h2, h16⟩ := hb.two
 have key : ∀ (n i v : Nat), i ≤ s.length → s.length - i < n → v = zgs b (vals (s.take i)) → (i = 0 ∨ (v : Int) ≤ most) → (i < s.length ∨ (v : Int) ≤ most) →
   zaC s (b : Int) most n (v : Int) (i : Int) = some (if most < (zgs b (vals s) : Int) then (0, 7) else (((zgs b (vals s) : Nat) : Int), 0)) := by
  intro n
  induction n with
  | zero => intro i v _ h; omega
  | succ n ih =>
   intro i v hi h hv h0 h1;rw [zaC]
   by_cases hlt : i < s.length
   ·have hx : s[i]? = some s[i] := ygg hlt;have hw : wor s[i] < b := zvP hb (List.all_eq_true.1 hd _ (ygm hlt))
    have htk : vals (s.take (i + 1)) = vals (s.take i) ++ [wor s[i]] := by
     unfold vals;rw [List.take_succ_eq_append_getElem hlt, List.map_append]; rfl
    have hv' : zgs b (vals (s.take (i + 1))) = v * b + wor s[i] := by rw [htk, zpn, ← hv]
    have hle : zgs b (vals (s.take (i + 1))) ≤ zgs b (vals s) := by
     have := ztC (b := b) (by omega) (vals (s.take (i + 1))) (vals (s.drop (i + 1)));unfold vals at this ⊢
     rwa [← List.map_append, List.take_append_drop] at this
    simp only [Int.ofNat_lt, hlt, decide_true, if_true, zhK, hx, yob, zme]
    by_cases hov : most < (wor s[i] : Int)
    ·have : most < (zgs b (vals s) : Int) := by
      have := yz (v * b); omega
     simp [hov, zct, this]
    ·have hsub : zdB most (wor s[i] : Int) = some (most - (wor s[i] : Int)) := zbN (by omega) (by omega)
     have hdv : iDiv (most - (wor s[i] : Int)) (b : Int) = some ((most - (wor s[i] : Int)) / (b : Int)) := by
      unfold iDiv;have h5 : 0 ≤ (most - (wor s[i] : Int)) / (b : Int) := Int.ediv_nonneg (by omega) (by omega);have h6 : (most - (wor s[i] : Int)) / (b : Int) ≤ most - (wor s[i] : Int) := Int.ediv_le_self _ (by omega);rw [if_pos ⟨by omega, by omega, by rw [zgQ]; omega⟩]
     have hiff : (most - (wor s[i] : Int)) / (b : Int) < (v : Int) ↔ most < ((v * b + wor s[i] : Nat) : Int) := by
      rw [Int.ediv_lt_iff_lt_mul (by omega)]
      push_cast
      omega
     simp only [hov, decide_false, Bool.false_eq_true, if_false, hsub, hdv, yob, zct]
     by_cases hov2 : (most - (wor s[i] : Int)) / (b : Int) < (v : Int)
     ·have h7 : most < (zgs b (vals s) : Int) := by have := hiff.1 hov2; omega
      simp [hov2, h7]
     ·have h7 : ((v * b + wor s[i] : Nat) : Int) ≤ most := by have := (not_congr hiff).1 hov2; omega
      have hmul : zrX (v : Int) (b : Int) = some ((v * b : Nat) : Int) := by
       rw [zw7 (by rw [← Int.natCast_mul]; omega) (by rw [← Int.natCast_mul]; omega), Int.natCast_mul]
      have hadd : zaR ((v * b : Nat) : Int) (wor s[i] : Int) = some ((v * b + wor s[i] : Nat) : Int) := by
       rw [zez (by omega) (by omega)]; simp
      simp only [hov2, decide_false, Bool.false_eq_true, if_false, hmul, hadd, yob, zE (show i < 4611686018427387904 by omega)];exact ih (i + 1) (v * b + wor s[i]) (by omega) (by omega) hv'.symm (.inr h7) (.inr h7)
   ·have : i = s.length := by omega
    subst this;rw [List.take_length] at hv
    have h8 : ¬ most < (zgs b (vals s) : Int) := by rw [← hv]; rcases h1 with h1 | h1 <;> omega
    simp [h8, hv]
 have := key fuel 0 0 (yz _) (by unfold fuel; omega) (by simp [vals, zgs]) (.inl rfl) (.inl (by cases s with | nil => exact absurd rfl hne | cons _ _ => simp));simpa using this
theorem ziT {b : Nat} (hb : zoa b) (s : Str) (most : Int) (hs : s.length < 1000000000) (hm : most < 4611686018427387904) (hm0 : -4611686018427387904 < most) {f : UInt8 → Option Bool} (hf : ∀ c, f c = some (zmC b c)) :
  zen s (b : Int) most f = some (zaO b s most) := by
 unfold zen zaO
 rcases zht (s == []) with h | h
 ·rw [h]; simp [zcu]
 ·rw [h];rw [zb8 hf s hs];simp only [Bool.false_eq_true, if_false, yob, zcu, Bool.false_or]
  rcases zht (s.all (zmC b)) with h2 | h2
  ·rw [h2];simp only [ynt, Bool.false_eq_true, if_false];exact zsf hb s most hs h2 hm hm0 (by simpa using h)
  ·rw [h2]; simp
theorem zdy (s : Str) (most : Int) (hs : s.length < 1000000000) (hm : most < 4611686018427387904) (hm0 : -4611686018427387904 < most) : za4 s most = some (zaO 10 s most) := by
 unfold za4;have := ziT (.inl rfl) s most hs hm hm0 (f := zH) zf3;rw [show ((10 : Nat) : Int) = 10 from rfl] at this;rw [this]; rfl
theorem zob (s : Str) (most : Int) (hs : s.length < 1000000000) (hm : most < 4611686018427387904) (hm0 : -4611686018427387904 < most) : zgo s most = some (zaO 16 s most) := by
 unfold zgo;have := ziT (.inr rfl) s most hs hm hm0 (f := zae) zej;rw [show ((16 : Nat) : Int) = 16 from rfl] at this;rw [this]; rfl
theorem ztD (l : List Nat) : (zi l).length = l.length := by simp [zi]
end Go.Dm
end
section
namespace Go.Dm
def low (s : Str) : Str := s.map zjI
theorem zf5 (s : Str) (hs : s.length < 1000000000) : ze2 s = some (low s) := by
 unfold ze2;rw [if_pos (by omega)];unfold low
 clear hs
 induction s with
 | nil => rfl
 | cons x s ih => simp [List.mapM_cons, zoj, ih]
theorem zkm (a b : Str) (ha : a.length < 1000000000) (hb : b.length < 1000000000) : zfV a b = some (low a == low b) := by
 unfold zfV;rw [zf5 a ha, zf5 b hb]; rfl
end Go.Dm
end
section
namespace Go.Dm
def upto (cs s : Str) : Str := s.takeWhile (fun c => !cs.contains c)
def zb0 (cs s : Str) : Str := s.dropWhile (fun c => !cs.contains c)
theorem zey (cs s : Str) : upto cs s ++ zb0 cs s = s := List.takeWhile_append_dropWhile
theorem zp9 (cs s : Str) : (upto cs s).length ≤ s.length := by
 have := congrArg List.length (zey cs s); simp at this; omega
theorem zpp (cs s : Str) : s.take (upto cs s).length = upto cs s := by
 have h := zey cs s
 conv => lhs; arg 2; rw [← h]
 exact List.take_left
theorem zpq (cs s : Str) : s.drop (upto cs s).length = zb0 cs s := by
 have h := zey cs s
 conv => lhs; arg 2; rw [← h]
 exact List.drop_left
theorem zqa (cs s : Str) : zb0 cs s = [] ↔ (upto cs s).length = s.length := by
 have h := congrArg List.length (zey cs s);simp only [yla] at h;rw [← List.length_eq_zero_iff]; omega
theorem ztG {cs s : Str} {c : UInt8} {r : Str} (h : zb0 cs s = c :: r) : cs.contains c = true := by
 have := List.head?_dropWhile_not (fun c => !cs.contains c) s;unfold zb0 at h;rw [h] at this;simpa using this
theorem zjG {cs s : Str} {x : UInt8} (h : cs.contains x = true) : upto cs (x :: s) = [] := by
 unfold upto; rw [List.takeWhile_cons_of_neg (by rw [h]; simp)]
theorem zhI {cs s : Str} {x : UInt8} (h : cs.contains x = true) : zb0 cs (x :: s) = x :: s := by
 unfold zb0; rw [List.dropWhile_cons_of_neg (by rw [h]; simp)]
theorem zjH {cs s : Str} {x : UInt8} (h : cs.contains x = false) : upto cs (x :: s) = x :: upto cs s := by
 unfold upto; rw [List.takeWhile_cons_of_pos (by rw [h]; rfl)]
theorem zhJ {cs s : Str} {x : UInt8} (h : cs.contains x = false) : zb0 cs (x :: s) = zb0 cs s := by
 unfold zb0; rw [List.dropWhile_cons_of_pos (by rw [h]; rfl)]

theorem zpr (cs : Str) : ∀ (s : Str) (k : Nat), zjo s cs k = if zb0 cs s = [] then -1 else ((k + (upto cs s).length : Nat) : Int)
 | [], k => by simp [zjo, zb0]
 | x :: s, k => by
  simp only [zjo]
  by_cases h : cs.contains x = true
  ·rw [if_pos h, zjG h, zhI h]; simp
  ·have h' : cs.contains x = false := by simpa using h
   rw [if_neg h, zpr cs s (k + 1)];rw [zhJ h', zjH h', ylc]
   split
   ·rfl
   ·congr 1; omega
theorem zqb (s p : Str) (hs : s.length < 1000000000) : stringslite_HasPrefix s p = some (p.isPrefixOf s) := by
 unfold stringslite_HasPrefix
 by_cases h : p.length ≤ s.length
 ·have h' : (p.length : Int) ≤ (s.length : Int) := by omega
  simp only [h', decide_true, if_true, zeY h, yob, zY]
  congr 1
  rw [Bool.eq_iff_iff, beq_iff_eq, List.isPrefixOf_iff_prefix, List.prefix_iff_eq_take];exact eq_comm
 ·have h' : ¬ (p.length : Int) ≤ (s.length : Int) := by omega
  simp only [h', decide_false, Bool.false_eq_true, if_false, zY]
  congr 1
  rw [eq_comm, Bool.eq_false_iff];intro hp;rw [List.isPrefixOf_iff_prefix] at hp;exact h hp.length_le
theorem zei (s p : Str) (hs : s.length < 1000000000) : strings_HasPrefix s p = some (p.isPrefixOf s) := by
 unfold strings_HasPrefix;rw [zqb s p hs]; rfl
theorem zgL (s cs : Str) (hs : s.length < 1000000000) (hc : cs.length < 1000000000) (ha : cs.all (fun c => c.toNat < 128) = true) :
  strings_IndexAny s cs = some (if zb0 cs s = [] then -1 else ((upto cs s).length : Int)) := by
 unfold strings_IndexAny;rw [if_pos ⟨by omega, by omega, ha⟩, zpr, Nat.zero_add]
theorem zro (cs s : Str) : zb0 cs s = [] ↔ s.any cs.contains = false := by
 induction s with
 | nil => simp [zb0]
 | cons x s ih =>
  rcases zht (cs.contains x) with h | h
  ·rw [zhI h, List.any_cons, h]; simp
  ·rw [zhJ h, ih, List.any_cons, h, Bool.false_or]
theorem zfF (s cs : Str) (hs : s.length < 1000000000) (hc : cs.length < 1000000000) (ha : cs.all (fun c => c.toNat < 128) = true) : strings_ContainsAny s cs = some (s.any cs.contains) := by
 unfold strings_ContainsAny;rw [zgL s cs hs hc ha, yob]
 rcases zht (s.any cs.contains) with h | h
 ·have e : ¬ zb0 cs s = [] := fun e => by rw [(zro cs s).1 e] at h; cases h
  rw [if_neg e, h]; simp
 ·rw [if_pos ((zro cs s).2 h), h]; rfl

end Go.Dm
end
section
namespace Go.Dm
def scn (s : Str) (k : Nat) : scan_Scanner := ⟨s, (k : Int)⟩
theorem zfh (s : Str) : zfo s = some (scn s 0) := rfl
theorem ziE (s : Str) (k : Nat) : za3 (scn s k) = some (k : Int) := rfl
theorem zlC {s : Str} {k : Nat} (h : k ≤ s.length) : zA (scn s k) = some (s.drop k) := by
 unfold zA scn;rw [zdU h]; rfl
theorem zjC {s : Str} {k : Nat} (h : k ≤ s.length) : zZ (scn s k) = some (s.drop k == []) := by
 unfold zZ;rw [zlC h]; rfl
theorem zhR {s : Str} {k : Nat} (h : k ≤ s.length) (hd : s.drop k = []) : zn (scn s k) = some (0, false) := by
 unfold zn;rw [zjC h, hd]; rfl
theorem zhh {s : Str} {k : Nat} {x : UInt8} {r : Str} (h : k ≤ s.length) (hd : s.drop k = x :: r) : zn (scn s k) = some (x, true) := by
 unfold zn;rw [zjC h, hd]
 have hx : s[k]? = some x := by
  have := congrArg (·[0]?) hd;simpa using this
 simp [scn, hx]
theorem zoE {s : Str} {k : Nat} (b : UInt8) (h : k ≤ s.length) (hd : s.drop k = []) : zd (scn s k) b = some (false, scn s k) := by
 unfold zd;rw [zhR h hd]; rfl
theorem zfE {s : Str} {k : Nat} {x : UInt8} {r : Str} (b : UInt8) (h : k ≤ s.length) (hs : s.length < 1000000000) (hd : s.drop k = x :: r) : zd (scn s k) b = some (x == b, if x == b then scn s (k + 1) else scn s k) := by
 unfold zd;rw [zhh h hd];simp only [yob, ynt, Bool.false_eq_true, if_false, zbz]
 rcases zht (x == b) with hb | hb
 ·rw [hb]; simp [scn, zE (show k < 4611686018427387904 by omega)]
 ·rw [hb]; simp
theorem zlD {s : Str} {k : Nat} {x : UInt8} {r : Str} (hd : s.drop k = x :: r) : k < s.length ∧ s.drop (k + 1) = r := by
 have hl : k < s.length := by
  rcases Nat.lt_or_ge k s.length with h | h
  ·exact h
  ·rw [List.drop_eq_nil_of_le h] at hd; cases hd
 refine ⟨hl, ?_⟩;rw [ydg hl] at hd;exact (List.cons.inj hd).2
theorem zoF {f : UInt8 → Option Bool} {p : UInt8 → Bool} (hf : ∀ b, f b = some (p b)) {s : Str} {k : Nat} (hs : s.length < 1000000000) (hk : k ≤ s.length) :
  zI (scn s k) f = some ((s.drop k).takeWhile p, scn s (k + ((s.drop k).takeWhile p).length)) := by
 unfold zI;rw [ziE, yob];show zB f k fuel s k = _
 have key : ∀ (n i : Nat), k ≤ i → i ≤ s.length → s.length - i < n → zB f k n s i = some ((s.take (i + ((s.drop i).takeWhile p).length)).drop k, scn s (i + ((s.drop i).takeWhile p).length)) := by
  intro n
  induction n with
  | zero => intro i _ _ h; omega
  | succ n ih =>
   intro i hki hi h;rw [zB];have e : (⟨s, (i : Int)⟩ : scan_Scanner) = scn s i := rfl;rw [e]
   cases hd : s.drop i with
   | nil =>
    rw [zhR hi hd];simp [zay, zba, zgt hki hi, scn]
   | cons x r =>
    obtain ⟨hlt, hr⟩ := zlD hd;rw [zhh hi hd];simp only [yob, ynt, Bool.false_eq_true, if_false, hf, zay, zE (show i < 4611686018427387904 by omega), ih (i + 1) (by omega) (by omega) (by omega), hr, List.takeWhile_cons]
    rcases zht (p x) with hp | hp
    ·rw [hp]; simp [Nat.add_assoc, Nat.add_comm 1]
    ·rw [hp]; simp [zba, zgt hki hi, scn]
 rw [key fuel k (Nat.le_refl _) hk (by unfold fuel; omega)]
 congr 2
 rw [List.drop_take, Nat.add_sub_cancel_left];have := List.takeWhile_prefix (l := s.drop k) p;exact (List.prefix_iff_eq_take.1 this).symm
theorem ziF (p : UInt8 → Bool) (s : Str) : (s.takeWhile p).length ≤ s.length := (List.takeWhile_prefix p).length_le
theorem ztE (p : UInt8 → Bool) (s : Str) (k : Nat) (hk : k ≤ s.length) : s.drop (k + ((s.drop k).takeWhile p).length) = (s.drop k).dropWhile p ∧ k + ((s.drop k).takeWhile p).length ≤ s.length := by
 refine ⟨?_, ?_⟩
 ·rw [← List.drop_drop];generalize s.drop k = t;have h := List.takeWhile_append_dropWhile (p := p) (l := t)
  conv => lhs; arg 2; rw [← h]
  exact List.drop_left
 ·have := ziF p (s.drop k);rw [yld] at this; omega
end Go.Dm
end
section
namespace Go.Dm
structure At (s : Str) (k : Nat) (r : Str) : Prop where
 le : k ≤ s.length
 drop : s.drop k = r
theorem At.zero (s : Str) : At s 0 s := ⟨yz _, rfl⟩
theorem At.len {s : Str} {k : Nat} {r : Str} (h : At s k r) : k + r.length = s.length := by
 have := congrArg List.length h.drop;rw [yld] at this;have := h.le;omega
theorem At.le_len {s : Str} {k : Nat} {r : Str} (h : At s k r) : r.length ≤ s.length := by have := h.len; omega
theorem At.next {s : Str} {k : Nat} {r : Str} (h : At s k r) (n : Nat) (hn : n ≤ r.length) : At s (k + n) (r.drop n) :=
 ⟨by have := h.len; omega, by rw [← List.drop_drop, h.drop]⟩
def zsG : Str → UInt8 × Bool
 | [] => (0, false)
 | x :: _ => (x, true)
def zd0 (b : UInt8) (r : Str) : Bool := r.head? == some b
def zQ (b : UInt8) (r : Str) : Str := if zd0 b r then r.drop 1 else r
theorem ztF (b : UInt8) : zd0 b [] = false := rfl
theorem zcS (b x : UInt8) (r : Str) : zd0 b (x :: r) = (x == b) := Option.some_beq_some ..
theorem zbR (b : UInt8) (r : Str) : zQ b (b :: r) = r := by unfold zQ; rw [zcS, ybs, if_pos rfl]; rfl
theorem zkU {b : UInt8} {r : Str} (h : zd0 b r = false) : zQ b r = r := by unfold zQ; rw [h]; rfl
theorem zeh {b : UInt8} {r : Str} (h : zd0 b r = true) : r = b :: zQ b r := by
 cases r with
 | nil => cases h
 | cons x r =>
  rw [zcS] at h
  have : x = b := by simpa using h
  subst this;rw [zbR]
section
variable {s r : Str} {k : Nat}
theorem zp7 (h : At s k r) : zZ (scn s k) = some (r == []) := by rw [zjC h.le, h.drop]
theorem zmX (h : At s k r) : zA (scn s k) = some r := by rw [zlC h.le, h.drop]
theorem zlE (h : At s k r) : zn (scn s k) = some (zsG r) := by
 cases r with
 | nil => exact zhR h.le h.drop
 | cons x r => exact zhh h.le h.drop
theorem zd1 (hs : s.length < 1000000000) (b : UInt8) (h : At s k r) : ∃ k', At s k' (zQ b r) ∧ zd (scn s k) b = some (zd0 b r, scn s k') := by
 cases r with
 | nil => exact ⟨k, h, zoE b h.le h.drop⟩
 | cons x r =>
  rw [zfE b h.le hs h.drop, zcS];unfold zQ;rw [zcS]
  cases x == b with
  | true => exact ⟨k + 1, h.next 1 (by simp), rfl⟩
  | false => exact ⟨k, h, rfl⟩
theorem zif {f : UInt8 → Option Bool} {p : UInt8 → Bool} (hf : ∀ b, f b = some (p b)) (hs : s.length < 1000000000) (h : At s k r) : ∃ k', At s k' (r.dropWhile p) ∧ zI (scn s k) f = some (r.takeWhile p, scn s k') := by
 have e := zoF hf hs h.le;rw [h.drop] at e;have hd := ztE p s k h.le;rw [h.drop] at hd;exact ⟨_, ⟨hd.2, hd.1⟩, e⟩
theorem zrn (hs : s.length < 1000000000) (h : At s k r) : ∃ k', At s k' (r.dropWhile zbp) ∧ zbf (scn s k) = some (r.takeWhile zbp, !(r.takeWhile zbp == []), scn s k') := by
 obtain ⟨k', h1, h2⟩ := zif zig hs h;refine ⟨k', h1, ?_⟩;unfold zbf;rw [h2]; rfl
theorem zw3 (hs : s.length < 1000000000) (t : Str) (ht : t.length < 1000000000) (h : At s k r) : ∃ k', At s k' (if t.isPrefixOf r then r.drop t.length else r) ∧ zbG (scn s k) t = some (t.isPrefixOf r, scn s k') := by
 unfold zbG;have := h.le_len;rw [zmX h, yob, zei r t (by omega), yob]
 cases hp : t.isPrefixOf r with
 | false => exact ⟨k, h, rfl⟩
 | true =>
  have hl := (List.isPrefixOf_iff_prefix.1 hp).length_le;have hk := h.len;rw [if_pos rfl];show ∃ k', At s k' (r.drop t.length) ∧ ((zaR (k : Int) (t.length : Int)).bind fun i9 => some (true, (⟨s, i9⟩ : scan_Scanner))) = _;rw [zez (by omega) (by omega), yob];exact ⟨k + t.length, h.next _ hl, by unfold scn; simp⟩
end
end Go.Dm
end
section
namespace Go.Dm
theorem zim (c : UInt8) (s : Str) : zq c s ≠ [] := by
 cases s with
 | nil => simp [zq]
 | cons x s =>
  unfold zq
  split
  ·simp
  ·split <;> simp
theorem zki {b c : UInt8} {l : Str} (h : b ≠ c) : Go.Lib.index (b :: l) [c] = if Go.Lib.index l [c] = -1 then -1 else Go.Lib.index l [c] + 1 := by
 have hp : ([c] : List UInt8).isPrefixOf (b :: l) = false := by simp [List.isPrefixOf, Ne.symm h]
 rw [Go.Lib.index, hp]; simp
theorem zkj (c : UInt8) (l : Str) : Go.Lib.index (c :: l) [c] = 0 := by
 rw [Go.Lib.index]; simp [List.isPrefixOf]
theorem zky (c : UInt8) : ∀ (s : Str) (k : Nat), Go.Lib.count s [c] = k → Go.Lib.splitK [c] 0 k s = zq c s
 | [], k, h => by
  rw [Go.Lib.count_one] at h;simp at h; subst h; rfl
 | b :: l, k, h => by
  by_cases hb : b = c
  ·subst hb;rw [Go.Lib.count_cons_eq] at h;obtain ⟨m, rfl⟩ : ∃ m, k = m + 1 := ⟨k - 1, by omega⟩;have ih := zky b l m (by omega);unfold Go.Lib.splitK;rw [zkj];simp [zq, ih]
  ·rw [Go.Lib.count_cons_ne b c l hb] at h;have ih := zky c l k h;unfold zq;rw [if_neg hb, ← ih]
   cases k with
   | zero => simp [Go.Lib.splitK]
   | succ k =>
    unfold Go.Lib.splitK;rw [zki hb];have hge := Go.Lib.index_ge l [c]
    by_cases hm : Go.Lib.index l [c] = -1
    ·rw [Go.Lib.count_miss hm] at h; omega
    ·obtain ⟨j, hj⟩ : ∃ j : Nat, Go.Lib.index l [c] = j := ⟨(Go.Lib.index l [c]).toNat, by omega⟩
     have e1 : ¬ ((j : Int) + 1 = -1) := by omega
     have e2 : ¬ ((j : Int) = -1) := by omega
     have e3 : ((j : Int) + 1).toNat = j + 1 := by omega
     rw [hj];simp [e1, e2, e3, Nat.add_right_comm j 1 1]
theorem zlR (s : Str) (c : UInt8) (hs : s.length < 1000000000) : strings_Split s [c] = some (zq c s) := by
 unfold strings_Split;rw [if_pos ⟨by omega, by simp⟩];rw [zky c s _ rfl]
def zfR (p : Str) : List Str → List Str
 | [] => [p]
 | h :: t => (p ++ h) :: t
theorem zgN (c x : UInt8) (s : Str) : zq c (x :: s) = if x = c then [] :: zq c s else zfR [x] (zq c s) := by
 rw [zq]
 split
 ·rfl
 ·cases h : zq c s <;> rfl
theorem zrJ (l : List Str) (h : l ≠ []) : zfR [] l = l := by
 cases l with
 | nil => exact absurd rfl h
 | cons a t => rfl
theorem zos (p q : Str) (l : List Str) (h : l ≠ []) : zfR p (zfR q l) = zfR (p ++ q) l := by
 cases l with
 | nil => exact absurd rfl h
 | cons a t => simp [zfR]
theorem zjd (c : UInt8) : ∀ (a s : Str), c ∉ a → zq c (a ++ s) = zfR a (zq c s)
 | [], s, _ => (zrJ _ (zim c s)).symm
 | x :: a, s, h => by
  have hx : ¬ x = c := fun e => h (by simp [e]);rw [List.cons_append, zgN, if_neg hx, zjd c a s (fun e => h (List.mem_cons_of_mem _ e)), zos _ _ _ (zim c s)];rfl
theorem zpD {c : UInt8} {a : Str} (h : c ∉ a) : zq c a = [a] := by
 have := zjd c a [] h;simpa [zq, zfR] using this
theorem zrK {c : UInt8} {a : Str} (s : Str) (h : c ∉ a) : zq c (a ++ c :: s) = a :: zq c s := by
 rw [zjd c a _ h, zgN, if_pos rfl];simp [zfR]
theorem zgc {c : UInt8} : ∀ {s p : Str}, p ∈ zq c s → c ∉ p ∧ p.length ≤ s.length ∧ ∀ x ∈ p, x ∈ s
 | [], p, h => by
  simp [zq] at h; subst h; simp
 | x :: s, p, h => by
  rw [zgN] at h
  split at h
  ·rcases List.mem_cons.1 h with rfl | h
   ·simp
   ·obtain ⟨h1, h2, h3⟩ := zgc h;exact ⟨h1, by simp; omega, fun y hy => List.mem_cons_of_mem _ (h3 y hy)⟩
  ·rename_i hx
   cases hl : zq c s with
   | nil => exact absurd hl (zim c s)
   | cons a t =>
    rw [hl] at h
    rcases List.mem_cons.1 h with rfl | h
    ·obtain ⟨h1, h2, h3⟩ := zgc (c := c) (s := s) (p := a) (by rw [hl]; simp);refine ⟨?_, by simp; omega, ?_⟩
     ·simp only [List.singleton_append, ymc, not_or]; exact ⟨fun e => hx e.symm, h1⟩
     ·intro y hy;simp only [List.singleton_append, ymc] at hy ⊢
      rcases hy with hy | hy
      ·exact .inl hy
      ·exact .inr (h3 y hy)
    ·obtain ⟨h1, h2, h3⟩ := zgc (c := c) (s := s) (p := p) (by rw [hl]; exact List.mem_cons_of_mem _ h);exact ⟨h1, by simp; omega, fun y hy => List.mem_cons_of_mem _ (h3 y hy)⟩
theorem zhp (c : UInt8) : ∀ s : Str, (zq c s).length ≤ s.length + 1
 | [] => by simp [zq]
 | x :: s => by
  have ih := zhp c s;rw [zgN]
  split
  ·simp; omega
  ·cases hl : zq c s with
   | nil => exact absurd hl (zim c s)
   | cons a t => rw [hl] at ih; simp [zfR] at ih ⊢; omega
end Go.Dm
end
section
namespace Go.Dm
def zjY (s : Str) (most : Int) : Bool := (zaO 10 s most).2 == 0 && zjB 10 (zaO 10 s most).1 == s
theorem znU {b : Nat} {s : Str} {most : Int} (h : (zaO b s most).2 = 0) (hm : most < 4611686018427387904) : 0 ≤ (zaO b s most).1 ∧ (zaO b s most).1 ≤ most ∧ inI (zaO b s most).1 = true := by
 unfold zaO at *
 split at h
 ·cases h
 ·rename_i h1
  rw [if_neg h1]
  split at h
  ·cases h
  ·rename_i h2
   rw [if_neg h2];refine ⟨by simp only; omega, by simp only; omega, by rw [zgQ]; simp only; omega⟩
theorem zhC (s : Str) (most : Int) (hs : s.length < 1000000000) (hm : most < 4611686018427387904) (hm0 : -4611686018427387904 < most) : zce s most = some (zjY s most) := by
 unfold zce zjY;rw [zdy s most hs hm hm0, yob]
 by_cases h : (zaO 10 s most).2 = 0
 ·have hi := (znU h hm).2.2;simp [h, zgE _ hi, zbH]
 ·simp [h, zbH]
def ziz (s : Str) : Bool := (zq 46 s).all (fun x => zjY x 255) && decide (((zq 46 s).length : Int) = 4)
theorem zpi {α β : Type} {f : α → Option β} {g : α → β} : ∀ {l : List α}, (∀ x ∈ l, f x = some (g x)) → l.mapM f = some (l.map g)
 | [], _ => rfl
 | x :: l, h => by
  rw [List.mapM_cons, h x (List.mem_cons_self ..), zpi fun y hy => h y (List.mem_cons_of_mem _ hy)]; rfl
theorem zib (s : Str) (hs : s.length < 1000000000) : zdP s = some (ziz s) := by
 unfold zdP ziz;rw [if_pos hs, zpi (g := fun x => zjY x 255) fun x hx => zhC x 255 (by have := (zgc hx).2.1; omega) (by decide) (by decide)];simp only [yob, List.length_map, List.all_map];rfl
def zjs : Str → Bool
 | [] => true
 | c :: s => if c == 37 then (match s with
  | a :: b :: r => zgF a && zgF b && zjs r
  | _ => false) else (zkX c || zsg c) && zjs s
theorem ztq (s : Str) : zjs (37 :: s) = (match s with | a :: b :: r => zgF a && zgF b && zjs r | _ => false) := by
 rw [zjs.eq_def]
 match s with
 | [] => rfl
 | [_] => rfl
 | _ :: _ :: _ => rfl
theorem ztr (c : UInt8) (s : Str) (h : (c == 37) = false) : zjs (c :: s) = ((zkX c || zsg c) && zjs s) := by
 rw [zjs.eq_def]; simp only [h, Bool.false_eq_true, if_false]
def zl7 (s : Str) : Bool := !(s == []) && zjs s
theorem zl8 (s : Str) (hs : s.length < 1000000000) : zeI s = some (zl7 s) := by
 unfold zeI zl7
 rcases zht (s == []) with h0 | h0
 ·rw [h0]; simp
 rw [h0];simp only [Bool.false_eq_true, if_false, ynf, Bool.true_and]
 have key : ∀ (n : Nat) (s : Str), s.length < n → s.length < 1000000000 → zaj n s = some (zjs s) := by
  intro n
  induction n with
  | zero => intro s h; omega
  | succ n ih =>
   intro s h hs;rw [zaj]
   cases s with
   | nil => simp [zjs]
   | cons c s =>
    have h1 : ((c :: s == ([] : Str))) = false := rfl
    have e1 : ze8 (c :: s) 1 = some s := by
     have := zdU (l := c :: s) (i := 1) (by simp);simpa using this
    simp only [ylc] at h hs;simp only [h1, ynf, if_true, zeq, zog, List.getElem?_cons_zero, yob, zi2, zok, zc2, e1, ih s (by omega) (by omega), Bool.false_eq_true, if_false]
    rcases zht (c == 37) with hc | hc
    ·have : c = 37 := by simpa using hc
     subst this
     have hu : zkX 37 = false := by decide
     have hb : zsg 37 = false := by decide
     rw [ztq]
     match s, h, hs with
     | [], _, _ => simp [hu, hb, zL]
     | [a], _, _ => simp [hu, hb, zL]
     | a :: b :: r, h, hs =>
      have h2 : (3 : Int) ≤ ((37 :: a :: b :: r : Str).length : Int) := by simp only [ylc]; omega
      have e3 : ze8 (37 :: a :: b :: r) 3 = some r := by
       have := zdU (l := 37 :: a :: b :: r) (i := 3) (by simp);simpa using this
      have e2 : zjm (37 :: a :: b :: r) 1 3 = some [a, b] := by
       have := zgt (l := 37 :: a :: b :: r) (i := 1) (h := 3) (by decide) (by simp);simpa using this
      simp only [ylc] at h hs;simp only [h2, decide_true, if_true, ybs, e2, yob, zb8 zej [a, b] (by simp), zL, e3, ih r (by omega) (by omega), hu, hb, Bool.false_eq_true, if_false];cases ha : zgF a <;> cases hb : zgF b <;> simp [ha, hb]
    ·rw [ztr c s hc, hc];simp only [Bool.false_eq_true, if_false, zL]
     have : (if (decide ((3 : Int) ≤ ((c :: s).length : Int))) = true then some false else some false) = some false := by split <;> rfl
     rw [this];simp only [yob, Bool.false_eq_true, if_false];cases hp : zkX c <;> cases hq : zsg c <;> simp
 exact key fuel s (zsJ (by omega)) hs
def under (a b : Str) : Bool := zl7 a && zl7 b && !ziz a && !ziz b && (low a == low b || ((46 :: low b) : Str).isSuffixOf (low a))
end Go.Dm
end
section
namespace Go.Dm
def zbr (t : Str) : Str → Option (Str × Str)
 | [] => none
 | x :: s => if t.isPrefixOf (x :: s) then some ([], (x :: s).drop t.length) else (zbr t s).map fun p => (x :: p.1, p.2)
theorem ze5 {t : Str} : ∀ {s a b : Str}, zbr t s = some (a, b) → s = a ++ t ++ b
 | [], _, _, h => by cases h
 | x :: s, a, b, h => by
  rw [zbr] at h
  split at h
  ·rename_i hp
   obtain ⟨r, hr⟩ := List.isPrefixOf_iff_prefix.1 hp;simp only [Option.some.injEq, Prod.mk.injEq] at h;obtain ⟨rfl, rfl⟩ := h;rw [← hr]; simp
  ·cases hc : zbr t s with
   | none => rw [hc] at h; cases h
   | some p =>
    rw [hc] at h;simp only [Option.map_some, Option.some.injEq, Prod.mk.injEq] at h;obtain ⟨rfl, rfl⟩ := h;have := ze5 (a := p.1) (b := p.2) hc;rw [List.cons_append, List.cons_append, ← this]
theorem zjZ {t : Str} (ht : t ≠ []) : ∀ s : Str, Go.Lib.index s t = match zbr t s with | none => -1 | some p => (p.1.length : Int)
 | [] => by
  cases t with
  | nil => exact absurd rfl ht
  | cons y t => rfl
 | x :: s => by
  rw [Go.Lib.index, zbr, zjZ ht s]
  cases t.isPrefixOf (x :: s) with
  | true => rfl
  | false =>
   cases zbr t s with
   | none => rfl
   | some p =>
    simp only [Bool.false_eq_true, if_false, Option.map_some, ylc];have : ((p.1.length : Int) == -1) = false := beq_eq_false_iff_ne.2 (by omega);rw [this];simp
theorem zjw (s t : Str) (hs : s.length < 1000000000) (ht : t ≠ []) : strings_Cut s t = some (match zbr t s with | none => (s, [], false) | some p => (p.1, p.2, true)) := by
 unfold strings_Cut Go.Lib.cut;rw [if_pos (by omega), zjZ ht]
 congr 1
 cases hc : zbr t s with
 | none => rfl
 | some p =>
  have e := ze5 (a := p.1) (b := p.2) hc
  have h0 : (0 : Int) ≤ (p.1.length : Int) := by omega
  simp only [h0, if_true, Int.toNat_natCast]
  have e1 : s.take p.1.length = p.1 := by rw [e, yaa, List.take_left']; rfl
  have e2 : s.drop (p.1.length + t.length) = p.2 := by rw [e, List.drop_left']; simp
  rw [e1, e2]
def grp (x : Str) : Bool := decide (1 ≤ x.length) && decide (x.length ≤ 4) && x.all zgF
def zef (last : Bool) : List Str → Option Nat
 | [] => some 0
 | [x] => if last && ziz x then some 2 else if grp x then some 1 else none
 | x :: y :: l => if grp x then (zef last (y :: l)).map (· + 1) else none
def zn0 (a : Nat) : Option Nat → Int
 | none => -1
 | some k => ((a + k : Nat) : Int)
theorem zlr (rec1 : Int → Int → Option Int) (a i : Nat) (hi : i < 4000000000) : zbg rec1 (i : Int) (a : Int) = rec1 (a : Int) ((i + 1 : Nat) : Int) := by
 unfold zbg; rw [zE (by omega), yob]
theorem zls (rec1 : Int → Int → Option Int) (a i : Nat) (t : Bool) (hi : i < 4000000000) (ha : a < 4000000000) : zaF rec1 (a : Int) (i : Int) t = if t = true then rec1 ((a + 1 : Nat) : Int) ((i + 1 : Nat) : Int) else some (-1) := by
 unfold zaF;rw [zE (by omega), yob, zlr rec1 (a + 1) i hi]
theorem zp0 (rec1 : Int → Int → Option Int) (a i : Nat) (x : Str) (t : Bool) (hi : i < 4000000000) (ha : a < 4000000000) (hx : x.length < 1000000000) :
  zaG rec1 (a : Int) (i : Int) x t = if t = true then rec1 ((a + 2 : Nat) : Int) ((i + 1 : Nat) : Int) else if grp x = true then rec1 ((a + 1 : Nat) : Int) ((i + 1 : Nat) : Int) else some (-1) := by
 unfold zaG grp
 have i2 : zaR (a : Int) 2 = some ((a + 2 : Nat) : Int) := by rw [zez (by omega) (by omega)]; simp
 have e1 : decide ((1 : Int) ≤ (x.length : Int)) = decide (1 ≤ x.length) := decide_eq_decide.2 (by omega);have e2 : decide ((x.length : Int) ≤ 4) = decide (x.length ≤ 4) := decide_eq_decide.2 (by omega);rw [i2, yob, zlr rec1 (a + 2) i hi, zb8 zej x hx, yob, zls rec1 a i _ hi ha, zls rec1 a i _ hi ha, e1, e2];generalize rec1 _ _ = r1;generalize rec1 _ _ = r2;generalize decide (1 ≤ x.length) = d1;generalize decide (x.length ≤ 4) = d2;generalize x.all zgF = d3;cases t <;> cases d1 <;> cases d2 <;> cases d3 <;> rfl
theorem zn1 (last : Bool) (x : Str) : zef last [x] = if last && ziz x then some 2 else if grp x then some 1 else none := rfl
theorem zmw (last : Bool) (x y : Str) (l : List Str) : zef last (x :: y :: l) = if grp x then (zef last (y :: l)).map (· + 1) else none := rfl
theorem ztv (a : Nat) (o : Option Nat) : zn0 a (o.map (· + 1)) = zn0 (a + 1) o := by
 cases o with
 | none => rfl
 | some k => simp only [Option.map_some, zn0]; congr 1; omega
theorem ziB (last : Bool) (l : List Str) (hl : l.length < 1000000000) (hx : ∀ x ∈ l, x.length < 1000000000) : ∀ (n i a : Nat), i ≤ l.length → l.length - i < n → a ≤ 2 * i → zw last l n (a : Int) (i : Int) = some (zn0 a (zef last (l.drop i)))
 | 0, _, _, _, h, _ => by omega
 | n + 1, i, a, hi, h, ha => by
  rw [zw]
  cases hd : l.drop i with
  | nil =>
   have : i = l.length := by have := congrArg List.length hd; simp at this; omega
   subst this;simp [zef, zn0]
  | cons x t =>
   have hlt : i < l.length := by have := congrArg List.length hd; simp at this; omega
   have hxx : l[i]? = some x := by have := congrArg (·[0]?) hd; simpa using this
   have ht : l.drop (i + 1) = t := by rw [← List.drop_drop, hd]; rfl
   have htl : t.length = l.length - (i + 1) := by rw [← ht]; simp
   have hxl := hx x (List.mem_of_getElem? hxx)
   have hsub : zdB (l.length : Int) 1 = some ((l.length - 1 : Nat) : Int) := by rw [zbN (by omega) (by omega)]; congr 1; omega
   have ih1 := ziB last l hl hx n (i + 1) (a + 1) (by omega) (by omega) (by omega);have ih2 := ziB last l hl hx n (i + 1) (a + 2) (by omega) (by omega) (by omega);rw [ht] at ih1 ih2;have j2 := fun t => zp0 (zw last l n) a i x t (by omega) (by omega) hxl;simp only [Int.ofNat_lt, hlt, decide_true, if_true, zbw, hxx, yob, hsub, zib x hxl, j2, ih1, ih2]
   cases t with
   | nil =>
    have hei : ((i : Int) == ((l.length - 1 : Nat) : Int)) = true := by simp at htl; simp; omega
    rw [hei, zn1];have en : ∀ b, zef b [] = some 0 := fun _ => rfl;rw [en];cases last <;> cases ziz x <;> cases grp x <;> rfl
   | cons y t =>
    have hei : ((i : Int) == ((l.length - 1 : Nat) : Int)) = false := by simp at htl; simp; omega
    rw [hei, zmw];have := ztv a (zef last (y :: t));have hn : zn0 a none = -1 := rfl;cases last <;> cases grp x <;> simp only [if_true, Bool.false_eq_true, if_false, this, hn]
def ziC (s : Str) : List Str := if s = [] then [] else zq 58 s
theorem zma (s : Str) (last : Bool) (hs : s.length < 900000000) : zbP s last = some (zn0 0 (zef last (ziC s))) := by
 unfold zbP ziC
 by_cases h0 : s = []
 ·subst h0; rfl
 ·have h1 : (s == []) = false := beq_eq_false_iff_ne.2 h0;rw [h1, if_neg h0];have hl := zhp 58 s;simp only [Bool.false_eq_true, if_false, zlR s 58 (by omega), yob];have := ziB last (zq 58 s) (by omega) (fun x hx => by have := (zgc hx).2.1; omega) fuel 0 0 (by omega) (by unfold fuel; omega) (by omega);simpa using this
theorem zpk (last : Bool) : ∀ (l : List Str) (k : Nat), zef last l = some k → k ≤ l.length + 1
 | [], k, h => by cases h; omega
 | [x], k, h => by
  rw [zn1] at h
  split at h
  ·cases h; simp
  ·split at h
   ·cases h; simp
   ·cases h
 | x :: y :: l, k, h => by
  rw [zmw] at h
  split at h
  ·obtain ⟨j, hj, rfl⟩ := Option.map_eq_some_iff.1 h;have := zpk last (y :: l) j hj;simp only [ylc] at this ⊢;omega
  ·cases h
theorem zlt (s : Str) (last : Bool) (hs : s.length < 900000000) (k : Nat) (h : zef last (ziC s) = some k) : k < 1000000000 := by
 have h1 := zpk last _ k h;have h2 := zhp 58 s;unfold ziC at h1
 split at h1
 ·simp at h1; omega
 ·omega
def zsB (s : Str) : Bool := zef true (zq 58 s) == some 8
def zsC (s : Str) : Bool := match zbr [58, 58] s with
 | none => zsB s
 | some p => match zef false (ziC p.1), zef true (ziC p.2) with
  | some a, some b => decide (a + b ≤ 7)
  | _, _ => false
theorem Six_eq (s : Str) (hs : s.length < 900000000) : zep s = some (zsC s) := by
 unfold zep zsC;rw [zjw s [58, 58] (by omega) (by simp), yob]
 cases hc : zbr [58, 58] s with
 | none =>
  simp only [ynf, if_true, zma s true hs, yob, zsB];unfold ziC
  split
  ·rename_i h; subst h; rfl
  ·cases zef true (zq 58 s) with
   | none => rfl
   | some k =>
    simp only [zn0, Nat.zero_add, Option.some.injEq]
    by_cases h : k = 8
    ·subst h; rfl
    ·have h1 : ((k : Int) == 8) = false := beq_eq_false_iff_ne.2 (by omega);rw [h1]; simp [h]
 | some p =>
  have e := congrArg List.length (ze5 (a := p.1) (b := p.2) hc);simp only [yla] at e;simp only [ynt, Bool.false_eq_true, if_false, zma p.1 false (by omega), zma p.2 true (by omega), yob]
  cases ha : zef false (ziC p.1) with
  | none => simp [zn0, za5]
  | some a =>
   cases hb : zef true (ziC p.2) with
   | none => simp [zn0, za5]
   | some b =>
    have hb' := (zlt p.1 false (by omega) a ha);have hb2 := (zlt p.2 true (by omega) b hb);simp only [zn0, Nat.zero_add]
    have e0 : decide ((0 : Int) ≤ (a : Int)) = true := by simp
    have e1 : decide ((0 : Int) ≤ (b : Int)) = true := by simp
    rw [e0, e1, if_pos rfl, if_pos rfl, zlI (by omega), yob];unfold za5
    congr 1
    exact decide_eq_decide.2 (by omega)
end Go.Dm
end
section
namespace Go.Dm
def zo5 (s : Str) : Str := (s.take (s.length - 1)).drop 1
def zlk (s : Str) : Bool := decide (2 < s.length) && s[0]? == some 91 && s[s.length - 1]? == some 93 && zsC (zo5 s)
def ziL (s : Str) : Int × Str := if zlk s then (3, zo5 s) else if ziz s then (2, s) else if zl7 s then (1, s) else (0, s)
theorem znF (x y : UInt8) : ((some x : Option UInt8) == some y) = (x == y) := Option.some_beq_some ..
theorem ztc (s : Str) : (zo5 s).length ≤ s.length := by unfold zo5; simp; omega
theorem zoz {β : Type} (s : Str) (hs : s.length < 400000000) (f : Str → Option Bool) (hf : ∀ t, t.length < 400000000 → f t = some (zsC t)) (J : Bool → Option β) :
  (if (decide (2 < (s.length : Int))) then ((sAt s 0).bind fun b6 => if (b6 == 91) then ((zdB (s.length : Int) 1).bind fun i8 => (sAt s i8).bind fun b9 => if (b9 == 93) then ((zdB (s.length : Int) 1).bind fun i11 => (zjm s 1 i11).bind fun s12 => (f s12).bind fun r13 => J r13) else J false) else J false) else J false) = J (zlk s) := by
 unfold zlk
 by_cases h : 2 < s.length
 ·have e : decide (2 < (s.length : Int)) = true := ydt (by omega);have e' : decide (2 < s.length) = true := ydt h;have g0 : s[0]? = some s[0] := ygg (by omega);have g1 : s[s.length - 1]? = some s[s.length - 1] := ygg (by omega)
  have i1 : zdB (s.length : Int) 1 = some ((s.length - 1 : Nat) : Int) := by rw [zbN (by omega) (by omega)]; congr 1; omega
  have s1 : zjm s 1 ((s.length - 1 : Nat) : Int) = some (zo5 s) := zgt (i := 1) (by omega) (by omega);have := ztc s;rw [e, e', if_pos rfl, show (0 : Int) = ((0 : Nat) : Int) from rfl, zhK, g0, yob, i1, yob, zhK, g1, yob, yob, s1, yob, hf _ (by omega), yob, znF, znF];cases s[0] == 91 <;> cases s[s.length - 1] == 93 <;> rfl
 ·rw [ydf (show ¬ (2 < (s.length : Int)) by omega), ydf h]; rfl
theorem zjn (s : Str) (hs : s.length < 400000000) : zfc s = some (⟨(ziL s).1, (ziL s).2, -1⟩, !((ziL s).1 == 0)) := by
 unfold zfc;rw [zoz s hs zep (fun t ht => Six_eq t (by omega)) (zbA s)];unfold zbA zcf ziL
 cases hb : zlk s with
 | true =>
  have h : 2 < s.length := by unfold zlk at hb; simp at hb; exact hb.1.1.1
  have i1 : zdB (s.length : Int) 1 = some ((s.length - 1 : Nat) : Int) := by rw [zbN (by omega) (by omega)]; congr 1; omega
  have s1 : zjm s 1 ((s.length - 1 : Nat) : Int) = some (zo5 s) := zgt (i := 1) (by omega) (by omega);rw [if_pos rfl, i1, yob, s1, yob, if_pos rfl]
 | false =>
  rw [if_neg (by decide), zib s (by omega), yob, zl8 s (by omega), yob];cases ziz s <;> cases zl7 s <;> rfl
def zkn (s : Str) (c : UInt8) : Nat → Option Nat
 | 0 => none
 | k + 1 => if s[k]? = some c then some k else zkn s c k
theorem znG {s : Str} {c : UInt8} : ∀ {k i : Nat}, zkn s c k = some i → i < k ∧ s[i]? = some c
 | 0, _, h => by cases h
 | k + 1, i, h => by
  rw [zkn] at h
  split at h
  ·rename_i h2; cases h; exact ⟨by omega, h2⟩
  ·have := znG h; exact ⟨by omega, this.2⟩
theorem zh4 (s : Str) (c : UInt8) (hs : s.length < 1000000000) : zaa s c = some (match zkn s c s.length with | none => -1 | some k => (k : Int)) := by
 unfold zaa zaQ
 have key : ∀ (n k : Nat), k ≤ s.length → k < n → zy s c n ((k : Int) - 1) = some (match zkn s c k with | none => -1 | some j => (j : Int)) := by
  intro n
  induction n with
  | zero => intro k _ h; omega
  | succ n ih =>
   intro k hk h;rw [zy]
   cases k with
   | zero => rw [ydf (by omega)]; rfl
   | succ k =>
    have e1 : ((k + 1 : Nat) : Int) - 1 = (k : Int) := by omega
    have g : s[k]? = some s[k] := ygg (by omega);rw [e1, ydt (show (0 : Int) ≤ (k : Int) by omega), if_pos rfl, zhK, g, yob, zbN (by omega) (by omega), yob, ih k (by omega) (by omega), zkn, g]
    by_cases hc : s[k] = c
    ·have : (s[k] == c) = true := by simp [hc]
     rw [this, if_pos rfl, if_pos (by rw [hc])]
    ·have : (s[k] == c) = false := beq_eq_false_iff_ne.2 hc;rw [this, if_neg (by decide), if_neg (by simpa using hc)]
 rw [zbN (by omega) (by omega), yob, key fuel s.length (Nat.le_refl _) (by unfold fuel; omega), yob]
def zgf (s : Str) : api_Host × Int :=
 if !((ziL s).1 == 0) then (⟨(ziL s).1, (ziL s).2, -1⟩, 0) else match zkn s 58 s.length with
 | none => (⟨0, [], 0⟩, 27)
 | some k => if !((ziL (s.take k)).1 == 0) && zjY (s.drop (k + 1)) 65535 then (⟨(ziL (s.take k)).1, (ziL (s.take k)).2, (zaO 10 (s.drop (k + 1)) 65535).1⟩, 0) else (⟨0, [], 0⟩, 27)
theorem zfl (s : Str) (hs : s.length < 400000000) : zcg s = some (zgf s) := by
 unfold zcg zgf;rw [zjn s hs, yob]
 cases !((ziL s).1 == 0) with
 | true => rfl
 | false =>
  show (if false = true then _ else _) = some (if false = true then _ else _);rw [if_neg (by decide), if_neg (by decide), zh4 s 58 (by omega), yob]
  cases hl : zkn s 58 s.length with
  | none => rfl
  | some k =>
   have hk := (znG hl).1;show (if decide ((k : Int) < 0) = true then _ else _) = _;rw [ydf (show ¬ ((k : Int) < 0) by omega), if_neg (by decide), zeY (by omega), yob, zjn _ (by simp; omega), yob];unfold zcD;rw [zE (by omega), yob, zdU (by omega), yob, yob, zdU (by omega), yob, zhC _ _ (by simp; omega) (by decide) (by decide), yob, zdy _ _ (by simp; omega) (by decide) (by decide), yob];dsimp only;cases (ziL (s.take k)).1 == 0 <;> cases zjY (s.drop (k + 1)) 65535 <;> rfl
end Go.Dm
end
section
namespace Go.Dm
def pqL (more : Str) : Str → Bool
 | [] => true
 | c :: s => if c == 37 then (match s with
  | a :: b :: r => zgF a && zgF b && pqL more r
  | _ => false) else (zpt c || more.contains c) && pqL more s
theorem zwP (more s : Str) : pqL more (37 :: s) = (match s with | a :: b :: r => zgF a && zgF b && pqL more r | _ => false) := by
 rw [pqL.eq_def]
 match s with
 | [] => rfl
 | [_] => rfl
 | _ :: _ :: _ => rfl
theorem zwQ (more : Str) (c : UInt8) (s : Str) (h : (c == 37) = false) : pqL more (c :: s) = ((zpt c || more.contains c) && pqL more s) := by
 rw [pqL.eq_def]; simp only [h, Bool.false_eq_true, if_false]
theorem zwR (l : Str) (c : UInt8) : decide (0 ≤ zgS l c 0) = l.contains c := zsh l c 0
theorem zmx (rec1 : Int → Option Bool) (i : Nat) (hi : i < 4000000000) : zfd rec1 (i : Int) = rec1 ((i + 1 : Nat) : Int) := by
 unfold zfd; rw [zE (by omega), yob]
theorem zra (rec1 : Int → Option Bool) (i : Nat) (t : Bool) (hi : i < 3000000000) : zdj rec1 (i : Int) t = if t = true then rec1 ((i + 3 : Nat) : Int) else some false := by
 unfold zdj
 have i2 : zaR (i : Int) 2 = some ((i + 2 : Nat) : Int) := by rw [zez (by omega) (by omega)]; simp
 rw [i2, yob, zmx rec1 (i + 2) (by omega)]
theorem zmy (s more : Str) (hs : s.length < 1000000000) (hm : more.contains 37 = false) : zh6 s more = some (pqL more s) := by
 unfold zh6
 have key : ∀ (n i : Nat), i ≤ s.length → s.length - i < n → za6 s more n (i : Int) = some (pqL more (s.drop i)) := by
  intro n
  induction n with
  | zero => intro i _ h; omega
  | succ n ih =>
   intro i hi h;rw [za6]
   cases hd : s.drop i with
   | nil =>
    have : i = s.length := by have := congrArg List.length hd; simp at this; omega
    subst this;simp only [Int.lt_irrefl, decide_false, Bool.false_eq_true, if_false, pqL]
   | cons c t =>
    have hlt : i < s.length := by have := congrArg List.length hd; simp at this; omega
    have hx : s[i]? = some c := by have := congrArg (·[0]?) hd; simpa using this
    have ht : s.drop (i + 1) = t := by rw [← List.drop_drop, hd]; rfl
    have htl : t.length = s.length - (i + 1) := by rw [← ht]; simp
    have i2 : zaR (i : Int) 2 = some ((i + 2 : Nat) : Int) := by rw [zez (by omega) (by omega)]; simp
    have i3 : zaR (i : Int) 3 = some ((i + 3 : Nat) : Int) := by rw [zez (by omega) (by omega)]; simp
    have hih := ih (i + 1) (by omega) (by omega);rw [ht] at hih;have j4 := zmx (za6 s more n) i (by omega);have j3 := zra (za6 s more n) i;simp only [Int.ofNat_lt, hlt, decide_true, if_true, zhK, hx, yob, zmO, strings_IndexByte, zwR, zgh, j4, hih]
    rcases zht (c == 37) with hc | hc
    ·have : c = 37 := by simpa using hc
     subst this
     have hp : zpt 37 = false := by decide
     rw [zwP, hp, hm];simp only [Bool.false_eq_true, if_false, ybs, if_true, i2, yob, zE (show i < 4611686018427387904 by omega), i3]
     match t, ht, htl with
     | [], ht, htl =>
      have : ¬ ((i + 2 : Nat) : Int) < (s.length : Int) := by simp at htl; omega
      simp only [this, decide_false, Bool.false_eq_true, if_false, j3 false (by omega)]
     | [a], ht, htl =>
      have : ¬ ((i + 2 : Nat) : Int) < (s.length : Int) := by simp at htl; omega
      simp only [this, decide_false, Bool.false_eq_true, if_false, j3 false (by omega)]
     | a :: b :: r, ht, htl =>
      have hlt2 : ((i + 2 : Nat) : Int) < (s.length : Int) := by simp at htl; omega
      have hr : s.drop (i + 3) = r := by
       have : (s.drop (i + 1)).drop 2 = r := by rw [ht]; rfl
       rwa [List.drop_drop] at this
      have hi3 : i + 3 ≤ s.length := by simp at htl; omega
      have hih := ih (i + 3) hi3 (by omega);rw [hr] at hih
      have hsub : zjm s ((i + 1 : Nat) : Int) ((i + 3 : Nat) : Int) = some [a, b] := by
       rw [zgt (by omega) hi3, List.drop_take, ht]
       have : i + 3 - (i + 1) = 2 := by omega
       rw [this]; rfl
      simp only [hlt2, decide_true, if_true, hsub, yob, zb8 zej [a, b] (by simp), j3 _ (show i < 3000000000 by omega), hih];cases ha : zgF a <;> cases hb : zgF b <;> simp [ha, hb]
    ·rw [zwQ more c t hc, hc];cases zpt c <;> cases hq : more.contains c <;> simp [zdj]
 have := key fuel 0 (yz _) (by unfold fuel; omega);simpa using this
def zp1 (s : Str) : Bool := (([47] : Str).isPrefixOf s) && pqL [47] s
def zmW (s : Str) : Bool := pqL [47, 63] s
theorem zoB (s : Str) (hs : s.length < 1000000000) : zhb s = some (zp1 s) := by
 unfold zhb zp1;rw [zei s [47] hs, yob, zmy s [47] hs (by decide), yob];cases ([47] : Str).isPrefixOf s <;> simp [zeJ]
theorem zn2 (s : Str) (hs : s.length < 1000000000) : zgi s = some (zmW s) := by
 unfold zgi zmW;rw [zmy s [47, 63] hs (by decide), yob]
theorem ztw (c : UInt8) : ∀ s : Str, Go.Lib.index s [c] = if zb0 [c] s = [] then -1 else ((upto [c] s).length : Int) := by
 intro s
 induction s with
 | nil => rfl
 | cons x s ih =>
  by_cases h : x = c
  ·subst h;rw [zkj, zhI (by simp), zjG (by simp)]; simp
  ·rw [zki h, ih]
   have hx : ([c] : Str).contains x = false := by simp [h]
   rw [zhJ hx, zjH hx]
   split
   ·rfl
   ·rename_i h2
    rw [if_neg (by omega)];simp
def zhE (c : UInt8) (s : Str) : Str × Str × Bool := (upto [c] s, (zb0 [c] s).drop 1, !(zb0 [c] s == []))
theorem ziQ (s : Str) (c : UInt8) (hs : s.length < 1000000000) : strings_Cut s [c] = some (zhE c s) := by
 unfold strings_Cut Go.Lib.cut zhE;rw [if_pos (by omega), ztw]
 congr 1
 by_cases h2 : zb0 [c] s = []
 ·rw [if_pos h2, if_neg (by omega)];have e := zey [c] s;rw [h2, yan] at e;rw [h2, e]; rfl
 ·have h3 : (zb0 [c] s == []) = false := beq_eq_false_iff_ne.2 h2;rw [h3, if_neg h2, if_pos (by omega)]
  have e : s.drop ((upto [c] s).length + 1) = (zb0 [c] s).drop 1 := by rw [← List.drop_drop, zpq]
  simp only [Int.toNat_natCast, zpp, List.length_singleton, e, ynf]
theorem zpl (c : UInt8) (s : Str) : (zhE c s).1.length ≤ s.length ∧ (zhE c s).2.1.length ≤ s.length := by
 have e := congrArg List.length (zey [c] s);rw [yla] at e;unfold zhE;simp only [yld];omega
def cutQ (s : Str) : Str × Str × Bool × Int :=
 if zp1 (zhE 63 s).1 && zmW (zhE 63 s).2.1 then ((zhE 63 s).1, (zhE 63 s).2.1, (zhE 63 s).2.2, 0) else ([], [], false, 2)
theorem zlu (s : Str) (hs : s.length < 1000000000) : zh7 s = some (cutQ s) := by
 unfold zh7 cutQ;have := zpl 63 s;rw [ziQ s 63 hs, yob, zoB _ (by omega), yob, zn2 _ (by omega), yob];cases zp1 (zhE 63 s).1 <;> cases zmW (zhE 63 s).2.1 <;> simp [zfr]
end Go.Dm
end
section
namespace Go.Dm
def zeroT : api_Target := ⟨0, [], ⟨0, [], 0⟩, [], [], false⟩
def zoO (t : api_Target) (s : Str) : api_Target × Bool :=
 if s = [] then (t, true) else
  (⟨t.Kind, t.Scheme, t.Host, if s.head? == some 63 then [] else (cutQ s).1, (cutQ (if s.head? == some 63 then 47 :: s else s)).2.1, (cutQ (if s.head? == some 63 then 47 :: s else s)).2.2.1⟩, (cutQ (if s.head? == some 63 then 47 :: s else s)).2.2.2 == 0)
theorem zi6 (t : api_Target) (s : Str) (hs : s.length < 900000000) : zfe t s = some (zoO t s) := by
 unfold zfe zoO
 cases s with
 | nil => rfl
 | cons c r =>
  have h1 : ((c :: r == ([] : Str))) = false := rfl;rw [h1, if_neg (by decide), if_neg (by simp), show (0 : Int) = ((0 : Nat) : Int) from rfl, zhK, List.getElem?_cons_zero, yob, List.head?_cons, Option.some_beq_some];unfold zd8 zd7;simp only [ylc] at hs
  cases hc : c == 63 with
  | true =>
   rw [if_pos rfl, if_pos rfl, zf8 (by simp only [ylc, yln]; omega), yob, show ([47] : Str) ++ c :: r = 47 :: c :: r from rfl, zlu _ (by simp only [ylc]; omega), yob];rfl
  | false =>
   rw [if_neg (by decide), if_neg (by decide), zlu _ (by simp only [ylc]; omega), yob, if_neg (by decide)];rfl
def ztQ : Str := [104, 116, 116, 112]
def zrx : Str := [104, 116, 116, 112, 115]
def absT (s : Str) : api_Target × Bool := match zbr [58, 47, 47] s with
 | none => (⟨2, low s, ⟨0, [], 0⟩, [], [], false⟩, false)
 | some p => if low p.1 == ztQ || low p.1 == zrx then
   (if (zgf (upto [47, 63] p.2)).2 == 0 then zoO ⟨2, low p.1, (zgf (upto [47, 63] p.2)).1, [], [], false⟩ (zb0 [47, 63] p.2) else (⟨2, low p.1, ⟨0, [], 0⟩, [], [], false⟩, false))
  else (⟨2, low p.1, ⟨0, [], 0⟩, [], [], false⟩, false)
theorem zm7 (a b c : Str) (q : Bool) (hb : b.length < 300000000) : zbi (a, b, q) c ((upto [47, 63] b).length : Int) = some (if (zgf (upto [47, 63] b)).2 == 0 then zoO ⟨2, c, (zgf (upto [47, 63] b)).1, [], [], false⟩ (zb0 [47, 63] b) else (⟨2, c, ⟨0, [], 0⟩, [], [], false⟩, false)) := by
 unfold zbi;have hu := zp9 [47, 63] b
 have hf : (zb0 [47, 63] b).length ≤ b.length := by
  have := congrArg List.length (zey [47, 63] b); rw [yla] at this; omega
 dsimp only;rw [zeY hu, yob, zpp, zfl _ (by omega), yob, zdU hu, yob, zpq, zi6 _ _ (by omega), yob];cases (zgf (upto [47, 63] b)).2 == 0 <;> rfl
theorem zkw (s : Str) (hs : s.length < 300000000) : zdE s = some (absT s) := by
 unfold zdE absT;rw [zjw s _ (by omega) (by simp), yob]
 cases hc : zbr [58, 47, 47] s with
 | none =>
  dsimp only;rw [zf5 s (by omega), yob];rfl
 | some p =>
  have e := congrArg List.length (ze5 (a := p.1) (b := p.2) hc);simp only [yla, ylc, yln] at e;have hu := zp9 [47, 63] p.2;dsimp only;rw [zf5 p.1 (by omega), yob]
  have hj : zU (p.1, p.2, true) (low p.1) false = some (if (zgf (upto [47, 63] p.2)).2 == 0 then zoO ⟨2, low p.1, (zgf (upto [47, 63] p.2)).1, [], [], false⟩ (zb0 [47, 63] p.2) else (⟨2, low p.1, ⟨0, [], 0⟩, [], [], false⟩, false)) := by
   unfold zU;rw [if_neg (by decide)];dsimp only;rw [zgL p.2 [47, 63] (by omega) (by decide) (by decide), yob];have hj2 := zm7 p.1 p.2 (low p.1) true (by omega)
   by_cases h0 : zb0 [47, 63] p.2 = []
   ·rw [if_pos h0, ydt (by omega), if_pos rfl];rw [(zqa _ _).1 h0] at hj2;exact hj2
   ·rw [if_neg h0, ydf (by omega), if_neg (by decide)];exact hj2
  have hj0 : zU (p.1, p.2, true) (low p.1) true = some (⟨2, low p.1, ⟨0, [], 0⟩, [], [], false⟩, false) := rfl;rw [hj, hj0, if_neg (by decide)];show (if (!(low p.1 == ztQ)) = true then zU (p.1, p.2, true) (low p.1) (!(low p.1 == zrx)) else _) = _
  cases low p.1 == ztQ with
  | true => rfl
  | false =>
   cases low p.1 == zrx with
   | true => rw [ynf, if_pos rfl, ynt, hj]; rfl
   | false => rw [ynf, if_pos rfl, hj0]; rfl
def ztR : Str := [79, 80, 84, 73, 79, 78, 83]
def zm8 : Str := [67, 79, 78, 78, 69, 67, 84]
def ofT (m s : Str) : api_Target × Bool := if s == [42] then (⟨4, [], ⟨0, [], 0⟩, [], [], false⟩, m == ztR) else if ([47] : Str).isPrefixOf s then zoO ⟨1, [], ⟨0, [], 0⟩, [], [], false⟩ s else absT s
theorem zpw (m s : Str) (hs : s.length < 300000000) : zh8 m s = some (ofT m s) := by
 unfold zh8 ofT;rw [zei s [47] (by omega), yob, zkw s hs, yob, zi6 _ s (by omega), yob];cases s == [42] <;> cases ([47] : Str).isPrefixOf s <;> rfl
def zm9 (m s : Str) : api_Target × Int :=
 if m == zm8 then (if (zgf s).2 == 0 && !decide ((zgf s).1.Port < 0) then (⟨3, [], (zgf s).1, [], [], false⟩, 0) else (zeroT, 20))
 else if (ofT m s).2 then ((ofT m s).1, 0) else (zeroT, 20)
theorem zmE (m s : Str) (hs : s.length < 300000000) : zfs m s = some (zm9 m s) := by
 unfold zfs zm9 zdF;rw [zfl s (by omega), yob, zpw m s hs, yob];show (if (m == zm8) = true then _ else _) = _;cases m == zm8 <;> cases (zgf s).2 == 0 <;> cases decide ((zgf s).1.Port < 0) <;> cases (ofT m s).2 <;> rfl
end Go.Dm
end
section
namespace Go.Dm
theorem ztI (l : List Str) : Go.Lib.join l [] = l.flatten := by
 cases l with
 | nil => rfl
 | cons x r => rw [Go.Lib.join_cons]; simp [Go.Lib.joinTail]
theorem zoi (l : List Str) (h : l.length < 1000000) (h2 : l.flatten.length < 4000000000) : zbo [] l = some l.flatten := by
 unfold zbo strings_Join;rw [ztI, if_pos ⟨by omega, by omega⟩];rfl
theorem zj0 (n : Int) (hn : inI n = true) : (zjB 10 n).length ≤ 71 := by
 unfold zjB
 split
 ·simp
 ·rw [ztD];have := zgQ.1 hn;exact zrm (by decide) _ (by omega)
end Go.Dm
end
section
namespace Go.Dm
def zhj (r : Str) : Int × Bool × Str := match r with
 | [] => (0, false, [])
 | c :: t => if zab c then (((c - 48).toNat : Int), true, t) else (0, false, c :: t)
section
variable {s r : Str} {k : Nat}
theorem zql (hs : s.length < 1000000000) (h : At s k r) : ∃ k', At s k' (zhj r).2.2 ∧ zaI ⟨scn s k⟩ = some ((zhj r).1, (zhj r).2.1, scn s k') := by
 unfold zaI;show ∃ k', _ ∧ (zn (scn s k)).bind _ = _;rw [zlE h, yob]
 cases r with
 | nil => exact ⟨k, h, rfl⟩
 | cons c t =>
  have e : zhj (c :: t) = if zab c then (((c - 48).toNat : Int), true, t) else (0, false, c :: t) := rfl;rw [e];show ∃ k', _ ∧ (zH c).bind (fun r6 => zaH ⟨scn s k⟩ (c, true) (!r6)) = _;rw [zf3, yob];obtain ⟨k', h1, h2⟩ := zd1 hs c h;rw [zbR] at h1
  cases zab c with
  | false => exact ⟨k, h, rfl⟩
  | true =>
   refine ⟨k', h1, ?_⟩;show (zd (scn s k) c).bind (fun r11 => some (((c - 48).toNat : Int), true, r11.2)) = _;rw [h2]; rfl
def ze6 : Str := [72, 84, 84, 80, 47]
def zfj (r : Str) : Int × Int × Bool × Str :=
 if ze6.isPrefixOf r then
  ((zhj (r.drop 5)).1, (zhj (zQ 46 (zhj (r.drop 5)).2.2)).1, (zhj (r.drop 5)).2.1 && zd0 46 (zhj (r.drop 5)).2.2 && (zhj (zQ 46 (zhj (r.drop 5)).2.2)).2.1, (zhj (zQ 46 (zhj (r.drop 5)).2.2)).2.2)
 else (0, 0, false, r)
theorem zna (hs : s.length < 1000000000) (h : At s k r) : ∃ k', At s k' (zfj r).2.2.2 ∧ zai ⟨scn s k⟩ = some ((zfj r).1, (zfj r).2.1, (zfj r).2.2.1, scn s k') := by
 unfold zai;obtain ⟨k1, h1, e1⟩ := zw3 hs ze6 (by decide) h;show ∃ k', _ ∧ (zbG (scn s k) ze6).bind _ = _;rw [e1, yob];unfold zfj
 cases hp : ze6.isPrefixOf r with
 | false =>
  rw [hp, if_neg (by decide)] at h1;exact ⟨k1, h1, rfl⟩
 | true =>
  rw [hp, if_pos rfl] at h1;have h1 : At s k1 (r.drop 5) := h1;obtain ⟨k2, h2, e2⟩ := zql hs h1;obtain ⟨k3, h3, e3⟩ := zd1 hs 46 h2;obtain ⟨k4, h4, e4⟩ := zql hs h3;refine ⟨k4, h4, ?_⟩;dsimp only;rw [ynt, if_neg (by decide), e2, yob];dsimp only;rw [e3, yob];dsimp only;rw [e4, yob, if_pos rfl];dsimp only;cases (zhj (r.drop 5)).2.1 <;> cases zd0 46 (zhj (r.drop 5)).2.2 <;> rfl
def zgv (u : Str) : Int := if (zfj u).2.2.1 && (zfj u).2.2.2 == [] then (if (zfj u).1 == 1 && decide ((zfj u).2.1 ≤ 1) then (zfj u).2.1 else 2) else -1
theorem zsl {r : Str} (h : (zhj r).2.1 = true) : ∃ c t, r = c :: t ∧ zab c = true ∧ zhj r = (((c - 48).toNat : Int), true, t) := by
 cases r with
 | nil => cases h
 | cons c t =>
  unfold zhj at h ⊢;dsimp only at h ⊢
  cases hc : zab c with
  | false => rw [hc] at h; cases h
  | true => exact ⟨c, t, rfl, hc, by simp⟩
theorem zmQ {r : Str} (h : (zfj r).2.2.1 = true) : ∃ a b t, r = ze6 ++ a :: 46 :: b :: t ∧ zab a = true ∧ zab b = true ∧ zfj r = (((a - 48).toNat : Int), ((b - 48).toNat : Int), true, t) := by
 unfold zfj at h ⊢
 cases hp : ze6.isPrefixOf r with
 | false => rw [hp] at h; cases h
 | true =>
  rw [hp, if_pos rfl] at h;rw [if_pos rfl];simp only [Bool.and_eq_true] at h;obtain ⟨⟨h1, h2⟩, h3⟩ := h;obtain ⟨t0, ht0⟩ := List.isPrefixOf_iff_prefix.1 hp
  have hd : r.drop 5 = t0 := by rw [← ht0]; rfl
  rw [hd] at h1 h2 h3 ⊢;obtain ⟨a, t1, rfl, ha, ea⟩ := zsl h1;rw [ea] at h2 h3 ⊢;have hb := zeh h2;dsimp only at h2 h3 hb ⊢;obtain ⟨b, t, e, hbd, eb⟩ := zsl h3;rw [e] at hb;rw [eb];refine ⟨a, b, t, by rw [← ht0, hb], ha, hbd, ?_⟩;simp [h2]
theorem zi7 {c : UInt8} (h : zab c = true) (h1 : (c - 48).toNat ≤ 1) : c = 48 ∨ c = 49 := by
 have := zaP (fun c => !(zab c && decide ((c - 48).toNat ≤ 1)) || (c == 48 || c == 49)) (by decide +kernel) c;rw [h] at this;simpa [h1] using this
theorem znb {u : Str} (h : 0 ≤ zgv u) (h2 : (zgv u == 2) = false) : (u = ze6 ++ [49, 46, 48] ∧ zgv u = 0) ∨ (u = ze6 ++ [49, 46, 49] ∧ zgv u = 1) := by
 unfold zgv at *
 cases hc : (zfj u).2.2.1 && (zfj u).2.2.2 == [] with
 | false => rw [hc] at h; exact absurd (show (0 : Int) ≤ -1 from h) (by decide)
 | true =>
  rw [hc, if_pos rfl] at h h2;rw [if_pos rfl];simp only [Bool.and_eq_true] at hc;obtain ⟨a, b, t, e, ha, hb, ev⟩ := zmQ hc.1;rw [ev] at hc h h2 ⊢
  have ht : t = [] := by simpa using hc.2
  subst ht;dsimp only at h h2 ⊢
  cases hq : (((a - 48).toNat : Int) == 1 && decide (((b - 48).toNat : Int) ≤ 1)) with
  | false => rw [hq] at h2; exact absurd (show ((2 : Int) == 2) = false from h2) (by decide)
  | true =>
   rw [if_pos rfl];simp only [Bool.and_eq_true, beq_iff_eq, decide_eq_true_eq] at hq
   have ha1 : a = 49 := by
    rcases zi7 ha (by omega) with h | h
    ·subst h; exact absurd hq.1 (by decide)
    ·exact h
   subst ha1
   rcases zi7 hb (by omega) with h | h <;> subst h
   ·left; exact ⟨e, by decide⟩
   ·right; exact ⟨e, by decide⟩
theorem zg0 (u : Str) (hu : u.length < 1000000000) : zcr u = some (zgv u == 2) := by
 unfold zcr;rw [zfh, yob];obtain ⟨k', h, e⟩ := zna hu (At.zero u);rw [e, yob];dsimp only;rw [zp7 h];unfold zgv zaE
 have h1 : decide ((zfj u).2.1 ≤ 1) = !decide (1 < (zfj u).2.1) := by
  rw [Bool.eq_iff_iff]; simp
 rw [h1]
 cases hv : (zfj u).2.2.1 with
 | false => rfl
 | true =>
  rw [if_pos rfl, yob, Bool.true_and]
  cases (zfj u).2.2.2 == [] with
  | false => rfl
  | true =>
   rw [if_pos rfl, if_pos rfl];obtain ⟨a, b, t, _, ha, hb, ev⟩ := zmQ hv;rw [ev];dsimp only
   cases ((a - 48).toNat : Int) == 1 with
   | false => rfl
   | true =>
    rw [ynt, if_neg (by decide), Bool.true_and]
    by_cases h2 : (1 : Int) < ((b - 48).toNat : Int)
    ·rw [ydt h2]; rfl
    ·rw [ydf h2, ynf, if_pos rfl];have : (((b - 48).toNat : Int) == 2) = false := beq_eq_false_iff_ne.2 (by omega);rw [this]
def zd4 (r : Str) : Int × Bool × Str := ((zfj r).2.1, (zfj r).2.2.1 && (zfj r).1 == 1 && decide ((zfj r).2.1 ≤ 1), (zfj r).2.2.2)
theorem zqm (hs : s.length < 1000000000) (h : At s k r) : ∃ k', At s k' (zd4 r).2.2 ∧ zaK ⟨scn s k⟩ = some ((zd4 r).1, (zd4 r).2.1, scn s k') := by
 unfold zaK zd4;obtain ⟨k', h1, e⟩ := zna hs h;refine ⟨k', h1, ?_⟩;rw [e, yob];dsimp only;cases (zfj r).2.2.1 <;> cases (zfj r).1 == 1 <;> rfl
theorem zsS (r : Str) : ((zd4 r).2.1 && (zd4 r).2.2 == []) = (decide (0 ≤ zgv r) && !(zgv r == 2)) ∧ ((zd4 r).2.1 = true → (zd4 r).2.2 = [] → (zd4 r).1 = zgv r) := by
 unfold zd4 zgv;dsimp only
 cases hv : (zfj r).2.2.1 with
 | false => exact ⟨rfl, fun h => by cases h⟩
 | true =>
  obtain ⟨a, b, t, _, ha, hb, ev⟩ := zmQ hv;rw [ev];dsimp only;rw [Bool.true_and, Bool.true_and]
  cases hq : (((a - 48).toNat : Int) == 1 && decide (((b - 48).toNat : Int) ≤ 1)) with
  | false =>
   refine ⟨?_, fun h => by cases h⟩;cases t == [] <;> rfl
  | true =>
   simp only [Bool.and_eq_true, decide_eq_true_eq] at hq;refine ⟨?_, fun _ h => ?_⟩
   ·cases t == [] with
    | false => rfl
    | true =>
     rw [if_pos rfl, if_pos rfl];have : (((b - 48).toNat : Int) == 2) = false := beq_eq_false_iff_ne.2 (by omega);rw [this, ydt (by omega)]; rfl
   ·subst h; rfl
end
def zap : api_Head := ⟨0, [], [], 0, [], 0, []⟩
def zqn (s : Str) : Nat := match zkn s 32 s.length with
 | none => 0
 | some k => k + 1
theorem zry (s : Str) (hs : s.length < 300000000) : ∃ r, zaa s 32 = some r ∧ zaR r 1 = some (zqn s : Int) ∧ zqn s ≤ s.length := by
 rw [zh4 s 32 (by omega)];unfold zqn
 cases hl : zkn s 32 s.length with
 | none => exact ⟨-1, rfl, by decide, yz _⟩
 | some k =>
  have := (znG hl).1;exact ⟨k, rfl, zE (by omega), by show k + 1 ≤ s.length; omega⟩
def lastW (s : Str) : Str := s.drop (zqn s)
def zmF (s : Str) : Str := s.takeWhile zbp
def zoP (s : Str) : Str := s.dropWhile zbp
def zpx (s : Str) : Str := (zQ 32 (zoP s)).takeWhile (fun b => !(b == 32))
def ziH (s : Str) : Str := (zQ 32 (zoP s)).dropWhile (fun b => !(b == 32))
def reqF (s : Str) : Bool := !(zmF s == []) && zd0 32 (zoP s) && zd0 32 (ziH s) && ((zd4 (zQ 32 (ziH s))).2.1 && (zd4 (zQ 32 (ziH s))).2.2 == []) && (zm9 (zmF s) (zpx s)).2 == 0
def zpy (s : Str) : api_Head × Int := if zgv (lastW s) == 2 then (zap, 26) else if reqF s then (⟨1, zmF s, zpx s, 0, [], (zd4 (zQ 32 (ziH s))).1, []⟩, 0) else (zap, 20)
theorem zi8 (s : Str) (hs : s.length < 300000000) : zcE s = some (zpy s) := by
 unfold zcE zpy lastW;obtain ⟨r, e0, hi⟩ := zry s hs;rw [e0, yob];generalize zqn s = n at hi;rw [hi.1, yob, zdU hi.2, yob, zg0 _ (by simp; omega), yob]
 cases zgv (s.drop n) == 2 with
 | true => rfl
 | false =>
  rw [if_neg (by decide), if_neg (by decide), zfh, yob]
  have hs' : s.length < 1000000000 := by omega
  obtain ⟨k1, h1, e1⟩ := zrn hs' (At.zero s);obtain ⟨k2, h2, e2⟩ := zd1 hs' 32 h1;obtain ⟨k3, h3, e3⟩ := zif (f := zbU) (p := fun b => !(b == 32)) (fun b => rfl) hs' h2;obtain ⟨k4, h4, e4⟩ := zd1 hs' 32 h3;obtain ⟨k5, h5, e5⟩ := zqm hs' h4;rw [e1, yob];dsimp only;rw [e2, yob];dsimp only;rw [e3, yob];dsimp only;rw [e4, yob];dsimp only;have hl := h2.le_len;have hl2 := ziF (fun b => !(b == 32)) (zQ 32 (s.dropWhile zbp));rw [e5, yob, zmE _ _ (by omega), yob];dsimp only;rw [zp7 h5, yob];unfold zG reqF zpx zmF ziH zoP;cases s.takeWhile zbp == [] <;> cases zd0 32 (s.dropWhile zbp) <;> cases zd0 32 ((zQ 32 (s.dropWhile zbp)).dropWhile (fun b => !(b == 32))) <;> cases (zd4 (zQ 32 ((zQ 32 (s.dropWhile zbp)).dropWhile (fun b => !(b == 32))))).2.1 <;> cases (zd4 (zQ 32 ((zQ 32 (s.dropWhile zbp)).dropWhile (fun b => !(b == 32))))).2.2 == [] <;> cases (zm9 (s.takeWhile zbp) ((zQ 32 (s.dropWhile zbp)).takeWhile (fun b => !(b == 32)))).2 == 0 <;> rfl
theorem zf4 {p : UInt8 → Bool} {s : Str} {x : UInt8} (h : x ∈ s.takeWhile p) : p x = true := by
 induction s with
 | nil => cases h
 | cons c s ih =>
  rw [List.takeWhile_cons] at h
  split at h
  ·rename_i hc
   rcases List.mem_cons.1 h with rfl | h
   ·exact hc
   ·exact ih h
  ·cases h
theorem ztS {x : UInt8} (h : zbp x = true) : x ≠ 32 := by rintro rfl; revert h; decide
theorem znc {s : Str} (h : reqF s = true) : ∃ v, s = zmF s ++ 32 :: (zpx s ++ 32 :: v) ∧ (32 : UInt8) ∉ zmF s ∧ (32 : UInt8) ∉ zpx s ∧ zmF s ≠ [] ∧ (zmF s).all zbp = true ∧ 0 ≤ zgv v ∧ (zgv v == 2) = false ∧ (zd4 (zQ 32 (ziH s))).1 = zgv v ∧ ((zm9 (zmF s) (zpx s)).2 == 0) = true := by
 unfold reqF at h;simp only [Bool.and_eq_true, Bool.not_eq_true', beq_eq_false_iff_ne] at h;obtain ⟨⟨⟨⟨h1, h2⟩, h3⟩, h4, h5⟩, h6⟩ := h;have e1 : zmF s ++ zoP s = s := List.takeWhile_append_dropWhile;have e2 := zeh h2;have e3 : zpx s ++ ziH s = zQ 32 (zoP s) := List.takeWhile_append_dropWhile;have e4 := zeh h3;have hm := zsS (zQ 32 (ziH s))
 have hk : (decide (0 ≤ zgv (zQ 32 (ziH s))) && !(zgv (zQ 32 (ziH s)) == 2)) = true := by rw [← hm.1, h4, Bool.true_and]; exact h5
 simp only [Bool.and_eq_true, decide_eq_true_eq, Bool.not_eq_true'] at hk;refine ⟨zQ 32 (ziH s), ?_, ?_, ?_, h1, ?_, hk.1, hk.2, hm.2 h4 (by simpa using h5), h6⟩
 ·rw [← e4, e3, ← e2, e1]
 ·exact fun hx => ztS (zf4 hx) rfl
 ·exact fun hx => by have := zf4 hx; simp at this
 ·exact List.all_eq_true.2 fun x hx => zf4 hx
def znd (s : Str) : Str := (zQ 32 (zd4 s).2.2).takeWhile zab
def zkZ (s : Str) : Str := (zQ 32 (zd4 s).2.2).dropWhile zab
def staF (s : Str) : Bool := (zd4 s).2.1 && zd0 32 (zd4 s).2.2 && zd0 32 (zkZ s) && ((znd s).length : Int) == 3 && (zaO 10 (znd s) 599).2 == 0 && !decide ((zaO 10 (znd s) 599).1 < 100) && (zQ 32 (zkZ s)).all zgG
def zrz (s : Str) : api_Head × Int := if zgv (zhE 32 s).1 == 2 then (zap, 26) else if staF s then (⟨2, [], [], (zaO 10 (znd s) 599).1, zQ 32 (zkZ s), (zd4 s).1, []⟩, 0) else (zap, 20)
theorem zj4 (s : Str) (hs : s.length < 300000000) : zc4 s = some (zrz s) := by
 unfold zc4 zrz;have hcl := zpl 32 s;rw [ziQ s 32 (by omega), yob, zg0 _ (by omega), yob]
 cases zgv (zhE 32 s).1 == 2 with
 | true => rfl
 | false =>
  rw [if_neg (by decide), if_neg (by decide), zfh, yob]
  have hs' : s.length < 1000000000 := by omega
  obtain ⟨k1, h1, e1⟩ := zqm hs' (At.zero s);obtain ⟨k2, h2, e2⟩ := zd1 hs' 32 h1;obtain ⟨k3, h3, e3⟩ := zif zf3 hs' h2;obtain ⟨k4, h4, e4⟩ := zd1 hs' 32 h3;rw [e1, yob];dsimp only;rw [e2, yob];dsimp only;rw [e3, yob];dsimp only;have hl := h2.le_len;have hl2 := ziF zab (zQ 32 (zd4 s).2.2);have hl4 := h4.le_len;rw [e4, yob, zdy _ _ (by omega) (by decide) (by decide), yob];dsimp only;rw [zmX h4, yob, zb8 zeA _ (by omega), yob];unfold zC staF zkZ znd;dsimp only;rw [zmX h4, yob];cases (zd4 s).2.1 <;> cases zd0 32 (zd4 s).2.2 <;> cases zd0 32 ((zQ 32 (zd4 s).2.2).dropWhile zab) <;> cases (((zQ 32 (zd4 s).2.2).takeWhile zab).length : Int) == 3 <;> cases (zaO 10 ((zQ 32 (zd4 s).2.2).takeWhile zab) 599).2 == 0 <;> cases decide ((zaO 10 ((zQ 32 (zd4 s).2.2).takeWhile zab) 599).1 < 100) <;> cases (zQ 32 ((zQ 32 (zd4 s).2.2).dropWhile zab)).all zgG <;> rfl
def zbS (kind : Int) (s : Str) : api_Head × Int := if !(kind == 1) && !(kind == 2) then (zap, 1) else if s.any ([13, 10] : Str).contains then (zap, 24) else if kind == 1 then zpy s else zrz s
theorem zdk (kind : Int) (s : Str) (hs : s.length < 300000000) : za7 kind s = some (zbS kind s) := by
 unfold za7 zch zbS;rw [zfF s [13, 10] (by omega) (by decide) (by decide), yob, zi8 s hs, yob, zj4 s hs, yob];cases kind == 1 <;> cases kind == 2 <;> cases s.any ([13, 10] : Str).contains <;> rfl

end Go.Dm
end
section
namespace Go.Dm
theorem znn (s : Str) : (zpy s = (zap, 26) ∨ zpy s = (zap, 20)) ∨ reqF s = true ∧ zpy s = (⟨1, zmF s, zpx s, 0, [], (zd4 (zQ 32 (ziH s))).1, []⟩, 0) := by
 unfold zpy
 split
 ·exact .inl (.inl rfl)
 ·cases h : reqF s with
  | true => exact .inr ⟨rfl, rfl⟩
  | false => exact .inl (.inr rfl)
end Go.Dm
end
section
namespace Go.Dm
theorem zwS (c : UInt8) : (!zab c || ((((c - 48).toNat : Int) == 1) == (c == 49))) = true := zaP (fun c => !zab c || ((((c - 48).toNat : Int) == 1) == (c == 49))) (by decide +kernel) c
theorem zvJ (a b : UInt8) (t : Str) (ha : zab a = true) (hb : zab b = true) : zfj (ze6 ++ a :: 46 :: b :: t) = (((a - 48).toNat : Int), ((b - 48).toNat : Int), true, t) := by
 unfold zfj;have hp : ze6.isPrefixOf (ze6 ++ a :: 46 :: b :: t) = true := List.isPrefixOf_iff_prefix.2 ⟨_, rfl⟩;have hd : (ze6 ++ a :: 46 :: b :: t).drop 5 = a :: 46 :: b :: t := rfl;rw [if_pos hp, hd]
 have e1 : zhj (a :: 46 :: b :: t) = (((a - 48).toNat : Int), true, 46 :: b :: t) := by unfold zhj; dsimp only; rw [if_pos ha]
 have e2 : zhj (b :: t) = (((b - 48).toNat : Int), true, t) := by unfold zhj; dsimp only; rw [if_pos hb]
 rw [e1];dsimp only;rw [zbR, zcS, e2];rfl
theorem zkO {p : UInt8 → Bool} {c : UInt8} (hc : p c = false) : ∀ {m : Str} (r : Str), m.all p = true → (m ++ c :: r).takeWhile p = m ∧ (m ++ c :: r).dropWhile p = c :: r
 | [], r, _ => by simp [hc]
 | x :: m, r, h => by
  simp only [List.all_cons, Bool.and_eq_true] at h;have ih := zkO hc r h.2;constructor
  ·rw [List.cons_append, List.takeWhile_cons, if_pos h.1, ih.1]
  ·rw [List.cons_append, List.dropWhile_cons, if_pos h.1, ih.2]
theorem zty (m : Str) : zfi m = true ↔ m ≠ [] ∧ m.all zbp = true := by
 unfold zfi;cases m <;> simp
theorem zrb (b : UInt8) (t : Str) (hb : b = 48 ∨ b = 49) : zd4 (ze6 ++ 49 :: 46 :: b :: t) = (((b - 48).toNat : Int), true, t) := by
 unfold zd4;rw [zvJ 49 b t (by decide) (by rcases hb with h | h <;> subst h <;> decide)]
 rcases hb with h | h <;> subst h <;> rfl
theorem zlv {s : Str} {m : Int} (h : (zaO 10 s m).2 = 0) : s.all zab = true ∧ s ≠ [] := by
 unfold zaO at h
 split at h
 ·cases h
 ·rename_i h2
  simp only [Bool.or_eq_true, Bool.not_eq_true', not_or] at h2
  have h3 : s.all (zmC 10) = true := by simpa using h2.2
  exact ⟨List.all_eq_true.2 fun x hx => (List.all_eq_true.1 h3 x hx : zmC 10 x = true), by simpa using h2.1⟩
theorem zvK {b : UInt8} {w r : Str} (hb : b = 48 ∨ b = 49) (hw : w.all zab = true) : (zd4 (ze6 ++ 49 :: 46 :: b :: 32 :: (w ++ 32 :: r))) = (((b - 48).toNat : Int), true, 32 :: (w ++ 32 :: r)) ∧ znd (ze6 ++ 49 :: 46 :: b :: 32 :: (w ++ 32 :: r)) = w ∧ zkZ (ze6 ++ 49 :: 46 :: b :: 32 :: (w ++ 32 :: r)) = 32 :: r := by
 have h1 := zrb b (32 :: (w ++ 32 :: r)) hb;have h2 := zkO (p := zab) (c := 32) (by decide) r hw;refine ⟨h1, ?_, ?_⟩
 ·unfold znd; rw [h1]; dsimp only; rw [zbR, h2.1]
 ·unfold zkZ; rw [h1]; dsimp only; rw [zbR, h2.2]
theorem zn3 {s : Str} (h : staF s = true) : ∃ b w r, (b = 48 ∨ b = 49) ∧ s = ze6 ++ 49 :: 46 :: b :: 32 :: (w ++ 32 :: r) ∧ w.all zab = true ∧ w.length = 3 := by
 unfold staF at h;simp only [Bool.and_eq_true] at h;obtain ⟨⟨⟨⟨⟨⟨h1, h2⟩, h3⟩, h4⟩, h5⟩, h6⟩, h7⟩ := h;unfold zd4 at h1;simp only [Bool.and_eq_true, decide_eq_true_eq, beq_iff_eq] at h1;obtain ⟨⟨a1, a2⟩, a3⟩ := h1;obtain ⟨a, b, t, e, ha, hb, ev⟩ := zmQ a1;rw [ev] at a2 a3
 have hm : (zd4 s).2.2 = t := by unfold zd4; rw [ev]
 rw [hm] at h2
 have ha1 : a = 49 := by
  have := zwS a;rw [ha] at this
  have : (((a - 48).toNat : Int) == 1) = (a == 49) := by simpa using this
  rw [show (((a - 48).toNat : Int) == 1) = true from by simpa using a2] at this;simpa using this.symm
 have hb1 := zi7 hb (by dsimp only at a3; omega);have e2 := zeh h2;have e4 := zeh h3
 have e5 : znd s ++ zkZ s = zQ 32 t := by
  unfold znd zkZ; rw [hm]; exact List.takeWhile_append_dropWhile
 have hl3 : ((znd s).length : Int) = 3 := by simpa using h4
 refine ⟨b, znd s, zQ 32 (zkZ s), hb1, ?_, (zlv (by simpa using h5)).1, by omega⟩;rw [← e4, e5, ← e2, ← ha1, e]
end Go.Dm
end
section
namespace Go.Dm
def zpX (n : Int) : Str := ze6 ++ 49 :: 46 :: zjB 10 n
def zeR (h : api_Head) : Str := if h.Kind == 2 then zpX h.Minor ++ 32 :: (zjB 10 h.Code ++ 32 :: h.Reason) else h.Method ++ 32 :: (h.Target ++ 32 :: zpX h.Minor)
def zvG (x h : api_Head) : Bool := x.Method == h.Method && x.Target == h.Target && x.Minor == h.Minor && x.Code == h.Code && x.Reason == h.Reason
def zhg (h : api_Head) : Str × Int := if (zbS h.Kind (zeR h)).2 == 1 then ([], 1) else if (zbS h.Kind (zeR h)).2 == 0 && zvG (zbS h.Kind (zeR h)).1 h then (zeR h, 0) else ([], 20)
structure smallH (h : api_Head) : Prop where
 code : inI h.Code = true
 minor : inI h.Minor = true
 method : h.Method.length < 10000000
 target : h.Target.length < 10000000
 reason : h.Reason.length < 10000000
theorem zq8 {n : Int} (hn : inI n = true) : (zpX n).length ≤ 80 := by
 have := zj0 n hn;unfold zpX;simp only [yla, ylc];have : ze6.length = 5 := rfl;omega
theorem zq9 {h : api_Head} (hs : smallH h) : (zeR h).length < 100000000 := by
 have h1 := zq8 hs.minor;have h2 := zj0 h.Code hs.code;have h3 := hs.method;have h4 := hs.target;have h5 := hs.reason;unfold zeR
 split <;> simp only [yla, ylc] <;> omega
theorem join3 (a b c : Str) (hl : (a ++ [32] ++ b ++ [32] ++ c).length < 4000000000) : zbo [32] [a, b, c] = some (a ++ 32 :: (b ++ 32 :: c)) := by
 unfold zbo strings_Join
 have e : Go.Lib.join [a, b, c] [32] = a ++ [32] ++ b ++ [32] ++ c := by
  rw [Go.Lib.join_cons]; simp [Go.Lib.joinTail]
 rw [e, if_pos ⟨by simp, by omega⟩];simp
theorem zhD (h : api_Head) (hs : smallH h) : zde h = some (zhg h) := by
 have hl := zq9 hs;have h1 := zq8 hs.minor;have h2 := zj0 h.Code hs.code;have h2' := zj0 h.Minor hs.minor;have h3 := hs.method;have h4 := hs.target;have h5 := hs.reason
 have j1 : zbL h (zeR h) = some (zhg h) := by
  unfold zbL zaw zcJ;rw [zdk _ _ (by omega), yob];unfold zhg zvG;generalize zeR h = u;generalize zbS h.Kind u = p;obtain ⟨x, e⟩ := p;dsimp only
  cases h1 : e == 1 with
  | true =>
   have : e = 1 := by simpa using h1
   subst this; rfl
  | false =>
   rw [if_neg yfn, if_neg yfn];cases e == 0 <;> cases x.Method == h.Method <;> cases x.Target == h.Target <;> cases x.Minor == h.Minor <;> cases x.Code == h.Code <;> cases x.Reason == h.Reason <;> rfl
 unfold zde;have hv : ([72, 84, 84, 80, 47, 49, 46] : Str) ++ zjB 10 h.Minor = zpX h.Minor := rfl;rw [zgE _ hs.minor, yob, zf8 (by simp; omega), yob, hv, join3 _ _ _ (by simp only [yla, ylc, yln]; omega), yob, zgE _ hs.code, yob, join3 _ _ _ (by simp only [yla, ylc, yln]; omega), yob];unfold zeR at j1
 cases hk : h.Kind == 2 with
 | true => rw [hk, if_pos rfl] at j1; rw [if_pos rfl]; exact j1
 | false => rw [hk, if_neg yfn] at j1; rw [if_neg yfn]; exact j1
theorem zpY : ∀ a, a < 10 → ∀ b, b < 10 → ∀ c, c < 10 → 100 ≤ a * 100 + b * 10 + c → digs 10 (a * 100 + b * 10 + c) = [a, b, c] := by decide +kernel
theorem zpZ (c : UInt8) : (!zab c || (decide ((c - 48).toNat < 10) && dch (c - 48).toNat == c && wor c == (c - 48).toNat)) = true := zaP (fun c => !zab c || (decide ((c - 48).toNat < 10) && dch (c - 48).toNat == c && wor c == (c - 48).toNat)) (by decide +kernel) c
theorem zsc {w : Str} (hl : w.length = 3) (h : (zaO 10 w 599).2 = 0) (h1 : ¬ (zaO 10 w 599).1 < 100) : zjB 10 (zaO 10 w 599).1 = w ∧ inI (zaO 10 w 599).1 = true := by
 have hin := znU h (by decide);refine ⟨?_, hin.2.2⟩;have hd := (zlv h).1
 match w, hl with
 | [x, y, z], _ =>
  simp only [List.all_cons, List.all_nil, Bool.and_true, Bool.and_eq_true] at hd;have fx := zpZ x;have fy := zpZ y;have fz := zpZ z;rw [hd.1] at fx;rw [hd.2.1] at fy;rw [hd.2.2] at fz;simp only [ynt, Bool.false_or, Bool.and_eq_true, decide_eq_true_eq, beq_iff_eq] at fx fy fz
  have hval : (zaO 10 [x, y, z] 599).1 = (((x - 48).toNat * 100 + (y - 48).toNat * 10 + (z - 48).toNat : Nat) : Int) := by
   unfold zaO at h ⊢
   split at h
   ·cases h
   ·rename_i g1
    rw [if_neg g1]
    split at h
    ·cases h
    ·rename_i g2
     rw [if_neg g2]
     have : zgs 10 (vals [x, y, z]) = (x - 48).toNat * 100 + (y - 48).toNat * 10 + (z - 48).toNat := by
      unfold vals zgs;simp only [List.map_cons, List.map_nil, List.foldl_cons, List.foldl_nil, fx.2, fy.2, fz.2];omega
     rw [this]
  rw [hval] at h1 ⊢;unfold zjB;rw [if_neg (by omega), Int.toNat_natCast, zpY _ fx.1.1 _ fy.1.1 _ fz.1.1 (by omega)];unfold zi;simp only [List.map_cons, List.map_nil, fx.1.2, fy.1.2, fz.1.2]
theorem znZ {k : Int} {s : Str} {x : api_Head} (h : zbS k s = (x, 0)) : (k = 1 ∧ zpy s = (x, 0)) ∨ (k = 2 ∧ zrz s = (x, 0)) := by
 unfold zbS at h
 cases h1 : k == 1 with
 | true =>
  have hk : k = 1 := by simpa using h1
  rw [h1, ynt, Bool.false_and, if_neg yfn] at h
  split at h
  ·exact absurd (show (24 : Int) = 0 from congrArg Prod.snd h) (by decide)
  ·rw [if_pos rfl] at h; exact .inl ⟨hk, h⟩
 | false =>
  cases h2 : k == 2 with
  | true =>
   have hk : k = 2 := by simpa using h2
   rw [h1, h2, ynt, Bool.and_false, if_neg yfn] at h
   split at h
   ·exact absurd (show (24 : Int) = 0 from congrArg Prod.snd h) (by decide)
   ·rw [if_neg yfn] at h; exact .inr ⟨hk, h⟩
  | false =>
   rw [h1, h2, ynf, Bool.true_and, if_pos rfl] at h;exact absurd (show (1 : Int) = 0 from congrArg Prod.snd h) (by decide)
structure LineBack (k : Int) (s : Str) (x : api_Head) : Prop where
 kind : x.Kind = k
 raw : zeR x = s
 code : inI x.Code = true
 minor : inI x.Minor = true
 method : x.Method.length ≤ s.length
 target : x.Target.length ≤ s.length
 reason : x.Reason.length ≤ s.length
theorem zsd {v : Str} (h : 0 ≤ zgv v) (h2 : (zgv v == 2) = false) : zpX (zgv v) = v ∧ inI (zgv v) = true := by
 rcases znb h h2 with ⟨e, e2⟩ | ⟨e, e2⟩ <;> rw [e2, e] <;> exact ⟨by decide, by decide⟩
theorem zpj {k : Int} {s : Str} {x : api_Head} (h : zbS k s = (x, 0)) : LineBack k s x := by
 rcases znZ h with ⟨hk, h⟩ | ⟨hk, h⟩
 ·rcases znn s with (h1 | h1) | ⟨h1, h2⟩
  ·rw [h1] at h; exact absurd (show (26 : Int) = 0 from congrArg Prod.snd h) (by decide)
  ·rw [h1] at h; exact absurd (show (20 : Int) = 0 from congrArg Prod.snd h) (by decide)
  ·obtain ⟨v, e, n1, n2, h3, h4, k1, k2, k3, k4⟩ := znc h1;rw [h2] at h;have hx := congrArg Prod.fst h;dsimp only at hx;subst hx;obtain ⟨q1, q2⟩ := zsd k1 k2;have hlen := congrArg List.length e;simp only [yla, ylc] at hlen;rw [k3];refine ⟨hk.symm, ?_, rfl, q2, by dsimp only; omega, by dsimp only; omega, by simp⟩;show zmF s ++ 32 :: (zpx s ++ 32 :: zpX (zgv v)) = s;rw [q1]; exact e.symm
 ·unfold zrz at h
  split at h
  ·exact absurd (show (26 : Int) = 0 from congrArg Prod.snd h) (by decide)
  ·split at h
   ·rename_i h26 hF
    have hF' := hF;obtain ⟨b, w, r, hb, e, hw, hl⟩ := zn3 hF;obtain ⟨m1, m2, m3⟩ := zvK (r := r) hb hw;rw [← e] at m1 m2 m3;unfold staF at hF';rw [m1, m2, m3] at hF';simp only [Bool.and_eq_true, Bool.not_eq_true', decide_eq_false_iff_not] at hF';have hx := congrArg Prod.fst h;dsimp only at hx;subst hx;obtain ⟨q1, q2⟩ := zsc hl (by simpa using hF'.1.1.2) hF'.1.2;have hlen := congrArg List.length e;simp only [yla, ylc] at hlen;rw [m1, m2, m3, zbR]
    have hv : zpX ((b - 48).toNat : Int) = ze6 ++ [49, 46, b] ∧ inI ((b - 48).toNat : Int) = true := by rcases hb with h | h <;> subst h <;> exact ⟨by decide, by decide⟩
    refine ⟨hk.symm, ?_, q2, hv.2, by simp, by simp, by dsimp only; omega⟩;show zpX ((b - 48).toNat : Int) ++ 32 :: (zjB 10 (zaO 10 w 599).1 ++ 32 :: r) = s;rw [hv.1, q1, e]; simp
   ·exact absurd (show (20 : Int) = 0 from congrArg Prod.snd h) (by decide)
theorem zlq (k : Int) (s : Str) : (zbS k s).1.Fields = [] := by
 unfold zbS zpy zrz
 split
 ·rfl
 ·split
  ·rfl
  ·split
   ·split
    ·rfl
    ·split <;> rfl
   ·split
    ·rfl
    ·split <;> rfl
end Go.Dm
end
section
namespace Go.Dm
def zaA (b : UInt8) : Bool := b == 32 || b == 9
def zhv (s : Str) : Str := s.dropWhile zaA
def zg7 (s : Str) : Str := (s.reverse.dropWhile zaA).reverse
def zdp (s : Str) : Str := zhv (zg7 s)
theorem zqY (b : UInt8) : ([32, 9] : Str).contains b = zaA b := by
 simp only [zaA, List.contains_cons, List.contains_nil, Bool.or_false]
theorem zix (s : Str) (c : UInt8) : zg7 (s ++ [c]) = if zaA c then zg7 s else s ++ [c] := by
 unfold zg7;rw [List.reverse_append];simp only [List.reverse_cons, List.reverse_nil, yna, List.singleton_append, List.dropWhile_cons]
 split <;> simp
theorem zvj (s : Str) : (zg7 s).length ≤ s.length := by
 unfold zg7;rw [List.length_reverse];have := (List.dropWhile_suffix (l := s.reverse) zaA).length_le;simpa using this
theorem zvk (s : Str) : (zhv s).length ≤ s.length := (List.dropWhile_suffix zaA).length_le
theorem zpQ (s : Str) : (zdp s).length ≤ s.length := Nat.le_trans (zvk _) (zvj _)
theorem zmq (s : Str) : (s.all zaA = true ∧ zg7 s = []) ∨ ∃ a c b, s = a ++ c :: b ∧ zaA c = false ∧ b.all zaA = true ∧ zg7 s = a ++ [c] := by
 rw [← List.reverse_reverse s];generalize s.reverse = r
 induction r with
 | nil => left; exact ⟨rfl, rfl⟩
 | cons x r ih =>
  rw [List.reverse_cons, zix]
  rcases zht (zaA x) with h | h
  ·rw [h]
   rcases ih with ⟨h1, h2⟩ | ⟨a, c, b, h1, h2, h3, h4⟩
   ·left; refine ⟨?_, by simpa using h2⟩
    rw [List.all_append, h1]; simp [h]
   ·right; refine ⟨a, c, b ++ [x], by rw [h1]; simp, h2, by rw [List.all_append, h3]; simp [h], by simpa using h4⟩
  ·right; exact ⟨r.reverse, x, [], rfl, h, rfl, by simp [h]⟩
theorem ztd {s : Str} (h : s.all zaA = true) : zhv s = [] := by
 unfold zhv
 induction s with
 | nil => rfl
 | cons x s ih =>
  simp only [List.all_cons, Bool.and_eq_true] at h;rw [List.dropWhile_cons, h.1];exact ih h.2
theorem zte {a : Str} {c : UInt8} {b : Str} (hc : zaA c = false) : zhv (a ++ c :: b) = zhv (a ++ [c]) ++ b := by
 unfold zhv
 induction a with
 | nil => simp [List.dropWhile_cons, hc]
 | cons x a ih =>
  simp only [List.cons_append, List.dropWhile_cons]
  split
  ·exact ih
  ·simp
theorem zvl {a : Str} {c : UInt8} (hc : zaA c = false) : ∃ d, zhv (a ++ [c]) = d ++ [c] := by
 unfold zhv
 induction a with
 | nil => exact ⟨[], by simp [List.dropWhile_cons, hc]⟩
 | cons x a ih =>
  simp only [List.cons_append, List.dropWhile_cons]
  split
  ·exact ih
  ·exact ⟨x :: a, rfl⟩
theorem ztf {d : Str} {c : UInt8} {b : Str} (hc : zaA c = false) (hb : b.all zaA = true) : zg7 (d ++ c :: b) = d ++ [c] := by
 rw [← List.reverse_reverse b] at *
 generalize b.reverse = r at *
 induction r with
 | nil => rw [List.reverse_nil, zix, hc]; rfl
 | cons x r ih =>
  rw [List.reverse_cons, List.all_append] at hb;simp only [Bool.and_eq_true, List.all_cons, List.all_nil, Bool.and_true] at hb;rw [List.reverse_cons, ← List.cons_append, ← yaa, zix, hb.2];exact ih hb.1
theorem zo6 (s : Str) : zg7 (zhv s) = zdp s := by
 unfold zdp
 rcases zmq s with ⟨h1, h2⟩ | ⟨a, c, b, h1, h2, h3, h4⟩
 ·rw [h2, ztd h1]; rfl
 ·rw [h4, h1, zte h2];obtain ⟨d, hd⟩ := zvl (a := a) h2;rw [hd, yaa];exact ztf h2 h3
theorem zwA {c : UInt8} (h : zaA c = true) (s : Str) : zdp (c :: s) = zdp s := by
 rw [← zo6, ← zo6];unfold zhv;rw [List.dropWhile_cons, h]; rfl
theorem zvm (s : Str) : Go.Lib.trimS s [32, 9] = zdp s := by
 unfold Go.Lib.trimS Go.Lib.trimLeftS Go.Lib.trimRightS zdp zhv zg7
 have : (fun x => ([32, 9] : List UInt8).contains x) = zaA := by funext b; exact zqY b
 rw [this]
theorem zgz (s : Str) (hs : s.length < 1000000000) : zcA s [32, 9] = some (zdp s) := by
 unfold zcA;rw [if_pos ⟨by omega, by simp, by decide⟩, zvm]
end Go.Dm
end
section
namespace Go.Dm
def zdK : Str → Option (Str × Nat)
 | [] => none
 | c :: r => if c == 34 then some ([], 1) else if c == 92 then (match r with
   | [] => none
   | d :: t => if zgG d then (zdK t).map (fun p => (d :: p.1, p.2 + 2)) else none)
  else if zgG c then (zdK r).map (fun p => (c :: p.1, p.2 + 1)) else none
theorem zpc (r : Str) : zdK (34 :: r) = some ([], 1) := by rw [zdK.eq_def]; rfl
theorem znQ : zdK [92] = none := by rw [zdK.eq_def]; rfl
theorem zpd (d : UInt8) (t : Str) : zdK (92 :: d :: t) = if zgG d then (zdK t).map (fun p => (d :: p.1, p.2 + 2)) else none := by rw [zdK.eq_def]; rfl
theorem zpe {c : UInt8} (r : Str) (h1 : (c == 34) = false) (h2 : (c == 92) = false) : zdK (c :: r) = if zgG c then (zdK r).map (fun p => (c :: p.1, p.2 + 1)) else none := by
 rw [zdK.eq_def]; simp only [h1, h2, Bool.false_eq_true, if_false]
theorem zl5 {P : Str → Prop} (h0 : P []) (h1 : ∀ r, P (34 :: r)) (h2 : P [92]) (h3 : ∀ d t, P t → P (92 :: d :: t)) (h4 : ∀ c r, (c == 34) = false → (c == 92) = false → P r → P (c :: r)) : ∀ (n : Nat) (s : Str), s.length < n → P s
  | 0, s, h => by omega
  | n + 1, [], _ => h0
  | n + 1, c :: r, h => by
    simp only [ylc] at h
    cases h34 : c == 34 with
    | true => have : c = 34 := by simpa using h34
              subst this; exact h1 r
    | false =>
      cases h92 : c == 92 with
      | true =>
        have : c = 92 := by simpa using h92
        subst this
        cases r with
        | nil => exact h2
        | cons d t => simp only [ylc] at h; exact h3 d t (zl5 h0 h1 h2 h3 h4 n t (by omega))
      | false => exact h4 c r h34 h92 (zl5 h0 h1 h2 h3 h4 n r (by omega))
theorem zvx (s : Str) : ∀ p, zdK s = some p → 1 ≤ p.2 ∧ p.2 ≤ s.length ∧ p.1.length + 1 ≤ p.2 := by
 refine zl5 (P := fun s => ∀ p, zdK s = some p → 1 ≤ p.2 ∧ p.2 ≤ s.length ∧ p.1.length + 1 ≤ p.2) ?_ ?_ ?_ ?_ ?_ (s.length + 1) s (by omega)
 ·intro p h; cases h
 ·intro r p h; rw [zpc] at h; cases h; simp
 ·intro p h; rw [znQ] at h; cases h
 ·intro d t ih p h;rw [zpd] at h
  split at h
  ·obtain ⟨q, hq, rfl⟩ := Option.map_eq_some_iff.1 h;have := ih q hq;simp only [ylc]; omega
  ·cases h
 ·intro c r h1 h2 ih p h;rw [zpe r h1 h2] at h
  split at h
  ·obtain ⟨q, hq, rfl⟩ := Option.map_eq_some_iff.1 h;have := ih q hq;simp only [ylc]; omega
  ·cases h
def zfI : Nat → Str → Option Nat
 | 0, _ => some 0
 | _ + 1, [] => none
 | d + 1, c :: r => if c == 40 then (zfI (d + 2) r).map (· + 1) else if c == 41 then (zfI d r).map (· + 1) else if c == 92 then (match r with
   | [] => none
   | _ :: t => (zfI (d + 1) t).map (· + 2)) else (zfI (d + 1) r).map (· + 1)
theorem zpf (s : Str) : zfI 0 s = some 0 := by cases s <;> rfl
theorem zl6 (d : Nat) (r : Str) : zfI (d + 1) (40 :: r) = (zfI (d + 2) r).map (· + 1) := by rw [zfI.eq_def]; rfl
theorem zkK (d : Nat) (r : Str) : zfI (d + 1) (41 :: r) = (zfI d r).map (· + 1) := by rw [zfI.eq_def]; rfl
theorem zpg (d : Nat) : zfI (d + 1) [92] = none := by rw [zfI.eq_def]; rfl
theorem znR (d : Nat) (c : UInt8) (t : Str) : zfI (d + 1) (92 :: c :: t) = (zfI (d + 1) t).map (· + 2) := by rw [zfI.eq_def]; rfl
theorem znS (d : Nat) {c : UInt8} (r : Str) (h1 : (c == 40) = false) (h2 : (c == 41) = false) (h3 : (c == 92) = false) : zfI (d + 1) (c :: r) = (zfI (d + 1) r).map (· + 1) := by
 rw [zfI.eq_def]; simp only [h1, h2, h3, Bool.false_eq_true, if_false]
theorem zq4 {P : Str → Prop} (h0 : P []) (h1 : ∀ r, P r → P (40 :: r)) (h2 : ∀ r, P r → P (41 :: r)) (h3 : P [92]) (h4 : ∀ d t, P t → P (92 :: d :: t)) (h5 : ∀ c r, (c == 40) = false → (c == 41) = false → (c == 92) = false → P r → P (c :: r)) : ∀ (n : Nat) (s : Str), s.length < n → P s
  | 0, s, h => by omega
  | n + 1, [], _ => h0
  | n + 1, c :: r, h => by
    simp only [ylc] at h;have ih := fun t ht => zq4 h0 h1 h2 h3 h4 h5 n t ht
    cases c40 : c == 40 with
    | true => have : c = 40 := by simpa using c40
              subst this; exact h1 r (ih r (by omega))
    | false =>
      cases c41 : c == 41 with
      | true => have : c = 41 := by simpa using c41
                subst this; exact h2 r (ih r (by omega))
      | false =>
        cases c92 : c == 92 with
        | true =>
          have : c = 92 := by simpa using c92
          subst this
          cases r with
          | nil => exact h3
          | cons d t => simp only [ylc] at h; exact h4 d t (ih t (by omega))
        | false => exact h5 c r c40 c41 c92 (ih r (by omega))
theorem zwI (s : Str) : ∀ d n, zfI d s = some n → n ≤ s.length := by
 refine zq4 (P := fun s => ∀ d n, zfI d s = some n → n ≤ s.length) ?_ ?_ ?_ ?_ ?_ ?_ (s.length + 1) s (by omega)
 ·intro d n h; cases d with
  | zero => cases h; simp
  | succ d => cases h
 ·intro r ih d n h; cases d with
  | zero => cases h; simp
  | succ d => rw [zl6] at h; obtain ⟨m, hm, rfl⟩ := Option.map_eq_some_iff.1 h; have := ih _ _ hm; simp only [ylc]; omega
 ·intro r ih d n h; cases d with
  | zero => cases h; simp
  | succ d => rw [zkK] at h; obtain ⟨m, hm, rfl⟩ := Option.map_eq_some_iff.1 h; have := ih _ _ hm; simp only [ylc]; omega
 ·intro d n h; cases d with
  | zero => cases h; simp
  | succ d => rw [zpg] at h; cases h
 ·intro c t ih d n h; cases d with
  | zero => cases h; simp
  | succ d => rw [znR] at h; obtain ⟨m, hm, rfl⟩ := Option.map_eq_some_iff.1 h; have := ih _ _ hm; simp only [ylc]; omega
 ·intro c r h1 h2 h3 ih d n h; cases d with
  | zero => cases h; simp
  | succ d => rw [znS d r h1 h2 h3] at h; obtain ⟨m, hm, rfl⟩ := Option.map_eq_some_iff.1 h; have := ih _ _ hm; simp only [ylc]; omega
def zgK (c : UInt8) (r : Str) : Nat := if c == 34 then (match zdK r with | some p => p.2 + 1 | none => 0) else (match zfI 1 r with | some n => n + 1 | none => 0)
theorem zvy (c : UInt8) (r : Str) : zgK c r ≤ r.length + 1 := by
 unfold zgK
 split
 ·cases h : zdK r with
  | none => simp
  | some p => have := zvx r p h; dsimp only; omega
 ·cases h : zfI 1 r with
  | none => simp
  | some n => have := zwI r 1 n h; dsimp only; omega
def zgU : Nat → Str → Str → Option (List Str)
 | _, cur, [] => some [cur]
 | k + 1, cur, c :: r => zgU k (cur ++ [c]) r
 | 0, cur, c :: r => if c == 34 || c == 40 then (if zgK c r = 0 then none else zgU (zgK c r - 1) (cur ++ [c]) r) else if c == 44 then (zgU 0 [] r).map (cur :: ·) else zgU 0 (cur ++ [c]) r
theorem zq5 (k : Nat) (cur : Str) : zgU k cur [] = some [cur] := by cases k <;> rfl
theorem zto (k : Nat) (cur : Str) (c : UInt8) (r : Str) : zgU (k + 1) cur (c :: r) = zgU k (cur ++ [c]) r := rfl
theorem zsx (cur : Str) {c : UInt8} (r : Str) (h : (c == 34 || c == 40) = true) : zgU 0 cur (c :: r) = if zgK c r = 0 then none else zgU (zgK c r - 1) (cur ++ [c]) r := by
 rw [zgU, if_pos h]
theorem znT (cur r : Str) : zgU 0 cur (44 :: r) = (zgU 0 [] r).map (cur :: ·) := by rw [zgU]; rfl
theorem zq6 (cur : Str) {c : UInt8} (r : Str) (h : (c == 34 || c == 40) = false) (h2 : (c == 44) = false) : zgU 0 cur (c :: r) = zgU 0 (cur ++ [c]) r := by
 rw [zgU, if_neg (by rw [h]; decide), if_neg (by rw [h2]; decide)]
theorem zph : ∀ (k : Nat) (cur s : Str), k ≤ s.length → zgU k cur s = zgU 0 (cur ++ s.take k) (s.drop k)
 | 0, cur, s, _ => by simp
 | k + 1, cur, [], h => by simp at h
 | k + 1, cur, c :: r, h => by
  rw [zto, zph k _ r (by simpa using h)];simp
theorem zpV {a b : Str} (hb : b.all zaA = true) : zdp (a ++ b) = zdp a := by
 have : zg7 (a ++ b) = zg7 a := by
  rw [← List.reverse_reverse b] at *
  generalize b.reverse = r at *
  induction r with
  | nil => simp
  | cons x r ih =>
   rw [List.reverse_cons, List.all_append] at hb;simp only [Bool.and_eq_true, List.all_cons, List.all_nil, Bool.and_true] at hb;rw [List.reverse_cons, ← yaa, zix, hb.2, if_pos rfl];exact ih hb.1
 unfold zdp; rw [this]
def elems (l : List Str) : List Str := (l.map zdp).filter (fun x => !(x == []))
def zhf (s : Str) : Option (List Str) := (zgU 0 [] s).map elems
theorem ztp (a b : List Str) : elems (a ++ b) = elems a ++ elems b := by simp [elems]
end Go.Dm
end
section
namespace Go.Dm
section
variable {s r : Str} {k : Nat}
theorem ziD (s : Str) (k : Nat) : (⟨s, (k : Int)⟩ : scan_Scanner) = scn s k := rfl
theorem zri (b : UInt8) (r : Str) : (zQ b r).length ≤ r.length := by unfold zQ; split <;> simp
def zmz (r : Str) : Option (UInt8 × Str) := match zQ 92 r with
 | [] => none
 | c :: t => if zgG c then some (c, t) else none
theorem ztz {c : UInt8} {t : Str} (h : zmz r = some (c, t)) : t.length < r.length := by
 unfold zmz at h;have := zri 92 r
 cases hb : zQ 92 r with
 | nil => rw [hb] at h; cases h
 | cons d u =>
  rw [hb] at h this;simp only at h
  split at h
  ·cases h; simp only [ylc] at this; omega
  ·cases h
theorem zwZ (hs : s.length < 1000000000) (out : Str) (ho : out.length < 1000000000) (h : At s k r) :
  (∀ c t, zmz r = some (c, t) → ∃ k', At s k' t ∧ k ≤ k' ∧ zbj ⟨scn s k, out⟩ = some (true, ⟨scn s k', out ++ [c]⟩)) ∧
  (zmz r = none → ∃ k', k' ≤ s.length ∧ k ≤ k' ∧ zbj ⟨scn s k, out⟩ = some (false, ⟨scn s k', out⟩)) := by
 unfold zbj zmz;obtain ⟨k1, h1, e1⟩ := zd1 hs 92 h
 have hk : k ≤ k1 := by have := h.len; have := h1.len; have := zri 92 r; omega
 show (∀ c t, _ → ∃ k', _ ∧ _ ∧ (zd (scn s k) 92).bind _ = _) ∧ (_ → ∃ k', _ ∧ _ ∧ (zd (scn s k) 92).bind _ = _);rw [e1];simp only [yob];rw [zlE h1]
 cases hb : zQ 92 r with
 | nil =>
  rw [hb] at h1;refine ⟨fun c t h => (by cases h), fun _ => ⟨k1, h1.le, hk, rfl⟩⟩
 | cons d u =>
  rw [hb] at h1;simp only [zsG, yob, ynt, Bool.false_eq_true, if_false, zeA];unfold zbc;obtain ⟨k2, h2, e2⟩ := zd1 hs d h1
  rw [zbR, zcS] at *
  cases hv : zgG d with
  | false => exact ⟨fun c t h => by simp at h, fun _ => ⟨k1, h1.le, hk, by simp⟩⟩
  | true =>
   refine ⟨fun c t h => ?_, fun h => by simp at h⟩;simp at h;obtain ⟨rfl, rfl⟩ := h;refine ⟨k2, h2, by have := h1.len; have := h2.len; simp only [ylc] at *; omega, ?_⟩;rw [if_neg (by decide), if_pos (zb4 (n := out.length) (m := 1) (by omega) (by omega)), e2];simp
theorem zse (r : Str) : zdK r = if zd0 34 r then some ([], 1) else match zmz r with
    | none => none
    | some (c, t) => (zdK t).map (fun p => (c :: p.1, p.2 + (r.length - t.length))) := by
  cases r with
  | nil => rfl
  | cons c r =>
    rw [zcS]
    cases h34 : c == 34 with
    | true => have : c = 34 := by simpa using h34
              subst this; rw [zpc]; rfl
    | false =>
      rw [if_neg (by decide)];unfold zmz
      cases h92 : c == 92 with
      | true =>
        have : c = 92 := by simpa using h92
        subst this;rw [zbR]
        cases r with
        | nil => exact znQ
        | cons d t =>
          rw [zpd];dsimp only
          cases zgG d with
          | false => rfl
          | true =>
            rw [if_pos rfl, if_pos rfl];dsimp only
            congr 1
            funext p
            congr 2
            simp only [ylc]; omega
      | false =>
        rw [zkU (by rw [zcS]; exact h92), zpe r h34 h92];dsimp only
        cases zgG c with
        | false => rfl
        | true =>
          rw [if_pos rfl, if_pos rfl];dsimp only
          congr 1
          funext p
          congr 2
          simp only [ylc]; omega
theorem zp4 {s : Str} {k k0 : Nat} (h : k0 ≤ k) : zcG (scn s k) (k0 : Int) = some (true, scn s k0) := by
 unfold zcG;rw [ydf (show ¬ ((k0 : Int) < 0) by omega), if_neg (by decide), ziE, yob];unfold zbB;rw [ydf (show ¬ ((k : Int) < (k0 : Int)) by omega), if_neg (by decide)];rfl
theorem ziR (k0 n : Nat) (hk : k0 ≤ k) (out : Str) : zaB (k0 : Int) (n + 1) s (k : Int) out false = some ([], false, scn s k0) := by
 rw [zaB, if_neg (by decide)];unfold zc6 zd9;rw [if_neg (by decide), ynf, if_pos rfl, ziD, zp4 hk, yob]
theorem zlB (hs : s.length < 1000000000) (k0 : Nat) : ∀ (n : Nat) (r : Str) (k : Nat) (out : Str), r.length + 1 < n → At s k r → k0 ≤ k → out.length ≤ k →
  zaB (k0 : Int) n s (k : Int) out true = some (match zdK r with | some p => (out ++ p.1, true, scn s (k + p.2)) | none => ([], false, scn s k0))
 | 0, _, _, _, h, _, _, _ => by omega
 | n + 1, r, k, out, hn, h, hk, ho => by
  rw [zaB, if_pos rfl, ziD];obtain ⟨k1, h1, e1⟩ := zd1 hs 34 h;have hkl := h.le;rw [e1, yob];unfold zc6;rw [zse]
  cases hb : zd0 34 r with
  | true =>
   rw [ynt, if_neg (by decide), if_pos rfl];have hr := zeh hb
   have hk1 : k1 = k + 1 := by
    have := h.len; have := h1.len;have := congrArg List.length hr;simp only [ylc] at this; omega
   subst hk1;unfold zd9;rw [ynt, if_neg (by decide)];simp [scn]
  | false =>
   rw [zkU hb] at h1
   have hk1 : k1 = k := by have := h.len; have := h1.len; omega
   subst hk1;rw [ynf, if_pos rfl, if_neg (by decide)];dsimp only [scn];rw [ziD];have hx := zwZ hs out (by omega) h
   cases hq : zmz r with
   | none =>
    obtain ⟨k2, g1, g2, e2⟩ := hx.2 hq;rw [e2, yob];obtain ⟨m, rfl⟩ : ∃ m, n = m + 1 := ⟨n - 1, by omega⟩;exact ziR k0 m (by omega) out
   | some ct =>
    obtain ⟨c, t⟩ := ct;obtain ⟨k2, g1, g2, e2⟩ := hx.1 c t hq;have hl := ztz hq;have l1 := h.len;have l2 := g1.len;rw [e2, yob];have ih := zlB hs k0 n t k2 (out ++ [c]) (by omega) g1 (by omega) (by simp; omega);dsimp only [scn];rw [ih]
    cases zdK t with
    | none => rfl
    | some p =>
     simp only [Option.map_some, yaa, List.singleton_append]
     have : k2 + p.2 = k1 + (p.2 + (r.length - t.length)) := by omega
     exact congrArg (fun k => some (out ++ c :: p.1, true, scn s k)) this
def zsF (r : Str) : Option (Str × Nat) := if zd0 34 r then (zdK (zQ 34 r)).map (fun p => (p.1, p.2 + 1)) else none
theorem zjA (hs : s.length < 1000000000) (h : At s k r) : zgj (scn s k) = some (match zsF r with | some p => (p.1, true, scn s (k + p.2)) | none => ([], false, scn s k)) := by
 unfold zgj zsF;rw [ziE, yob];obtain ⟨k1, h1, e1⟩ := zd1 hs 34 h;rw [e1, yob];have l0 := h.len;have l1 := h1.len
 cases hb : zd0 34 r with
 | false =>
  rw [zkU hb] at h1
  have hk1 : k1 = k := by have := h1.len; omega
  subst hk1;exact ziR k1 999999999999999999 (Nat.le_refl _) []
 | true =>
  have hr := congrArg List.length (zeh hb);simp only [ylc] at hr
  have hk1 : k1 = k + 1 := by omega
  subst hk1;have := zlB hs k fuel (zQ 34 r) (k + 1) [] (by unfold fuel; omega) h1 (by omega) (by simp);dsimp only [scn] at this ⊢;rw [this, if_pos rfl]
  cases zdK (zQ 34 r) with
  | none => rfl
  | some p => simp only [Option.map_some, yna]; rw [show k + 1 + p.2 = k + (p.2 + 1) by omega]
theorem zcR (hs : s.length < 1000000000) (p : commas_splitter) : ∀ (n : Nat) (r : Str) (k d : Nat), r.length + 1 < n → At s k r → d ≤ k + 1 →
  ∃ k', (∀ m, zfI d r = some m → k' = k + m) ∧ k' ≤ s.length ∧ zf p n s (k : Int) (d : Int) = some ((zfI d r).isSome, ⟨scn s k', p.f_out, p.f_from, p.f_s⟩)
 | 0, _, _, _, h, _, _ => by omega
 | n + 1, r, k, 0, hn, h, hd => by
  refine ⟨k, fun m hm => (by rw [zpf] at hm; cases hm; rfl), h.le, ?_⟩;rw [zf, zpf];rfl
 | n + 1, r, k, d + 1, hn, h, hd => by
  have hl := h.len;rw [zf, ydt (show (0 : Int) < ((d + 1 : Nat) : Int) by omega), if_pos rfl, ziD, zlE h, yob]
  cases r with
  | nil => exact ⟨k, fun m hm => (by cases hm), h.le, rfl⟩
  | cons c t =>
   simp only [ylc] at hn hl;obtain ⟨k1, h1, e1⟩ := zd1 hs c h;rw [zbR] at h1
   have hk1 : k1 = k + 1 := by have := h1.len; omega
   subst hk1;have i1 : zaR ((d + 1 : Nat) : Int) 1 = some ((d + 2 : Nat) : Int) := zE (by omega)
   have i2 : zdB ((d + 1 : Nat) : Int) 1 = some (d : Int) := by rw [zbN (by omega) (by omega)]; simp
   rw [show (zsG (c :: t)) = (c, true) from rfl];dsimp only;rw [ynt, if_neg (by decide), e1, yob, i1, yob, i2, yob];dsimp only [scn];rw [ziD, zlE h1, yob]
   cases c40 : c == 40 with
   | true =>
    have : c = 40 := by simpa using c40
    subst this;obtain ⟨k', g1, g2, g3⟩ := zcR hs p n t (k + 1) (d + 2) (by omega) h1 (by omega);refine ⟨k', fun m hm => ?_, g2, ?_⟩
    ·rw [zl6] at hm; obtain ⟨m', hm', rfl⟩ := Option.map_eq_some_iff.1 hm; rw [g1 m' hm']; omega
    ·rw [if_pos rfl, g3, zl6]; simp [scn]
   | false =>
    rw [if_neg (by decide)]
    cases c41 : c == 41 with
    | true =>
     have : c = 41 := by simpa using c41
     subst this;obtain ⟨k', g1, g2, g3⟩ := zcR hs p n t (k + 1) d (by omega) h1 (by omega);refine ⟨k', fun m hm => ?_, g2, ?_⟩
     ·rw [zkK] at hm; obtain ⟨m', hm', rfl⟩ := Option.map_eq_some_iff.1 hm; rw [g1 m' hm']; omega
     ·rw [if_pos rfl, g3, zkK]; simp [scn]
    | false =>
     rw [if_neg (by decide)]
     cases c92 : c == 92 with
     | true =>
      have : c = 92 := by simpa using c92
      subst this;rw [if_pos rfl]
      cases t with
      | nil =>
       obtain ⟨k', g1, g2, g3⟩ := zcR hs p n [] (k + 1) (d + 1) (by simp; omega) h1 (by omega);exact ⟨k', fun m hm => (by rw [zpg] at hm; cases hm), g2, by rw [if_neg (by decide), g3]; rfl⟩
      | cons x u =>
       simp only [ylc] at hn hl;obtain ⟨k2, h2, e2⟩ := zd1 hs x h1;rw [zbR] at h2
       have hk2 : k2 = k + 2 := by have := h2.len; omega
       subst hk2;obtain ⟨k', g1, g2, g3⟩ := zcR hs p n u (k + 2) (d + 1) (by omega) h2 (by omega);dsimp only [scn] at e2 g3 ⊢;refine ⟨k', fun m hm => ?_, g2, ?_⟩
       ·rw [znR] at hm; obtain ⟨m', hm', rfl⟩ := Option.map_eq_some_iff.1 hm; rw [g1 m' hm']; omega
       ·rw [show (zsG (x :: u)) = (x, true) from rfl];dsimp only;rw [if_pos rfl, e2, yob, g3, znR]; simp
     | false =>
      obtain ⟨k', g1, g2, g3⟩ := zcR hs p n t (k + 1) (d + 1) (by omega) h1 (by omega);refine ⟨k', fun m hm => ?_, g2, ?_⟩
      ·rw [znS d t c40 c41 c92] at hm; obtain ⟨m', hm', rfl⟩ := Option.map_eq_some_iff.1 hm; rw [g1 m' hm']; omega
      ·rw [if_neg (by decide), g3, znS d t c40 c41 c92]; simp [scn]
def mid (s : Str) (a b : Nat) : Str := (s.take b).drop a
theorem zrj {a n : Nat} (h : At s k r) (ha : a ≤ k) (hn : n ≤ r.length) : mid s a (k + n) = mid s a k ++ r.take n := by
 unfold mid;have hl := h.len;rw [List.take_add, h.drop, List.drop_append_of_le_length (by simp; omega)]
theorem zrk (s : Str) (a : Nat) : mid s a a = [] := by unfold mid; simp
theorem zw0 (s : Str) (a b : Nat) : (mid s a b).length ≤ s.length := by unfold mid; simp; omega
def zmA (out : List Str) (x : Str) : List Str := if zdp x == [] then out else out ++ [zdp x]
theorem zrl (out : List Str) (x : Str) : zmA out x = out ++ elems [x] := by
 unfold zmA elems;rw [List.map_cons, List.map_nil, List.filter_cons]
 cases h : zdp x == [] with
 | true => rw [if_pos rfl, ynt, if_neg (by decide), List.filter_nil, yan]
 | false => rw [if_neg (by decide), ynf, if_pos rfl, List.filter_nil]
theorem ztA (out : List Str) (x : Str) : (zmA out x).length ≤ out.length + 1 := by unfold zmA; split <;> simp
theorem zvM (hs : s.length < 1000000000) (out : List Str) (ho : out.length < 4000000000) (a b pos : Nat) (ha : a ≤ b) (hb : b ≤ s.length) : za1 ⟨scn s pos, out, (a : Int), s⟩ (b : Int) = some ⟨scn s pos, zmA out (mid s a b), (pos : Int), s⟩ := by
 unfold za1;have hl := zw0 s a b;rw [zgt ha hb, yob];show (zcA (mid s a b) [32, 9]).bind _ = _;rw [zgz _ (by omega), yob];unfold zaT zmA;show (if (!(zdp (mid s a b) == [])) = true then _ else _) = _
 cases zdp (mid s a b) == [] with
 | true => rfl
 | false => rw [ynf, if_pos rfl, if_pos (zb4 (n := out.length) (m := 1) (by omega) (by omega))]; rfl
theorem zmB (t : Str) : zgK 34 t = match zdK t with | some p => p.2 + 1 | none => 0 := rfl
theorem zn7 (t : Str) : zgK 40 t = match zfI 1 t with | some n => n + 1 | none => 0 := rfl
theorem zw1 (hs : s.length < 1000000000) (out : List Str) (ho : out.length ≤ k) (a : Nat) (ha : a ≤ k) (c : UInt8) (t : Str) (h : At s k (c :: t)) :
    (c = 44 → zS ⟨scn s k, out, (a : Int), s⟩ = some (true, ⟨scn s (k + 1), zmA out (mid s a k), ((k + 1 : Nat) : Int), s⟩)) ∧
    ((c == 34 || c == 40) = true → zgK c t ≠ 0 → zS ⟨scn s k, out, (a : Int), s⟩ = some (true, ⟨scn s (k + zgK c t), out, (a : Int), s⟩)) ∧
    ((c == 34 || c == 40) = true → zgK c t = 0 → ∃ p, zS ⟨scn s k, out, (a : Int), s⟩ = some (false, p)) ∧
    ((c == 34 || c == 40) = false → (c == 44) = false → zS ⟨scn s k, out, (a : Int), s⟩ = some (true, ⟨scn s (k + 1), out, (a : Int), s⟩)) := by
  have hl := h.len;simp only [ylc] at hl;have e44 := zfE 44 h.le hs h.drop;have e40 := zfE 40 h.le hs h.drop;have ec := zfE c h.le hs h.drop;rw [ybs, if_pos rfl] at ec;unfold zS;rw [show (⟨scn s k, out, (a : Int), s⟩ : commas_splitter).Scanner = scn s k from rfl, ziE, yob]
  have hno : (c == 34 || c == 40) = true → (c == 44) = false := fun hc => by
    cases h4 : c == 44 with
    | false => rfl
    | true => have : c = 44 := by simpa using h4
              subst this; exact absurd hc (by decide)
  have n44 : (c == 44) = false → zd (scn s k) 44 = some (false, scn s k) := fun h => by rw [e44, h]; rfl
  have n40 : (c == 40) = false → zd (scn s k) 40 = some (false, scn s k) := fun h => by rw [e40, h]; rfl
  have y40 : c = 40 → zd (scn s k) 40 = some (true, scn s (k + 1)) := fun h => by rw [e40, h]; rfl
  have pk : zn (scn s k) = some (c, true) := zlE h;refine ⟨fun hc => ?_, fun hc hp => ?_, fun hc hp => ?_, fun hc h44 => ?_⟩
  · subst hc
    have y44 : zd (scn s k) 44 = some (true, scn s (k + 1)) := e44;rw [y44, yob];dsimp only;rw [if_pos rfl, zvM hs out (by omega) a k (k + 1) ha h.le, yob];rfl
  · rw [n44 (hno hc), yob]
    dsimp only;rw [if_neg (by decide)]
    cases h40 : c == 40 with
    | true =>
      have : c = 40 := by simpa using h40
      subst this;have h1 := h.next 1 (by simp);obtain ⟨k', g1, _, g3⟩ := zcR hs ⟨scn s (k + 1), out, (a : Int), s⟩ fuel t (k + 1) 1 (by unfold fuel; omega) h1 (by omega);rw [zn7] at hp ⊢;rw [y40 rfl, yob];dsimp only;rw [if_pos rfl];unfold zaL
      cases hm : zfI 1 t with
      | none => rw [hm] at hp; exact absurd rfl hp
      | some m =>
        rw [hm] at g3;have hk' := g1 m hm;subst hk';have g3 : zf ⟨scn s (k + 1), out, (a : Int), s⟩ fuel (scn s (k + 1)).f_s (scn s (k + 1)).f_at 1 = some (true, ⟨scn s (k + 1 + m), out, (a : Int), s⟩) := g3;dsimp only;rw [g3, yob, show k + 1 + m = k + (m + 1) by omega]
    | false =>
      have h34 : c = 34 := by rw [h40, Bool.or_false] at hc; simpa using hc
      subst h34;rw [zmB] at hp ⊢;rw [n40 h40, yob];dsimp only;rw [if_neg (by decide), pk, yob];dsimp only;rw [if_pos (by decide), zjA hs h, yob];unfold zsF;rw [zcS, zbR]
      cases hq : zdK t with
      | none => rw [hq] at hp; exact absurd rfl hp
      | some p => rfl
  · rw [n44 (hno hc), yob]
    dsimp only;rw [if_neg (by decide)]
    cases h40 : c == 40 with
    | true =>
      have : c = 40 := by simpa using h40
      subst this;have h1 := h.next 1 (by simp);obtain ⟨k', g1, _, g3⟩ := zcR hs ⟨scn s (k + 1), out, (a : Int), s⟩ fuel t (k + 1) 1 (by unfold fuel; omega) h1 (by omega);rw [zn7] at hp;rw [y40 rfl, yob];dsimp only;rw [if_pos rfl];unfold zaL
      cases hm : zfI 1 t with
      | some m => rw [hm] at hp; exact absurd hp (by simp)
      | none =>
        rw [hm] at g3;have g3 : zf ⟨scn s (k + 1), out, (a : Int), s⟩ fuel (scn s (k + 1)).f_s (scn s (k + 1)).f_at 1 = some (false, ⟨scn s k', out, (a : Int), s⟩) := g3;dsimp only;exact ⟨_, by rw [g3, yob]⟩
    | false =>
      have h34 : c = 34 := by rw [h40, Bool.or_false] at hc; simpa using hc
      subst h34;rw [zmB] at hp;rw [n40 h40, yob];dsimp only;rw [if_neg (by decide), pk, yob];dsimp only;rw [if_pos (by decide), zjA hs h, yob];unfold zsF;rw [zcS, zbR]
      cases hq : zdK t with
      | some p => rw [hq] at hp; exact absurd hp (by simp)
      | none => exact ⟨_, rfl⟩
  · simp only [Bool.or_eq_false_iff] at hc
    rw [n44 h44, yob];dsimp only;rw [if_neg (by decide), n40 hc.2, yob];dsimp only;rw [if_neg (by decide), pk, yob];dsimp only;rw [hc.1, if_neg (by decide), ec, yob];rfl
def zp5 (s : Str) : List Str × Int := match zhf s with
 | some l => (l, 0)
 | none => ([], 2)
theorem zhH (hs : s.length < 1000000000) : ∀ (n : Nat) (r : Str) (k a : Nat) (out : List Str), r.length < n → At s k r → a ≤ k → out.length ≤ k →
  zbQ s n out (a : Int) s s (k : Int) = some (match zgU 0 (mid s a k) r with | some l => (out ++ elems l, 0) | none => ([], 2))
 | 0, _, _, _, _, h, _, _, _ => by omega
 | n + 1, r, k, a, out, hn, h, ha, ho => by
  have hl := h.len;rw [zbQ, ziD, zp7 h, yob]
  cases r with
  | nil =>
   have hk : k = s.length := by simpa using hl
   subst hk;unfold zeU;rw [ziD, zvM hs out (by omega) a s.length s.length ha (Nat.le_refl _), yob, zq5];dsimp only;rw [zrl];rfl
  | cons c t =>
   simp only [ylc] at hn hl;obtain ⟨s1, s2, s3, s4⟩ := zw1 hs out ho a ha c t h;have hne : (!((c :: t : Str) == [])) = true := rfl;have m1 := zrj (a := a) (n := 1) h ha (by simp);rw [hne, if_pos rfl]
   cases hc : (c == 34 || c == 40) with
   | true =>
    rw [zsx _ t hc]
    by_cases hp : zgK c t = 0
    ·obtain ⟨p, e⟩ := s3 hc hp;rw [if_pos hp, e, yob];rfl
    ·have hple := zvy c t;rw [if_neg hp, s2 hc hp, yob];have hat := h.next (zgK c t) (by simp; omega);have ih := zhH hs n _ (k + zgK c t) a out (by simp; omega) hat (by omega) (by omega);rw [zrj h ha (by simp; omega)] at ih;obtain ⟨q, hq⟩ : ∃ q, zgK c t = q + 1 := ⟨zgK c t - 1, by omega⟩;rw [hq] at ih hple ⊢;rw [Nat.add_sub_cancel, zph q _ t (by omega)];dsimp only [scn];rw [ynt, if_neg (by decide), ih];simp
   | false =>
    cases h44 : c == 44 with
    | true =>
     have : c = 44 := by simpa using h44
     subst this;rw [s1 rfl, yob, znT];have hat := h.next 1 (by simp);have hpl := ztA out (mid s a k);have ih := zhH hs n t (k + 1) (k + 1) (zmA out (mid s a k)) (by omega) hat (Nat.le_refl _) (by omega);rw [zrk] at ih;dsimp only [scn];rw [ynt, if_neg (by decide), ih]
     cases zgU 0 [] t with
     | none => rfl
     | some l =>
      simp only [Option.map_some];rw [zrl, show mid s a k :: l = [mid s a k] ++ l from rfl, ztp, yaa]
    | false =>
     rw [s4 hc h44, yob, zq6 _ t hc h44];have hat := h.next 1 (by simp);have ih := zhH hs n t (k + 1) a out (by omega) hat (by omega) (by omega);rw [m1] at ih;dsimp only [scn];rw [ynt, if_neg (by decide), ih];rfl
theorem ziS (s : Str) (hs : s.length < 1000000000) : zes s = some (zp5 s) := by
 unfold zes zp5 zhf;rw [zfh, yob];have := zhH hs fuel s 0 0 [] (by unfold fuel; omega) (At.zero s) (Nat.le_refl _) (by simp);rw [zrk] at this;show zbQ s fuel [] ((0 : Nat) : Int) s s ((0 : Nat) : Int) = _;rw [this]
 cases zgU 0 [] s with
 | none => rfl
 | some l => rfl
end
end Go.Dm
end
section
namespace Go.Dm
def isN (nm : Str) (f : api_Field) : Bool := low f.Name == low nm
def zby (m : Nat) (l : List api_Field) : Prop := ∀ f ∈ l, f.Name.length < m ∧ f.Value.length < m
theorem znK (l : List api_Field) (h : l.length < 1000000000) : zu l = some l := by
 unfold zu;rw [if_pos (zb4 (by omega) (by omega))]
def cutF (f : api_Field) : api_Field := ⟨f.Name.take 400, f.Value.take 400⟩
def cutL (l : List api_Field) : List api_Field := (l.take 120).map cutF
theorem zfn (s : Str) : zeu s = some (s.take 400) := by
 unfold zeu;have := zmY s 400;rw [show ((400 : Nat) : Int) = 400 from rfl] at this;rw [this, yob]
theorem zlm (h : api_Head) (hl : h.Fields.length < 1000000000) : zh9 h = some ⟨h.Kind, h.Method.take 400, h.Target.take 400, h.Code, h.Reason.take 400, h.Minor, cutL h.Fields⟩ := by
 unfold zh9;rw [zfn, yob, zfn, yob, zfn, yob]
 have key : ∀ (n i : Nat) (out : List api_Field), i ≤ h.Fields.length → i ≤ 120 → h.Fields.length - i < n → out.length = i → zcH h (h.Method.take 400) (h.Target.take 400) (h.Reason.take 400) n out (i : Int) = some ⟨h.Kind, h.Method.take 400, h.Target.take 400, h.Code, h.Reason.take 400, h.Minor, out ++ ((h.Fields.drop i).take (120 - i)).map cutF⟩ := by
  intro n
  induction n with
  | zero => intro i _ _ _ h; omega
  | succ n ih =>
   intro i out hi h120 hn ho;rw [zcH];unfold zfx
   by_cases hlt : i < h.Fields.length
   ·have g : h.Fields[i]? = some h.Fields[i] := ygg hlt;rw [ydt (show (i : Int) < (h.Fields.length : Int) by omega), if_pos rfl]
    by_cases h2 : i < 120
    ·rw [ydt (show (i : Int) < 120 by omega), if_pos rfl, zbw, g, yob, zfn, yob, yob, zfn, yob, if_pos (zb4 (by omega) (by omega)), zE (by omega), yob, ih (i + 1) _ (by omega) (by omega) (by omega) (by simp; omega), ydg hlt, show 120 - i = (120 - (i + 1)) + 1 by omega, List.take_succ_cons];simp [cutF]
    ·have : i = 120 := by omega
     subst this;rw [ydf (by omega), if_neg (by decide)];simp
   ·have : i = h.Fields.length := by omega
    rw [ydf (by omega), if_neg (by decide), if_neg (by decide), this, ydl];simp
 have := key fuel 0 [] (yz _) (by decide) (by unfold fuel; omega) rfl;exact this
theorem zvs (l : List api_Field) : (cutL l).length ≤ 120 := by unfold cutL; simp; omega
theorem zr4 (l : List api_Field) : zby 401 (cutL l) := by
 intro f hf;unfold cutL at hf;obtain ⟨g, _, rfl⟩ := List.mem_map.1 hf;unfold cutF
 simp; omega
theorem zaq {m n : Nat} (h : m ≤ n) {l : List api_Field} (hs : zby m l) : zby n l := fun f hf => by have := hs f hf; omega
end Go.Dm
end
section
namespace Go.Dm
theorem zh5 (b : UInt8) : zcO b = some (zaA b) :=
 of_decide_eq_true (zaP (fun b => decide (zcO b = some (zaA b))) (by decide +kernel) b)
def zg8 : api_Field := ⟨[], []⟩
def zpR (s : Str) : api_Field × Int :=
 if s.any ([13, 10] : Str).contains then (zg8, 24) else if !(s.takeWhile zaA == []) then (zg8, 23)
 else if s.takeWhile zbp == [] || !zd0 58 ((s.dropWhile zbp).dropWhile zaA) then (zg8, 21)
 else if !((s.dropWhile zbp).takeWhile zaA == []) then (zg8, 22)
 else if !((zQ 58 ((s.dropWhile zbp).dropWhile zaA)).all zgG) then (zg8, 25)
 else (⟨s.takeWhile zbp, zdp (zQ 58 ((s.dropWhile zbp).dropWhile zaA))⟩, 0)
theorem zkb (s : Str) (hs : s.length < 1000000000) : za8 s = some (zpR s) := by
 unfold za8 zpR;rw [zfF s _ hs (by decide) (by decide), yob]
 cases s.any ([13, 10] : Str).contains with
 | true => rfl
 | false =>
  obtain ⟨k1, a1, e1⟩ := zif zh5 hs (At.zero s)
  have b1 : z8 (scn s 0) = some (s.takeWhile zaA, scn s k1) := by unfold z8; rw [e1]; rfl
  rw [if_neg yfn, if_neg yfn, zfh, yob, b1, yob];dsimp only
  cases hb : s.takeWhile zaA == [] with
  | false => rfl
  | true =>
   have hd : s.dropWhile zaA = s := by
    have := List.takeWhile_append_dropWhile (p := zaA) (l := s)
    have h0 : s.takeWhile zaA = [] := by simpa using hb
    rwa [h0, yna] at this
   rw [hd] at a1;obtain ⟨k2, a2, e2⟩ := zrn hs a1;obtain ⟨k3, a3, e3⟩ := zif zh5 hs a2
   have b3 : z8 (scn s k2) = some ((s.dropWhile zbp).takeWhile zaA, scn s k3) := by unfold z8; rw [e3]; rfl
   rw [ynt, if_neg yfn, if_neg yfn, e2, yob, b3, yob];dsimp only
   cases hn : s.takeWhile zbp == [] with
   | true => rfl
   | false =>
    obtain ⟨k4, a4, e4⟩ := zd1 hs 58 a3;rw [ynf, ynt, if_neg yfn, e4, yob, Bool.false_or];have hl := a4.le_len;generalize zQ 58 ((s.dropWhile zbp).dropWhile zaA) = v at a4 hl;unfold zci;show (if (!zd0 58 ((s.dropWhile zbp).dropWhile zaA)) = true then _ else if (!((s.dropWhile zbp).takeWhile zaA == [])) = true then _ else (zA (scn s k4)).bind _) = _;rw [zmX a4, yob, zb8 zeA v (by omega), yob]
    cases zd0 58 ((s.dropWhile zbp).dropWhile zaA) with
    | false => rfl
    | true =>
     rw [ynt, if_neg yfn, if_neg yfn]
     cases (s.dropWhile zbp).takeWhile zaA == [] with
     | false => rfl
     | true =>
      rw [ynt, if_neg yfn, if_neg yfn]
      cases v.all zgG with
      | false => rfl
      | true =>
       rw [ynt, if_neg yfn, if_neg yfn];rw [yob, zgz v (by omega), yob]
def zl0 : Str → Bool
 | [] => false
 | c :: _ => zaA c
def zcN (s : Str) : api_Field × Int :=
 if s.any ([13, 10] : Str).contains then (zg8, 24) else if zl0 s then (zg8, 23)
 else if zb0 [58] s == [] || !zfi (zdp (upto [58] s)) then (zg8, 21)
 else if decide ((zdp (upto [58] s)).length < (upto [58] s).length) then (zg8, 22)
 else if !(((zb0 [58] s).drop 1).all zgG) then (zg8, 25)
 else (⟨zdp (upto [58] s), zdp ((zb0 [58] s).drop 1)⟩, 0)
theorem zr2 (s : Str) : (!(s.takeWhile zaA == [])) = zl0 s := by
 cases s with
 | nil => rfl
 | cons c s =>
  rw [List.takeWhile_cons];show _ = zaA c;cases zaA c <;> rfl
theorem zwB (c : UInt8) : (!zbp c || (!zaA c && !(c == 58))) = true := zaP (fun c => !zbp c || (!zaA c && !(c == 58))) (by decide +kernel) c
theorem zvn (c : UInt8) : (!zaA c || (!zbp c && !(c == 58))) = true := zaP (fun c => !zaA c || (!zbp c && !(c == 58))) (by decide +kernel) c
theorem zl1 {n : Str} (h : n.all zbp = true) : (∀ x ∈ n, zaA x = false) ∧ (58 : UInt8) ∉ n := by
 have key : ∀ x ∈ n, zaA x = false ∧ (x == 58) = false := fun x hx => by
  have h1 := List.all_eq_true.1 h x hx;have h2 := zwB x;rw [h1] at h2;simpa using h2
 exact ⟨fun x hx => (key x hx).1, fun hx => by have := (key _ hx).2; cases this⟩
theorem zvo {b : Str} (h : b.all zaA = true) : (58 : UInt8) ∉ b := fun hx => by
 have := List.all_eq_true.1 h _ hx;cases this
theorem zsv (u v : Str) (h : (58 : UInt8) ∉ u) : upto [58] (u ++ 58 :: v) = u ∧ zb0 [58] (u ++ 58 :: v) = 58 :: v := by
 induction u with
 | nil => exact ⟨zjG (by decide), zhI (by decide)⟩
 | cons c u ih =>
  have hc : ([58] : Str).contains c = false := by
   have : c ≠ 58 := fun e => h (by rw [e]; exact List.mem_cons_self ..);simpa using this
  have ih := ih (fun hx => h (List.mem_cons_of_mem _ hx));rw [List.cons_append, zjH hc, zhJ hc, ih.1, ih.2];exact ⟨rfl, rfl⟩
theorem zko (p : UInt8 → Bool) (s : Str) : (s.takeWhile p).all p = true := List.all_eq_true.2 fun _ hx => zf4 hx
theorem ztg {n b v : Str} (hn : n.all zbp = true) (hb : b.all zaA = true) :
  (n ++ (b ++ 58 :: v)).takeWhile zbp = n ∧ (n ++ (b ++ 58 :: v)).dropWhile zbp = b ++ 58 :: v ∧ (b ++ 58 :: v).takeWhile zaA = b ∧ (b ++ 58 :: v).dropWhile zaA = 58 :: v := by
 have h1 := zkO (p := zaA) (c := 58) (by decide) v hb;refine ⟨?_, ?_, h1.1, h1.2⟩
 ·cases b with
  | nil => exact (zkO (p := zbp) (c := 58) (by decide) v hn).1
  | cons c b =>
   have hc : zbp c = false := by
    rw [List.all_cons, Bool.and_eq_true] at hb;have := zvn c;rw [hb.1] at this;simp only [ynt, Bool.false_or, Bool.and_eq_true, Bool.not_eq_true'] at this;exact this.1
   exact (zkO hc _ hn).1
 ·cases b with
  | nil => exact (zkO (p := zbp) (c := 58) (by decide) v hn).2
  | cons c b =>
   have hc : zbp c = false := by
    rw [List.all_cons, Bool.and_eq_true] at hb;have := zvn c;rw [hb.1] at this;simp only [ynt, Bool.false_or, Bool.and_eq_true, Bool.not_eq_true'] at this;exact this.1
   exact (zkO hc _ hn).2
theorem zqZ {s : Str} (h : ∀ x ∈ s, zaA x = false) : zdp s = s := by
 have hl : ∀ t : Str, (∀ x ∈ t, zaA x = false) → t.dropWhile zaA = t := by
  intro t ht
  cases t with
  | nil => rfl
  | cons y t => rw [List.dropWhile_cons, ht y (List.mem_cons_self ..)]; rfl
 have hr : zg7 s = s := by unfold zg7; rw [hl _ (fun x hx => h x (List.mem_reverse.1 hx)), List.reverse_reverse]
 unfold zdp zhv;rw [hr, hl s h]
theorem zth {n b : Str} (hn : n.all zbp = true) (hb : b.all zaA = true) : zdp (n ++ b) = n := by
 rw [zpV hb];exact zqZ (zl1 hn).1
theorem zti {u : Str} (h : zl0 u = false) (ht : zfi (zdp u) = true) : ∃ b, u = zdp u ++ b ∧ b.all zaA = true := by
 rcases zmq u with ⟨h1, h2⟩ | ⟨a, c, b, h1, h2, h3, h4⟩
 ·have : zdp u = [] := by unfold zdp; rw [h2]; rfl
  rw [this] at ht; cases ht
 ·refine ⟨b, ?_, h3⟩
  have e : zdp u = a ++ [c] := by
   unfold zdp;rw [h4];unfold zhv
   cases a with
   | nil => show [c].dropWhile zaA = _; rw [List.dropWhile_cons, h2, if_neg yfn]; rfl
   | cons x a =>
    rw [h1] at h;have hx : zaA x = false := h;rw [List.cons_append, List.dropWhile_cons, hx, if_neg yfn]
  rw [e, h1]; simp
theorem zvp (s : Str) : zpR s = zcN s := by
 unfold zpR zcN;rw [zr2]
 cases s.any ([13, 10] : Str).contains with
 | true => rfl
 | false =>
  cases hb : zl0 s with
  | true => rfl
  | false =>
   rw [if_neg yfn, if_neg yfn, if_neg yfn, if_neg yfn];have e1 := List.takeWhile_append_dropWhile (p := zbp) (l := s);have e2 := List.takeWhile_append_dropWhile (p := zaA) (l := s.dropWhile zbp);have hn := zko zbp s;have hbb := zko zaA (s.dropWhile zbp)
   cases hc : zd0 58 ((s.dropWhile zbp).dropWhile zaA) with
   | true =>
    have e3 := zeh hc;generalize zQ 58 ((s.dropWhile zbp).dropWhile zaA) = v at e3;generalize s.takeWhile zbp = n at e1 hn;generalize (s.dropWhile zbp).takeWhile zaA = b at e2 hbb
    have es : s = (n ++ b) ++ 58 :: v := by rw [← e1, ← e2, e3, yaa]
    have hno : (58 : UInt8) ∉ n ++ b := fun hx => by
     rcases List.mem_append.1 hx with h | h
     ·exact (zl1 hn).2 h
     ·exact zvo hbb h
    obtain ⟨u1, u2⟩ := zsv (n ++ b) v hno;rw [es, u1, u2, zth hn hbb]
    have ht : zfi n = !(n == []) := by unfold zfi; rw [hn, Bool.true_and]
    rw [ht]
    have hlt : decide (n.length < (n ++ b).length) = !(b == []) := by
     cases b with
     | nil => simp
     | cons x b => simp
    rw [hlt];show (if (n == [] || false) = true then _ else _) = if (false || !(!(n == []))) = true then _ else _;rw [Bool.or_false, Bool.false_or, Bool.not_not];rfl
   | false =>
    rw [ynf, Bool.or_true, if_pos rfl]
    cases hf : zb0 [58] s with
    | nil => rfl
    | cons c v =>
     have hc58 : c = 58 := by simpa using ztG hf
     subst hc58
     cases ht : zfi (zdp (upto [58] s)) with
     | false => rfl
     | true =>
      exfalso
      have es := zey [58] s;rw [hf] at es
      have hub : zl0 (upto [58] s) = false := by
       cases hu : upto [58] s with
       | nil => rfl
       | cons x u => rw [hu] at es; rw [← es] at hb; exact hb
      obtain ⟨b, eb, hbl⟩ := zti hub ht;unfold zfi at ht;rw [Bool.and_eq_true] at ht
      have es2 : s = zdp (upto [58] s) ++ (b ++ 58 :: v) := by
       rw [← yaa, ← eb]; exact es.symm
      obtain ⟨_, q2, _, q4⟩ := ztg (v := v) ht.1 hbl;rw [es2, q2, q4] at hc;cases hc
theorem ze1 (s : Str) (hs : s.length < 1000000000) : za8 s = some (zcN s) := by rw [zkb s hs, zvp]
end Go.Dm
end
section
namespace Go.Dm
def lines : Str → List Str
 | [] => [[]]
 | [c] => [[c]]
 | c :: d :: r => if c == 13 && d == 10 then [] :: lines r else zfR [c] (lines (d :: r))
theorem zoS (c d : UInt8) (r : Str) : lines (c :: d :: r) = if c == 13 && d == 10 then [] :: lines r else zfR [c] (lines (d :: r)) := by rw [lines]
theorem zqw (c d : UInt8) (r : Str) : ([13, 10] : Str).isPrefixOf (c :: d :: r) = (c == 13 && d == 10) := by
 show ((13 : UInt8) == c && ((10 : UInt8) == d && ([] : Str).isPrefixOf r)) = _
 have : ([] : Str).isPrefixOf r = true := by simp
 rw [this, Bool.and_true, show ((13 : UInt8) == c) = (c == 13) from by rw [Bool.eq_iff_iff, beq_iff_eq, beq_iff_eq]; exact eq_comm, show ((10 : UInt8) == d) = (d == 10) from by rw [Bool.eq_iff_iff, beq_iff_eq, beq_iff_eq]; exact eq_comm]
theorem zqx : ∀ (n : Nat) (s : Str), s.length < n → lines s ≠ []
 | 0, _, h => by omega
 | n + 1, [], _ => by simp [lines]
 | n + 1, [c], _ => by simp [lines]
 | n + 1, c :: d :: r, h => by
  rw [zoS]
  split
  ·simp
  ·simp only [ylc] at h
   cases hl : lines (d :: r) with
   | nil => exact absurd hl (zqx n _ (by simp only [ylc]; omega))
   | cons a t => simp [zfR]
theorem zuX (s : Str) : lines s ≠ [] := zqx _ s (Nat.lt_succ_self _)
theorem zoT : ∀ (n : Nat) (s : Str), s.length < n → lines s = match zbr [13, 10] s with | none => [s] | some p => p.1 :: lines p.2
 | 0, _, h => by omega
 | n + 1, [], _ => by simp [lines, zbr]
 | n + 1, [c], _ => by
  have : ([13, 10] : Str).isPrefixOf [c] = false := by
   show ((13 : UInt8) == c && false) = false;rw [Bool.and_false]
  rw [zbr, this, if_neg yfn];simp [lines, zbr]
 | n + 1, c :: d :: r, h => by
  simp only [ylc] at h;have ih := zoT n (d :: r) (by simp only [ylc]; omega);rw [zoS, zbr, zqw]
  cases hc : (c == 13 && d == 10) with
  | true => rfl
  | false =>
   rw [if_neg yfn, if_neg yfn, ih]
   cases zbr [13, 10] (d :: r) with
   | none => rfl
   | some p => rfl
theorem zk3 (s : Str) : lines s = match zbr [13, 10] s with | none => [s] | some p => p.1 :: lines p.2 := zoT _ s (Nat.lt_succ_self _)
theorem zml : ∀ (k : Nat) (s : Str), Go.Lib.count s [13, 10] = k → Go.Lib.splitK [13, 10] 0 k s = lines s
 | k, s, h => by
  have hi := zjZ (t := [13, 10]) (by decide) s;rw [zk3]
  cases hc : zbr [13, 10] s with
  | none =>
   rw [hc] at hi;have h0 := Go.Lib.count_miss hi
   have : k = 0 := by omega
   subst this;rfl
  | some p =>
   rw [hc] at hi;have e := ze5 (a := p.1) (b := p.2) hc
   have e1 : s.take p.1.length = p.1 := by rw [e, yaa, List.take_left']; rfl
   have e2 : s.drop (p.1.length + 2) = p.2 := by rw [e, List.drop_left']; simp
   have hh := Go.Lib.count_hit (i := p.1.length) (by decide) hi;rw [show ([13, 10] : Str).length = 2 from rfl, e2] at hh;obtain ⟨m, rfl⟩ : ∃ m, k = m + 1 := ⟨k - 1, by omega⟩;have ih := zml m p.2 (by omega);unfold Go.Lib.splitK;have hn : (((p.1.length : Int)) == -1) = false := beq_eq_false_iff_ne.2 (by omega);rw [hi];dsimp only;rw [hn, if_neg yfn, Int.toNat_natCast, Nat.add_zero, e1, show ([13, 10] : Str).length = 2 from rfl, e2, ih]
theorem zkx (s : Str) (hs : s.length < 1000000000) : strings_Split s [13, 10] = some (lines s) := by
 unfold strings_Split;rw [if_pos ⟨by omega, by decide⟩];exact congrArg some (zml _ s rfl)
theorem zoU : ∀ (n : Nat) (s : Str), s.length < n → (lines s).length ≤ s.length + 1 ∧ ∀ l ∈ lines s, l.length ≤ s.length
 | 0, _, h => by omega
 | n + 1, s, h => by
  rw [zk3]
  cases hc : zbr [13, 10] s with
  | none => simp
  | some p =>
   have e := congrArg List.length (ze5 (a := p.1) (b := p.2) hc);simp only [yla, ylc, yln] at e;obtain ⟨h1, h2⟩ := zoU n p.2 (by omega);dsimp only;refine ⟨by simp only [ylc]; omega, fun l hl => ?_⟩
   rcases List.mem_cons.1 hl with h | h
   ·rw [h]; omega
   ·have := h2 l h; omega
theorem zk4 (s t : Str) (hs : s.length < 1000000000) (ht : t ≠ []) : strings_Index s t = some (match zbr t s with | none => -1 | some p => (p.1.length : Int)) := by
 unfold strings_Index;rw [if_pos (by omega), znA, zjZ ht]
 first | done | (cases zbr t s <;> rfl)
def zjb (h : api_Head) : List Str := (h.Fields.filter (isN [104, 111, 115, 116])).map (·.Value)
def zmR (h : api_Head) : Bool := if h.Kind == 1 then (if decide (1 < (zjb h).length) || decide (((zjb h).length : Int) < h.Minor) then false else (zjb h).all (fun x => x == [] || (zgf x).2 == 0)) else true
def zjc (h : api_Head) : Int := if decide (100 < h.Fields.length) then 3 else if zmR h then 0 else 27
theorem zuY : isN ([72, 111, 115, 116] : Str) = isN [104, 111, 115, 116] := by
 funext f
 unfold isN
 have : low ([72, 111, 115, 116] : Str) = low ([104, 111, 115, 116] : Str) := by decide
 rw [this]
theorem zhM (l : List api_Field) (nm : Str) (hn : nm.length < 1000000000) (hl : l.length < 1000000000) (hs : zby 1000000000 l) : zcj ⟨l⟩ nm = some ((l.filter (isN nm)).map (·.Value)) := by
 unfold zcj zgT;rw [znK l hl, yob, yob]
 have key : ∀ (n i : Nat) (out : List Str), i ≤ l.length → l.length - i < n → out.length ≤ i → zas nm l n out (i : Int) = some (out ++ ((l.drop i).filter (isN nm)).map (·.Value)) := by
  intro n
  induction n with
  | zero => intro i _ _ h; omega
  | succ n ih =>
   intro i out hi h ho;rw [zas]
   by_cases hlt : i < l.length
   ·have g : l[i]? = some l[i] := ygg hlt;have hsm := hs l[i] (ygm _);rw [ydt (show (i : Int) < (l.length : Int) by omega), if_pos rfl, zbw, g, yob, zkm _ _ hsm.1 hn, yob, if_pos (zb4 (by omega) (by omega))];unfold zcF;rw [zE (by omega), yob, yob, ih (i + 1) _ (by omega) (by omega) (by simp; omega), ih (i + 1) _ (by omega) (by omega) (by omega), ydg hlt, List.filter_cons];show (if (isN nm l[i]) = true then _ else _) = _
    cases isN nm l[i] with
    | true => simp
    | false => rfl
   ·have : i = l.length := by omega
    subst this;rw [ydf (by omega), if_neg yfn, ydl];simp
 have := key fuel 0 [] (yz _) (by unfold fuel; omega) (by simp);rw [List.drop_zero, yna] at this;exact this
theorem zoq (h : api_Head) (hl : h.Fields.length < 1000000000) (hs : zby 400000000 h.Fields) : zhc h = some (zmR h) := by
 unfold zhc zmR
 cases h.Kind == 1 with
 | false => rfl
 | true =>
  have hvl : (zjb h).length ≤ h.Fields.length := by unfold zjb; rw [List.length_map]; exact List.length_filter_le _ _
  have hvm : ∀ v ∈ zjb h, v.length < 400000000 := fun v hv => by
   obtain ⟨f, hf, rfl⟩ := List.mem_map.1 hv;exact (hs f (List.mem_filter.1 hf).1).2
  rw [ynt, if_neg yfn, if_pos rfl];unfold zjW;rw [znK _ hl, yob, yob, zhM _ _ (by decide) hl (zaq (by decide) hs), yob, zuY];show (if decide (1 < ((zjb h).length : Int)) = true then zcP (zjb h) true else zcP (zjb h) (decide (((zjb h).length : Int) < h.Minor))) = _;generalize zjb h = vs at hvl hvm
  have key : ∀ (n i : Nat), i ≤ vs.length → vs.length - i < n → zb7 vs n (i : Int) = some ((vs.drop i).all (fun x => x == [] || (zgf x).2 == 0)) := by
   intro n
   induction n with
   | zero => intro i _ h; omega
   | succ n ih =>
    intro i hi h;rw [zb7]
    by_cases hlt : i < vs.length
    ·have g : vs[i]? = some vs[i] := ygg hlt;have hsm := hvm vs[i] (ygm _);unfold zeK;rw [ydt (show (i : Int) < (vs.length : Int) by omega), if_pos rfl, zbw, g, yob, zfl _ hsm, yob, zE (by omega), yob, ih (i + 1) (by omega) (by omega), ydg hlt, List.all_cons];cases (zgf vs[i]).2 == 0 <;> cases vs[i] == [] <;> rfl
    ·have : i = vs.length := by omega
     subst this;rw [ydf (by omega), if_neg yfn, ydl];rfl
  have hk := key fuel 0 (yz _) (by unfold fuel; omega);rw [List.drop_zero] at hk;unfold zcP
  by_cases h1 : 1 < vs.length
  ·rw [ydt (show 1 < (vs.length : Int) by omega), ydt h1]; rfl
  ·rw [ydf (show ¬ 1 < (vs.length : Int) by omega), ydf h1, if_neg yfn, Bool.false_or]
   cases decide ((vs.length : Int) < h.Minor) with
   | true => rfl
   | false => exact hk
theorem zkh (h : api_Head) (hl : h.Fields.length < 1000000000) (hs : zby 400000000 h.Fields) : zfW h = some (zjc h) := by
 unfold zfW zjc;rw [zoq h hl hs, yob]
 by_cases h1 : 100 < h.Fields.length
 ·rw [ydt (show 100 < (h.Fields.length : Int) by omega), ydt h1]; rfl
 ·rw [ydf (show ¬ 100 < (h.Fields.length : Int) by omega), ydf h1];cases zmR h <;> rfl
structure GoodH (h : api_Head) : Prop where
 kind : h.Kind = 1 ∨ h.Kind = 2
 minor : h.Minor = 0 ∨ h.Minor = 1
theorem zrE {k : Int} {s : Str} {x : api_Head} (h : zbS k s = (x, 0)) : GoodH x := by
 have hb := zpj h
 rcases znZ h with ⟨hk, h⟩ | ⟨hk, h⟩
 ·refine ⟨.inl (hb.kind.trans hk), ?_⟩
  rcases znn s with (h1 | h1) | ⟨h1, h2⟩
  ·rw [h1] at h; exact absurd (show (26 : Int) = 0 from congrArg Prod.snd h) (by decide)
  ·rw [h1] at h; exact absurd (show (20 : Int) = 0 from congrArg Prod.snd h) (by decide)
  ·obtain ⟨v, _, _, _, _, _, k1, k2, k3, _⟩ := znc h1;rw [h2] at h;have hx := congrArg Prod.fst h;dsimp only at hx;rw [← hx];dsimp only;rw [k3]
   rcases znb k1 k2 with ⟨_, e⟩ | ⟨_, e⟩
   ·exact .inl e
   ·exact .inr e
 ·refine ⟨.inr (hb.kind.trans hk), ?_⟩;unfold zrz at h
  split at h
  ·exact absurd (show (26 : Int) = 0 from congrArg Prod.snd h) (by decide)
  ·split at h
   ·rename_i h1
    obtain ⟨b, w, r, e1, e2, _, _⟩ := zn3 h1;have hx := congrArg Prod.fst h;dsimp only at hx;rw [← hx];dsimp only;rw [e2, zrb b _ e1]
    rcases e1 with e | e <;> subst e
    ·exact .inl rfl
    ·exact .inr rfl
   ·exact absurd (show (20 : Int) = 0 from congrArg Prod.snd h) (by decide)
def zoV (h : api_Head) (f : api_Field) : api_Head := ⟨h.Kind, h.Method, h.Target, h.Code, h.Reason, h.Minor, h.Fields ++ [f]⟩
def ziJ : api_Head → List Str → api_Head × Int
 | h, [] => if zjc h == 0 then (h, 0) else (zap, zjc h)
 | h, l :: ls => if (zcN l).2 == 0 then ziJ (zoV h (zcN l).1) ls else (zap, (zcN l).2)
def zuZ (k : Int) : List Str → api_Head × Int
 | [] => (zap, 6)
 | l :: ls => if (zbS k l).2 == 0 then ziJ (zbS k l).1 ls else (zap, (zbS k l).2)
def zgH (k : Int) (s : Str) (lim : Int) : api_Head × Int :=
 if !(k == 1) && !(k == 2) then (zap, 1) else if decide (lim < (s.length : Int)) then (zap, 3) else match zbr [13, 10, 13, 10] s with
 | none => (zap, 6)
 | some p => if p.2 == [] then zuZ k (lines p.1) else (zap, 6)
theorem zrF (l : Str) : (zcN l).1.Name.length ≤ l.length ∧ (zcN l).1.Value.length ≤ l.length := by
 unfold zcN;have h1 := zpQ (upto [58] l);have h2 := zp9 [58] l;have h3 := zpQ ((zb0 [58] l).drop 1);have h4 := congrArg List.length (zey [58] l);simp only [yla] at h4;simp only [yld] at h3
 split
 ·simp [zg8]
 ·split
  ·simp [zg8]
  ·split
   ·simp [zg8]
   ·split
    ·simp [zg8]
    ·split
     ·simp [zg8]
     ·dsimp only; omega
theorem zrG {h : api_Head} {l : Str} (hs : zby 400000000 h.Fields) (hl : l.length < 400000000) : zby 400000000 (zoV h (zcN l).1).Fields := by
 intro f hf
 rcases List.mem_append.1 hf with h1 | h1
 ·exact hs f h1
 ·have := zrF l
  have e : f = (zcN l).1 := by simpa using h1
  rw [e]; omega
theorem zrH (h : api_Head) (hl : h.Fields.length < 1000000000) (hs : zby 400000000 h.Fields) : zeL h.Kind h.Method h.Target h.Code h.Reason h.Minor h.Fields = some (ziJ h []) := by
 unfold zeL;rw [zkh _ hl hs, yob, ziJ];cases zjc h == 0 <;> rfl
theorem zni (ls : List Str) (hln : ls.length < 100000000) (hls : ∀ l ∈ ls, l.length < 400000000) : ∀ (n i : Nat) (h : api_Head), i ≤ ls.length → ls.length - i < n → zby 400000000 h.Fields → h.Fields.length ≤ i →
  zdQ ls n h.Kind h.Method h.Target h.Code h.Reason h.Minor h.Fields (i : Int) = some (ziJ h (ls.drop i))
 | 0, _, _, _, h, _, _ => by omega
 | n + 1, i, h, hi, hn, hs, hfl => by
  rw [zdQ]
  by_cases hlt : i < ls.length
  ·have g : ls[i]? = some ls[i] := ygg hlt;have hsm := hls ls[i] (ygm _);have ih := zni ls hln hls n (i + 1) (zoV h (zcN ls[i]).1) (by omega) (by omega) (zrG hs hsm) (by unfold zoV; simp; omega);rw [ydt (show (i : Int) < (ls.length : Int) by omega), if_pos rfl, zbw, g, yob, ze1 _ (by omega), yob, if_pos (zb4 (by omega) (by omega)), zE (by omega), yob, ydg hlt, ziJ]
   cases (zcN ls[i]).2 == 0 with
   | false => rfl
   | true => exact ih
  ·have : i = ls.length := by omega
   subst this;rw [ydf (by omega), if_neg yfn, ydl];exact zrH h (by omega) hs
theorem zoW (k : Int) : ((zbS k []).2 == 1) = (!(k == 1) && !(k == 2)) := by
 unfold zbS
 cases h1 : k == 1 with
 | true => rfl
 | false =>
  cases h2 : k == 2 with
  | true => rfl
  | false => rfl
theorem zrI (k : Int) (h : (!(k == 1) && !(k == 2)) = true) : (zbS k []).2 = 1 := by
 have := zoW k;rw [h] at this;simpa using this
theorem zor (k : Int) (s : Str) (lim : Int) (hs : s.length < 90000000) : zhd k s lim = some (zgH k s lim) := by
 unfold zhd zgH;rw [zdk k [] (by decide), yob, zoW]
 cases hk : (!(k == 1) && !(k == 2)) with
 | true => rw [if_pos rfl, if_pos rfl, zrI k hk]; rfl
 | false =>
  rw [if_neg yfn, if_neg yfn, zk4 s _ (by omega) (by decide), yob]
  cases decide (lim < (s.length : Int)) with
  | true => rfl
  | false =>
   rw [if_neg yfn, if_neg yfn];have j1t : ∀ r, zdR k s r true = some (zap, 6) := fun r => rfl
   cases hc : zbr [13, 10, 13, 10] s with
   | none => exact j1t (-1)
   | some p =>
    have e := ze5 (a := p.1) (b := p.2) hc;have el := congrArg List.length e;simp only [yla, ylc, yln] at el
    have a4 : zaR (p.1.length : Int) 4 = some ((p.1.length + 4 : Nat) : Int) := by rw [zez (by omega) (by omega)]; exact congrArg some (by omega)
    dsimp only;rw [ydf (show ¬ (p.1.length : Int) < 0 by omega), if_neg yfn, a4, yob]
    cases hp : p.2 == [] with
    | false =>
     have hne : p.2 ≠ [] := by simpa using hp
     have hpl : 0 < p.2.length := List.length_pos_iff.2 hne;have : (((p.1.length + 4 : Nat) : Int) == (s.length : Int)) = false := beq_eq_false_iff_ne.2 (by omega);rw [this];exact j1t _
    | true =>
     have hp0 : p.2 = [] := by simpa using hp
     rw [hp0] at el;simp only [yln] at el
     have : (((p.1.length + 4 : Nat) : Int) == (s.length : Int)) = true := by rw [beq_iff_eq]; omega
     rw [this, ynt, if_pos rfl];unfold zdR
     have st : s.take p.1.length = p.1 := by rw [e, yaa, List.take_left']; rfl
     rw [if_neg yfn, zeY (by omega), yob, st, zkx _ (by omega), yob];obtain ⟨m1, m2⟩ := zoU _ p.1 (Nat.lt_succ_self _)
     cases hl : lines p.1 with
     | nil => exact absurd hl (zuX _)
     | cons l ls =>
      rw [hl] at m1 m2;have hll := m2 l (List.mem_cons_self ..);rw [zru, List.getElem?_cons_zero, yob, zdk k l (by omega), yob, zuZ]
      cases h0 : (zbS k l).2 == 0 with
      | false => rfl
      | true =>
       have hf : zqN (l :: ls) 1 = some ls := by
        unfold zqN;rw [if_pos ⟨by decide, by simp only [ylc]; omega⟩];rfl
       rw [ynt, if_neg yfn, hf, yob, if_pos rfl];have hfs := zlq k l;have := zni ls (by simp only [ylc] at m1; omega) (fun x hx => by have := m2 x (List.mem_cons_of_mem _ hx); omega) fuel 0 (zbS k l).1 (yz _) (by simp only [ylc] at m1; unfold fuel; omega) (by rw [hfs]; intro f hf; cases hf) (by rw [hfs]; simp);rw [List.drop_zero] at this;exact this
end Go.Dm
end
