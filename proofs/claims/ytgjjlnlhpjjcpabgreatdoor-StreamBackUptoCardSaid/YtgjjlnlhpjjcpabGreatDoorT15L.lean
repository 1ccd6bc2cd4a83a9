/-
 The models' words: partial operations as functions into Option. No program in sight.
 The models of the functions: written by a program (wip/gen) off the translation. No program in sight.
 The library's functions as the models say them, and as the library's contracts say them. No program in sight.
 Plain tools for the laws: the partial operations at natural numbers, loops over lists. No program in sight.
 Layer 1 (bytes): what the program's and the reference's models come to.
 Layer 3 (numbers): reading and writing: the program's and the document's come to the same. No program in sight.
 Fold
-/
import Derived.Lib.ItoaNum
import Derived.Lib.SplitLaws
import Derived.Lib.SlTrimSet
import Derived.Lib.Join
import Derived.Lib.IndexMore
import Derived.Lib.Bytealg
import Derived.Lib.Index
import Derived.Lib.IndexAny
section
namespace Go.Dm
abbrev Str := List UInt8

def inI (n : Int) : Bool := decide (-9223372036854775808 ≤ n) && decide (n ≤ 9223372036854775807)
theorem zho {n : Int} : inI n = true ↔ -9223372036854775808 ≤ n ∧ n ≤ 9223372036854775807 := by simp [inI]

def zav (m n : Int) : Option Int := if inI (m + n) then some (m + n) else none
def zdZ (m n : Int) : Option Int := if inI (m - n) then some (m - n) else none
def zr6 (m n : Int) : Option Int := if inI (m * n) then some (m * n) else none
def iDiv (m n : Int) : Option Int := if 0 ≤ m ∧ 1 ≤ n ∧ inI (m / n) = true then some (m / n) else none
def zth (m n : Int) : Option Int := if 0 ≤ m ∧ 1 ≤ n ∧ inI (m % n) = true then some (m % n) else none
def sAt (l : Str) (i : Int) : Option UInt8 := if 0 ≤ i then l[i.toNat]? else none
def sTo (l : Str) (h : Int) : Option Str := if 0 ≤ h ∧ h ≤ l.length then some (l.take h.toNat) else none
def ze4 (l : Str) (i : Int) : Option Str := if 0 ≤ i ∧ i ≤ l.length then some (l.drop i.toNat) else none
def zke (l : Str) (i h : Int) : Option Str := if 0 ≤ i ∧ i ≤ h ∧ h ≤ l.length then some ((l.take h.toNat).drop i.toNat) else none
def zjK (l m : Str) : Option Str := if l.length + m.length ≤ 9223372036854775807 then some (l ++ m) else none
def lAt {α : Type} (l : List α) (i : Int) : Option α := if 0 ≤ i then l[i.toNat]? else none
def lTo {α : Type} (l : List α) (h : Int) : Option (List α) := if 0 ≤ h ∧ h ≤ l.length then some (l.take h.toNat) else none
def zr7 {α : Type} (l : List α) (i : Int) : Option (List α) := if 0 ≤ i ∧ i ≤ l.length then some (l.drop i.toNat) else none
def lSub {α : Type} (l : List α) (i h : Int) : Option (List α) := if 0 ≤ i ∧ i ≤ h ∧ h ≤ l.length then some ((l.take h.toNat).drop i.toNat) else none
def zA (n m bytes : Nat) : Bool := decide (n + m ≤ 9223372036854775807) && decide ((n + m) * bytes ≤ 140737488355328)
theorem og {α : Type} {b : Bool} {x : Option α} {r : α} (h : (if b = true then x else none) = some r) : b = true ∧ x = some r := by
 cases b with
 | false => cases h
 | true => exact ⟨rfl, h⟩
theorem zh4 (b : Bool) : b = true ∨ b = false := by cases b <;> simp
theorem ob {α β : Type} {m : Option α} {f : α → Option β} {r : β} (h : m.bind f = some r) : ∃ x, m = some x ∧ f x = some r := by
 cases m with
 | none => cases h
 | some x => exact ⟨x, rfl, h⟩
theorem it {α : Type} {b : Bool} {x y : Option α} {r : α} (hb : b = true) (h : (if b = true then x else y) = some r) : x = some r := by rwa [if_pos hb] at h
theorem ie {α : Type} {b : Bool} {x y : Option α} {r : α} (hb : b = false) (h : (if b = true then x else y) = some r) : y = some r := by rwa [if_neg (by simp [hb])] at h

def fuel : Nat := 1000000000000000000
abbrev yob := @Option.bind_some
abbrev yfn := @Bool.false_ne_true
abbrev yla := @List.length_append
abbrev ylc := @List.length_cons
abbrev yln := @List.length_nil
abbrev ydg := @List.drop_eq_getElem_cons
abbrev yaa := @List.append_assoc
abbrev ydt := @decide_eq_true
abbrev ydf := @decide_eq_false
abbrev ygg := @List.getElem?_eq_getElem
abbrev ygm := @List.getElem_mem
abbrev ylt := @List.length_take
abbrev yld := @List.length_drop
abbrev ydl := @List.drop_length
abbrev ymc := @List.mem_cons
abbrev ybs := @beq_self_eq_true
abbrev yz := @Nat.zero_le
abbrev yna := @List.nil_append
abbrev yan := @List.append_nil
abbrev ynt := @Bool.not_true
abbrev ynf := @Bool.not_false
end Go.Dm
end
section
set_option linter.unusedVariables false
set_option maxRecDepth 10000
namespace Go.Dm
structure api_Field where
 Name : Str
 Value : Str
deriving DecidableEq, Inhabited
structure api_Head where
 Kind : Int
 Method : Str
 Target : Str
 Code : Int
 Reason : Str
 Minor : Int
 Fields : List api_Field
deriving DecidableEq, Inhabited
structure accum_Accum where
 f_kind : Int
 f_limit : Int
 f_buf : List UInt8
 f_from : Int
 f_took : Bool
 f_bad : Int
 f_whole : Bool
 f_got : api_Head
deriving DecidableEq, Inhabited
structure scan_Scanner where
 f_s : Str
 f_at : Int
deriving DecidableEq, Inhabited
structure startline_line where
 Scanner : scan_Scanner
deriving DecidableEq, Inhabited
structure api_Host where
 Kind : Int
 Name : Str
 Port : Int
deriving DecidableEq, Inhabited
structure api_Target where
 Kind : Int
 Scheme : Str
 Host : api_Host
 Path : Str
 Query : Str
 HasQuery : Bool
deriving DecidableEq, Inhabited
structure bag_Bag where
 f_l : List api_Field
deriving DecidableEq, Inhabited
structure commas_splitter where
 Scanner : scan_Scanner
 f_out : List Str
 f_from : Int
 f_s : Str
deriving DecidableEq, Inhabited
structure quoted_reader where
 Scanner : scan_Scanner
 f_out : List UInt8
deriving DecidableEq, Inhabited
structure api_Frame where
 Kind : Int
 N : Int
deriving DecidableEq, Inhabited
structure length_reader where
 Bag : bag_Bag
 f_minor : Int
deriving DecidableEq, Inhabited
structure dechunk_Decoder where
 f_limit : Int
 f_at : Int
 f_line : List UInt8
 f_left : Int
 f_sum : Int
 f_spent : Int
 f_trailers : List api_Field
deriving DecidableEq, Inhabited
structure body_Body where
 Decoder : dechunk_Decoder
 f_frame : api_Frame
 f_left : Int
 f_done : Bool
 f_bad : Bool
deriving DecidableEq, Inhabited
structure api_Attr where
 Name : Str
 Value : Str
 Has : Bool
deriving DecidableEq, Inhabited
structure api_Message where
 Head : api_Head
 Frame : api_Frame
 Body : Str
 Trailers : List api_Field
deriving DecidableEq, Inhabited
structure message_reader where
 Body : body_Body
 f_m : api_Message
deriving DecidableEq, Inhabited
structure quill_Quill where
 f_b : List UInt8
 f_most : Int
deriving DecidableEq, Inhabited
structure head_printer where
 Quill : quill_Quill
 f_full : Bool
deriving DecidableEq, Inhabited
structure enchunk_Encoder where
 f_size : Int
 f_buf : Str
 f_done : Bool
deriving DecidableEq, Inhabited
structure stream_reader where
 f_s : Str
 f_at : Int
 f_limit : Int
 f_ended : Bool
deriving DecidableEq, Inhabited
abbrev zlH {α : Type} {β : Sort _} (o : Option α) (k0 : β) (k1 : α → β) : β := match o with | none => k0 | some x => k1 x
theorem zrc {α β : Type} {o : Option α} {k0 R : β} {k1 : α → β} (h : o = none) (hm : zlH o k0 k1 = R) : k0 = R := by subst h; exact hm
theorem zrd {α β : Type} {o : Option α} {x : α} {k0 R : β} {k1 : α → β} (h : o = some x) (hm : zlH o k0 k1 = R) : k1 x = R := by subst h; exact hm
abbrev bE {β : Sort _} (b : Bool) (k1 k0 : β) : β := match b with | true => k1 | false => k0
theorem bE_t {β : Type} {b : Bool} {k1 k0 R : β} (h : b = true) (hm : bE b k1 k0 = R) : k1 = R := by subst h; exact hm
theorem bE_f {β : Type} {b : Bool} {k1 k0 R : β} (h : b = false) (hm : bE b k1 k0 = R) : k0 = R := by subst h; exact hm
theorem bE_pt {b : Bool} {k1 k0 : Prop} (h : b = true) (hm : bE b k1 k0) : k1 := by subst h; exact hm
theorem bE_pf {b : Bool} {k1 k0 : Prop} (h : b = false) (hm : bE b k1 k0) : k0 := by subst h; exact hm
theorem zn2 {α : Type} {o : Option α} {k0 : Prop} {k1 : α → Prop} (h : o = none) (hm : zlH o k0 k1) : k0 := by subst h; exact hm
theorem zn3 {α : Type} {o : Option α} {x : α} {k0 : Prop} {k1 : α → Prop} (h : o = some x) (hm : zlH o k0 k1) : k1 x := by subst h; exact hm

def zhr : Str → UInt8 → Nat → Int
 | [], _, _ => -1
 | x :: l, c, k => if x == c then (k : Int) else zhr l c (k + 1)
def strings_IndexByte (s : Str) (c : UInt8) : Option Int := some (zhr s c 0)
def zlI : Str → Str → Bool
 | _, [] => true
 | [], _ :: _ => false
 | x :: s, y :: t => x == y && zlI s t
def zhJ : Str → Str → Nat → Int
 | s, t, k => if zlI s t then (k : Int) else match s with
  | [] => -1
  | _ :: s => zhJ s t (k + 1)
def strings_Index (s t : Str) : Option Int := if s.length < 4294967281 then some (zhJ s t 0) else none
def strings_Cut (s t : Str) : Option (Str × Str × Bool) := if s.length < 4294967281 then some (Go.Lib.cut s t) else none
def zkh : Str → Str → Nat → Int
 | [], _, _ => -1
 | x :: l, cs, k => if cs.contains x then (k : Int) else zkh l cs (k + 1)
def strings_IndexAny (s cs : Str) : Option Int := if s.length < 4294967281 ∧ cs.length < 4294967281 ∧ cs.all (fun c => c.toNat < 128) then some (zkh s cs 0) else none
def strings_Split (s sep : Str) : Option (List Str) := if s.length < 4294967281 ∧ 1 ≤ sep.length then some (Go.Lib.splitK sep 0 (Go.Lib.countB ⟨s.toArray⟩ ⟨sep.toArray⟩) s) else none
def zx (c : UInt8) : Str → List Str
 | [] => [[]]
 | x :: s => if x = c then [] :: zx c s else match zx c s with
  | [] => [[x]]
  | h :: t => (x :: h) :: t
def zjM (k : Nat) : UInt8 := if k < 10 then UInt8.ofNat (48 + k) else UInt8.ofNat (87 + k)
def zjf : Nat → Nat → Str
 | 0, u => [zjM u]
 | g + 1, u => if u < 16 then [zjM u] else zjf g (u / 16) ++ [zjM (u % 16)]
def zcV (n b : Int) : Option Str := if inI n = true ∧ b = 10 then some (Go.Lib.itoa n) else if b = 16 ∧ 0 ≤ n ∧ n < 1048576 then some (zjf 4 n.toNat) else none
def zcW (s cs : Str) : Option Str := if s.length < 4294967281 ∧ cs.length < 4294967281 ∧ cs.all (fun c => c.toNat < 128) then some (Go.Lib.trimS s cs) else none
def strings_Join (l : List Str) (sep : Str) : Option Str := if l.length ≤ 140737488355328 ∧ (Go.Lib.join l sep).length ≤ 140737488355328 then some (Go.Lib.join l sep) else none
def zdP (x_kind : Int) (x_limit : Int) (t6 : Bool) : Option (Option accum_Accum × Int) :=
 if t6 then (some (none, 1)) else (some ((some ((⟨x_kind, x_limit, [], 0, false, 0, false, (⟨0, [], [], 0, [], 0, []⟩ : api_Head)⟩ : accum_Accum)), 0)))

def zkS (x_kind : Int) (x_limit : Int) : Option (Option accum_Accum × Int) :=
 if (!(x_kind == 1)) then (if (!(x_kind == 2)) then (zdP x_kind x_limit true) else (if (decide (x_limit < 0)) then (zdP x_kind x_limit true) else (zdP x_kind x_limit (decide (65536 < x_limit))))) else (if (decide (x_limit < 0)) then (zdP x_kind x_limit true) else (zdP x_kind x_limit (decide (65536 < x_limit))))

def zbf (x_a : accum_Accum) (t8 : Bool) : Option Bool :=
 (zdZ (x_a.f_buf.length : Int) 1).bind fun i9 =>
 (lAt x_a.f_buf i9).bind fun x10 =>
 some (!((x10 == 10) == t8))

def zdp (x_a : accum_Accum) : Option Bool :=
 if (decide (1 < (x_a.f_buf.length : Int))) then ((zdZ (x_a.f_buf.length : Int) 2).bind fun i4 =>
 (lAt x_a.f_buf i4).bind fun x5 =>
 zbf x_a (x5 == 13)) else (zbf x_a false)

def strings_ContainsAny (x_s : Str) (x_chars : Str) : Option Bool :=
 (strings_IndexAny x_s x_chars).bind fun r2 =>
 some (decide (0 ≤ r2))

def zI (x_s : Str) (x_c : UInt8) : Nat → Int → Option Int
 | 0, _ => none
 | n + 1, i4 =>
 if (decide (0 ≤ i4)) then ((sAt x_s i4).bind fun b8 =>
 if (b8 == x_c) then (some i4) else ((zdZ i4 1).bind fun i13 =>
 (zI x_s x_c n) i13)) else (some (-1))

def za3 (x_s : Str) (x_c : UInt8) : Option Int :=
 (zdZ (x_s.length : Int) 1).bind fun i2 =>
 zI x_s x_c fuel i2

def zal (x_s : Str) (x_c : UInt8) : Option Int :=
 (za3 x_s x_c).bind fun r2 =>
 some r2

def zfR (x_s : Str) : Option scan_Scanner :=
 some (⟨x_s, 0⟩ : scan_Scanner)

def zJ (x_c : scan_Scanner) : Option Str :=
 (ze4 x_c.f_s x_c.f_at).bind fun s4 =>
 some s4

def zag (t4 : Bool) : Option Bool :=
 some t4

def stringslite_HasPrefix (x_s : Str) (x_prefix : Str) : Option Bool :=
 if (decide ((x_prefix.length : Int) ≤ (x_s.length : Int))) then ((sTo x_s (x_prefix.length : Int)).bind fun s3 =>
 zag (s3 == x_prefix)) else (zag false)

def strings_HasPrefix (x_s : Str) (x_prefix : Str) : Option Bool :=
 (stringslite_HasPrefix x_s x_prefix).bind fun r2 =>
 some r2

def zbZ (x_c : scan_Scanner) (x_t : Str) : Option (Bool × scan_Scanner) :=
 (zJ x_c).bind fun r2 =>
 (strings_HasPrefix r2 x_t).bind fun r3 =>
 if (!r3) then (some (false, x_c)) else ((zav x_c.f_at (x_t.length : Int)).bind fun i9 =>
 some ((true, (⟨x_c.f_s, i9⟩ : scan_Scanner))))

def zah (x_c : scan_Scanner) : Option Bool :=
 (zJ x_c).bind fun r2 =>
 some (r2 == [])

def zq (x_c : scan_Scanner) : Option (UInt8 × Bool) :=
 (zah x_c).bind fun r2 =>
 if r2 then (some (0, false)) else ((sAt x_c.f_s x_c.f_at).bind fun b7 =>
 some (b7, true))

def zeK (t3 : Bool) : Option Bool :=
 some t3

def zR (x_b : UInt8) : Option Bool :=
 if (decide (48 ≤ x_b)) then (zeK (decide (x_b ≤ 57))) else (zeK false)

def zbR (x_c : scan_Scanner) (t5 : Bool) : Option (Bool × scan_Scanner) :=
 if t5 then (some (false, x_c)) else ((zav x_c.f_at 1).bind fun i9 =>
 some ((true, (⟨x_c.f_s, i9⟩ : scan_Scanner))))

def ze (x_c : scan_Scanner) (x_b : UInt8) : Option (Bool × scan_Scanner) :=
 (zq x_c).bind fun r2 =>
 if (!r2.2) then (zbR x_c true) else (zbR x_c (!(r2.1 == x_b)))

def zaU (x_p : startline_line) (r3 : UInt8 × Bool) (t7 : Bool) : Option (Int × Bool × scan_Scanner) :=
 if t7 then (some (0, false, x_p.Scanner)) else ((ze x_p.Scanner r3.1).bind fun r11 =>
 some ((((r3.1 - 48).toNat : Int), true, r11.2)))

def zaV (x_p : startline_line) : Option (Int × Bool × scan_Scanner) :=
 (zq x_p.Scanner).bind fun r3 =>
 if (!r3.2) then (zaU x_p r3 true) else ((zR r3.1).bind fun r6 =>
 zaU x_p r3 (!r6))

def zaw (r9 : Int × Bool × scan_Scanner) (r15 : Int × Bool × scan_Scanner) (t20 : Bool) : Option (Int × Int × Bool × scan_Scanner) :=
 some (r9.1, r15.1, t20, r15.2.2)

def zas (x_p : startline_line) : Option (Int × Int × Bool × scan_Scanner) :=
 (zbZ x_p.Scanner [72, 84, 84, 80, 47]).bind fun r3 =>
 if (!r3.1) then (some (0, 0, false, r3.2)) else ((zaV (⟨r3.2⟩ : startline_line)).bind fun r9 =>
 (ze r9.2.2 46).bind fun r12 =>
 (zaV (⟨r12.2⟩ : startline_line)).bind fun r15 =>
 if r9.2.1 then (if r12.1 then (zaw r9 r15 r15.2.1) else (zaw r9 r15 false)) else (zaw r9 r15 false))

def zaP (t13 : Bool) : Option Bool :=
 some t13

def zcL (x_s : Str) : Option Bool :=
 (zfR x_s).bind fun r2 =>
 (zas (⟨r2⟩ : startline_line)).bind fun r6 =>
 if r6.2.2.1 then ((zah r6.2.2.2).bind fun r10 =>
 if r10 then (if (!(r6.1 == 1)) then (zaP true) else (zaP (decide (1 < r6.2.1)))) else (zaP false)) else (zaP false)

def zbk (x_c : scan_Scanner) : Option Int :=
 some x_c.f_at

def zbr (r2 : Int) (s14 : Str) (i15 : Int) : Option (Str × scan_Scanner) :=
 (zke s14 r2 i15).bind fun s18 =>
 some ((s18, (⟨s14, i15⟩ : scan_Scanner)))

def zaJ (rec1 : Str → Int → Option (Str × scan_Scanner)) (r2 : Int) (s4 : Str) (i5 : Int) (t10 : Bool) : Option (Str × scan_Scanner) :=
 if t10 then (zbr r2 s4 i5) else ((zav i5 1).bind fun i13 =>
 rec1 s4 i13)

def zN (x_is : UInt8 → Option Bool) (r2 : Int) : Nat → Str → Int → Option (Str × scan_Scanner)
 | 0, _, _ => none
 | n + 1, s4, i5 =>
 (zq (⟨s4, i5⟩ : scan_Scanner)).bind fun r6 =>
 if (!r6.2) then (zaJ (zN x_is r2 n) r2 s4 i5 true) else ((x_is r6.1).bind fun r9 =>
 zaJ (zN x_is r2 n) r2 s4 i5 (!r9))

def zS (x_c : scan_Scanner) (x_is : UInt8 → Option Bool) : Option (Str × scan_Scanner) :=
 (zbk x_c).bind fun r2 =>
 zN x_is r2 fuel x_c.f_s x_c.f_at

def zfS (x_b : UInt8) (t3 : Bool) : Option UInt8 :=
 if t3 then (some (x_b + 32)) else (some x_b)

def zaC (x_b : UInt8) : Option UInt8 :=
 if (decide (65 ≤ x_b)) then (zfS x_b (decide (x_b ≤ 90))) else (zfS x_b false)

def zeL (t5 : Bool) : Option Bool :=
 some t5

def zgJ (x_b : UInt8) : Option Bool :=
 (zaC x_b).bind fun r2 =>
 if (decide (97 ≤ r2)) then ((zaC x_b).bind fun r4 =>
 zeL (decide (r4 ≤ 122))) else (zeL false)

def zhv (x_b : UInt8) (x_l : Str) : Option Bool :=
 (strings_IndexByte x_l x_b).bind fun r2 =>
 some (decide (0 ≤ r2))

def zdq (t7 : Bool) : Option Bool :=
 some t7

def zco (x_b : UInt8) : Option Bool :=
 (zgJ x_b).bind fun r2 =>
 if r2 then (zdq true) else ((zR x_b).bind fun r4 =>
 if r4 then (zdq true) else ((zhv x_b [33, 35, 36, 37, 38, 39, 42, 43, 45, 46, 94, 95, 96, 124, 126]).bind fun r6 =>
 zdq r6))

def zbx (x_c : scan_Scanner) : Option (Str × Bool × scan_Scanner) :=
 (zS x_c zco).bind fun r2 =>
 some ((r2.1, !(r2.1 == []), r2.2))

def zce (x_b : UInt8) : Option Bool :=
 some (!(x_b == 32))

def zaW (r3 : Int × Int × Bool × scan_Scanner) (t8 : Bool) : Option (Int × Bool × scan_Scanner) :=
 some (r3.2.1, t8, r3.2.2.2)

def zaX (x_p : startline_line) : Option (Int × Bool × scan_Scanner) :=
 (zas x_p).bind fun r3 =>
 if r3.2.2.1 then (if (r3.1 == 1) then (zaW r3 (decide (r3.2.1 ≤ 1))) else (zaW r3 false)) else (zaW r3 false)

def zcX (rec1 : Int → Option Bool) (x_is : UInt8 → Option Bool) (i3 : Int) (x7 : Str) : Nat → Int → Option Bool
 | 0, _ => none
 | n + 1, i12 =>
 if (decide (i12 < (x7.length : Int))) then ((sAt x7 i12).bind fun b17 =>
 (x_is b17).bind fun r18 =>
 if (!r18) then (some false) else ((zav i12 1).bind fun i23 =>
 (zcX rec1 x_is i3 x7 n) i23)) else ((zav i3 1).bind fun i25 =>
 rec1 i25)

def zcY (x_is : UInt8 → Option Bool) (x_l : List Str) : Nat → Int → Option Bool
 | 0, _ => none
 | n + 1, i3 =>
 if (decide (i3 < (x_l.length : Int))) then ((lAt x_l i3).bind fun x7 =>
 zcX (zcY x_is x_l n) x_is i3 x7 fuel 0) else (some true)

def zcM (x_is : UInt8 → Option Bool) (x_l : List Str) : Option Bool :=
 zcY x_is x_l fuel 0

def ze6 (x_b : UInt8) : Option Int :=
 (zR x_b).bind fun r2 =>
 if r2 then (some (((x_b - 48).toNat : Int))) else ((zaC x_b).bind fun r7 =>
 (zav (((r7 - 97).toNat : Int)) 10).bind fun i8 =>
 some i8)

def zcN (rec2 : Int → Int → Option (Int × Int)) (x_base : Int) (i11 : Int) (i12 : Int) (r18 : Int) (t23 : Bool) : Option (Int × Int) :=
 if t23 then (some (0, 7)) else ((zr6 i11 x_base).bind fun i27 =>
 (zav i27 r18).bind fun i28 =>
 (zav i12 1).bind fun i30 =>
 rec2 i28 i30)

def zaN (x_s : Str) (x_base : Int) (x_most : Int) : Nat → Int → Int → Option (Int × Int)
 | 0, _, _ => none
 | n + 1, i11, i12 =>
 if (decide (i12 < (x_s.length : Int))) then ((sAt x_s i12).bind fun b17 =>
 (ze6 b17).bind fun r18 =>
 if (decide (x_most < r18)) then (zcN (zaN x_s x_base x_most n) x_base i11 i12 r18 true) else ((zdZ x_most r18).bind fun i21 =>
 (iDiv i21 x_base).bind fun i22 =>
 zcN (zaN x_s x_base x_most n) x_base i11 i12 r18 (decide (i22 < i11)))) else (some (i11, 0))

def zcO (x_s : Str) (x_base : Int) (x_most : Int) (t5 : Bool) : Option (Int × Int) :=
 if t5 then (some (0, 2)) else (zaN x_s x_base x_most fuel 0 0)

def zeM (x_s : Str) (x_base : Int) (x_most : Int) (x_is : UInt8 → Option Bool) : Option (Int × Int) :=
 if (x_s == []) then (zcO x_s x_base x_most true) else ((zcM x_is ([x_s] : List Str)).bind fun r4 =>
 zcO x_s x_base x_most (!r4))

def zbl (x_s : Str) (x_most : Int) : Option (Int × Int) :=
 (zeM x_s 10 x_most zR).bind fun r2 =>
 some (r2.1, r2.2)

def zeN (x_n : Int) (x_base : Int) : Option Str :=
 if (decide (x_n < 0)) then (some []) else ((zcV x_n x_base).bind fun r6 =>
 some r6)

def zdQ (x_n : Int) : Option Str :=
 (zeN x_n 10).bind fun r2 =>
 some r2

def zb0 (t6 : Bool) : Option Bool :=
 some t6

def zcy (x_s : Str) (x_most : Int) : Option Bool :=
 (zbl x_s x_most).bind fun r2 =>
 if (r2.2 == 0) then ((zdQ r2.1).bind fun r5 =>
 zb0 (r5 == x_s)) else (zb0 false)

def zed (s : Str) : Option Bool := if s.length < 1000000000 then ((zx 46 s).mapM (fun x => zcy x 255)).bind fun bs => some (bs.all id && decide ((bs.length : Int) = 4)) else none

def zev (t7 : Bool) : Option Bool :=
 some t7

def zap (x_b : UInt8) : Option Bool :=
 (zR x_b).bind fun r2 =>
 if r2 then (zev true) else ((zaC x_b).bind fun r4 =>
 if (decide (97 ≤ r4)) then ((zaC x_b).bind fun r6 =>
 zev (decide (r6 ≤ 102))) else (zev false))

def zby (rec1 : Int → Int → Option Int) (i13 : Int) (i36 : Int) : Option Int :=
 (zav i13 1).bind fun i37 =>
 rec1 i36 i37

def zaQ (rec1 : Int → Int → Option Int) (i12 : Int) (i13 : Int) (t32 : Bool) : Option Int :=
 if t32 then ((zav i12 1).bind fun i34 =>
 zby rec1 i13 i34) else (some (-1))

def zaR (rec1 : Int → Int → Option Int) (i12 : Int) (i13 : Int) (x17 : Str) (t25 : Bool) : Option Int :=
 if t25 then ((zav i12 2).bind fun i27 =>
 zby rec1 i13 i27) else (if (decide (1 ≤ (x17.length : Int))) then (if (decide ((x17.length : Int) ≤ 4)) then ((zcM zap ([x17] : List Str)).bind fun r31 =>
 zaQ rec1 i12 i13 r31) else (zaQ rec1 i12 i13 false)) else (zaQ rec1 i12 i13 false))

def zD (x_last : Bool) (r6 : List Str) : Nat → Int → Int → Option Int
 | 0, _, _ => none
 | n + 1, i12, i13 =>
 if (decide (i13 < (r6.length : Int))) then ((lAt r6 i13).bind fun x17 =>
 if x_last then ((zdZ (r6.length : Int) 1).bind fun i22 =>
 if (i13 == i22) then ((zed x17).bind fun r24 =>
 zaR (zD x_last r6 n) i12 i13 x17 r24) else (zaR (zD x_last r6 n) i12 i13 x17 false)) else (zaR (zD x_last r6 n) i12 i13 x17 false)) else (some i12)

def zb9 (x_s : Str) (x_last : Bool) : Option Int :=
 if (x_s == []) then (some 0) else ((strings_Split x_s [58]).bind fun r6 =>
 zD x_last r6 fuel 0 0)

def zbm (t15 : Bool) : Option Bool :=
 some t15

def zeO (x_s : Str) : Option Bool :=
 (strings_Cut x_s [58, 58]).bind fun r2 =>
 if (!r2.2.2) then ((zb9 x_s true).bind fun r6 =>
 some (r6 == 8)) else ((zb9 r2.1 false).bind fun r9 =>
 (zb9 r2.2.1 true).bind fun r10 =>
 if (decide (0 ≤ r9)) then (if (decide (0 ≤ r10)) then ((zav r9 r10).bind fun i14 =>
 zbm (decide (i14 ≤ 7))) else (zbm false)) else (zbm false))

def zX (t8 : Bool) : Option Bool :=
 some t8

def zeP (x_s : Str) : Option Bool :=
 if (decide (3 ≤ (x_s.length : Int))) then ((sAt x_s 0).bind fun b3 =>
 if (b3 == 37) then ((zke x_s 1 3).bind fun s5 =>
 (zcM zap ([s5] : List Str)).bind fun r7 =>
 zX r7) else (zX false)) else (zX false)

def zbs (t7 : Bool) : Option Bool :=
 some t7

def zbz (x_b : UInt8) : Option Bool :=
 (zgJ x_b).bind fun r2 =>
 if r2 then (zbs true) else ((zR x_b).bind fun r4 =>
 if r4 then (zbs true) else ((zhv x_b [45, 46, 95, 126]).bind fun r6 =>
 zbs r6))

def zfB (x_b : UInt8) : Option Bool :=
 (zhv x_b [33, 36, 38, 39, 40, 41, 42, 43, 44, 59, 61]).bind fun r2 =>
 some r2

def zdr (rec1 : Str → Option Bool) (s6 : Str) (t19 : Bool) : Option Bool :=
 if t19 then ((ze4 s6 1).bind fun s21 =>
 rec1 s21) else (some false)

def zat : Nat → Str → Option Bool
 | 0, _ => none
 | n + 1, s6 =>
 if (!(s6 == [])) then ((zeP s6).bind fun r10 =>
 if r10 then ((ze4 s6 3).bind fun s13 =>
 (zat n) s13) else ((sAt s6 0).bind fun b14 =>
 (zbz b14).bind fun r15 =>
 if r15 then (zdr (zat n) s6 true) else ((sAt s6 0).bind fun b17 =>
 (zfB b17).bind fun r18 =>
 zdr (zat n) s6 r18))) else (some true)

def ze7 (x_s : Str) : Option Bool :=
 if (x_s == []) then (some false) else (zat fuel x_s)

def zcz (i24 : Int) (s25 : Str) : Option (api_Host × Bool) :=
 some (((⟨i24, s25, (-1)⟩ : api_Host), !(i24 == 0)))

def zbS (x_s : Str) (t14 : Bool) : Option (api_Host × Bool) :=
 if t14 then ((zdZ (x_s.length : Int) 1).bind fun i16 =>
 (zke x_s 1 i16).bind fun s17 =>
 zcz 3 s17) else ((zed x_s).bind fun r18 =>
 if r18 then (zcz 2 x_s) else ((ze7 x_s).bind fun r21 =>
 if r21 then (zcz 1 x_s) else (zcz 0 x_s)))

def zfC (x_s : Str) : Option (api_Host × Bool) :=
 if (decide (2 < (x_s.length : Int))) then ((sAt x_s 0).bind fun b6 =>
 if (b6 == 91) then ((zdZ (x_s.length : Int) 1).bind fun i8 =>
 (sAt x_s i8).bind fun b9 =>
 if (b9 == 93) then ((zdZ (x_s.length : Int) 1).bind fun i11 =>
 (zke x_s 1 i11).bind fun s12 =>
 (zeO s12).bind fun r13 =>
 zbS x_s r13) else (zbS x_s false)) else (zbS x_s false)) else (zbS x_s false)

def zcZ (x_s : Str) (r10 : Int) (r17 : api_Host × Bool) (t24 : Bool) : Option (api_Host × Int) :=
 if t24 then (some (((⟨0, [], 0⟩ : api_Host), 27))) else ((zav r10 1).bind fun i28 =>
 (ze4 x_s i28).bind fun s29 =>
 (zbl s29 65535).bind fun r30 =>
 some (((⟨r17.1.Kind, r17.1.Name, r30.1⟩ : api_Host), 0)))

def zcA (x_s : Str) : Option (api_Host × Int) :=
 (zfC x_s).bind fun r3 =>
 if r3.2 then (some (r3.1, 0)) else ((zal x_s 58).bind fun r10 =>
 if (decide (r10 < 0)) then (some (((⟨0, [], 0⟩ : api_Host), 27))) else ((sTo x_s r10).bind fun s16 =>
 (zfC s16).bind fun r17 =>
 if (!r17.2) then (zcZ x_s r10 r17 true) else ((zav r10 1).bind fun i21 =>
 (ze4 x_s i21).bind fun s22 =>
 (zcy s22 65535).bind fun r23 =>
 zcZ x_s r10 r17 (!r23))))

def zfs (s : Str) : Option Str := if s.length < 4294967281 then s.mapM zaC else none

def zd1 (t7 : Bool) : Option Bool :=
 some t7

def zfT (x_b : UInt8) : Option Bool :=
 (zbz x_b).bind fun r2 =>
 if r2 then (zd1 true) else ((zfB x_b).bind fun r4 =>
 if r4 then (zd1 true) else ((zhv x_b [58, 64]).bind fun r6 =>
 zd1 r6))

def zfD (rec1 : Int → Option Bool) (i27 : Int) : Option Bool :=
 (zav i27 1).bind fun i28 =>
 rec1 i28

def zdI (rec1 : Int → Option Bool) (i3 : Int) (t23 : Bool) : Option Bool :=
 if t23 then ((zav i3 2).bind fun i25 =>
 zfD rec1 i25) else (some false)

def zgS (rec1 : Int → Option Bool) (x_s : Str) (i3 : Int) (t12 : Bool) : Option Bool :=
 if t12 then (zfD rec1 i3) else ((sAt x_s i3).bind fun b14 =>
 if (b14 == 37) then ((zav i3 2).bind fun i16 =>
 if (decide (i16 < (x_s.length : Int))) then ((zav i3 1).bind fun i18 =>
 (zav i3 3).bind fun i19 =>
 (zke x_s i18 i19).bind fun s20 =>
 (zcM zap ([s20] : List Str)).bind fun r22 =>
 zdI rec1 i3 r22) else (zdI rec1 i3 false)) else (zdI rec1 i3 false))

def zbn (x_s : Str) (x_more : Str) : Nat → Int → Option Bool
 | 0, _ => none
 | n + 1, i3 =>
 if (decide (i3 < (x_s.length : Int))) then ((sAt x_s i3).bind fun b7 =>
 (zfT b7).bind fun r8 =>
 if r8 then (zgS (zbn x_s x_more n) x_s i3 true) else ((sAt x_s i3).bind fun b10 =>
 (strings_IndexByte x_more b10).bind fun r11 =>
 zgS (zbn x_s x_more n) x_s i3 (decide (0 ≤ r11)))) else (some true)

def ziI (x_s : Str) (x_more : Str) : Option Bool :=
 zbn x_s x_more fuel 0

def ze8 (t5 : Bool) : Option Bool :=
 some t5

def zhK (x_s : Str) : Option Bool :=
 (strings_HasPrefix x_s [47]).bind fun r2 =>
 if r2 then ((ziI x_s [47]).bind fun r4 =>
 ze8 r4) else (ze8 false)

def zgT (x_s : Str) : Option Bool :=
 (ziI x_s [47, 63]).bind fun r2 =>
 some r2

def zfU (r2 : Str × Str × Bool) (t7 : Bool) : Option (Str × Str × Bool × Int) :=
 if t7 then (some ([], [], false, 2)) else (some (r2.1, r2.2.1, r2.2.2, 0))

def ziJ (x_s : Str) : Option (Str × Str × Bool × Int) :=
 (strings_Cut x_s [63]).bind fun r2 =>
 (zhK r2.1).bind fun r4 =>
 if (!r4) then (zfU r2 true) else ((zgT r2.2.1).bind fun r6 =>
 zfU r2 (!r6))

def zew (x_t : api_Target) (r15 : Str × Str × Bool × Int) (s19 : Str) : Option (api_Target × Bool) :=
 some (((⟨x_t.Kind, x_t.Scheme, x_t.Host, s19, r15.2.1, r15.2.2.1⟩ : api_Target), r15.2.2.2 == 0))

def zex (x_t : api_Target) (b9 : UInt8) (s14 : Str) : Option (api_Target × Bool) :=
 (ziJ s14).bind fun r15 =>
 if (b9 == 63) then (zew x_t r15 []) else (zew x_t r15 r15.1)

def zfE (x_t : api_Target) (x_s : Str) : Option (api_Target × Bool) :=
 if (x_s == []) then (some (x_t, true)) else ((sAt x_s 0).bind fun b9 =>
 if (b9 == 63) then ((zjK [47] x_s).bind fun s13 =>
 zex x_t b9 s13) else (zex x_t b9 x_s))

def zbA (r3 : Str × Str × Bool) (r5 : Str) (i18 : Int) : Option (api_Target × Bool) :=
 (sTo r3.2.1 i18).bind fun s19 =>
 (zcA s19).bind fun r20 =>
 if (!(r20.2 == 0)) then (some (((⟨2, r5, (⟨0, [], 0⟩ : api_Host), [], [], false⟩ : api_Target), false))) else ((ze4 r3.2.1 i18).bind fun s28 =>
 (zfE (⟨2, r5, r20.1, [], [], false⟩ : api_Target) s28).bind fun r29 =>
 some (r29.1, r29.2))

def zab (r3 : Str × Str × Bool) (r5 : Str) (t10 : Bool) : Option (api_Target × Bool) :=
 if t10 then (some (((⟨2, r5, (⟨0, [], 0⟩ : api_Host), [], [], false⟩ : api_Target), false))) else ((strings_IndexAny r3.2.1 [47, 63]).bind fun r14 =>
 if (decide (r14 < 0)) then (zbA r3 r5 (r3.2.1.length : Int)) else (zbA r3 r5 r14))

def zd2 (x_s : Str) : Option (api_Target × Bool) :=
 (strings_Cut x_s [58, 47, 47]).bind fun r3 =>
 (zfs r3.1).bind fun r5 =>
 if (!r3.2.2) then (zab r3 r5 true) else (if (!(r5 == [104, 116, 116, 112])) then (zab r3 r5 (!(r5 == [104, 116, 116, 112, 115]))) else (zab r3 r5 false))

def ziK (x_method : Str) (x_s : Str) : Option (api_Target × Bool) :=
 if (x_s == [42]) then (some (((⟨4, [], (⟨0, [], 0⟩ : api_Host), [], [], false⟩ : api_Target), x_method == [79, 80, 84, 73, 79, 78, 83]))) else ((strings_HasPrefix x_s [47]).bind fun r7 =>
 if (!r7) then ((zd2 x_s).bind fun r10 =>
 some (r10.1, r10.2)) else ((zfE ((⟨1, [], (⟨0, [], 0⟩ : api_Host), [], [], false⟩ : api_Target)) x_s).bind fun r13 =>
 some (r13.1, r13.2)))

def zd3 (r5 : api_Host × Int) (t9 : Bool) : Option (api_Target × Int) :=
 if t9 then (some (((⟨0, [], (⟨0, [], 0⟩ : api_Host), [], [], false⟩ : api_Target), 20))) else (some (((⟨3, [], r5.1, [], [], false⟩ : api_Target), 0)))

def zfV (x_method : Str) (x_s : Str) : Option (api_Target × Int) :=
 if (x_method == [67, 79, 78, 78, 69, 67, 84]) then ((zcA x_s).bind fun r5 =>
 if (!(r5.2 == 0)) then (zd3 r5 true) else (zd3 r5 (decide (r5.1.Port < 0)))) else ((ziK x_method x_s).bind fun r15 =>
 if (!r15.2) then (some (((⟨0, [], (⟨0, [], 0⟩ : api_Host), [], [], false⟩ : api_Target), 20))) else (some (r15.1, 0)))

def zP (r17 : Str × Bool × scan_Scanner) (r23 : Str × scan_Scanner) (r29 : Int × Bool × scan_Scanner) (t41 : Bool) : Option (api_Head × Int) :=
 if t41 then (some (((⟨0, [], [], 0, [], 0, []⟩ : api_Head), 20))) else (some (((⟨1, r17.1, r23.1, 0, [], r29.1, []⟩ : api_Head), 0)))

def zc0 (x_a0 : Str) : Option (api_Head × Int) :=
 (zal x_a0 32).bind fun r5 =>
 (zav r5 1).bind fun i6 =>
 (ze4 x_a0 i6).bind fun s7 =>
 (zcL s7).bind fun r8 =>
 if r8 then (some (((⟨0, [], [], 0, [], 0, []⟩ : api_Head), 26))) else ((zfR x_a0).bind fun r13 =>
 (zbx r13).bind fun r17 =>
 (ze r17.2.2 32).bind fun r20 =>
 (zS r20.2 zce).bind fun r23 =>
 (ze r23.2 32).bind fun r26 =>
 (zaX (⟨r26.2⟩ : startline_line)).bind fun r29 =>
 (zfV r17.1 r23.1).bind fun r32 =>
 if (!r17.2.1) then (zP r17 r23 r29 true) else (if (!r20.1) then (zP r17 r23 r29 true) else (if (!r26.1) then (zP r17 r23 r29 true) else (if (!r29.2.1) then (zP r17 r23 r29 true) else ((zah r29.2.2).bind fun r39 =>
 if (!r39) then (zP r17 r23 r29 true) else (zP r17 r23 r29 (!(r32.2 == 0))))))))

def zdR (t3 : Bool) : Option Bool :=
 some t3

def zg9 (x_b : UInt8) : Option Bool :=
 if (decide (32 < x_b)) then (zdR (decide (x_b < 127))) else (zdR false)

def zeQ (t3 : Bool) : Option Bool :=
 some t3

def zdd (x_b : UInt8) : Option Bool :=
 if (x_b == 32) then (zeQ true) else (zeQ (x_b == 9))

def zds (t6 : Bool) : Option Bool :=
 some t6

def zar (x_b : UInt8) : Option Bool :=
 (zg9 x_b).bind fun r2 =>
 if r2 then (zds true) else ((zdd x_b).bind fun r4 =>
 if r4 then (zds true) else (zds (decide (127 < x_b))))

def zO (r14 : Int × Bool × scan_Scanner) (r23 : Bool × scan_Scanner) (r26 : Int × Int) (t37 : Bool) : Option (api_Head × Int) :=
 if t37 then (some (((⟨0, [], [], 0, [], 0, []⟩ : api_Head), 20))) else ((zJ r23.2).bind fun r41 =>
 some (((⟨2, [], [], r26.1, r41, r14.1, []⟩ : api_Head), 0)))

def zdt (x_a0 : Str) : Option (api_Head × Int) :=
 (strings_Cut x_a0 [32]).bind fun r3 =>
 (zcL r3.1).bind fun r5 =>
 if r5 then (some (((⟨0, [], [], 0, [], 0, []⟩ : api_Head), 26))) else ((zfR x_a0).bind fun r10 =>
 (zaX (⟨r10⟩ : startline_line)).bind fun r14 =>
 (ze r14.2.2 32).bind fun r17 =>
 (zS r17.2 zR).bind fun r20 =>
 (ze r20.2 32).bind fun r23 =>
 (zbl r20.1 599).bind fun r26 =>
 if (!r14.2.1) then (zO r14 r23 r26 true) else (if (!r17.1) then (zO r14 r23 r26 true) else (if (!r23.1) then (zO r14 r23 r26 true) else (if (!((r20.1.length : Int) == 3)) then (zO r14 r23 r26 true) else (if (!(r26.2 == 0)) then (zO r14 r23 r26 true) else (if (decide (r26.1 < 100)) then (zO r14 r23 r26 true) else ((zJ r23.2).bind fun r34 =>
 (zcM zar ([r34] : List Str)).bind fun r36 =>
 zO r14 r23 r26 (!r36))))))))

def zcB (x_kind : Int) (x_s : Str) (t4 : Bool) : Option (api_Head × Int) :=
 if t4 then (some (((⟨0, [], [], 0, [], 0, []⟩ : api_Head), 1))) else ((strings_ContainsAny x_s [13, 10]).bind fun r7 =>
 if r7 then (some (((⟨0, [], [], 0, [], 0, []⟩ : api_Head), 24))) else (if (x_kind == 1) then ((zc0 x_s).bind fun r13 =>
 some (r13.1, r13.2)) else ((zdt x_s).bind fun r18 =>
 some (r18.1, r18.2))))

def zbo (x_kind : Int) (x_s : Str) : Option (api_Head × Int) :=
 if (!(x_kind == 1)) then (zcB x_kind x_s (!(x_kind == 2))) else (zcB x_kind x_s false)

def zaj (x_c : scan_Scanner) : Option (Str × scan_Scanner) :=
 (zS x_c zdd).bind fun r2 =>
 some (r2.1, r2.2)

def zcC (r17 : Str × Bool × scan_Scanner) (r20 : Str × scan_Scanner) (t26 : Bool) (s27 : Str) (i28 : Int) : Option (api_Field × Int) :=
 if t26 then (some (((⟨[], []⟩ : api_Field), 21))) else (if (!(r20.1 == [])) then (some (((⟨[], []⟩ : api_Field), 22))) else ((zJ (⟨s27, i28⟩ : scan_Scanner)).bind fun r34 =>
 (zcM zar ([r34] : List Str)).bind fun r36 =>
 if (!r36) then (some (((⟨[], []⟩ : api_Field), 25))) else ((zJ (⟨s27, i28⟩ : scan_Scanner)).bind fun r41 =>
 (zcW r41 [32, 9]).bind fun r42 =>
 some (((⟨r17.1, r42⟩ : api_Field), 0)))))

def zbp (x_s : Str) : Option (api_Field × Int) :=
 (strings_ContainsAny x_s [13, 10]).bind fun r3 =>
 if r3 then (some (((⟨[], []⟩ : api_Field), 24))) else ((zfR x_s).bind fun r8 =>
 (zaj r8).bind fun r11 =>
 if (!(r11.1 == [])) then (some (((⟨[], []⟩ : api_Field), 23))) else ((zbx r11.2).bind fun r17 =>
 (zaj r17.2.2).bind fun r20 =>
 if (!r17.2.1) then (zcC r17 r20 true r20.2.f_s r20.2.f_at) else ((ze r20.2 58).bind fun r24 =>
 zcC r17 r20 (!r24.1) r24.2.f_s r24.2.f_at)))

def zy (x_s : List api_Field) : Option (List api_Field) :=
 if zA 0 x_s.length 32 then (some x_s) else none

def zkT (x_l : List api_Field) : Option bag_Bag :=
 (zy x_l).bind fun r2 =>
 some (⟨r2⟩ : bag_Bag)

def zhs (x_b : bag_Bag) : Option (List api_Field) :=
 (zy x_b.f_l).bind fun r4 =>
 some r4

def zgw (x_a : Str) (x_b : Str) : Option Bool :=
 (zfs x_a).bind fun r2 =>
 (zfs x_b).bind fun r3 =>
 some (r2 == r3)

def zc1 (rec1 : (List Str) → Int → Option (List Str)) (i10 : Int) (l28 : List Str) : Option (List Str) :=
 (zav i10 1).bind fun i29 =>
 rec1 l28 i29

def zaD (x_name : Str) (r3 : List api_Field) : Nat → (List Str) → Int → Option (List Str)
 | 0, _, _ => none
 | n + 1, l9, i10 =>
 if (decide (i10 < (r3.length : Int))) then ((lAt r3 i10).bind fun x14 =>
 (zgw x14.Name x_name).bind fun r19 =>
 if r19 then (if zA l9.length 1 16 then (zc1 (zaD x_name r3 n) i10 (l9 ++ ([x14.Value] : List Str))) else none) else (zc1 (zaD x_name r3 n) i10 l9)) else (some l9)

def zcD (x_b : bag_Bag) (x_name : Str) : Option (List Str) :=
 (zhs x_b).bind fun r3 =>
 zaD x_name r3 fuel [] 0

def ze9 (rec2 : Int → Option Bool) (i21 : Int) (t33 : Bool) : Option Bool :=
 if t33 then (some false) else ((zav i21 1).bind fun i37 =>
 rec2 i37)

def zcp (r11 : List Str) : Nat → Int → Option Bool
 | 0, _ => none
 | n + 1, i21 =>
 if (decide (i21 < (r11.length : Int))) then ((lAt r11 i21).bind fun x25 =>
 (zcA x25).bind fun r29 =>
 if (!(r29.2 == 0)) then (ze9 (zcp r11 n) i21 (!(x25 == []))) else (ze9 (zcp r11 n) i21 false)) else (some true)

def zde (r11 : List Str) (t16 : Bool) : Option Bool :=
 if t16 then (some false) else (zcp r11 fuel 0)

def zhL (x_h : api_Head) : Option Bool :=
 if (!(x_h.Kind == 1)) then (some true) else ((zkT x_h.Fields).bind fun r7 =>
 (zcD r7 [72, 111, 115, 116]).bind fun r11 =>
 if (decide (1 < (r11.length : Int))) then (zde r11 true) else (zde r11 (decide ((r11.length : Int) < x_h.Minor))))

def zgx (x_h : api_Head) : Option Int :=
 if (decide (100 < (x_h.Fields.length : Int))) then (some 3) else ((zhL x_h).bind fun r6 =>
 if (!r6) then (some 27) else (some 0))

def zfa (i75 : Int) (s76 : Str) (s77 : Str) (i78 : Int) (s79 : Str) (i80 : Int) (l83 : List api_Field) : Option (api_Head × Int) :=
 (zgx (⟨i75, s76, s77, i78, s79, i80, l83⟩ : api_Head)).bind fun r84 =>
 if (!(r84 == 0)) then (some (((⟨0, [], [], 0, [], 0, []⟩ : api_Head), r84))) else (some (((⟨i75, s76, s77, i78, s79, i80, l83⟩ : api_Head), 0)))

def zee (l41 : List Str) : Nat → Int → Str → Str → Int → Str → Int → (List api_Field) → Int → Option (api_Head × Int)
 | 0, _, _, _, _, _, _, _, _ => none
 | n + 1, i45, s46, s47, i48, s49, i50, l53, i54 =>
 if (decide (i54 < (l41.length : Int))) then ((lAt l41 i54).bind fun x58 =>
 (zbp x58).bind fun r62 =>
 if (!(r62.2 == 0)) then (some (((⟨0, [], [], 0, [], 0, []⟩ : api_Head), r62.2))) else (if zA l53.length 1 32 then ((zav i54 1).bind fun i74 =>
 (zee l41 n) i45 s46 s47 i48 s49 i50 (l53 ++ [r62.1]) i74) else none)) else (zfa i45 s46 s47 i48 s49 i50 l53)

def zef (x_a0 : Int) (x_a1 : Str) (r12 : Int) (t19 : Bool) : Option (api_Head × Int) :=
 if t19 then (some (((⟨0, [], [], 0, [], 0, []⟩ : api_Head), 6))) else ((sTo x_a1 r12).bind fun s23 =>
 (strings_Split s23 [13, 10]).bind fun r24 =>
 (lAt r24 0).bind fun x28 =>
 (zbo x_a0 x28).bind fun r31 =>
 if (!(r31.2 == 0)) then (some (((⟨0, [], [], 0, [], 0, []⟩ : api_Head), r31.2))) else ((zr7 r24 1).bind fun l41 =>
 zee l41 fuel r31.1.Kind r31.1.Method r31.1.Target r31.1.Code r31.1.Reason r31.1.Minor r31.1.Fields 0))

def zhM (x_a0 : Int) (x_a1 : Str) (x_a2 : Int) : Option (api_Head × Int) :=
 (zbo x_a0 []).bind fun r3 =>
 if (r3.2 == 1) then (some (((⟨0, [], [], 0, [], 0, []⟩ : api_Head), r3.2))) else ((strings_Index x_a1 [13, 10, 13, 10]).bind fun r12 =>
 if (decide (x_a2 < (x_a1.length : Int))) then (some (((⟨0, [], [], 0, [], 0, []⟩ : api_Head), 3))) else (if (decide (r12 < 0)) then (zef x_a0 x_a1 r12 true) else ((zav r12 4).bind fun i18 =>
 zef x_a0 x_a1 r12 (!(i18 == (x_a1.length : Int))))))

def zcf (x_a : accum_Accum) (i16 : Int) : Option (Bool × Int × accum_Accum) :=
 some ((false, i16, (⟨x_a.f_kind, x_a.f_limit, x_a.f_buf, (x_a.f_buf.length : Int), x_a.f_took, x_a.f_bad, x_a.f_whole, x_a.f_got⟩ : accum_Accum)))

def zdu (x_a : accum_Accum) (x_s : Str) : Option (Bool × Int × accum_Accum) :=
 if (x_a.f_from == 0) then ((zbo x_a.f_kind x_s).bind fun r5 =>
 zcf x_a r5.2) else (if (!(x_s == [])) then ((zbp x_s).bind fun r10 =>
 zcf x_a r10.2) else ((zhM x_a.f_kind x_a.f_buf x_a.f_limit).bind fun r11 =>
 some ((r11.2 == 0, r11.2, (⟨x_a.f_kind, x_a.f_limit, x_a.f_buf, x_a.f_from, x_a.f_took, x_a.f_bad, x_a.f_whole, r11.1⟩ : accum_Accum)))))

def zcr (x_a : accum_Accum) (x_b : UInt8) : Option (Bool × Int × accum_Accum) :=
 if (decide (x_a.f_limit ≤ (x_a.f_buf.length : Int))) then (some (false, 3, x_a)) else (if zA x_a.f_buf.length 1 1 then ((zdp (⟨x_a.f_kind, x_a.f_limit, x_a.f_buf ++ [x_b], x_a.f_from, x_a.f_took, x_a.f_bad, x_a.f_whole, x_a.f_got⟩ : accum_Accum)).bind fun r11 =>
 if r11 then (some ((false, 24, (⟨x_a.f_kind, x_a.f_limit, x_a.f_buf ++ [x_b], x_a.f_from, x_a.f_took, x_a.f_bad, x_a.f_whole, x_a.f_got⟩ : accum_Accum)))) else (if (!(x_b == 10)) then (some ((false, 0, (⟨x_a.f_kind, x_a.f_limit, x_a.f_buf ++ [x_b], x_a.f_from, x_a.f_took, x_a.f_bad, x_a.f_whole, x_a.f_got⟩ : accum_Accum)))) else ((zdZ (((x_a.f_buf ++ [x_b]).length : Int)) 2).bind fun i20 =>
 (lSub (x_a.f_buf ++ [x_b]) x_a.f_from i20).bind fun l21 =>
 (zdu (⟨x_a.f_kind, x_a.f_limit, x_a.f_buf ++ [x_b], x_a.f_from, x_a.f_took, x_a.f_bad, x_a.f_whole, x_a.f_got⟩ : accum_Accum) l21).bind fun r24 =>
 some (r24.1, r24.2.1, r24.2.2)))) else none)

def zcg (rec2 : Int → Int → (List UInt8) → Int → Bool → Int → Bool → Int → Str → Str → Int → Str → Int → (List api_Field) → Int → Option (Int × Bool × Int × accum_Accum)) (i27 : Int) (r34 : Bool × Int × accum_Accum) (t42 : Bool) : Option (Int × Bool × Int × accum_Accum) :=
 if t42 then ((zav i27 1).bind fun i45 =>
 some ((i45, r34.1, r34.2.1, (⟨r34.2.2.f_kind, r34.2.2.f_limit, [], r34.2.2.f_from, r34.2.2.f_took, r34.2.1, r34.1, r34.2.2.f_got⟩ : accum_Accum)))) else ((zav i27 1).bind fun i48 =>
 rec2 r34.2.2.f_kind r34.2.2.f_limit r34.2.2.f_buf r34.2.2.f_from r34.2.2.f_took r34.2.1 r34.1 r34.2.2.f_got.Kind r34.2.2.f_got.Method r34.2.2.f_got.Target r34.2.2.f_got.Code r34.2.2.f_got.Reason r34.2.2.f_got.Minor r34.2.2.f_got.Fields i48)

def zdk (x_a1 : Str) (i49 : Int) (i50 : Int) (l53 : List UInt8) (i54 : Int) (t55 : Bool) (i56 : Int) (t57 : Bool) (i58 : Int) (s59 : Str) (s60 : Str) (i61 : Int) (s62 : Str) (i63 : Int) (l66 : List api_Field) : Option (Int × Bool × Int × accum_Accum) :=
 some (((x_a1.length : Int), false, 0, (⟨i49, i50, l53, i54, t55, i56, t57, (⟨i58, s59, s60, i61, s62, i63, l66⟩ : api_Head)⟩ : accum_Accum)))

def zY (x_a1 : Str) : Nat → Int → Int → (List UInt8) → Int → Bool → Int → Bool → Int → Str → Str → Int → Str → Int → (List api_Field) → Int → Option (Int × Bool × Int × accum_Accum)
 | 0, _, _, _, _, _, _, _, _, _, _, _, _, _, _, _ => none
 | n + 1, i9, i10, l13, i14, t15, i16, t17, i18, s19, s20, i21, s22, i23, l26, i27 =>
 if (decide (i27 < (x_a1.length : Int))) then ((sAt x_a1 i27).bind fun b33 =>
 (zcr ((⟨i9, i10, l13, i14, true, i16, t17, (⟨i18, s19, s20, i21, s22, i23, l26⟩ : api_Head)⟩ : accum_Accum)) b33).bind fun r34 =>
 if r34.1 then (zcg (zY x_a1 n) i27 r34 true) else (zcg (zY x_a1 n) i27 r34 (!(r34.2.1 == 0)))) else (zdk x_a1 i9 i10 l13 i14 t15 i16 t17 i18 s19 s20 i21 s22 i23 l26)

def zch (x_a0 : accum_Accum) (x_a1 : Str) (t4 : Bool) : Option (Int × Bool × Int × accum_Accum) :=
 if t4 then (some (0, false, 8, x_a0)) else (zY x_a1 fuel x_a0.f_kind x_a0.f_limit x_a0.f_buf x_a0.f_from x_a0.f_took x_a0.f_bad x_a0.f_whole x_a0.f_got.Kind x_a0.f_got.Method x_a0.f_got.Target x_a0.f_got.Code x_a0.f_got.Reason x_a0.f_got.Minor x_a0.f_got.Fields 0)

def zcs (x_a0 : accum_Accum) (x_a1 : Str) : Option (Int × Bool × Int × accum_Accum) :=
 if (!(x_a0.f_bad == 0)) then (zch x_a0 x_a1 true) else (zch x_a0 x_a1 x_a0.f_whole)

def zct (x_a : accum_Accum) : Option (api_Head × Bool) :=
 if (!x_a.f_whole) then (some (((⟨0, [], [], 0, [], 0, []⟩ : api_Head), false))) else (if zA 0 x_a.f_got.Fields.length 32 then (some (x_a.f_got, true)) else none)

def za6 (x_p : commas_splitter) (l12 : List Str) : Option commas_splitter :=
 (zbk x_p.Scanner).bind fun r13 =>
 some (⟨x_p.Scanner, l12, r13, x_p.f_s⟩ : commas_splitter)

def zbg (x_p : commas_splitter) (x_at : Int) : Option commas_splitter :=
 (zke x_p.f_s x_p.f_from x_at).bind fun s1 =>
 (zcW s1 [32, 9]).bind fun r2 =>
 if (!(r2 == [])) then (if zA x_p.f_out.length 1 16 then (za6 x_p (x_p.f_out ++ ([r2] : List Str))) else none) else (za6 x_p x_p.f_out)

def zcE (x_p : commas_splitter) (s33 : Str) (i34 : Int) : Option (Bool × commas_splitter) :=
 some ((true, (⟨(⟨s33, i34⟩ : scan_Scanner), x_p.f_out, x_p.f_from, x_p.f_s⟩ : commas_splitter)))

def zh (x_p : commas_splitter) : Nat → Str → Int → Int → Option (Bool × commas_splitter)
 | 0, _, _, _ => none
 | n + 1, s3, i4, i5 =>
 if (decide (0 < i5)) then ((zq (⟨s3, i4⟩ : scan_Scanner)).bind fun r9 =>
 if (!r9.2) then (some ((false, (⟨(⟨s3, i4⟩ : scan_Scanner), x_p.f_out, x_p.f_from, x_p.f_s⟩ : commas_splitter)))) else ((ze (⟨s3, i4⟩ : scan_Scanner) r9.1).bind fun r15 =>
 if (r9.1 == 40) then ((zav i5 1).bind fun i21 =>
 (zh x_p n) r15.2.f_s r15.2.f_at i21) else (if (r9.1 == 41) then ((zdZ i5 1).bind fun i24 =>
 (zh x_p n) r15.2.f_s r15.2.f_at i24) else (if (r9.1 == 92) then ((zq r15.2).bind fun r27 =>
 if r27.2 then ((ze r15.2 r27.1).bind fun r31 =>
 (zh x_p n) r31.2.f_s r31.2.f_at i5) else ((zh x_p n) r15.2.f_s r15.2.f_at i5)) else ((zh x_p n) r15.2.f_s r15.2.f_at i5))))) else (zcE x_p s3 i4)

def zaY (x_p : commas_splitter) : Option (Bool × commas_splitter) :=
 zh x_p fuel x_p.Scanner.f_s x_p.Scanner.f_at 1

def zbt (x_r : quoted_reader) (r2 : Bool × scan_Scanner) (r5 : UInt8 × Bool) (t9 : Bool) : Option (Bool × quoted_reader) :=
 if t9 then (some ((false, (⟨r2.2, x_r.f_out⟩ : quoted_reader)))) else (if zA x_r.f_out.length 1 1 then ((ze r2.2 r5.1).bind fun r18 =>
 some ((r18.1, (⟨r18.2, x_r.f_out ++ [r5.1]⟩ : quoted_reader)))) else none)

def zbB (x_r : quoted_reader) : Option (Bool × quoted_reader) :=
 (ze x_r.Scanner 92).bind fun r2 =>
 (zq r2.2).bind fun r5 =>
 if (!r5.2) then (zbt x_r r2 r5 true) else ((zar r5.1).bind fun r8 =>
 zbt x_r r2 r5 (!r8))

def zbT (x_c : scan_Scanner) (x_at : Int) (t4 : Bool) : Option (Bool × scan_Scanner) :=
 if t4 then (some (false, x_c)) else (some ((true, (⟨x_c.f_s, x_at⟩ : scan_Scanner))))

def zc2 (x_c : scan_Scanner) (x_at : Int) : Option (Bool × scan_Scanner) :=
 if (decide (x_at < 0)) then (zbT x_c x_at true) else ((zbk x_c).bind fun r3 =>
 zbT x_c x_at (decide (r3 < x_at)))

def zey (r2 : Int) (t27 : Bool) (s28 : Str) (i29 : Int) (l32 : List UInt8) : Option (Str × Bool × scan_Scanner) :=
 if (!t27) then ((zc2 (⟨s28, i29⟩ : scan_Scanner) r2).bind fun r35 =>
 some ([], false, r35.2)) else (some ((l32, true, (⟨s28, i29⟩ : scan_Scanner))))

def zdv (rec1 : Str → Int → (List UInt8) → Bool → Option (Str × Bool × scan_Scanner)) (r2 : Int) (l13 : List UInt8) (t14 : Bool) (t18 : Bool) (s19 : Str) (i20 : Int) : Option (Str × Bool × scan_Scanner) :=
 if t18 then ((zbB ((⟨(⟨s19, i20⟩ : scan_Scanner), l13⟩ : quoted_reader))).bind fun r23 =>
 rec1 r23.2.Scanner.f_s r23.2.Scanner.f_at r23.2.f_out r23.1) else (zey r2 t14 s19 i20 l13)

def zaM (r2 : Int) : Nat → Str → Int → (List UInt8) → Bool → Option (Str × Bool × scan_Scanner)
 | 0, _, _, _, _ => none
 | n + 1, s9, i10, l13, t14 =>
 if t14 then ((ze (⟨s9, i10⟩ : scan_Scanner) 34).bind fun r16 =>
 zdv (zaM r2 n) r2 l13 t14 (!r16.1) r16.2.f_s r16.2.f_at) else (zdv (zaM r2 n) r2 l13 t14 false s9 i10)

def zgU (x_c : scan_Scanner) : Option (Str × Bool × scan_Scanner) :=
 (zbk x_c).bind fun r2 =>
 (ze x_c 34).bind fun r6 =>
 zaM r2 fuel r6.2.f_s r6.2.f_at [] r6.1

def zb1 (l34 : List Str) (i35 : Int) (s36 : Str) (s37 : Str) (i38 : Int) : Option (Bool × commas_splitter) :=
 some ((true, (⟨(⟨s37, i38⟩ : scan_Scanner), l34, i35, s36⟩ : commas_splitter)))

def zaa (x_p : commas_splitter) : Option (Bool × commas_splitter) :=
 (zbk x_p.Scanner).bind fun r2 =>
 (ze x_p.Scanner 44).bind fun r4 =>
 if r4.1 then ((zbg (⟨r4.2, x_p.f_out, x_p.f_from, x_p.f_s⟩ : commas_splitter) r2).bind fun r8 =>
 zb1 r8.f_out r8.f_from r8.f_s r8.Scanner.f_s r8.Scanner.f_at) else ((ze r4.2 40).bind fun r12 =>
 if r12.1 then ((zaY (⟨r12.2, x_p.f_out, x_p.f_from, x_p.f_s⟩ : commas_splitter)).bind fun r16 =>
 some (r16.1, r16.2)) else ((zq r12.2).bind fun r21 =>
 if (r21.1 == 34) then ((zgU r12.2).bind fun r25 =>
 some ((r25.2.1, (⟨r25.2.2, x_p.f_out, x_p.f_from, x_p.f_s⟩ : commas_splitter)))) else ((ze r12.2 r21.1).bind fun r30 =>
 zb1 x_p.f_out x_p.f_from x_p.f_s r30.2.f_s r30.2.f_at)))

def zfl (x_s : Str) (l26 : List Str) (i27 : Int) (s28 : Str) (s29 : Str) (i30 : Int) : Option (List Str × Int) :=
 (zbg ((⟨(⟨s29, i30⟩ : scan_Scanner), l26, i27, s28⟩ : commas_splitter)) (x_s.length : Int)).bind fun r31 =>
 some (r31.f_out, 0)

def zca (x_s : Str) : Nat → (List Str) → Int → Str → Str → Int → Option (List Str × Int)
 | 0, _, _, _, _, _ => none
 | n + 1, l8, i9, s10, s11, i12 =>
 (zah (⟨s11, i12⟩ : scan_Scanner)).bind fun r13 =>
 if (!r13) then ((zaa ((⟨(⟨s11, i12⟩ : scan_Scanner), l8, i9, s10⟩ : commas_splitter))).bind fun r17 =>
 if (!r17.1) then (some ([], 2)) else ((zca x_s n) r17.2.f_out r17.2.f_from r17.2.f_s r17.2.Scanner.f_s r17.2.Scanner.f_at)) else (zfl x_s l8 i9 s10 s11 i12)

def zeR (x_s : Str) : Option (List Str × Int) :=
 (zfR x_s).bind fun r2 =>
 zca x_s fuel [] 0 x_s r2.f_s r2.f_at

def zez (t5 : Bool) : Option Bool :=
 some t5

def zfF (x_s : Str) : Option Bool :=
 if (!(x_s == [])) then ((zcM zco ([x_s] : List Str)).bind fun r4 =>
 zez r4) else (zez false)

def zbC (rec1 : (List Str) → Int → Option (List Str × Int)) (l6 : List Str) (i7 : Int) (r15 : List Str × Int) : Nat → Int → Option (List Str × Int)
 | 0, _ => none
 | n + 1, i24 =>
 if (decide (i24 < (r15.1.length : Int))) then ((lAt r15.1 i24).bind fun x28 =>
 (zfF x28).bind fun r32 =>
 if (!r32) then (some ([], 2)) else ((zav i24 1).bind fun i37 =>
 (zbC rec1 l6 i7 r15 n) i37)) else (if zA l6.length r15.1.length 16 then ((zav i7 1).bind fun i43 =>
 rec1 (l6 ++ r15.1) i43) else none)

def zbD (x_l : List Str) : Nat → (List Str) → Int → Option (List Str × Int)
 | 0, _, _ => none
 | n + 1, l6, i7 =>
 if (decide (i7 < (x_l.length : Int))) then ((lAt x_l i7).bind fun x11 =>
 (zeR x11).bind fun r15 =>
 if (!(r15.2 == 0)) then (some ([], r15.2)) else (zbC (zbD x_l n) l6 i7 r15 fuel 0)) else (some (l6, 0))

def zfb (x_l : List Str) : Option (List Str × Int) :=
 zbD x_l fuel [] 0

def z6 (t15 : Bool) : Option (api_Frame × Int) :=
 if t15 then (some (((⟨0, 0⟩ : api_Frame), 30))) else (some (((⟨3, 0⟩ : api_Frame), 0)))

def zbU (x_r : length_reader) (x_l : List Str) : Option (api_Frame × Int) :=
 (zfb x_l).bind fun r4 =>
 if (!(r4.2 == 0)) then (z6 true) else (if (x_r.f_minor == 0) then (z6 true) else (if (!((r4.1.length : Int) == 1)) then (z6 true) else ((lAt r4.1 0).bind fun x11 =>
 (zgw x11 [99, 104, 117, 110, 107, 101, 100]).bind fun r14 =>
 z6 (!r14))))

def zT (rec2 : Int → Int → Option (api_Frame × Int)) (i25 : Int) (r33 : Int × Int) (t37 : Bool) : Option (api_Frame × Int) :=
 if t37 then (some (((⟨0, 0⟩ : api_Frame), 28))) else ((zav i25 1).bind fun i42 =>
 rec2 r33.1 i42)

def zp (rec1 : Int → Int → Option (api_Frame × Int)) (i7 : Int) (r15 : List Str × Int) : Nat → Int → Int → Option (api_Frame × Int)
 | 0, _, _ => none
 | n + 1, i24, i25 =>
 if (decide (i25 < (r15.1.length : Int))) then ((lAt r15.1 i25).bind fun x29 =>
 (zbl x29 1099511627776).bind fun r33 =>
 if (!(r33.2 == 0)) then (zT (zp rec1 i7 r15 n) i25 r33 true) else (if (decide (0 ≤ i24)) then (zT (zp rec1 i7 r15 n) i25 r33 (!(r33.1 == i24))) else (zT (zp rec1 i7 r15 n) i25 r33 false))) else ((zav i7 1).bind fun i44 =>
 rec1 i24 i44)

def zG (x_l : List Str) : Nat → Int → Int → Option (api_Frame × Int)
 | 0, _, _ => none
 | n + 1, i6, i7 =>
 if (decide (i7 < (x_l.length : Int))) then ((lAt x_l i7).bind fun x11 =>
 (zeR x11).bind fun r15 =>
 if (!(r15.2 == 0)) then (some (((⟨0, 0⟩ : api_Frame), 28))) else (zp (zG x_l n) i7 r15 fuel i6 0)) else (if (decide (i6 < 0)) then (some (((⟨0, 0⟩ : api_Frame), 28))) else (some (((⟨2, i6⟩ : api_Frame), 0))))

def zbu (x_r : length_reader) (x_l : List Str) : Option (api_Frame × Int) :=
 zG x_l fuel (-1) 0

def zdS (x_h : api_Head) (x_none : Int) (r4 : bag_Bag) (r10 : List Str) (r13 : List Str) (t18 : Bool) : Option (api_Frame × Int) :=
 if t18 then (some (((⟨0, 0⟩ : api_Frame), 29))) else (if (decide (0 < (r10.length : Int))) then ((zbU (⟨r4, x_h.Minor⟩ : length_reader) r10).bind fun r23 =>
 some (r23.1, r23.2)) else (if (decide (0 < (r13.length : Int))) then ((zbu (⟨r4, x_h.Minor⟩ : length_reader) r13).bind fun r27 =>
 some (r27.1, r27.2)) else (some (((⟨x_none, 0⟩ : api_Frame), 0)))))

def zhw (x_h : api_Head) (x_none : Int) : Option (api_Frame × Int) :=
 (zkT x_h.Fields).bind fun r4 =>
 (zcD r4 [84, 114, 97, 110, 115, 102, 101, 114, 45, 69, 110, 99, 111, 100, 105, 110, 103]).bind fun r10 =>
 (zcD r4 [67, 111, 110, 116, 101, 110, 116, 45, 76, 101, 110, 103, 116, 104]).bind fun r13 =>
 if (decide (0 < (r10.length : Int))) then (zdS x_h x_none r4 r10 r13 (decide (0 < (r13.length : Int)))) else (zdS x_h x_none r4 r10 r13 false)

def zfW (x_h : api_Head) : Option (api_Frame × Int) :=
 (zhw x_h 1).bind fun r4 =>
 some (r4.1, r4.2)

def zac (t7 : Bool) : Option Bool :=
 some t7

def zd4 (x_method : Str) (x_code : Int) : Option Bool :=
 if (x_method == [72, 69, 65, 68]) then (zac true) else (if (decide (x_code < 200)) then (zac true) else (if (x_code == 204) then (zac true) else (if (x_code == 304) then (zac true) else (if (x_method == [67, 79, 78, 78, 69, 67, 84]) then (zac (decide (x_code < 300))) else (zac false)))))

def zfm (x_method : Str) (x_h : api_Head) : Option (api_Frame × Int) :=
 (zd4 x_method x_h.Code).bind fun r4 =>
 if r4 then (some (((⟨1, 0⟩ : api_Frame), 0))) else ((zhw x_h 4).bind fun r9 =>
 some (r9.1, r9.2))

def zdf (x_method : Str) (x_h : api_Head) : Option (api_Frame × Int) :=
 if (x_h.Kind == 1) then ((zfW x_h).bind fun r6 =>
 some (r6.1, r6.2)) else ((zfm x_method x_h).bind fun r9 =>
 some (r9.1, r9.2))

def zfX (x_limit : Int) (t3 : Bool) : Option (Option dechunk_Decoder × Int) :=
 if t3 then (some (none, 1)) else (some ((some (⟨x_limit, 0, [], 0, 0, 0, []⟩ : dechunk_Decoder), 0)))

def zh9 (x_limit : Int) : Option (Option dechunk_Decoder × Int) :=
 if (decide (x_limit < 0)) then (zfX x_limit true) else (zfX x_limit (decide (65536 < x_limit)))

def zgV (x_a0 : api_Frame) (t26 : Bool) : Option (Option (Bool × body_Body) × Int) :=
 some ((some (false, (⟨default, x_a0, x_a0.N, t26, false⟩ : body_Body)), 0))

def zia (x_a0 : api_Frame) : Option (Option (Bool × body_Body) × Int) :=
 if (x_a0.Kind == 1) then (zgV x_a0 true) else (if (x_a0.Kind == 2) then (zgV x_a0 (x_a0.N == 0)) else (zgV x_a0 false))

def zeA (x_a0 : api_Frame) (t16 : Bool) : Option (Option (Bool × body_Body) × Int) :=
 if t16 then (some (none, 1)) else (if (x_a0.Kind == 3) then (zia x_a0) else (zia x_a0))

def zki (x_a0 : api_Frame) (i11 : Int) : Option (Option (Bool × body_Body) × Int) :=
 if (!(i11 == 0)) then (zeA x_a0 true) else (if (decide (x_a0.Kind < 1)) then (zeA x_a0 true) else (if (decide (4 < x_a0.Kind)) then (zeA x_a0 true) else (if (decide (x_a0.N < 0)) then (zeA x_a0 true) else (zeA x_a0 (decide (1099511627776 < x_a0.N))))))

def zgW (x_a0 : api_Frame) (i30 : Int) (i31 : Int) (l34 : List UInt8) (i35 : Int) (i36 : Int) (i37 : Int) (l40 : List api_Field) (t55 : Bool) : Option (Option (Bool × body_Body) × Int) :=
 some ((some (true, (⟨(⟨i30, i31, l34, i35, i36, i37, l40⟩ : dechunk_Decoder), x_a0, x_a0.N, t55, false⟩ : body_Body)), 0))

def zkj (x_a0 : api_Frame) (i30 : Int) (i31 : Int) (l34 : List UInt8) (i35 : Int) (i36 : Int) (i37 : Int) (l40 : List api_Field) : Option (Option (Bool × body_Body) × Int) :=
 if (x_a0.Kind == 1) then (zgW x_a0 i30 i31 l34 i35 i36 i37 l40 true) else (if (x_a0.Kind == 2) then (zgW x_a0 i30 i31 l34 i35 i36 i37 l40 (x_a0.N == 0)) else (zgW x_a0 i30 i31 l34 i35 i36 i37 l40 false))

def zfY (x_a0 : api_Frame) (t59 : Bool) : Option (Option (Bool × body_Body) × Int) :=
 some ((some (false, (⟨default, x_a0, x_a0.N, t59, false⟩ : body_Body)), 0))

def zkk (x_a0 : api_Frame) : Option (Option (Bool × body_Body) × Int) :=
 if (x_a0.Kind == 1) then (zfY x_a0 true) else (if (x_a0.Kind == 2) then (zfY x_a0 (x_a0.N == 0)) else (zfY x_a0 false))

def zeB (x_a0 : api_Frame) (i30 : Int) (i31 : Int) (l34 : List UInt8) (i35 : Int) (i36 : Int) (i37 : Int) (l40 : List api_Field) (t45 : Bool) : Option (Option (Bool × body_Body) × Int) :=
 if t45 then (some (none, 1)) else (if (x_a0.Kind == 3) then (zkj x_a0 i30 i31 l34 i35 i36 i37 l40) else (zkk x_a0))

def zgX (x_a0 : api_Frame) (i29 : Int) (i30 : Int) (i31 : Int) (l34 : List UInt8) (i35 : Int) (i36 : Int) (i37 : Int) (l40 : List api_Field) : Option (Option (Bool × body_Body) × Int) :=
 if (!(i29 == 0)) then (zeB x_a0 i30 i31 l34 i35 i36 i37 l40 true) else (if (decide (x_a0.Kind < 1)) then (zeB x_a0 i30 i31 l34 i35 i36 i37 l40 true) else (if (decide (4 < x_a0.Kind)) then (zeB x_a0 i30 i31 l34 i35 i36 i37 l40 true) else (if (decide (x_a0.N < 0)) then (zeB x_a0 i30 i31 l34 i35 i36 i37 l40 true) else (zeB x_a0 i30 i31 l34 i35 i36 i37 l40 (decide (1099511627776 < x_a0.N))))))

def zfc (x_a0 : api_Frame) (x_a1 : Int) : Option (Option (Bool × body_Body) × Int) :=
 (zh9 x_a1).bind fun r3 =>
 zlH r3.1 (zki x_a0 r3.2) (fun x5 => zgX x_a0 r3.2 x5.f_limit x5.f_at x5.f_line x5.f_left x5.f_sum x5.f_spent x5.f_trailers)

def zdw (x_b : body_Body) : Option Bool :=
 some x_b.f_done

def zan (x_d : dechunk_Decoder) (x_s : Str) (i7 : Int) (i8 : Int) : Option (Str × dechunk_Decoder) :=
 (sTo x_s (min x_d.f_left (x_s.length : Int))).bind fun s9 =>
 some ((s9, (⟨x_d.f_limit, i7, x_d.f_line, i8, x_d.f_sum, x_d.f_spent, x_d.f_trailers⟩ : dechunk_Decoder)))

def zbV (x_d : dechunk_Decoder) (x_s : Str) : Option (Str × dechunk_Decoder) :=
 (zdZ x_d.f_left (min x_d.f_left (x_s.length : Int))).bind fun i3 =>
 if (i3 == 0) then (zan x_d x_s 2 2) else (zan x_d x_s x_d.f_at i3)

def zbJ (x_d : dechunk_Decoder) (i10 : Int) (i14 : Int) : Option (Int × dechunk_Decoder) :=
 some ((0, (⟨x_d.f_limit, i14, x_d.f_line, i10, x_d.f_sum, x_d.f_spent, x_d.f_trailers⟩ : dechunk_Decoder)))

def zbK (x_d : dechunk_Decoder) (x_b : UInt8) (b5 : UInt8) : Option (Int × dechunk_Decoder) :=
 if (!(x_b == b5)) then (some (31, x_d)) else ((zdZ x_d.f_left 1).bind fun i10 =>
 if (i10 == 0) then (zbJ x_d i10 0) else (zbJ x_d i10 x_d.f_at))

def zek (x_d : dechunk_Decoder) (x_b : UInt8) : Option (Int × dechunk_Decoder) :=
 if (x_d.f_left == 1) then (zbK x_d x_b 10) else (zbK x_d x_b 13)

def zgY (x_s : Str) (x_most : Int) : Option (Int × Int) :=
 (zeM x_s 16 x_most zap).bind fun r2 =>
 some (r2.1, r2.2)

def zcF (r9 : Int × Int) (l14 : List api_Attr) (t23 : Bool) : Option (Int × List api_Attr × Int) :=
 if t23 then (some (0, [], 31)) else (if (!(r9.2 == 0)) then (some (0, [], r9.2)) else (some (r9.1, l14, 0)))

def zcG (r6 : Str × scan_Scanner) (r9 : Int × Int) : Nat → (List api_Attr) → Option (Int × List api_Attr × Int)
 | 0, _ => none
 | n + 1, l14 =>
 (ze r6.2 59).bind fun r15 =>
 if r15.1 then (none) else ((zah r15.2).bind fun r21 =>
 if (!r21) then (zcF r9 l14 true) else (zcF r9 l14 (r9.2 == 2)))

def zd5 (x_s : Str) : Option (Int × List api_Attr × Int) :=
 (zfR x_s).bind fun r2 =>
 (zS r2 zap).bind fun r6 =>
 (zgY r6.1 1099511627776).bind fun r9 =>
 zcG r6 r9 fuel []

def zaZ (x_d : dechunk_Decoder) (x_s : Str) : Option (Int × dechunk_Decoder) :=
 (zd5 x_s).bind fun r2 =>
 if (!(r2.2.2 == 0)) then (some (r2.2.2, x_d)) else ((zdZ 1099511627776 x_d.f_sum).bind fun i9 =>
 if (decide (i9 < r2.1)) then (some (7, x_d)) else (if (r2.1 == 0) then (some ((0, (⟨x_d.f_limit, 3, x_d.f_line, x_d.f_left, x_d.f_sum, x_d.f_spent, x_d.f_trailers⟩ : dechunk_Decoder)))) else ((zav x_d.f_sum r2.1).bind fun i19 =>
 some ((0, (⟨x_d.f_limit, 1, x_d.f_line, r2.1, i19, x_d.f_spent, x_d.f_trailers⟩ : dechunk_Decoder))))))

def za0 (x_d : dechunk_Decoder) (x_s : Str) : Option (Bool × Int × dechunk_Decoder) :=
 if (x_s == []) then (some (true, 0, x_d)) else ((zbp x_s).bind fun r6 =>
 if (!(r6.2 == 0)) then (some (false, r6.2, x_d)) else (if (decide (100 ≤ (x_d.f_trailers.length : Int))) then (some (false, 3, x_d)) else (if zA x_d.f_trailers.length 1 32 then (some ((false, 0, (⟨x_d.f_limit, x_d.f_at, x_d.f_line, x_d.f_left, x_d.f_sum, x_d.f_spent, x_d.f_trailers ++ [r6.1]⟩ : dechunk_Decoder)))) else none)))

def zai (x_a0 : dechunk_Decoder) (x_a1 : UInt8) (i5 : Int) (t12 : Bool) (t14 : Bool) : Option (Bool × Int × dechunk_Decoder) :=
 if t14 then (some ((false, 3, (⟨x_a0.f_limit, x_a0.f_at, x_a0.f_line, x_a0.f_left, x_a0.f_sum, i5, x_a0.f_trailers⟩ : dechunk_Decoder)))) else (if (!((x_a1 == 10) == t12)) then (some ((false, 24, (⟨x_a0.f_limit, x_a0.f_at, x_a0.f_line, x_a0.f_left, x_a0.f_sum, i5, x_a0.f_trailers⟩ : dechunk_Decoder)))) else (if (!(x_a1 == 10)) then (if zA x_a0.f_line.length 1 1 then (some ((false, 0, (⟨x_a0.f_limit, x_a0.f_at, x_a0.f_line ++ [x_a1], x_a0.f_left, x_a0.f_sum, i5, x_a0.f_trailers⟩ : dechunk_Decoder)))) else none) else ((zdZ (x_a0.f_line.length : Int) 1).bind fun i29 =>
 (lTo x_a0.f_line i29).bind fun l31 =>
 if (x_a0.f_at == 0) then ((zaZ (⟨x_a0.f_limit, x_a0.f_at, [], x_a0.f_left, x_a0.f_sum, i5, x_a0.f_trailers⟩ : dechunk_Decoder) l31).bind fun r38 =>
 some (false, r38.1, r38.2)) else ((za0 (⟨x_a0.f_limit, x_a0.f_at, [], x_a0.f_left, x_a0.f_sum, i5, x_a0.f_trailers⟩ : dechunk_Decoder) l31).bind fun r46 =>
 some (r46.1, r46.2.1, r46.2.2)))))

def zU (x_a0 : dechunk_Decoder) (x_a1 : UInt8) (i5 : Int) (t12 : Bool) : Option (Bool × Int × dechunk_Decoder) :=
 if (decide (4098 ≤ (x_a0.f_line.length : Int))) then (zai x_a0 x_a1 i5 t12 true) else (zai x_a0 x_a1 i5 t12 (decide (x_a0.f_limit < i5)))

def zu (x_a0 : dechunk_Decoder) (x_a1 : UInt8) (i5 : Int) : Option (Bool × Int × dechunk_Decoder) :=
 if (decide (0 < (x_a0.f_line.length : Int))) then ((zdZ (x_a0.f_line.length : Int) 1).bind fun i8 =>
 (lAt x_a0.f_line i8).bind fun x9 =>
 zU x_a0 x_a1 i5 (x9 == 13)) else (zU x_a0 x_a1 i5 false)

def zC (x_a0 : dechunk_Decoder) (x_a1 : UInt8) : Option (Bool × Int × dechunk_Decoder) :=
 if (x_a0.f_at == 3) then ((zav x_a0.f_spent 1).bind fun i4 =>
 zu x_a0 x_a1 i4) else (zu x_a0 x_a1 x_a0.f_spent)

def zr (x_d : dechunk_Decoder) (x_s : Str) : Option (Int × Str × Bool × Int × dechunk_Decoder) :=
 if (x_d.f_at == 1) then ((zbV x_d x_s).bind fun r5 =>
 some (((r5.1.length : Int), r5.1, false, 0, r5.2))) else (if (x_d.f_at == 2) then ((sAt x_s 0).bind fun b15 =>
 (zek x_d b15).bind fun r16 =>
 some (1, [], false, r16.1, r16.2)) else ((sAt x_s 0).bind fun b24 =>
 (zC x_d b24).bind fun r25 =>
 some (1, [], r25.1, r25.2.1, r25.2.2)))

def zb2 (i44 : Int) (t45 : Bool) (i46 : Int) (l49 : List UInt8) (i50 : Int) (i55 : Int) (i56 : Int) (i57 : Int) (l60 : List api_Field) (i64 : Int) (l67 : List UInt8) : Option (Int × Str × Bool × Int × dechunk_Decoder) :=
 some ((i44, l49, t45, i46, (⟨i50, i64, l67, i55, i56, i57, l60⟩ : dechunk_Decoder)))

def zb3 (i44 : Int) (t45 : Bool) (i46 : Int) (l49 : List UInt8) (i50 : Int) (i51 : Int) (l54 : List UInt8) (i55 : Int) (i56 : Int) (i57 : Int) (l60 : List api_Field) (t62 : Bool) : Option (Int × Str × Bool × Int × dechunk_Decoder) :=
 if t62 then (zb2 i44 t45 i46 l49 i50 i55 i56 i57 l60 4 []) else (zb2 i44 t45 i46 l49 i50 i55 i56 i57 l60 i51 l54)

def zdx (i44 : Int) (t45 : Bool) (i46 : Int) (l49 : List UInt8) (i50 : Int) (i51 : Int) (l54 : List UInt8) (i55 : Int) (i56 : Int) (i57 : Int) (l60 : List api_Field) : Option (Int × Str × Bool × Int × dechunk_Decoder) :=
 if t45 then (zb3 i44 t45 i46 l49 i50 i51 l54 i55 i56 i57 l60 true) else (zb3 i44 t45 i46 l49 i50 i51 l54 i55 i56 i57 l60 (!(i46 == 0)))

def zao (rec1 : (List UInt8) → Int → Int → (List UInt8) → Int → Int → Int → (List api_Field) → Int → Bool → Int → Option (Int × Str × Bool × Int × dechunk_Decoder)) (x_s : Str) (l10 : List UInt8) (i11 : Int) (i12 : Int) (l15 : List UInt8) (i16 : Int) (i17 : Int) (i18 : Int) (l21 : List api_Field) (i22 : Int) (t23 : Bool) (i24 : Int) (t27 : Bool) : Option (Int × Str × Bool × Int × dechunk_Decoder) :=
 if t27 then ((ze4 x_s i22).bind fun s31 =>
 (zr (⟨i11, i12, l15, i16, i17, i18, l21⟩ : dechunk_Decoder) s31).bind fun r32 =>
 if zA l10.length r32.2.1.length 1 then ((zav i22 r32.1).bind fun i43 =>
 rec1 (l10 ++ r32.2.1) r32.2.2.2.2.f_limit r32.2.2.2.2.f_at r32.2.2.2.2.f_line r32.2.2.2.2.f_left r32.2.2.2.2.f_sum r32.2.2.2.2.f_spent r32.2.2.2.2.f_trailers i43 r32.2.2.1 r32.2.2.2.1) else none) else (zdx i22 t23 i24 l10 i11 i12 l15 i16 i17 i18 l21)

def zt (x_s : Str) : Nat → (List UInt8) → Int → Int → (List UInt8) → Int → Int → Int → (List api_Field) → Int → Bool → Int → Option (Int × Str × Bool × Int × dechunk_Decoder)
 | 0, _, _, _, _, _, _, _, _, _, _, _ => none
 | n + 1, l10, i11, i12, l15, i16, i17, i18, l21, i22, t23, i24 =>
 if (decide (i22 < (x_s.length : Int))) then (if (!t23) then (zao (zt x_s n) x_s l10 i11 i12 l15 i16 i17 i18 l21 i22 t23 i24 (i24 == 0)) else (zao (zt x_s n) x_s l10 i11 i12 l15 i16 i17 i18 l21 i22 t23 i24 false)) else (zao (zt x_s n) x_s l10 i11 i12 l15 i16 i17 i18 l21 i22 t23 i24 false)

def zH (x_d : dechunk_Decoder) (x_s : Str) : Option (Int × Str × Bool × Int × dechunk_Decoder) :=
 if (x_d.f_at == 4) then (some (0, [], false, 8, x_d)) else (zt x_s fuel [] x_d.f_limit x_d.f_at x_d.f_line x_d.f_left x_d.f_sum x_d.f_spent x_d.f_trailers 0 false 0)

def zem (x_a0 : body_Body) (x_a1 : Str) (i26 : Int) (i27 : Int) (t28 : Bool) : Option (Int × Str × Bool × Int × body_Body) :=
 (sTo x_a1 i26).bind fun s29 =>
 some ((i26, s29, t28, 0, (⟨x_a0.Decoder, x_a0.f_frame, i27, t28, x_a0.f_bad⟩ : body_Body)))

def zen (x_a0 : body_Body) (x_a1 : Str) (t4 : Bool) : Option (Int × Str × Bool × Int × body_Body) :=
 if t4 then (some (0, [], false, 8, x_a0)) else (if (x_a0.f_frame.Kind == 3) then ((zH x_a0.Decoder x_a1).bind fun r12 =>
 some ((r12.1, r12.2.1, r12.2.2.1, r12.2.2.2.1, (⟨r12.2.2.2.2, x_a0.f_frame, x_a0.f_left, r12.2.2.1, !(r12.2.2.2.1 == 0)⟩ : body_Body)))) else (if (x_a0.f_frame.Kind == 2) then ((zdZ x_a0.f_left (min (x_a1.length : Int) x_a0.f_left)).bind fun i24 =>
 zem x_a0 x_a1 (min (x_a1.length : Int) x_a0.f_left) i24 (i24 == 0)) else (zem x_a0 x_a1 (x_a1.length : Int) x_a0.f_left x_a0.f_done)))

def zfZ (x_a0 : body_Body) (x_a1 : Str) : Option (Int × Str × Bool × Int × body_Body) :=
 if x_a0.f_done then (zen x_a0 x_a1 true) else (zen x_a0 x_a1 x_a0.f_bad)

def zeS (x_b : body_Body) (t8 : Bool) : Option (Bool × Int × body_Body) :=
 some ((true, 0, (⟨x_b.Decoder, x_b.f_frame, x_b.f_left, t8, x_b.f_bad⟩ : body_Body)))

def zir (x_b : body_Body) : Option (Bool × Int × body_Body) :=
 if (x_b.f_frame.Kind == 4) then (zeS x_b true) else (if (!x_b.f_done) then (some (false, 6, x_b)) else (zeS x_b x_b.f_done))

def zbL (x_d : dechunk_Decoder) : Option (List api_Field) :=
 if zA 0 x_d.f_trailers.length 32 then (some x_d.f_trailers) else none

def zdT (x_b : body_Body) : Option (List api_Field) :=
 (zbL x_b.Decoder).bind fun r4 =>
 some r4

def za7 (x_a0 : message_reader) (i17 : Int) (s34 : Str) (i44 : Int) (i45 : Int) (i46 : Int) (t47 : Bool) (t48 : Bool) (i49 : Int) (i50 : Int) (l53 : List UInt8) (i54 : Int) (i55 : Int) (i56 : Int) (l59 : List api_Field) : Option (Int × Int × message_reader) :=
 (zdw ((⟨(⟨i49, i50, l53, i54, i55, i56, l59⟩ : dechunk_Decoder), (⟨i44, i45⟩ : api_Frame), i46, t47, t48⟩ : body_Body))).bind fun r60 =>
 if (!r60) then (some ((0, 6, (⟨(⟨(⟨i49, i50, l53, i54, i55, i56, l59⟩ : dechunk_Decoder), (⟨i44, i45⟩ : api_Frame), i46, t47, t48⟩ : body_Body), (⟨x_a0.f_m.Head, x_a0.f_m.Frame, s34, x_a0.f_m.Trailers⟩ : api_Message)⟩ : message_reader)))) else ((zdT ((⟨(⟨i49, i50, l53, i54, i55, i56, l59⟩ : dechunk_Decoder), (⟨i44, i45⟩ : api_Frame), i46, t47, t48⟩ : body_Body))).bind fun r65 =>
 some ((i17, 0, (⟨(⟨(⟨i49, i50, l53, i54, i55, i56, l59⟩ : dechunk_Decoder), (⟨i44, i45⟩ : api_Frame), i46, t47, t48⟩ : body_Body), (⟨x_a0.f_m.Head, x_a0.f_m.Frame, s34, r65⟩ : api_Message)⟩ : message_reader))))

def za8 (x_a0 : message_reader) (i17 : Int) (i18 : Int) (i19 : Int) (i20 : Int) (t21 : Bool) (t22 : Bool) (i23 : Int) (i24 : Int) (l27 : List UInt8) (i28 : Int) (i29 : Int) (i30 : Int) (l33 : List api_Field) (s34 : Str) (t36 : Bool) : Option (Int × Int × message_reader) :=
 if t36 then ((zir ((⟨(⟨i23, i24, l27, i28, i29, i30, l33⟩ : dechunk_Decoder), (⟨i18, i19⟩ : api_Frame), i20, t21, t22⟩ : body_Body))).bind fun r38 =>
 za7 x_a0 i17 s34 r38.2.2.f_frame.Kind r38.2.2.f_frame.N r38.2.2.f_left r38.2.2.f_done r38.2.2.f_bad r38.2.2.Decoder.f_limit r38.2.2.Decoder.f_at r38.2.2.Decoder.f_line r38.2.2.Decoder.f_left r38.2.2.Decoder.f_sum r38.2.2.Decoder.f_spent r38.2.2.Decoder.f_trailers) else (za7 x_a0 i17 s34 i18 i19 i20 t21 t22 i23 i24 l27 i28 i29 i30 l33)

def za9 (x_a0 : message_reader) (x_a2 : Bool) (i17 : Int) (i18 : Int) (i19 : Int) (i20 : Int) (t21 : Bool) (t22 : Bool) (i23 : Int) (i24 : Int) (l27 : List UInt8) (i28 : Int) (i29 : Int) (i30 : Int) (l33 : List api_Field) (s34 : Str) : Option (Int × Int × message_reader) :=
 if (x_a0.f_m.Frame.Kind == 4) then (za8 x_a0 i17 i18 i19 i20 t21 t22 i23 i24 l27 i28 i29 i30 l33 s34 x_a2) else (za8 x_a0 i17 i18 i19 i20 t21 t22 i23 i24 l27 i28 i29 i30 l33 s34 false)

def zbh (x_a0 : message_reader) (x_a1 : Str) (x_a2 : Bool) : Option (Int × Int × message_reader) :=
 (zdw x_a0.Body).bind fun r3 =>
 if (!r3) then ((zfZ x_a0.Body x_a1).bind fun r6 =>
 if (!(r6.2.2.2.1 == 0)) then (some ((0, r6.2.2.2.1, (⟨r6.2.2.2.2, x_a0.f_m⟩ : message_reader)))) else (za9 x_a0 x_a2 r6.1 r6.2.2.2.2.f_frame.Kind r6.2.2.2.2.f_frame.N r6.2.2.2.2.f_left r6.2.2.2.2.f_done r6.2.2.2.2.f_bad r6.2.2.2.2.Decoder.f_limit r6.2.2.2.2.Decoder.f_at r6.2.2.2.2.Decoder.f_line r6.2.2.2.2.Decoder.f_left r6.2.2.2.2.Decoder.f_sum r6.2.2.2.2.Decoder.f_spent r6.2.2.2.2.Decoder.f_trailers r6.2.1)) else (za9 x_a0 x_a2 0 x_a0.Body.f_frame.Kind x_a0.Body.f_frame.N x_a0.Body.f_left x_a0.Body.f_done x_a0.Body.f_bad x_a0.Body.Decoder.f_limit x_a0.Body.Decoder.f_at x_a0.Body.Decoder.f_line x_a0.Body.Decoder.f_left x_a0.Body.Decoder.f_sum x_a0.Body.Decoder.f_spent x_a0.Body.Decoder.f_trailers x_a0.f_m.Body)

def zbi (x_b : body_Body) : Option Bool :=
 some x_b.f_done

def zdy (x_s : Str) : Option (Int × Str × Bool × Int) :=
 some (0, [], false, 5)

def zQ (x_a0 : body_Body) (x_a1 : Str) (i21 : Int) (i22 : Int) (t23 : Bool) : Option (Int × Str × Bool × Int × body_Body) :=
 (sTo x_a1 i21).bind fun s24 =>
 some ((i21, s24, t23, 0, (⟨default, x_a0.f_frame, i22, t23, x_a0.f_bad⟩ : body_Body)))

def zba (x_a0 : body_Body) (x_a1 : Str) (t4 : Bool) : Option (Int × Str × Bool × Int × body_Body) :=
 if t4 then (some ((0, [], false, 8, (⟨default, x_a0.f_frame, x_a0.f_left, x_a0.f_done, x_a0.f_bad⟩ : body_Body)))) else (if (x_a0.f_frame.Kind == 3) then ((zdy x_a1).bind fun r12 =>
 some ((r12.1, r12.2.1, r12.2.2.1, r12.2.2.2, (⟨default, x_a0.f_frame, x_a0.f_left, r12.2.2.1, !(r12.2.2.2 == 0)⟩ : body_Body)))) else (if (x_a0.f_frame.Kind == 2) then ((zdZ x_a0.f_left (min (x_a1.length : Int) x_a0.f_left)).bind fun i19 =>
 zQ x_a0 x_a1 (min (x_a1.length : Int) x_a0.f_left) i19 (i19 == 0)) else (zQ x_a0 x_a1 (x_a1.length : Int) x_a0.f_left x_a0.f_done)))

def zci (x_a0 : body_Body) (x_a1 : Str) : Option (Int × Str × Bool × Int × body_Body) :=
 if x_a0.f_done then (zba x_a0 x_a1 true) else (zba x_a0 x_a1 x_a0.f_bad)

def zcK (x_b : body_Body) (t8 : Bool) : Option (Bool × Int × body_Body) :=
 some ((true, 0, (⟨default, x_b.f_frame, x_b.f_left, t8, x_b.f_bad⟩ : body_Body)))

def zft (x_b : body_Body) : Option (Bool × Int × body_Body) :=
 if (x_b.f_frame.Kind == 4) then (zcK x_b true) else (if (!x_b.f_done) then (some ((false, 6, (⟨default, x_b.f_frame, x_b.f_left, x_b.f_done, x_b.f_bad⟩ : body_Body)))) else (zcK x_b x_b.f_done))

def zcl : Option (List api_Field) :=
 some []

def zdz (x_b : body_Body) : Option (List api_Field) :=
 (zcl).bind fun r4 =>
 some r4

def zaE (x_a0 : message_reader) (i13 : Int) (s19 : Str) (i25 : Int) (i26 : Int) (i27 : Int) (t28 : Bool) (t29 : Bool) : Option (Int × Int × message_reader) :=
 (zbi ((⟨default, (⟨i25, i26⟩ : api_Frame), i27, t28, t29⟩ : body_Body))).bind fun r30 =>
 if (!r30) then (some ((0, 6, (⟨(⟨default, (⟨i25, i26⟩ : api_Frame), i27, t28, t29⟩ : body_Body), (⟨x_a0.f_m.Head, x_a0.f_m.Frame, s19, x_a0.f_m.Trailers⟩ : api_Message)⟩ : message_reader)))) else ((zdz ((⟨default, (⟨i25, i26⟩ : api_Frame), i27, t28, t29⟩ : body_Body))).bind fun r35 =>
 some ((i13, 0, (⟨(⟨default, (⟨i25, i26⟩ : api_Frame), i27, t28, t29⟩ : body_Body), (⟨x_a0.f_m.Head, x_a0.f_m.Frame, s19, r35⟩ : api_Message)⟩ : message_reader))))

def zaF (x_a0 : message_reader) (i13 : Int) (i14 : Int) (i15 : Int) (i16 : Int) (t17 : Bool) (t18 : Bool) (s19 : Str) (t21 : Bool) : Option (Int × Int × message_reader) :=
 if t21 then ((zft ((⟨default, (⟨i14, i15⟩ : api_Frame), i16, t17, t18⟩ : body_Body))).bind fun r23 =>
 zaE x_a0 i13 s19 r23.2.2.f_frame.Kind r23.2.2.f_frame.N r23.2.2.f_left r23.2.2.f_done r23.2.2.f_bad) else (zaE x_a0 i13 s19 i14 i15 i16 t17 t18)

def zaG (x_a0 : message_reader) (x_a2 : Bool) (i13 : Int) (i14 : Int) (i15 : Int) (i16 : Int) (t17 : Bool) (t18 : Bool) (s19 : Str) : Option (Int × Int × message_reader) :=
 if (x_a0.f_m.Frame.Kind == 4) then (zaF x_a0 i13 i14 i15 i16 t17 t18 s19 x_a2) else (zaF x_a0 i13 i14 i15 i16 t17 t18 s19 false)

def zB (x_a0 : message_reader) (x_a1 : Str) (x_a2 : Bool) : Option (Int × Int × message_reader) :=
 (zbi (⟨default, x_a0.Body.f_frame, x_a0.Body.f_left, x_a0.Body.f_done, x_a0.Body.f_bad⟩ : body_Body)).bind fun r3 =>
 if (!r3) then ((zci (⟨default, x_a0.Body.f_frame, x_a0.Body.f_left, x_a0.Body.f_done, x_a0.Body.f_bad⟩ : body_Body) x_a1).bind fun r6 =>
 if (!(r6.2.2.2.1 == 0)) then (some ((0, r6.2.2.2.1, (⟨(⟨default, r6.2.2.2.2.f_frame, r6.2.2.2.2.f_left, r6.2.2.2.2.f_done, r6.2.2.2.2.f_bad⟩ : body_Body), x_a0.f_m⟩ : message_reader)))) else (zaG x_a0 x_a2 r6.1 r6.2.2.2.2.f_frame.Kind r6.2.2.2.2.f_frame.N r6.2.2.2.2.f_left r6.2.2.2.2.f_done r6.2.2.2.2.f_bad r6.2.1)) else (zaG x_a0 x_a2 0 x_a0.Body.f_frame.Kind x_a0.Body.f_frame.N x_a0.Body.f_left x_a0.Body.f_done x_a0.Body.f_bad x_a0.f_m.Body)

def zgy (i11 : Int) : Option (api_Message × Int × Int) :=
 if (!(i11 == 0)) then (some (((⟨(⟨0, [], [], 0, [], 0, []⟩ : api_Head), (⟨0, 0⟩ : api_Frame), [], []⟩ : api_Message), 0, i11))) else (none)

def zdA (x_a2 : Str) (r40 : Int × Bool × Int × accum_Accum) : Option (api_Message × Int × Int) :=
 (ze4 x_a2 r40.1).bind fun s78 =>
 none

def zbE (x_a2 : Str) (x_a4 : Bool) (r40 : Int × Bool × Int × accum_Accum) (r54 : api_Head × Bool) (r59 : api_Frame × Int) (i80 : Int) (i81 : Int) (i82 : Int) (t83 : Bool) (t84 : Bool) (i85 : Int) (i86 : Int) (l89 : List UInt8) (i90 : Int) (i91 : Int) (i92 : Int) (l95 : List api_Field) : Option (api_Message × Int × Int) :=
 (ze4 x_a2 r40.1).bind fun s97 =>
 (zbh ((⟨(⟨(⟨i85, i86, l89, i90, i91, i92, l95⟩ : dechunk_Decoder), (⟨i80, i81⟩ : api_Frame), i82, t83, t84⟩ : body_Body), (⟨r54.1, r59.1, [], []⟩ : api_Message)⟩ : message_reader)) s97 x_a4).bind fun r98 =>
 if (!(r98.2.1 == 0)) then (some (((⟨(⟨0, [], [], 0, [], 0, []⟩ : api_Head), (⟨0, 0⟩ : api_Frame), [], []⟩ : api_Message), 0, r98.2.1))) else ((zav r40.1 r98.1).bind fun i113 =>
 some (r98.2.2.f_m, i113, 0))

def z7 (x_a2 : Str) (x_a4 : Bool) (r40 : Int × Bool × Int × accum_Accum) (r54 : api_Head × Bool) (r59 : api_Frame × Int) (i115 : Int) (i116 : Int) (i117 : Int) (t118 : Bool) (t119 : Bool) : Option (api_Message × Int × Int) :=
 (ze4 x_a2 r40.1).bind fun s121 =>
 (zB ((⟨(⟨default, (⟨i115, i116⟩ : api_Frame), i117, t118, t119⟩ : body_Body), (⟨r54.1, r59.1, [], []⟩ : api_Message)⟩ : message_reader)) s121 x_a4).bind fun r122 =>
 if (!(r122.2.1 == 0)) then (some (((⟨(⟨0, [], [], 0, [], 0, []⟩ : api_Head), (⟨0, 0⟩ : api_Frame), [], []⟩ : api_Message), 0, r122.2.1))) else ((zav r40.1 r122.1).bind fun i133 =>
 some (r122.2.2.f_m, i133, 0))

def zdB (x_a1 : Str) (x_a2 : Str) (x_a3 : Int) (x_a4 : Bool) (i17 : Int) (i18 : Int) (i19 : Int) (l22 : List UInt8) (i23 : Int) (t24 : Bool) (i25 : Int) (t26 : Bool) (i27 : Int) (s28 : Str) (s29 : Str) (i30 : Int) (s31 : Str) (i32 : Int) (l35 : List api_Field) : Option (api_Message × Int × Int) :=
 if (!(i17 == 0)) then (some (((⟨(⟨0, [], [], 0, [], 0, []⟩ : api_Head), (⟨0, 0⟩ : api_Frame), [], []⟩ : api_Message), 0, i17))) else ((zcs ((⟨i18, i19, l22, i23, t24, i25, t26, (⟨i27, s28, s29, i30, s31, i32, l35⟩ : api_Head)⟩ : accum_Accum)) x_a2).bind fun r40 =>
 if (!(r40.2.2.1 == 0)) then (some (((⟨(⟨0, [], [], 0, [], 0, []⟩ : api_Head), (⟨0, 0⟩ : api_Frame), [], []⟩ : api_Message), 0, r40.2.2.1))) else (if (!r40.2.1) then (some (((⟨(⟨0, [], [], 0, [], 0, []⟩ : api_Head), (⟨0, 0⟩ : api_Frame), [], []⟩ : api_Message), 0, 6))) else ((zct r40.2.2.2).bind fun r54 =>
 (zdf x_a1 r54.1).bind fun r59 =>
 if (!(r59.2 == 0)) then (some (((⟨(⟨0, [], [], 0, [], 0, []⟩ : api_Head), (⟨0, 0⟩ : api_Frame), [], []⟩ : api_Message), 0, r59.2))) else ((zfc r59.1 x_a3).bind fun r68 =>
 zlH r68.1 (zdA x_a2 r40) (fun x70 => bE x70.1 (zbE x_a2 x_a4 r40 r54 r59 x70.2.f_frame.Kind x70.2.f_frame.N x70.2.f_left x70.2.f_done x70.2.f_bad x70.2.Decoder.f_limit x70.2.Decoder.f_at x70.2.Decoder.f_line x70.2.Decoder.f_left x70.2.Decoder.f_sum x70.2.Decoder.f_spent x70.2.Decoder.f_trailers) (z7 x_a2 x_a4 r40 r54 r59 x70.2.f_frame.Kind x70.2.f_frame.N x70.2.f_left x70.2.f_done x70.2.f_bad))))))

def zw (x_a0 : Int) (x_a1 : Str) (x_a2 : Str) (x_a3 : Int) (x_a4 : Bool) : Option (api_Message × Int × Int) :=
 (zkS x_a0 x_a3).bind fun r3 =>
 zlH r3.1 (zgy r3.2) (fun x5 => zdB x_a1 x_a2 x_a3 x_a4 r3.2 x5.f_kind x5.f_limit x5.f_buf x5.f_from x5.f_took x5.f_bad x5.f_whole x5.f_got.Kind x5.f_got.Method x5.f_got.Target x5.f_got.Code x5.f_got.Reason x5.f_got.Minor x5.f_got.Fields)

def zeT (x_s : Str) : Option Str :=
 (sTo x_s (min (x_s.length : Int) 400)).bind fun s2 =>
 some s2

def zf0 (rec1 : (List api_Field) → Int → Option api_Head) (x_h : api_Head) (r4 : Str) (r6 : Str) (r8 : Str) (l14 : List api_Field) (i15 : Int) (t17 : Bool) : Option api_Head :=
 if t17 then ((lAt x_h.Fields i15).bind fun x20 =>
 (zeT x20.Name).bind fun r23 =>
 (lAt x_h.Fields i15).bind fun x24 =>
 (zeT x24.Value).bind fun r27 =>
 if zA l14.length 1 32 then ((zav i15 1).bind fun i33 =>
 rec1 (l14 ++ [(⟨r23, r27⟩ : api_Field)]) i33) else none) else (some (⟨x_h.Kind, r4, r6, x_h.Code, r8, x_h.Minor, l14⟩ : api_Head))

def zc3 (x_h : api_Head) (r4 : Str) (r6 : Str) (r8 : Str) : Nat → (List api_Field) → Int → Option api_Head
 | 0, _, _ => none
 | n + 1, l14, i15 =>
 if (decide (i15 < (x_h.Fields.length : Int))) then (zf0 (zc3 x_h r4 r6 r8 n) x_h r4 r6 r8 l14 i15 (decide (i15 < 120))) else (zf0 (zc3 x_h r4 r6 r8 n) x_h r4 r6 r8 l14 i15 false)

def ziL (x_h : api_Head) : Option api_Head :=
 (zeT x_h.Method).bind fun r4 =>
 (zeT x_h.Target).bind fun r6 =>
 (zeT x_h.Reason).bind fun r8 =>
 zc3 x_h r4 r6 r8 fuel [] 0

def zf1 (rec1 : (List api_Field) → Int → Option (List api_Field)) (x_l : List api_Field) (l6 : List api_Field) (i7 : Int) (t9 : Bool) : Option (List api_Field) :=
 if t9 then ((lAt x_l i7).bind fun x12 =>
 (lAt x_l i7).bind fun x15 =>
 (sTo x12.Name (min (x15.Name.length : Int) 50)).bind fun s18 =>
 (lAt x_l i7).bind fun x19 =>
 (lAt x_l i7).bind fun x22 =>
 (sTo x19.Value (min (x22.Value.length : Int) 200)).bind fun s25 =>
 if zA l6.length 1 32 then ((zav i7 1).bind fun i31 =>
 rec1 (l6 ++ [(⟨s18, s25⟩ : api_Field)]) i31) else none) else (some l6)

def zc4 (x_l : List api_Field) : Nat → (List api_Field) → Int → Option (List api_Field)
 | 0, _, _ => none
 | n + 1, l6, i7 =>
 if (decide (i7 < (x_l.length : Int))) then (zf1 (zc4 x_l n) x_l l6 i7 (decide (i7 < 105))) else (zf1 (zc4 x_l n) x_l l6 i7 false)

def ziM (x_l : List api_Field) : Option (List api_Field) :=
 zc4 x_l fuel [] 0

def zgz (x_m : api_Message) : Option api_Message :=
 (ziL x_m.Head).bind fun r4 =>
 (sTo x_m.Body (min (x_m.Body.length : Int) 500)).bind fun s8 =>
 (ziM x_m.Trailers).bind fun r10 =>
 some (⟨r4, x_m.Frame, s8, r10⟩ : api_Message)

def zbF (x_sep : Str) (x_l : List Str) : Option Str :=
 (strings_Join x_l x_sep).bind fun r2 =>
 some r2

def zc5 (s14 : Str) (t30 : Bool) : Option (Str × Int) :=
 if t30 then (some ([], 20)) else (some (s14, 0))

def zaH (s14 : Str) (r15 : api_Head × Int) (t28 : Bool) : Option (Str × Int) :=
 if (!(r15.2 == 0)) then (zc5 s14 true) else (zc5 s14 (!t28))

def zb4 (x_a0 : api_Head) (s14 : Str) : Option (Str × Int) :=
 (zbo x_a0.Kind s14).bind fun r15 =>
 if (r15.2 == 1) then (some ([], r15.2)) else (if (r15.1.Method == x_a0.Method) then (if (r15.1.Target == x_a0.Target) then (if (r15.1.Minor == x_a0.Minor) then (if (r15.1.Code == x_a0.Code) then (zaH s14 r15 (r15.1.Reason == x_a0.Reason)) else (zaH s14 r15 false)) else (zaH s14 r15 false)) else (zaH s14 r15 false)) else (zaH s14 r15 false))

def zdC (x_a0 : api_Head) : Option (Str × Int) :=
 (zdQ x_a0.Minor).bind fun r3 =>
 (zjK [72, 84, 84, 80, 47, 49, 46] r3).bind fun s4 =>
 (zbF [32] ([x_a0.Method, x_a0.Target, s4] : List Str)).bind fun r7 =>
 if (x_a0.Kind == 2) then ((zdQ x_a0.Code).bind fun r11 =>
 (zbF [32] ([s4, r11, x_a0.Reason] : List Str)).bind fun r13 =>
 zb4 x_a0 r13) else (zb4 x_a0 r7)

def zdU (t11 : Bool) : Option Int :=
 if t11 then (some 25) else (some 0)

def zcP (x_f : api_Field) : Option Int :=
 (zfF x_f.Name).bind fun r3 =>
 if (!r3) then (some 21) else ((zcM zar ([x_f.Value] : List Str)).bind fun r8 =>
 if (!r8) then (zdU true) else ((zcW x_f.Value [32, 9]).bind fun r10 =>
 zdU (!(r10 == x_f.Value))))

def zeg (x_h : api_Head) : Nat → Int → Option Int
 | 0, _ => none
 | n + 1, i10 =>
 if (decide (i10 < (x_h.Fields.length : Int))) then ((lAt x_h.Fields i10).bind fun x14 =>
 (zcP x14).bind fun r19 =>
 if (!(r19 == 0)) then (some r19) else ((zav i10 1).bind fun i25 =>
 (zeg x_h n) i25)) else ((zgx x_h).bind fun r27 =>
 some r27)

def zgA (x_h : api_Head) : Option Int :=
 (zdC x_h).bind fun r3 =>
 if (!(r3.2 == 0)) then (some r3.2) else (zeg x_h fuel 0)

def zd6 (t7 : Bool) : Option Bool :=
 some t7

def zd7 (t11 : Bool) : Option Bool :=
 some t11

def zf2 (x_m : api_Message) : Option Bool :=
 if (x_m.Frame.Kind == 1) then (if (x_m.Body == []) then (zd6 ((x_m.Trailers.length : Int) == 0)) else (zd6 false)) else (if (x_m.Frame.Kind == 2) then (if ((x_m.Body.length : Int) == x_m.Frame.N) then (zd7 ((x_m.Trailers.length : Int) == 0)) else (zd7 false)) else (if (x_m.Frame.Kind == 4) then (some ((x_m.Trailers.length : Int) == 0)) else (some true)))

def zbW (x_f : api_Field) : Option (Str × Int) :=
 (zcP x_f).bind fun r3 =>
 if (!(r3 == 0)) then (some ([], r3)) else (if (x_f.Value == []) then ((zjK x_f.Name [58]).bind fun s11 =>
 some (s11, 0)) else ((zjK x_f.Name [58, 32]).bind fun s14 =>
 (zjK s14 x_f.Value).bind fun s15 =>
 some (s15, 0)))

def zb5 (x_trailers : List api_Field) : Nat → (List Str) → Int → Option (Str × Int)
 | 0, _, _ => none
 | n + 1, l7, i8 =>
 if (decide (i8 < (x_trailers.length : Int))) then ((lAt x_trailers i8).bind fun x12 =>
 (zbW x12).bind fun r17 =>
 if (!(r17.2 == 0)) then (some ([], r17.2)) else (if zA l7.length 1 16 then ((zav i8 1).bind fun i28 =>
 (zb5 x_trailers n) (l7 ++ ([r17.1] : List Str)) i28) else none)) else (if (decide (100 < (x_trailers.length : Int))) then (some ([], 3)) else (if zA l7.length 2 16 then ((zbF [13, 10] (l7 ++ ([[], []] : List Str))).bind fun r38 =>
 some (r38, 0)) else none))

def zcH (x_trailers : List api_Field) : Option (Str × Int) :=
 zb5 x_trailers fuel ([[48]] : List Str) 0

def zdD (x_m : api_Message) (t17 : Bool) : Option Int :=
 if t17 then (some 1) else ((zcH x_m.Trailers).bind fun r21 =>
 some r21.2)

def zfd (x_method : Str) (x_m : api_Message) : Option Int :=
 (zgA x_m.Head).bind fun r3 =>
 if (!(r3 == 0)) then (some r3) else ((zdf x_method x_m.Head).bind fun r9 =>
 if (!(r9.2 == 0)) then (some r9.2) else (if (!(r9.1 == x_m.Frame)) then (zdD x_m true) else ((zf2 x_m).bind fun r16 =>
 zdD x_m (!r16))))

def zkU (x_most : Int) : Option quill_Quill :=
 some (⟨[], max x_most 0⟩ : quill_Quill)

def zeU (x_q : quill_Quill) : Option Int :=
 (zdZ x_q.f_most (x_q.f_b.length : Int)).bind fun i4 =>
 some i4

def zfu (l44 : List UInt8) (i45 : Int) : Option (Int × quill_Quill) :=
 some ((0, (⟨l44, i45⟩ : quill_Quill)))

def zad (x_l : List Str) : Nat → (List UInt8) → Int → Int → Option (Int × quill_Quill)
 | 0, _, _, _ => none
 | n + 1, l27, i28, i29 =>
 if (decide (i29 < (x_l.length : Int))) then ((lAt x_l i29).bind fun x33 =>
 if zA l27.length x33.length 1 then ((zav i29 1).bind fun i41 =>
 (zad x_l n) (l27 ++ x33) i28 i41) else none) else (zfu l27 i28)

def zaq (x_q : quill_Quill) (x_l : List Str) : Nat → Int → Int → Option (Int × quill_Quill)
 | 0, _, _ => none
 | n + 1, i7, i8 =>
 if (decide (i8 < (x_l.length : Int))) then ((lAt x_l i8).bind fun x12 =>
 if (decide (i7 < (x12.length : Int))) then (some (10, x_q)) else ((zdZ i7 (x12.length : Int)).bind fun i20 =>
 (zav i8 1).bind fun i22 =>
 (zaq x_q x_l n) i20 i22)) else (zad x_l fuel x_q.f_b x_q.f_most 0)

def zfn (x_q : quill_Quill) (x_l : List Str) : Option (Int × quill_Quill) :=
 (zeU x_q).bind fun r4 =>
 zaq x_q x_l fuel r4 0

def zeV (x_q : quill_Quill) (x_l : List Str) : Option (Int × quill_Quill) :=
 if zA 0 x_l.length 16 then (if zA x_l.length 1 16 then ((zfn x_q (x_l ++ ([[13, 10]] : List Str))).bind fun r10 =>
 some (r10.1, r10.2)) else none) else none

def zbb (x_p : head_printer) (x_s : Str) : Option head_printer :=
 (zeV x_p.Quill ([x_s] : List Str)).bind fun r2 =>
 if (!(r2.1 == 0)) then (some (⟨r2.2, true⟩ : head_printer)) else (some (⟨r2.2, x_p.f_full⟩ : head_printer))

def zgB (x_q : quill_Quill) : Option Str :=
 some x_q.f_b

def zfe (t45 : Bool) (l48 : List UInt8) (i49 : Int) : Option (Str × Int) :=
 (zbb ((⟨(⟨l48, i49⟩ : quill_Quill), t45⟩ : head_printer)) []).bind fun r50 =>
 if r50.f_full then (some ([], 3)) else ((zgB r50.Quill).bind fun r59 =>
 some (r59, 0))

def zeh (x_h : api_Head) : Nat → Bool → (List UInt8) → Int → Int → Option (Str × Int)
 | 0, _, _, _, _ => none
 | n + 1, t23, l26, i27, i28 =>
 if (decide (i28 < (x_h.Fields.length : Int))) then ((lAt x_h.Fields i28).bind fun x32 =>
 (zbW x32).bind fun r37 =>
 (zbb ((⟨(⟨l26, i27⟩ : quill_Quill), t23⟩ : head_printer)) r37.1).bind fun r39 =>
 (zav i28 1).bind fun i44 =>
 (zeh x_h n) r39.f_full r39.Quill.f_b r39.Quill.f_most i44) else (zfe t23 l26 i27)

def zhN (x_h : api_Head) (x_limit : Int) : Option (Str × Int) :=
 (zgA x_h).bind fun r3 =>
 if (!(r3 == 0)) then (some ([], r3)) else ((zkU x_limit).bind fun r9 =>
 (zdC x_h).bind fun r15 =>
 (zbb (⟨r9, false⟩ : head_printer) r15.1).bind fun r17 =>
 zeh x_h fuel r17.f_full r17.Quill.f_b r17.Quill.f_most 0)

def zeC (x_size : Int) (t3 : Bool) : Option (Option enchunk_Encoder × Int) :=
 if t3 then (some (none, 1)) else (some ((some (⟨x_size, [], false⟩ : enchunk_Encoder), 0)))

def zib (x_size : Int) : Option (Option enchunk_Encoder × Int) :=
 if (decide (x_size < 1)) then (zeC x_size true) else (zeC x_size (decide (65536 < x_size)))

def zaK (x_c : enchunk_Encoder) : Option Int :=
 if x_c.f_done then (some 8) else (some 0)

def zfo (x_n : Int) : Option Str :=
 (zeN x_n 16).bind fun r2 =>
 some r2

def zeD (x_n : Int) : Option Str :=
 (zfo x_n).bind fun r2 =>
 some r2

def zcQ (x_data : Str) : Option Str :=
 if (x_data == []) then (some []) else ((zeD (x_data.length : Int)).bind fun r6 =>
 (zbF [13, 10] ([r6, x_data, []] : List Str)).bind fun r8 =>
 some r8)

def zcm (l30 : List Str) (i31 : Int) (s32 : Str) (t33 : Bool) : Option (Str × Int × enchunk_Encoder) :=
 (zbF [] l30).bind fun r34 =>
 some ((r34, 0, (⟨i31, s32, t33⟩ : enchunk_Encoder)))

def zau : Nat → (List Str) → Int → Str → Bool → Option (Str × Int × enchunk_Encoder)
 | 0, _, _, _, _ => none
 | n + 1, l13, i14, s15, t16 =>
 if (decide (i14 ≤ (s15.length : Int))) then ((sTo s15 i14).bind fun s20 =>
 (zcQ s20).bind fun r21 =>
 if zA l13.length 1 16 then ((ze4 s15 i14).bind fun s27 =>
 (zau n) (l13 ++ ([r21] : List Str)) i14 s27 t16) else none) else (zcm l13 i14 s15 t16)

def zdl (x_c : enchunk_Encoder) (x_s : Str) : Option (Str × Int × enchunk_Encoder) :=
 (zaK x_c).bind fun r2 =>
 if (!(r2 == 0)) then (some ([], r2, x_c)) else ((zjK x_c.f_buf x_s).bind fun s9 =>
 zau fuel [] x_c.f_size s9 x_c.f_done)

def zdm (x_c : enchunk_Encoder) (x_trailers : List api_Field) : Option (Str × Int × enchunk_Encoder) :=
 (zaK x_c).bind fun r2 =>
 if (!(r2 == 0)) then (some ([], r2, x_c)) else ((zcH x_trailers).bind fun r8 =>
 if (!(r8.2 == 0)) then (some ([], r8.2, x_c)) else ((zcQ x_c.f_buf).bind fun r14 =>
 (zjK r14 r8.1).bind fun s15 =>
 some ((s15, 0, (⟨x_c.f_size, [], true⟩ : enchunk_Encoder)))))

def zbM : Option Int :=
 some 5

def zdV (x_s : Str) : Option (Str × Int) :=
 (zbM).bind fun r2 =>
 if (!(r2 == 0)) then (some ([], r2)) else (none)

def zdW (x_trailers : List api_Field) : Option (Str × Int) :=
 (zbM).bind fun r2 =>
 if (!(r2 == 0)) then (some ([], r2)) else ((zcH x_trailers).bind fun r8 =>
 if (!(r8.2 == 0)) then (some ([], r8.2)) else (none))

def zf3 (x_body : Str) (x_trailers : List api_Field) (i6 : Int) : Option (Str × Int) :=
 if (!(i6 == 0)) then (some ([], i6)) else ((zdV x_body).bind fun r11 =>
 (zdW x_trailers).bind fun r13 =>
 if (!(r13.2 == 0)) then (some ([], r13.2)) else ((zjK r11.1 r13.1).bind fun s19 =>
 some (s19, 0)))

def zdE (x_body : Str) (x_trailers : List api_Field) (i22 : Int) (i23 : Int) (s24 : Str) (t25 : Bool) : Option (Str × Int) :=
 if (!(i22 == 0)) then (some ([], i22)) else ((zdl (⟨i23, s24, t25⟩ : enchunk_Encoder) x_body).bind fun r30 =>
 (zdm r30.2.2 x_trailers).bind fun r33 =>
 if (!(r33.2.1 == 0)) then (some ([], r33.2.1)) else ((zjK r30.1 r33.1).bind fun s40 =>
 some (s40, 0)))

def zgZ (x_size : Int) (x_body : Str) (x_trailers : List api_Field) : Option (Str × Int) :=
 (zib x_size).bind fun r2 =>
 zlH r2.1 (zf3 x_body x_trailers r2.2) (fun x4 => zdE x_body x_trailers r2.2 x4.f_size x4.f_buf x4.f_done)

def zdF (r9 : Str × Int) (i19 : Int) (s20 : Str) : Option (Str × Int) :=
 if (!(i19 == 0)) then (some ([], i19)) else ((zjK r9.1 s20).bind fun s25 =>
 some (s25, 0))

def zff (x_method : Str) (x_m : api_Message) (x_limit : Int) (x_size : Int) : Option (Str × Int) :=
 (zfd x_method x_m).bind fun r3 =>
 if (!(r3 == 0)) then (some ([], r3)) else ((zhN x_m.Head x_limit).bind fun r9 =>
 if (!(r9.2 == 0)) then (some ([], r9.2)) else (if (x_m.Frame.Kind == 3) then ((zgZ x_size x_m.Body x_m.Trailers).bind fun r18 =>
 zdF r9 r18.2 r18.1) else (zdF r9 r9.2 x_m.Body)))

def zbN (t9 : Bool) : Option Bool :=
 some t9

def zjg (x_a : api_Head) (x_b : api_Head) : Option Bool :=
 if (x_a.Kind == x_b.Kind) then (if (x_a.Method == x_b.Method) then (if (x_a.Target == x_b.Target) then (if (x_a.Minor == x_b.Minor) then (if (x_a.Code == x_b.Code) then (zbN (x_a.Reason == x_b.Reason)) else (zbN false)) else (zbN false)) else (zbN false)) else (zbN false)) else (zbN false)

def zdg (x_a : List api_Field) (x_b : List api_Field) : Nat → Int → Option Bool
 | 0, _ => none
 | n + 1, i7 =>
 if (decide (i7 < (x_a.length : Int))) then ((lAt x_a i7).bind fun x11 =>
 (lAt x_b i7).bind fun x14 =>
 if (!(x11 == x14)) then (some false) else ((zav i7 1).bind fun i21 =>
 (zdg x_a x_b n) i21)) else (some true)

def zgC (x_a : List api_Field) (x_b : List api_Field) : Option Bool :=
 if (!((x_a.length : Int) == (x_b.length : Int))) then (some false) else (zdg x_a x_b fuel 0)

def zfg (t7 : Bool) : Option Bool :=
 some t7

def zhO (x_a : api_Head) (x_b : api_Head) : Option Bool :=
 (zjg x_a x_b).bind fun r4 =>
 if r4 then ((zgC x_a.Fields x_b.Fields).bind fun r6 =>
 zfg r6) else (zfg false)

def zei (t9 : Bool) : Option Bool :=
 some t9

def zhP (x_a : api_Message) (x_b : api_Message) : Option Bool :=
 (zhO x_a.Head x_b.Head).bind fun r4 =>
 if r4 then (if (x_a.Frame == x_b.Frame) then (if (x_a.Body == x_b.Body) then ((zgC x_a.Trailers x_b.Trailers).bind fun r8 =>
 zei r8) else (zei false)) else (zei false)) else (zei false)

def zbX (x_r : stream_reader) (r4 : api_Message × Int × Int) (t15 : Bool) : Option (api_Message × Int × stream_reader) :=
 if t15 then (some (((⟨(⟨0, [], [], 0, [], 0, []⟩ : api_Head), (⟨0, 0⟩ : api_Frame), [], []⟩ : api_Message), 20, x_r))) else ((zav x_r.f_at r4.2.1).bind fun i19 =>
 some ((r4.1, 0, (⟨x_r.f_s, i19, x_r.f_limit, x_r.f_ended⟩ : stream_reader))))

def zbc (x_r : stream_reader) (x_kind : Int) (x_method : Str) : Option (api_Message × Int × stream_reader) :=
 (ze4 x_r.f_s x_r.f_at).bind fun s3 =>
 (zw x_kind x_method s3 x_r.f_limit x_r.f_ended).bind fun r4 =>
 if (!(r4.2.2 == 0)) then (some (r4.1, r4.2.2, x_r)) else (if (r4.1.Head.Method == [67, 79, 78, 78, 69, 67, 84]) then (zbX x_r r4 true) else (zbX x_r r4 (r4.1.Head.Code == 101)))

def zcI (l7 : List api_Message) (r13 : api_Message × Int × stream_reader) (i31 : Int) : Option (List api_Message × Int × Int) :=
 some (l7, r13.2.2.f_at, i31)

def zaS (rec1 : (List api_Message) → Str → Int → Int → Bool → Option (List api_Message × Int × Int)) (l7 : List api_Message) (r13 : api_Message × Int × stream_reader) (t22 : Bool) : Option (List api_Message × Int × Int) :=
 if t22 then (zcI l7 r13 0) else (if (r13.2.1 == 0) then (if zA l7.length 1 152 then (rec1 (l7 ++ [r13.1]) r13.2.2.f_s r13.2.2.f_at r13.2.2.f_limit r13.2.2.f_ended) else none) else (zcI l7 r13 r13.2.1))

def zL (x_s : Str) : Nat → (List api_Message) → Str → Int → Int → Bool → Option (List api_Message × Int × Int)
 | 0, _, _, _, _, _ => none
 | n + 1, l7, s9, i10, i11, t12 =>
 (zbc (⟨s9, i10, i11, t12⟩ : stream_reader) 1 []).bind fun r13 =>
 if (r13.2.1 == 6) then (zaS (zL x_s n) l7 r13 (r13.2.2.f_at == (x_s.length : Int))) else (zaS (zL x_s n) l7 r13 false)

def zcb (x_s : Str) (x_limit : Int) : Option (List api_Message × Int × Int) :=
 zL x_s fuel [] x_s 0 x_limit false

def zeo (x_l : List api_Message) : Nat → (List Str) → Int → Option (List Str)
 | 0, _, _ => none
 | n + 1, l6, i7 =>
 if (decide (i7 < (x_l.length : Int))) then ((lAt x_l i7).bind fun x11 =>
 if zA l6.length 1 16 then ((zav i7 1).bind fun i25 =>
 (zeo x_l n) (l6 ++ ([x11.Head.Method] : List Str)) i25) else none) else (some l6)

def zhQ (x_l : List api_Message) : Option (List Str) :=
 zeo x_l fuel [] 0

def zdG (t17 : Bool) : Option Bool :=
 some t17

def zic : Option Bool :=
 (zjK [71, 69, 84, 32, 47, 32, 72, 84, 84, 80, 47, 49, 46, 48, 13, 10, 13, 10] [71, 69, 84, 32, 47, 32, 72, 84, 84, 80, 47, 49, 46, 48, 13, 10, 13, 10]).bind fun s3 =>
 (zjK s3 [71, 69]).bind fun s4 =>
 (zcb s4 99).bind fun r5 =>
 if ((r5.1.length : Int) == 2) then ((zr6 2 ([71, 69, 84, 32, 47, 32, 72, 84, 84, 80, 47, 49, 46, 48, 13, 10, 13, 10].length : Int)).bind fun i11 =>
 if (r5.2.1 == i11) then (if (r5.2.2 == 6) then ((zhQ r5.1).bind fun r14 =>
 zdG ((r14.length : Int) == 2)) else (zdG false)) else (zdG false)) else (zdG false)

def zej (x_a : List api_Message) (x_b : List api_Message) : Nat → Int → Option Bool
 | 0, _ => none
 | n + 1, i7 =>
 if (decide (i7 < (x_a.length : Int))) then ((lAt x_a i7).bind fun x11 =>
 (lAt x_b i7).bind fun x18 =>
 (zhP x11 x18).bind fun r25 =>
 if (!r25) then (some false) else ((zav i7 1).bind fun i30 =>
 (zej x_a x_b n) i30)) else (some true)

def zgD (x_a : List api_Message) (x_b : List api_Message) : Option Bool :=
 if (!((x_a.length : Int) == (x_b.length : Int))) then (some false) else (zej x_a x_b fuel 0)

def zay (rec1 : Str → (List api_Message) → Int → Option Bool) (i15 : Int) (s48 : Str) (l51 : List api_Message) : Option Bool :=
 (zav i15 1).bind fun i53 =>
 rec1 s48 l51 i53

def zaz (rec1 : Str → (List api_Message) → Int → Option Bool) (s10 : Str) (l13 : List api_Message) (i15 : Int) (r27 : api_Message) (t35 : Bool) : Option Bool :=
 if t35 then (zay rec1 i15 s10 l13) else ((zff [] r27 9000 7).bind fun r38 =>
 if (r38.2 == 0) then ((zjK s10 r38.1).bind fun s42 =>
 if zA l13.length 1 152 then (zay rec1 i15 s42 (l13 ++ [r27])) else none) else (zay rec1 i15 s10 l13))

def zak (t85 : Bool) : Option Bool :=
 some t85

def zbj (x_a1 : UInt16) (s10 : Str) (r55 : List api_Message × Int × Int) (t63 : Bool) : Option Bool :=
 if t63 then (some false) else ((zav (s10.length : Int) 1).bind fun i67 =>
 (zth (x_a1.toNat : Int) i67).bind fun i68 =>
 (sTo s10 i68).bind fun s69 =>
 (zcb s69 65536).bind fun r70 =>
 if (decide ((r70.1.length : Int) ≤ (r55.1.length : Int))) then ((lTo r55.1 (r70.1.length : Int)).bind fun l76 =>
 (zgD r70.1 l76).bind fun r79 =>
 if r79 then ((zav (s10.length : Int) 1).bind fun i81 =>
 (zth (x_a1.toNat : Int) i81).bind fun i82 =>
 if (decide (r70.2.1 ≤ i82)) then (if (r70.2.2 == 0) then (zak true) else (zak (r70.2.2 == 6))) else (zak false)) else (zak false)) else (zak false))

def zaA (rec1 : Str → (List api_Message) → Int → Option Bool) (x_a0 : List api_Message) (x_a1 : UInt16) (s10 : Str) (l13 : List api_Message) (i15 : Int) (t17 : Bool) : Option Bool :=
 if t17 then ((lAt x_a0 i15).bind fun x20 =>
 (zgz x20).bind fun r27 =>
 if (!(r27.Head.Kind == 1)) then (zaz rec1 s10 l13 i15 r27 true) else (zaz rec1 s10 l13 i15 r27 (r27.Head.Method == [67, 79, 78, 78, 69, 67, 84]))) else ((zcb s10 65536).bind fun r55 =>
 (zgD r55.1 l13).bind fun r60 =>
 if (!r60) then (zbj x_a1 s10 r55 true) else (if (!(r55.2.1 == (s10.length : Int))) then (zbj x_a1 s10 r55 true) else (zbj x_a1 s10 r55 (!(r55.2.2 == 0)))))

def zz (x_a0 : List api_Message) (x_a1 : UInt16) : Nat → Str → (List api_Message) → Int → Option Bool
 | 0, _, _, _ => none
 | n + 1, s10, l13, i15 =>
 if (decide (i15 < (x_a0.length : Int))) then (zaA (zz x_a0 x_a1 n) x_a0 x_a1 s10 l13 i15 (decide (i15 < 6))) else (zaA (zz x_a0 x_a1 n) x_a0 x_a1 s10 l13 i15 false)

def zeW (x_a0 : List api_Message) (x_a1 : UInt16) : Option Bool :=
 (zic).bind fun r2 =>
 if (!r2) then (some false) else (zz x_a0 x_a1 fuel [] [] 0)

end Go.Dm
end
section
namespace Go.Dm
theorem zoG (b : Bool) (v : Int) (k : Nat) (h : -1 ≤ v) : (if b = true then (k : Int) else if v = -1 then -1 else v + ((k + 1 : Nat) : Int)) =
  if (if b = true then 0 else if (v == -1) = true then -1 else v + 1) = -1 then -1 else (if b = true then 0 else if (v == -1) = true then -1 else v + 1) + (k : Int) := by
 cases b with
 | true => simp
 | false =>
  by_cases hm : v = -1
  ·subst hm; simp
  ·have h2 : ¬ (v + 1 = -1) := by omega
   have h3 : (v == -1) = false := beq_eq_false_iff_ne.2 hm;rw [h3];simp only [Bool.false_eq_true, if_false, if_neg hm, if_neg h2];omega
theorem znw : ∀ (l : Str) (c : UInt8) (k : Nat), zhr l c k = if Go.Lib.indexByte l c = -1 then -1 else Go.Lib.indexByte l c + k
 | [], _, _ => rfl
 | x :: l, c, k => by
  rw [zhr, Go.Lib.indexByte, znw l c (k + 1)];exact zoG _ _ k (Go.Lib.indexByte_ge l c)
theorem zwN (x y : UInt8) : (x == y) = (y == x) := by
 by_cases h : x = y
 ·subst h; rfl
 ·rw [beq_eq_false_iff_ne.2 h, beq_eq_false_iff_ne.2 (Ne.symm h)]
theorem zoH : ∀ (s t : Str), zlI s t = t.isPrefixOf s
 | s, [] => by cases s <;> rfl
 | [], y :: t => rfl
 | x :: s, y :: t => by
  rw [zlI, List.isPrefixOf, zoH s t, zwN x y]
theorem zoI : ∀ (l t : Str) (k : Nat), zhJ l t k = if Go.Lib.index l t = -1 then -1 else Go.Lib.index l t + k
 | [], t, k => by
  rw [zhJ, Go.Lib.index];cases t <;> simp [zlI]
 | x :: l, t, k => by
  rw [zhJ, Go.Lib.index, zoH];simp only [zoI l t (k + 1)];exact zoG _ _ k (Go.Lib.index_ge l t)
theorem zoJ : ∀ (l cs : Str) (k : Nat), zkh l cs k = if Go.Lib.indexAny l cs = -1 then -1 else Go.Lib.indexAny l cs + k
 | [], _, _ => rfl
 | x :: l, cs, k => by
  rw [zkh, Go.Lib.indexAny, zoJ l cs (k + 1)];exact zoG _ _ k (Go.Lib.indexAny_ge cs l)
theorem zr5 (l : Str) (c : UInt8) : zhr l c 0 = Go.Lib.indexByte l c := by
 rw [znw]; have := Go.Lib.indexByte_ge l c; split <;> omega
theorem zoK (l t : Str) : zhJ l t 0 = Go.Lib.index l t := by
 rw [zoI]; have := Go.Lib.index_ge l t; split <;> omega
theorem ztg (l cs : Str) : zkh l cs 0 = Go.Lib.indexAny l cs := by
 rw [zoJ]; have := Go.Lib.indexAny_ge cs l; split <;> omega
end Go.Dm
end
section
namespace Go.Dm
@[simp] theorem zil (l : Str) (i : Nat) : sAt l (i : Int) = l[i]? := by simp [sAt]
@[simp] theorem zpq (l : Str) : sAt l 0 = l[0]? := by simp [sAt]
@[simp] theorem sAt_one (l : Str) : sAt l 1 = l[1]? := by simp [sAt]
@[simp] theorem sAt_two (l : Str) : sAt l 2 = l[2]? := by simp [sAt]
@[simp] theorem zbd {α : Type} (l : List α) (i : Nat) : lAt l (i : Int) = l[i]? := by simp [lAt]
@[simp] theorem zsR {α : Type} (l : List α) : lAt l 0 = l[0]? := by simp [lAt]
theorem zes {m n : Int} (h1 : -9223372036854775808 ≤ m + n) (h2 : m + n ≤ 9223372036854775807) : zav m n = some (m + n) := by simp [zav, inI, h1, h2]
theorem zb6 {m n : Int} (h1 : -9223372036854775808 ≤ m - n) (h2 : m - n ≤ 9223372036854775807) : zdZ m n = some (m - n) := by simp [zdZ, inI, h1, h2]
theorem zyD {m n : Int} (h1 : -9223372036854775808 ≤ m * n) (h2 : m * n ≤ 9223372036854775807) : zr6 m n = some (m * n) := by simp [zr6, inI, h1, h2]
theorem zM {i : Nat} (h : i < 4611686018427387904) : zav (i : Int) 1 = some ((i + 1 : Nat) : Int) := by
 rw [zes (by omega) (by omega)]; simp
theorem zga {i k : Nat} (h : i + k < 4611686018427387904) : zav (i : Int) (k : Int) = some ((i + k : Nat) : Int) := by
 rw [zes (by omega) (by omega)]; simp
theorem zeY {l : Str} {h : Nat} (hh : h ≤ l.length) : sTo l (h : Int) = some (l.take h) := by simp [sTo, hh]
theorem zcR {l : Str} {i : Nat} (hh : i ≤ l.length) : ze4 l (i : Int) = some (l.drop i) := by simp [ze4, hh]
theorem zg3 {l : Str} {i h : Nat} (h1 : i ≤ h) (h2 : h ≤ l.length) : zke l (i : Int) (h : Int) = some ((l.take h).drop i) := by simp [zke, h1, h2]
theorem zgb {l m : Str} (h : l.length + m.length ≤ 9223372036854775807) : zjK l m = some (l ++ m) := by simp [zjK, h]
theorem zmI {n : Nat} (h : n < 1000000000000000000) : n < fuel := h

theorem zqJ {α β : Type} (l : List α) (L : Nat → Int → Option β) (F : α → Option β → Option β) (E : Option β)
  (hE : ∀ n, L (n + 1) (l.length : Int) = E) (hL : ∀ n (i : Nat) x, i < l.length → l[i]? = some x → L (n + 1) (i : Int) = F x (L n ((i + 1 : Nat) : Int))) :
  ∀ (n i : Nat), i ≤ l.length → l.length - i < n → L n (i : Int) = (l.drop i).foldr F E
 | 0, _, _, h => by omega
 | n + 1, i, hi, h => by
  by_cases hlt : i < l.length
  ·rw [hL n i _ hlt (List.getElem?_eq_getElem hlt), zqJ l L F E hE hL n (i + 1) (by omega) (by omega), List.drop_eq_getElem_cons hlt];rfl
  ·have : i = l.length := by omega
   subst this;rw [hE, List.drop_length];rfl
theorem zpr {α β : Type} (l : List α) (L : Nat → Int → Option β) (F : α → Option β → Option β) (E : Option β) (hl : l.length < 1000000000000000000)
  (hE : ∀ n, L (n + 1) (l.length : Int) = E) (hL : ∀ n (i : Nat) x, i < l.length → l[i]? = some x → L (n + 1) (i : Int) = F x (L n ((i + 1 : Nat) : Int))) : L fuel 0 = l.foldr F E := by
 have := zqJ l L F E hE hL fuel 0 (Nat.zero_le _) (zmI (by omega));simpa using this
theorem zcn {n m b : Nat} (h : (n + m) * b ≤ 140737488355328) (h2 : n + m ≤ 140737488355328) : zA n m b = true := by
 simp only [zA, Bool.and_eq_true, decide_eq_true_eq]; exact ⟨by omega, h⟩

theorem za2 (p : UInt8 → Bool) (h : (List.range 256).all (fun n => p (UInt8.ofNat n)) = true) (b : UInt8) : p b = true := by
 have := List.all_eq_true.1 h b.toNat (by simpa using b.toNat_lt);simpa using this
theorem zvg {α : Type} (p : α → Bool) (l : List α) : l.foldr (fun x r => if p x = true then r else some false) (some true) = some (l.all p) := by
 induction l with
 | nil => rfl
 | cons x l ih => simp only [List.foldr_cons, ih, List.all_cons]; cases p x <;> simp
theorem zn6 (s : Str) (k : Nat) : sTo s (min (s.length : Int) (k : Int)) = some (s.take k) := by
 have e : min (s.length : Int) (k : Int) = ((min s.length k : Nat) : Int) := by omega
 rw [e, zeY (Nat.min_le_left _ _)]
 congr 1
 rcases Nat.le_total s.length k with h | h
 ·rw [Nat.min_eq_left h, List.take_length, List.take_of_length_le h]
 ·rw [Nat.min_eq_right h]
end Go.Dm
end
section
namespace Go.Dm
def zam (b : UInt8) : Bool := decide (48 ≤ b) && decide (b ≤ 57)
def zkE (b : UInt8) : UInt8 := if 65 ≤ b ∧ b ≤ 90 then b + 32 else b
def zxp (b : UInt8) : Bool := decide (97 ≤ zkE b) && decide (zkE b ≤ 122)
def zhd (b : UInt8) : Bool := zam b || decide (97 ≤ zkE b) && decide (zkE b ≤ 102)
def zlW (b : UInt8) : Bool := zxp b || zam b || ([45, 46, 95, 126] : Str).contains b
def ztE (b : UInt8) : Bool := ([33, 36, 38, 39, 40, 41, 42, 43, 44, 59, 61] : Str).contains b
def zqK (b : UInt8) : Bool := zlW b || ztE b || b == 58 || b == 64

theorem ztF (l : Str) (c : UInt8) (k : Nat) : decide (0 ≤ zhr l c k) = l.contains c := by
 induction l generalizing k with
 | nil => simp [zhr]
 | cons x l ih =>
  simp only [zhr, List.contains_cons]
  by_cases h : x = c
  ·simp [h]
  ·have h' : (c == x) = false := by simp; exact fun e => h e.symm
   simp [h, h', ih]
theorem zpt (b : UInt8) : zaC b = some (zkE b) :=
 of_decide_eq_true (za2 (fun b => decide (zaC b = some (zkE b))) (by decide +kernel) b)
theorem zgF (b : UInt8) : zR b = some (zam b) :=
 of_decide_eq_true (za2 (fun b => decide (zR b = some (zam b))) (by decide +kernel) b)
theorem zeI (b : UInt8) : zap b = some (zhd b) :=
 of_decide_eq_true (za2 (fun b => decide (zap b = some (zhd b))) (by decide +kernel) b)
theorem znV (b : UInt8) : zfT b = some (zqK b) :=
 of_decide_eq_true (za2 (fun b => decide (zfT b = some (zqK b))) (by decide +kernel) b)
theorem zcq {p : UInt8 → Bool} {f : UInt8 → Option Bool} (hf : ∀ b, f b = some (p b)) (s : Str) (hs : s.length < 1000000000) : zcM f [s] = some (s.all p) := by
 unfold zcM
 have h2 : ∀ (rec1 : Int → Option Bool) (i : Int), zcX rec1 f i s fuel 0 = s.foldr (fun x r => if p x = true then r else some false) ((zav i 1).bind rec1) := by
  intro rec1 i;refine zpr s (zcX rec1 f i s) _ _ (by omega) ?_ ?_
  ·intro n; rw [zcX]; simp only [Int.lt_irrefl, decide_false, Bool.false_eq_true, if_false]
  ·intro n k x hk hx;rw [zcX];simp only [Int.ofNat_lt, hk, decide_true, if_true, zil, hx, yob, hf, zM (show k < 4611686018427387904 by omega)];cases p x <;> rfl
 rw [zpr [s] (zcY f [s]) (fun x r => x.foldr (fun x r => if p x = true then r else some false) r) (some true) (by simp)]
 ·simp only [List.foldr_cons, List.foldr_nil];exact zvg p s
 ·intro n; rw [zcY]; simp only [Int.lt_irrefl, decide_false, Bool.false_eq_true, if_false]
 ·intro n i x hi hx
  have hi0 : i = 0 := by simp at hi; exact hi
  subst hi0;simp at hx; subst hx;rw [zcY];simp [h2, zes]
def zbG (b : UInt8) : Bool := zxp b || zam b || ([33, 35, 36, 37, 38, 39, 42, 43, 45, 46, 94, 95, 96, 124, 126] : Str).contains b
def zhe (b : UInt8) : Bool := decide (32 ≤ b) && !(b == 127) || b == 9
theorem ziS (b : UInt8) : zco b = some (zbG b) :=
 of_decide_eq_true (za2 (fun b => decide (zco b = some (zbG b))) (by decide +kernel) b)
theorem zeZ (b : UInt8) : zar b = some (zhe b) :=
 of_decide_eq_true (za2 (fun b => decide (zar b = some (zhe b))) (by decide +kernel) b)
theorem zjQ (b : UInt8) : zbz b = some (zlW b) :=
 of_decide_eq_true (za2 (fun b => decide (zbz b = some (zlW b))) (by decide +kernel) b)
theorem zpu (b : UInt8) : zfB b = some (ztE b) :=
 of_decide_eq_true (za2 (fun b => decide (zfB b = some (ztE b))) (by decide +kernel) b)
def zfJ (s : Str) : Bool := s.all zbG && !(s == [])
theorem zkF (s : Str) (hs : s.length < 1000000000) : zfF s = some (zfJ s) := by
 unfold zfF zfJ;rw [zcq ziS s hs];cases s <;> simp [zez]
end Go.Dm
end
section
namespace Go.Dm
def zg2 (b : Nat) (l : List Nat) : Nat := l.foldl (fun n d => n * b + d) 0
theorem zva (b : Nat) (l : List Nat) : ∀ n, l.foldl (fun n d => n * b + d) n = n * b ^ l.length + zg2 b l := by
 unfold zg2
 induction l with
 | nil => intro n; simp
 | cons x l ih =>
  intro n;rw [List.foldl_cons, ih, List.foldl_cons, ih (0 * b + x), ylc, Nat.pow_succ, Nat.add_mul, Nat.zero_mul, Nat.zero_add, Nat.mul_assoc, Nat.mul_comm b, Nat.add_assoc]
theorem zqE (b x : Nat) (l : List Nat) : zg2 b (l ++ [x]) = zg2 b l * b + x := by
 unfold zg2; rw [List.foldl_append]; rfl
def zgl (b : Nat) : Nat → Nat → List Nat
 | 0, n => [n % b]
 | k + 1, n => if n < b then [n] else zgl b k (n / b) ++ [n % b]
def digs (b n : Nat) : List Nat := zgl b 70 n
theorem zpi {b n k : Nat} (hb : 2 ≤ b) (h : n < 2 ^ (k + 1)) : n / b < 2 ^ k := by
 rw [Nat.div_lt_iff_lt_mul (by omega)]
 calc n < 2 ^ (k + 1) := h
  _ = 2 ^ k * 2 := Nat.pow_succ ..
  _ ≤ 2 ^ k * b := Nat.mul_le_mul_left _ hb
theorem zlR {b : Nat} (hb : 2 ≤ b) : ∀ (k m n : Nat), k ≤ m → n < 2 ^ (k + 1) → zgl b m n = zgl b k n
  | 0, 0, n, _, _ => rfl
  | 0, m + 1, n, _, h => by
    have hn : n < b := by have : n < 2 := by simpa using h
                          omega
    show zgl b (m + 1) n = [n % b];rw [zgl, if_pos hn, Nat.mod_eq_of_lt hn]
  | k + 1, 0, n, h, _ => by omega
  | k + 1, m + 1, n, hm, h => by
    rw [zgl, zgl]
    split
    · rfl
    · rw [zlR hb k m (n / b) (by omega) (zpi hb h)]
theorem znj {b n : Nat} (hb : 2 ≤ b) (hn : b ≤ n) (h : n < 2 ^ 64) : digs b n = digs b (n / b) ++ [n % b] := by
 have h1 := zlR hb 64 70 n (by decide) (Nat.lt_of_lt_of_le h (Nat.pow_le_pow_right (by decide) (by decide)));have h2 := zlR hb 63 70 (n / b) (by decide) (zpi hb (Nat.lt_of_lt_of_le h (Nat.pow_le_pow_right (by decide) (by decide))));unfold digs;rw [h1, h2, zgl, if_neg (by omega)]
theorem zlS {b n : Nat} (hn : n < b) : digs b n = [n] := by unfold digs; rw [zgl, if_pos hn]
theorem zpj {b : Nat} (hb : 2 ≤ b) {P : Nat → Prop} (h0 : ∀ n, n < b → P n) (h1 : ∀ n, b ≤ n → n < 2 ^ 64 → P (n / b) → P n) : ∀ n, n < 2 ^ 64 → P n := by
 intro n
 induction n using Nat.strongRecOn with
 | _ n ih =>
  intro hn
  by_cases h : n < b
  ·exact h0 n h
  ·have : n / b < n := Nat.div_lt_self (by omega) (by omega);exact h1 n (by omega) hn (ih _ this (by omega))
theorem zxl {b : Nat} (hb : 2 ≤ b) : ∀ n, n < 2 ^ 64 → zg2 b (digs b n) = n :=
 zpj hb (fun n h => by rw [zlS h]; simp [zg2]) fun n h hn ih => by
  rw [znj hb h hn, zqE, ih, Nat.mul_comm]; exact Nat.div_add_mod n b
theorem zrq {b : Nat} (hb : 2 ≤ b) : ∀ n, n < 2 ^ 64 → ∀ d ∈ digs b n, d < b :=
 zpj hb (fun n h d hd => by rw [zlS h] at hd; simp at hd; omega) fun n h hn ih d hd => by
  rw [znj hb h hn] at hd
  rcases List.mem_append.1 hd with hd | hd
  ·exact ih d hd
  ·simp at hd; subst hd; exact Nat.mod_lt _ (by omega)
theorem zyx {b n : Nat} : digs b n ≠ [] := by
 unfold digs; rw [zgl]; split <;> simp
theorem zsJ {b : Nat} (hb : 2 ≤ b) : ∀ n, n < 2 ^ 64 → (digs b n).length ≤ 71 := by
  have : ∀ k n, (zgl b k n).length ≤ k + 1 := by
    intro k
    induction k with
    | zero => intro n; simp [zgl]
    | succ k ih => intro n; rw [zgl]; split
                   · simp
                   · simp; exact ih _
  intro n _; exact this 70 n
def dch (d : Nat) : UInt8 := if d < 10 then UInt8.ofNat (48 + d) else UInt8.ofNat (87 + d)
def zm (l : List Nat) : Str := l.map dch
def wor (c : UInt8) : Nat := if zam c then (c - 48).toNat else (zkE c - 97).toNat + 10
def znH (b : Nat) (c : UInt8) : Bool := if b = 10 then zam c else zhd c
theorem zqF : ∀ d : Nat, d < 16 → (wor (dch d) = d ∧ zhd (dch d) = true ∧ (d < 10 → zam (dch d) = true)) := by decide
theorem znk (b : UInt8) : ze6 b = some (wor b : Int) :=
 of_decide_eq_true (za2 (fun b => decide (ze6 b = some (wor b : Int))) (by decide +kernel) b)
theorem zxm (c : UInt8) : (zam c = true → wor c < 10) ∧ (zhd c = true → wor c < 16) :=
 of_decide_eq_true (za2 (fun c => decide ((zam c = true → wor c < 10) ∧ (zhd c = true → wor c < 16))) (by decide +kernel) c)
def zpk (b : Nat) : Prop := b = 10 ∨ b = 16
theorem zpk.two {b : Nat} (h : zpk b) : 2 ≤ b ∧ b ≤ 16 := by rcases h with rfl | rfl <;> omega
theorem zxn {b : Nat} (hb : zpk b) {c : UInt8} (h : znH b c = true) : wor c < b := by
 rcases hb with rfl | rfl
 ·exact (zxm c).1 h
 ·exact (zxm c).2 h
def zkx (b : Nat) (n : Int) : Str := if n < 0 then [] else zm (digs b n.toNat)
theorem dec_eq : ∀ n, n < 2 ^ 64 → Go.Lib.decDigits n = zm (digs 10 n) :=
 zpj (b := 10) (by decide) (fun n h => by rw [Go.Lib.decDigits, dif_pos h, zlS h]; simp [zm, dch, h]) fun n h hn ih => by
  rw [Go.Lib.decDigits, dif_neg (by omega), ih, znj (by decide) h hn];have : n % 10 < 10 := Nat.mod_lt _ (by decide);simp [zm, dch, this]
theorem zhc (n : Int) (hn : inI n = true) : zdQ n = some (zkx 10 n) := by
 obtain ⟨h1, h2⟩ := zho.1 hn;unfold zdQ zeN zkx
 by_cases h : n < 0
 ·simp [h]
 ·obtain ⟨k, rfl⟩ : ∃ k : Nat, n = k := ⟨n.toNat, by omega⟩
  have hk : ¬ ((k : Int) < 0) := by omega
  simp [hk, zcV, hn, Go.Lib.itoa, dec_eq k (by omega)]
def vals (s : Str) : List Nat := s.map wor
def za1 (b : Nat) (s : Str) (most : Int) : Int × Int :=
 if (s == [] || !s.all (znH b)) = true then (0, 2) else if most < (zg2 b (vals s) : Int) then (0, 7) else (((zg2 b (vals s) : Nat) : Int), 0)
theorem zvb {b : Nat} (hb : 1 ≤ b) (l m : List Nat) : zg2 b l ≤ zg2 b (l ++ m) := by
 unfold zg2;rw [List.foldl_append];generalize l.foldl (fun n d => n * b + d) 0 = n;rw [zva];have : 1 ≤ b ^ m.length := Nat.one_le_pow _ _ hb;have := Nat.le_mul_of_pos_right n this;omega
theorem ztB {b : Nat} (hb : zpk b) (s : Str) (most : Int) (hs : s.length < 1000000000) (hd : s.all (znH b) = true) (hm : most < 4611686018427387904) (hm0 : -4611686018427387904 < most) (hne : s ≠ []) :
  zaN s (b : Int) most fuel 0 0 = some (if most < (zg2 b (vals s) : Int) then (0, 7) else (((zg2 b (vals s) : Nat) : Int), 0)) := by
 obtain ⟨h2, h16⟩ := hb.two
 have key : ∀ (n i v : Nat), i ≤ s.length → s.length - i < n → v = zg2 b (vals (s.take i)) → (i = 0 ∨ (v : Int) ≤ most) → (i < s.length ∨ (v : Int) ≤ most) →
   zaN s (b : Int) most n (v : Int) (i : Int) = some (if most < (zg2 b (vals s) : Int) then (0, 7) else (((zg2 b (vals s) : Nat) : Int), 0)) := by
  intro n
  induction n with
  | zero => intro i v _ h; omega
  | succ n ih =>
   intro i v hi h hv h0 h1;rw [zaN]
   by_cases hlt : i < s.length
   ·have hx : s[i]? = some s[i] := ygg hlt;have hw : wor s[i] < b := zxn hb (List.all_eq_true.1 hd _ (ygm hlt))
    have htk : vals (s.take (i + 1)) = vals (s.take i) ++ [wor s[i]] := by
     unfold vals;rw [List.take_succ_eq_append_getElem hlt, List.map_append]; rfl
    have hv' : zg2 b (vals (s.take (i + 1))) = v * b + wor s[i] := by rw [htk, zqE, ← hv]
    have hle : zg2 b (vals (s.take (i + 1))) ≤ zg2 b (vals s) := by
     have := zvb (b := b) (by omega) (vals (s.take (i + 1))) (vals (s.drop (i + 1)));unfold vals at this ⊢
     rwa [← List.map_append, List.take_append_drop] at this
    simp only [Int.ofNat_lt, hlt, decide_true, if_true, zil, hx, yob, znk]
    by_cases hov : most < (wor s[i] : Int)
    ·have : most < (zg2 b (vals s) : Int) := by
      have := yz (v * b); omega
     simp [hov, zcN, this]
    ·have hsub : zdZ most (wor s[i] : Int) = some (most - (wor s[i] : Int)) := zb6 (by omega) (by omega)
     have hdv : iDiv (most - (wor s[i] : Int)) (b : Int) = some ((most - (wor s[i] : Int)) / (b : Int)) := by
      unfold iDiv;have h5 : 0 ≤ (most - (wor s[i] : Int)) / (b : Int) := Int.ediv_nonneg (by omega) (by omega);have h6 : (most - (wor s[i] : Int)) / (b : Int) ≤ most - (wor s[i] : Int) := Int.ediv_le_self _ (by omega);rw [if_pos ⟨by omega, by omega, by rw [zho]; omega⟩]
     have hiff : (most - (wor s[i] : Int)) / (b : Int) < (v : Int) ↔ most < ((v * b + wor s[i] : Nat) : Int) := by
      rw [Int.ediv_lt_iff_lt_mul (by omega)]
      push_cast
      omega
     simp only [hov, decide_false, Bool.false_eq_true, if_false, hsub, hdv, yob, zcN]
     by_cases hov2 : (most - (wor s[i] : Int)) / (b : Int) < (v : Int)
     ·have h7 : most < (zg2 b (vals s) : Int) := by have := hiff.1 hov2; omega
      simp [hov2, h7]
     ·have h7 : ((v * b + wor s[i] : Nat) : Int) ≤ most := by have := (not_congr hiff).1 hov2; omega
      have hmul : zr6 (v : Int) (b : Int) = some ((v * b : Nat) : Int) := by
       rw [zyD (by rw [← Int.natCast_mul]; omega) (by rw [← Int.natCast_mul]; omega), Int.natCast_mul]
      have hadd : zav ((v * b : Nat) : Int) (wor s[i] : Int) = some ((v * b + wor s[i] : Nat) : Int) := by
       rw [zes (by omega) (by omega)]; simp
      simp only [hov2, decide_false, Bool.false_eq_true, if_false, hmul, hadd, yob, zM (show i < 4611686018427387904 by omega)];exact ih (i + 1) (v * b + wor s[i]) (by omega) (by omega) hv'.symm (.inr h7) (.inr h7)
   ·have : i = s.length := by omega
    subst this;rw [List.take_length] at hv
    have h8 : ¬ most < (zg2 b (vals s) : Int) := by rw [← hv]; rcases h1 with h1 | h1 <;> omega
    simp [h8, hv]
 have := key fuel 0 0 (yz _) (by unfold fuel; omega) (by simp [vals, zg2]) (.inl rfl) (.inl (by cases s with | nil => exact absurd rfl hne | cons _ _ => simp));simpa using this
theorem zjG {b : Nat} (hb : zpk b) (s : Str) (most : Int) (hs : s.length < 1000000000) (hm : most < 4611686018427387904) (hm0 : -4611686018427387904 < most) {f : UInt8 → Option Bool} (hf : ∀ c, f c = some (znH b c)) :
  zeM s (b : Int) most f = some (za1 b s most) := by
 unfold zeM za1
 rcases zh4 (s == []) with h | h
 ·rw [h]; simp [zcO]
 ·rw [h];rw [zcq hf s hs];simp only [Bool.false_eq_true, if_false, yob, zcO, Bool.false_or]
  rcases zh4 (s.all (znH b)) with h2 | h2
  ·rw [h2];simp only [ynt, Bool.false_eq_true, if_false];exact ztB hb s most hs h2 hm hm0 (by simpa using h)
  ·rw [h2]; simp
theorem zdX (s : Str) (most : Int) (hs : s.length < 1000000000) (hm : most < 4611686018427387904) (hm0 : -4611686018427387904 < most) : zbl s most = some (za1 10 s most) := by
 unfold zbl;have := zjG (.inl rfl) s most hs hm hm0 (f := zR) zgF;rw [show ((10 : Nat) : Int) = 10 from rfl] at this;rw [this]; rfl
theorem zpl (s : Str) (most : Int) (hs : s.length < 1000000000) (hm : most < 4611686018427387904) (hm0 : -4611686018427387904 < most) : zgY s most = some (za1 16 s most) := by
 unfold zgY;have := zjG (.inr rfl) s most hs hm hm0 (f := zap) zeI;rw [show ((16 : Nat) : Int) = 16 from rfl] at this;rw [this]; rfl
theorem zvc (l : List Nat) : (zm l).length = l.length := by simp [zm]
end Go.Dm
end
section
namespace Go.Dm
def low (s : Str) : Str := s.map zkE
theorem zgH (s : Str) (hs : s.length < 1000000000) : zfs s = some (low s) := by
 unfold zfs;rw [if_pos (by omega)];unfold low
 clear hs
 induction s with
 | nil => rfl
 | cons x s ih => simp [List.mapM_cons, zpt, ih]
theorem zli (a b : Str) (ha : a.length < 1000000000) (hb : b.length < 1000000000) : zgw a b = some (low a == low b) := by
 unfold zgw;rw [zgH a ha, zgH b hb]; rfl
end Go.Dm
end
section
namespace Go.Dm
def upto (cs s : Str) : Str := s.takeWhile (fun c => !cs.contains c)
def zck (cs s : Str) : Str := s.dropWhile (fun c => !cs.contains c)
theorem zeX (cs s : Str) : upto cs s ++ zck cs s = s := List.takeWhile_append_dropWhile
theorem zru (cs s : Str) : (upto cs s).length ≤ s.length := by
 have := congrArg List.length (zeX cs s); simp at this; omega
theorem zqG (cs s : Str) : s.take (upto cs s).length = upto cs s := by
 have h := zeX cs s
 conv => lhs; arg 2; rw [← h]
 exact List.take_left
theorem zqH (cs s : Str) : s.drop (upto cs s).length = zck cs s := by
 have h := zeX cs s
 conv => lhs; arg 2; rw [← h]
 exact List.drop_left
theorem zrv (cs s : Str) : zck cs s = [] ↔ (upto cs s).length = s.length := by
 have h := congrArg List.length (zeX cs s);simp only [yla] at h;rw [← List.length_eq_zero_iff]; omega
theorem zvf {cs s : Str} {c : UInt8} {r : Str} (h : zck cs s = c :: r) : cs.contains c = true := by
 have := List.head?_dropWhile_not (fun c => !cs.contains c) s;unfold zck at h;rw [h] at this;simpa using this
theorem zkC {cs s : Str} {x : UInt8} (h : cs.contains x = true) : upto cs (x :: s) = [] := by
 unfold upto; rw [List.takeWhile_cons_of_neg (by rw [h]; simp)]
theorem zij {cs s : Str} {x : UInt8} (h : cs.contains x = true) : zck cs (x :: s) = x :: s := by
 unfold zck; rw [List.dropWhile_cons_of_neg (by rw [h]; simp)]
theorem zkD {cs s : Str} {x : UInt8} (h : cs.contains x = false) : upto cs (x :: s) = x :: upto cs s := by
 unfold upto; rw [List.takeWhile_cons_of_pos (by rw [h]; rfl)]
theorem zik {cs s : Str} {x : UInt8} (h : cs.contains x = false) : zck cs (x :: s) = zck cs s := by
 unfold zck; rw [List.dropWhile_cons_of_pos (by rw [h]; rfl)]

theorem zqI (cs : Str) : ∀ (s : Str) (k : Nat), zkh s cs k = if zck cs s = [] then -1 else ((k + (upto cs s).length : Nat) : Int)
 | [], k => by simp [zkh, zck]
 | x :: s, k => by
  simp only [zkh]
  by_cases h : cs.contains x = true
  ·rw [if_pos h, zkC h, zij h]; simp
  ·have h' : cs.contains x = false := by simpa using h
   rw [if_neg h, zqI cs s (k + 1)];rw [zik h', zkD h', ylc]
   split
   ·rfl
   ·congr 1; omega
theorem zrw (s p : Str) (hs : s.length < 1000000000) : stringslite_HasPrefix s p = some (p.isPrefixOf s) := by
 unfold stringslite_HasPrefix
 by_cases h : p.length ≤ s.length
 ·have h' : (p.length : Int) ≤ (s.length : Int) := by omega
  simp only [h', decide_true, if_true, zeY h, yob, zag]
  congr 1
  rw [Bool.eq_iff_iff, beq_iff_eq, List.isPrefixOf_iff_prefix, List.prefix_iff_eq_take];exact eq_comm
 ·have h' : ¬ (p.length : Int) ≤ (s.length : Int) := by omega
  simp only [h', decide_false, Bool.false_eq_true, if_false, zag]
  congr 1
  rw [eq_comm, Bool.eq_false_iff];intro hp;rw [List.isPrefixOf_iff_prefix] at hp;exact h hp.length_le
theorem zeH (s p : Str) (hs : s.length < 1000000000) : strings_HasPrefix s p = some (p.isPrefixOf s) := by
 unfold strings_HasPrefix;rw [zrw s p hs]; rfl
theorem zhi (s cs : Str) (hs : s.length < 1000000000) (hc : cs.length < 1000000000) (ha : cs.all (fun c => c.toNat < 128) = true) :
  strings_IndexAny s cs = some (if zck cs s = [] then -1 else ((upto cs s).length : Int)) := by
 unfold strings_IndexAny;rw [if_pos ⟨by omega, by omega, ha⟩, zqI, Nat.zero_add]
theorem zsL (cs s : Str) : zck cs s = [] ↔ s.any cs.contains = false := by
 induction s with
 | nil => simp [zck]
 | cons x s ih =>
  rcases zh4 (cs.contains x) with h | h
  ·rw [zij h, List.any_cons, h]; simp
  ·rw [zik h, ih, List.any_cons, h, Bool.false_or]
theorem zf9 (s cs : Str) (hs : s.length < 1000000000) (hc : cs.length < 1000000000) (ha : cs.all (fun c => c.toNat < 128) = true) : strings_ContainsAny s cs = some (s.any cs.contains) := by
 unfold strings_ContainsAny;rw [zhi s cs hs hc ha, yob]
 rcases zh4 (s.any cs.contains) with h | h
 ·have e : ¬ zck cs s = [] := fun e => by rw [(zsL cs s).1 e] at h; cases h
  rw [if_neg e, h]; simp
 ·rw [if_pos ((zsL cs s).2 h), h]; rfl

end Go.Dm
end
section
namespace Go.Dm
def scn (s : Str) (k : Nat) : scan_Scanner := ⟨s, (k : Int)⟩
theorem zfH (s : Str) : zfR s = some (scn s 0) := rfl
theorem zjn (s : Str) (k : Nat) : zbk (scn s k) = some (k : Int) := rfl
theorem zmB {s : Str} {k : Nat} (h : k ≤ s.length) : zJ (scn s k) = some (s.drop k) := by
 unfold zJ scn;rw [zcR h]; rfl
theorem zky {s : Str} {k : Nat} (h : k ≤ s.length) : zah (scn s k) = some (s.drop k == []) := by
 unfold zah;rw [zmB h]; rfl
theorem ziu {s : Str} {k : Nat} (h : k ≤ s.length) (hd : s.drop k = []) : zq (scn s k) = some (0, false) := by
 unfold zq;rw [zky h, hd]; rfl
theorem zhT {s : Str} {k : Nat} {x : UInt8} {r : Str} (h : k ≤ s.length) (hd : s.drop k = x :: r) : zq (scn s k) = some (x, true) := by
 unfold zq;rw [zky h, hd]
 have hx : s[k]? = some x := by
  have := congrArg (·[0]?) hd;simpa using this
 simp [scn, hx]
theorem zpS {s : Str} {k : Nat} (b : UInt8) (h : k ≤ s.length) (hd : s.drop k = []) : ze (scn s k) b = some (false, scn s k) := by
 unfold ze;rw [ziu h hd]; rfl
theorem zf8 {s : Str} {k : Nat} {x : UInt8} {r : Str} (b : UInt8) (h : k ≤ s.length) (hs : s.length < 1000000000) (hd : s.drop k = x :: r) : ze (scn s k) b = some (x == b, if x == b then scn s (k + 1) else scn s k) := by
 unfold ze;rw [zhT h hd];simp only [yob, ynt, Bool.false_eq_true, if_false, zbR]
 rcases zh4 (x == b) with hb | hb
 ·rw [hb]; simp [scn, zM (show k < 4611686018427387904 by omega)]
 ·rw [hb]; simp
theorem zmC {s : Str} {k : Nat} {x : UInt8} {r : Str} (hd : s.drop k = x :: r) : k < s.length ∧ s.drop (k + 1) = r := by
 have hl : k < s.length := by
  rcases Nat.lt_or_ge k s.length with h | h
  ·exact h
  ·rw [List.drop_eq_nil_of_le h] at hd; cases hd
 refine ⟨hl, ?_⟩;rw [ydg hl] at hd;exact (List.cons.inj hd).2
theorem zpT {f : UInt8 → Option Bool} {p : UInt8 → Bool} (hf : ∀ b, f b = some (p b)) {s : Str} {k : Nat} (hs : s.length < 1000000000) (hk : k ≤ s.length) :
  zS (scn s k) f = some ((s.drop k).takeWhile p, scn s (k + ((s.drop k).takeWhile p).length)) := by
 unfold zS;rw [zjn, yob];show zN f k fuel s k = _
 have key : ∀ (n i : Nat), k ≤ i → i ≤ s.length → s.length - i < n → zN f k n s i = some ((s.take (i + ((s.drop i).takeWhile p).length)).drop k, scn s (i + ((s.drop i).takeWhile p).length)) := by
  intro n
  induction n with
  | zero => intro i _ _ h; omega
  | succ n ih =>
   intro i hki hi h;rw [zN];have e : (⟨s, (i : Int)⟩ : scan_Scanner) = scn s i := rfl;rw [e]
   cases hd : s.drop i with
   | nil =>
    rw [ziu hi hd];simp [zaJ, zbr, zg3 hki hi, scn]
   | cons x r =>
    obtain ⟨hlt, hr⟩ := zmC hd;rw [zhT hi hd];simp only [yob, ynt, Bool.false_eq_true, if_false, hf, zaJ, zM (show i < 4611686018427387904 by omega), ih (i + 1) (by omega) (by omega) (by omega), hr, List.takeWhile_cons]
    rcases zh4 (p x) with hp | hp
    ·rw [hp]; simp [Nat.add_assoc, Nat.add_comm 1]
    ·rw [hp]; simp [zbr, zg3 hki hi, scn]
 rw [key fuel k (Nat.le_refl _) hk (by unfold fuel; omega)]
 congr 2
 rw [List.drop_take, Nat.add_sub_cancel_left];have := List.takeWhile_prefix (l := s.drop k) p;exact (List.prefix_iff_eq_take.1 this).symm
theorem zjo (p : UInt8 → Bool) (s : Str) : (s.takeWhile p).length ≤ s.length := (List.takeWhile_prefix p).length_le
theorem zvd (p : UInt8 → Bool) (s : Str) (k : Nat) (hk : k ≤ s.length) : s.drop (k + ((s.drop k).takeWhile p).length) = (s.drop k).dropWhile p ∧ k + ((s.drop k).takeWhile p).length ≤ s.length := by
 refine ⟨?_, ?_⟩
 ·rw [← List.drop_drop];generalize s.drop k = t;have h := List.takeWhile_append_dropWhile (p := p) (l := t)
  conv => lhs; arg 2; rw [← h]
  exact List.drop_left
 ·have := zjo p (s.drop k);rw [yld] at this; omega
end Go.Dm
end
section
namespace Go.Dm
structure At (s : Str) (k : Nat) (r : Str) : Prop where
 le : k ≤ s.length
 drop : s.drop k = r
theorem At.zero (s : Str) : At s 0 s := ⟨yz _, rfl⟩
theorem At.len {s : Str} {k : Nat} {r : Str} (h : At s k r) : k + r.length = s.length := by
 have := congrArg List.length h.drop;rw [yld] at this;have := h.le;omega
theorem At.le_len {s : Str} {k : Nat} {r : Str} (h : At s k r) : r.length ≤ s.length := by have := h.len; omega
theorem At.next {s : Str} {k : Nat} {r : Str} (h : At s k r) (n : Nat) (hn : n ≤ r.length) : At s (k + n) (r.drop n) :=
 ⟨by have := h.len; omega, by rw [← List.drop_drop, h.drop]⟩
def zub : Str → UInt8 × Bool
 | [] => (0, false)
 | x :: _ => (x, true)
def zep (b : UInt8) (r : Str) : Bool := r.head? == some b
def z8 (b : UInt8) (r : Str) : Str := if zep b r then r.drop 1 else r
theorem zve (b : UInt8) : zep b [] = false := rfl
theorem zdi (b x : UInt8) (r : Str) : zep b (x :: r) = (x == b) := Option.some_beq_some ..
theorem zcc (b : UInt8) (r : Str) : z8 b (b :: r) = r := by unfold z8; rw [zdi, ybs, if_pos rfl]; rfl
theorem zlT {b : UInt8} {r : Str} (h : zep b r = false) : z8 b r = r := by unfold z8; rw [h]; rfl
theorem zeG {b : UInt8} {r : Str} (h : zep b r = true) : r = b :: z8 b r := by
 cases r with
 | nil => cases h
 | cons x r =>
  rw [zdi] at h
  have : x = b := by simpa using h
  subst this;rw [zcc]
section
variable {s r : Str} {k : Nat}
theorem zrr (h : At s k r) : zah (scn s k) = some (r == []) := by rw [zky h.le, h.drop]
theorem zn5 (h : At s k r) : zJ (scn s k) = some r := by rw [zmB h.le, h.drop]
theorem zmD (h : At s k r) : zq (scn s k) = some (zub r) := by
 cases r with
 | nil => exact ziu h.le h.drop
 | cons x r => exact zhT h.le h.drop
theorem zeq (hs : s.length < 1000000000) (b : UInt8) (h : At s k r) : ∃ k', At s k' (z8 b r) ∧ ze (scn s k) b = some (zep b r, scn s k') := by
 cases r with
 | nil => exact ⟨k, h, zpS b h.le h.drop⟩
 | cons x r =>
  rw [zf8 b h.le hs h.drop, zdi];unfold z8;rw [zdi]
  cases x == b with
  | true => exact ⟨k + 1, h.next 1 (by simp), rfl⟩
  | false => exact ⟨k, h, rfl⟩
theorem ziR {f : UInt8 → Option Bool} {p : UInt8 → Bool} (hf : ∀ b, f b = some (p b)) (hs : s.length < 1000000000) (h : At s k r) : ∃ k', At s k' (r.dropWhile p) ∧ zS (scn s k) f = some (r.takeWhile p, scn s k') := by
 have e := zpT hf hs h.le;rw [h.drop] at e;have hd := zvd p s k h.le;rw [h.drop] at hd;exact ⟨_, ⟨hd.2, hd.1⟩, e⟩
theorem zsK (hs : s.length < 1000000000) (h : At s k r) : ∃ k', At s k' (r.dropWhile zbG) ∧ zbx (scn s k) = some (r.takeWhile zbG, !(r.takeWhile zbG == []), scn s k') := by
 obtain ⟨k', h1, h2⟩ := ziR ziS hs h;refine ⟨k', h1, ?_⟩;unfold zbx;rw [h2]; rfl
theorem zyy (hs : s.length < 1000000000) (t : Str) (ht : t.length < 1000000000) (h : At s k r) : ∃ k', At s k' (if t.isPrefixOf r then r.drop t.length else r) ∧ zbZ (scn s k) t = some (t.isPrefixOf r, scn s k') := by
 unfold zbZ;have := h.le_len;rw [zn5 h, yob, zeH r t (by omega), yob]
 cases hp : t.isPrefixOf r with
 | false => exact ⟨k, h, rfl⟩
 | true =>
  have hl := (List.isPrefixOf_iff_prefix.1 hp).length_le;have hk := h.len;rw [if_pos rfl];show ∃ k', At s k' (r.drop t.length) ∧ ((zav (k : Int) (t.length : Int)).bind fun i9 => some (true, (⟨s, i9⟩ : scan_Scanner))) = _;rw [zes (by omega) (by omega), yob];exact ⟨k + t.length, h.next _ hl, by unfold scn; simp⟩
end
end Go.Dm
end
section
namespace Go.Dm
theorem ziY (c : UInt8) (s : Str) : zx c s ≠ [] := by
 cases s with
 | nil => simp [zx]
 | cons x s =>
  unfold zx
  split
  ·simp
  ·split <;> simp
theorem zle {b c : UInt8} {l : Str} (h : b ≠ c) : Go.Lib.index (b :: l) [c] = if Go.Lib.index l [c] = -1 then -1 else Go.Lib.index l [c] + 1 := by
 have hp : ([c] : List UInt8).isPrefixOf (b :: l) = false := by simp [List.isPrefixOf, Ne.symm h]
 rw [Go.Lib.index, hp]; simp
theorem zlf (c : UInt8) (l : Str) : Go.Lib.index (c :: l) [c] = 0 := by
 rw [Go.Lib.index]; simp [List.isPrefixOf]
theorem zlv (c : UInt8) : ∀ (s : Str) (k : Nat), Go.Lib.count s [c] = k → Go.Lib.splitK [c] 0 k s = zx c s
 | [], k, h => by
  rw [Go.Lib.count_one] at h;simp at h; subst h; rfl
 | b :: l, k, h => by
  by_cases hb : b = c
  ·subst hb;rw [Go.Lib.count_cons_eq] at h;obtain ⟨m, rfl⟩ : ∃ m, k = m + 1 := ⟨k - 1, by omega⟩;have ih := zlv b l m (by omega);unfold Go.Lib.splitK;rw [zlf];simp [zx, ih]
  ·rw [Go.Lib.count_cons_ne b c l hb] at h;have ih := zlv c l k h;unfold zx;rw [if_neg hb, ← ih]
   cases k with
   | zero => simp [Go.Lib.splitK]
   | succ k =>
    unfold Go.Lib.splitK;rw [zle hb];have hge := Go.Lib.index_ge l [c]
    by_cases hm : Go.Lib.index l [c] = -1
    ·rw [Go.Lib.count_miss hm] at h; omega
    ·obtain ⟨j, hj⟩ : ∃ j : Nat, Go.Lib.index l [c] = j := ⟨(Go.Lib.index l [c]).toNat, by omega⟩
     have e1 : ¬ ((j : Int) + 1 = -1) := by omega
     have e2 : ¬ ((j : Int) = -1) := by omega
     have e3 : ((j : Int) + 1).toNat = j + 1 := by omega
     rw [hj];simp [e1, e2, e3, Nat.add_right_comm j 1 1]
theorem zmS (s : Str) (c : UInt8) (hs : s.length < 1000000000) : strings_Split s [c] = some (zx c s) := by
 unfold strings_Split;rw [if_pos ⟨by omega, by simp⟩];rw [zlv c s _ rfl]
def zgq (p : Str) : List Str → List Str
 | [] => [p]
 | h :: t => (p ++ h) :: t
theorem zhl (c x : UInt8) (s : Str) : zx c (x :: s) = if x = c then [] :: zx c s else zgq [x] (zx c s) := by
 rw [zx]
 split
 ·rfl
 ·cases h : zx c s <;> rfl
theorem zs6 (l : List Str) (h : l ≠ []) : zgq [] l = l := by
 cases l with
 | nil => exact absurd rfl h
 | cons a t => rfl
theorem zpF (p q : Str) (l : List Str) (h : l ≠ []) : zgq p (zgq q l) = zgq (p ++ q) l := by
 cases l with
 | nil => exact absurd rfl h
 | cons a t => simp [zgq]
theorem zj3 (c : UInt8) : ∀ (a s : Str), c ∉ a → zx c (a ++ s) = zgq a (zx c s)
 | [], s, _ => (zs6 _ (ziY c s)).symm
 | x :: a, s, h => by
  have hx : ¬ x = c := fun e => h (by simp [e]);rw [List.cons_append, zhl, if_neg hx, zj3 c a s (fun e => h (List.mem_cons_of_mem _ e)), zpF _ _ _ (ziY c s)];rfl
theorem zqV {c : UInt8} {a : Str} (h : c ∉ a) : zx c a = [a] := by
 have := zj3 c a [] h;simpa [zx, zgq] using this
theorem zs7 {c : UInt8} {a : Str} (s : Str) (h : c ∉ a) : zx c (a ++ c :: s) = a :: zx c s := by
 rw [zj3 c a _ h, zhl, if_pos rfl];simp [zgq]
theorem zgN {c : UInt8} : ∀ {s p : Str}, p ∈ zx c s → c ∉ p ∧ p.length ≤ s.length ∧ ∀ x ∈ p, x ∈ s
 | [], p, h => by
  simp [zx] at h; subst h; simp
 | x :: s, p, h => by
  rw [zhl] at h
  split at h
  ·rcases List.mem_cons.1 h with rfl | h
   ·simp
   ·obtain ⟨h1, h2, h3⟩ := zgN h;exact ⟨h1, by simp; omega, fun y hy => List.mem_cons_of_mem _ (h3 y hy)⟩
  ·rename_i hx
   cases hl : zx c s with
   | nil => exact absurd hl (ziY c s)
   | cons a t =>
    rw [hl] at h
    rcases List.mem_cons.1 h with rfl | h
    ·obtain ⟨h1, h2, h3⟩ := zgN (c := c) (s := s) (p := a) (by rw [hl]; simp);refine ⟨?_, by simp; omega, ?_⟩
     ·simp only [List.singleton_append, ymc, not_or]; exact ⟨fun e => hx e.symm, h1⟩
     ·intro y hy;simp only [List.singleton_append, ymc] at hy ⊢
      rcases hy with hy | hy
      ·exact .inl hy
      ·exact .inr (h3 y hy)
    ·obtain ⟨h1, h2, h3⟩ := zgN (c := c) (s := s) (p := p) (by rw [hl]; exact List.mem_cons_of_mem _ h);exact ⟨h1, by simp; omega, fun y hy => List.mem_cons_of_mem _ (h3 y hy)⟩
theorem zh1 (c : UInt8) : ∀ s : Str, (zx c s).length ≤ s.length + 1
 | [] => by simp [zx]
 | x :: s => by
  have ih := zh1 c s;rw [zhl]
  split
  ·simp; omega
  ·cases hl : zx c s with
   | nil => exact absurd hl (ziY c s)
   | cons a t => rw [hl] at ih; simp [zgq] at ih ⊢; omega
end Go.Dm
end
section
namespace Go.Dm
def zkW (s : Str) (most : Int) : Bool := (za1 10 s most).2 == 0 && zkx 10 (za1 10 s most).1 == s
theorem zo5 {b : Nat} {s : Str} {most : Int} (h : (za1 b s most).2 = 0) (hm : most < 4611686018427387904) : 0 ≤ (za1 b s most).1 ∧ (za1 b s most).1 ≤ most ∧ inI (za1 b s most).1 = true := by
 unfold za1 at *
 split at h
 ·cases h
 ·rename_i h1
  rw [if_neg h1]
  split at h
  ·cases h
  ·rename_i h2
   rw [if_neg h2];refine ⟨by simp only; omega, by simp only; omega, by rw [zho]; simp only; omega⟩
theorem zid (s : Str) (most : Int) (hs : s.length < 1000000000) (hm : most < 4611686018427387904) (hm0 : -4611686018427387904 < most) : zcy s most = some (zkW s most) := by
 unfold zcy zkW;rw [zdX s most hs hm hm0, yob]
 by_cases h : (za1 10 s most).2 = 0
 ·have hi := (zo5 h hm).2.2;simp [h, zhc _ hi, zb0]
 ·simp [h, zb0]
def zji (s : Str) : Bool := (zx 46 s).all (fun x => zkW x 255) && decide (((zx 46 s).length : Int) = 4)
theorem zqz {α β : Type} {f : α → Option β} {g : α → β} : ∀ {l : List α}, (∀ x ∈ l, f x = some (g x)) → l.mapM f = some (l.map g)
 | [], _ => rfl
 | x :: l, h => by
  rw [List.mapM_cons, h x (List.mem_cons_self ..), zqz fun y hy => h y (List.mem_cons_of_mem _ hy)]; rfl
theorem ziN (s : Str) (hs : s.length < 1000000000) : zed s = some (zji s) := by
 unfold zed zji;rw [if_pos hs, zqz (g := fun x => zkW x 255) fun x hx => zid x 255 (by have := (zgN hx).2.1; omega) (by decide) (by decide)];simp only [yob, List.length_map, List.all_map];rfl
def zkm : Str → Bool
 | [] => true
 | c :: s => if c == 37 then (match s with
  | a :: b :: r => zhd a && zhd b && zkm r
  | _ => false) else (zlW c || ztE c) && zkm s
theorem zuZ (s : Str) : zkm (37 :: s) = (match s with | a :: b :: r => zhd a && zhd b && zkm r | _ => false) := by
 rw [zkm.eq_def]
 match s with
 | [] => rfl
 | [_] => rfl
 | _ :: _ :: _ => rfl
theorem zu0 (c : UInt8) (s : Str) (h : (c == 37) = false) : zkm (c :: s) = ((zlW c || ztE c) && zkm s) := by
 rw [zkm.eq_def]; simp only [h, Bool.false_eq_true, if_false]
def znd (s : Str) : Bool := !(s == []) && zkm s
theorem zne (s : Str) (hs : s.length < 1000000000) : ze7 s = some (znd s) := by
 unfold ze7 znd
 rcases zh4 (s == []) with h0 | h0
 ·rw [h0]; simp
 rw [h0];simp only [Bool.false_eq_true, if_false, ynf, Bool.true_and]
 have key : ∀ (n : Nat) (s : Str), s.length < n → s.length < 1000000000 → zat n s = some (zkm s) := by
  intro n
  induction n with
  | zero => intro s h; omega
  | succ n ih =>
   intro s h hs;rw [zat]
   cases s with
   | nil => simp [zkm]
   | cons c s =>
    have h1 : ((c :: s == ([] : Str))) = false := rfl
    have e1 : ze4 (c :: s) 1 = some s := by
     have := zcR (l := c :: s) (i := 1) (by simp);simpa using this
    simp only [ylc] at h hs;simp only [h1, ynf, if_true, zeP, zpq, List.getElem?_cons_zero, yob, zjQ, zpu, zdr, e1, ih s (by omega) (by omega), Bool.false_eq_true, if_false]
    rcases zh4 (c == 37) with hc | hc
    ·have : c = 37 := by simpa using hc
     subst this
     have hu : zlW 37 = false := by decide
     have hb : ztE 37 = false := by decide
     rw [zuZ]
     match s, h, hs with
     | [], _, _ => simp [hu, hb, zX]
     | [a], _, _ => simp [hu, hb, zX]
     | a :: b :: r, h, hs =>
      have h2 : (3 : Int) ≤ ((37 :: a :: b :: r : Str).length : Int) := by simp only [ylc]; omega
      have e3 : ze4 (37 :: a :: b :: r) 3 = some r := by
       have := zcR (l := 37 :: a :: b :: r) (i := 3) (by simp);simpa using this
      have e2 : zke (37 :: a :: b :: r) 1 3 = some [a, b] := by
       have := zg3 (l := 37 :: a :: b :: r) (i := 1) (h := 3) (by decide) (by simp);simpa using this
      simp only [ylc] at h hs;simp only [h2, decide_true, if_true, ybs, e2, yob, zcq zeI [a, b] (by simp), zX, e3, ih r (by omega) (by omega), hu, hb, Bool.false_eq_true, if_false];cases ha : zhd a <;> cases hb : zhd b <;> simp [ha, hb]
    ·rw [zu0 c s hc, hc];simp only [Bool.false_eq_true, if_false, zX]
     have : (if (decide ((3 : Int) ≤ ((c :: s).length : Int))) = true then some false else some false) = some false := by split <;> rfl
     rw [this];simp only [yob, Bool.false_eq_true, if_false];cases hp : zlW c <;> cases hq : ztE c <;> simp
 exact key fuel s (zmI (by omega)) hs
def under (a b : Str) : Bool := znd a && znd b && !zji a && !zji b && (low a == low b || ((46 :: low b) : Str).isSuffixOf (low a))
end Go.Dm
end
section
namespace Go.Dm
def zbI (t : Str) : Str → Option (Str × Str)
 | [] => none
 | x :: s => if t.isPrefixOf (x :: s) then some ([], (x :: s).drop t.length) else (zbI t s).map fun p => (x :: p.1, p.2)
theorem zfv {t : Str} : ∀ {s a b : Str}, zbI t s = some (a, b) → s = a ++ t ++ b
 | [], _, _, h => by cases h
 | x :: s, a, b, h => by
  rw [zbI] at h
  split at h
  ·rename_i hp
   obtain ⟨r, hr⟩ := List.isPrefixOf_iff_prefix.1 hp;simp only [Option.some.injEq, Prod.mk.injEq] at h;obtain ⟨rfl, rfl⟩ := h;rw [← hr]; simp
  ·cases hc : zbI t s with
   | none => rw [hc] at h; cases h
   | some p =>
    rw [hc] at h;simp only [Option.map_some, Option.some.injEq, Prod.mk.injEq] at h;obtain ⟨rfl, rfl⟩ := h;have := zfv (a := p.1) (b := p.2) hc;rw [List.cons_append, List.cons_append, ← this]
theorem zkX {t : Str} (ht : t ≠ []) : ∀ s : Str, Go.Lib.index s t = match zbI t s with | none => -1 | some p => (p.1.length : Int)
 | [] => by
  cases t with
  | nil => exact absurd rfl ht
  | cons y t => rfl
 | x :: s => by
  rw [Go.Lib.index, zbI, zkX ht s]
  cases t.isPrefixOf (x :: s) with
  | true => rfl
  | false =>
   cases zbI t s with
   | none => rfl
   | some p =>
    simp only [Bool.false_eq_true, if_false, Option.map_some, ylc];have : ((p.1.length : Int) == -1) = false := beq_eq_false_iff_ne.2 (by omega);rw [this];simp
theorem zks (s t : Str) (hs : s.length < 1000000000) (ht : t ≠ []) : strings_Cut s t = some (match zbI t s with | none => (s, [], false) | some p => (p.1, p.2, true)) := by
 unfold strings_Cut Go.Lib.cut;rw [if_pos (by omega), zkX ht]
 congr 1
 cases hc : zbI t s with
 | none => rfl
 | some p =>
  have e := zfv (a := p.1) (b := p.2) hc
  have h0 : (0 : Int) ≤ (p.1.length : Int) := by omega
  simp only [h0, if_true, Int.toNat_natCast]
  have e1 : s.take p.1.length = p.1 := by rw [e, yaa, List.take_left']; rfl
  have e2 : s.drop (p.1.length + t.length) = p.2 := by rw [e, List.drop_left']; simp
  rw [e1, e2]
def grp (x : Str) : Bool := decide (1 ≤ x.length) && decide (x.length ≤ 4) && x.all zhd
def zeE (last : Bool) : List Str → Option Nat
 | [] => some 0
 | [x] => if last && zji x then some 2 else if grp x then some 1 else none
 | x :: y :: l => if grp x then (zeE last (y :: l)).map (· + 1) else none
def zpa (a : Nat) : Option Nat → Int
 | none => -1
 | some k => ((a + k : Nat) : Int)
theorem zmq (rec1 : Int → Int → Option Int) (a i : Nat) (hi : i < 4000000000) : zby rec1 (i : Int) (a : Int) = rec1 (a : Int) ((i + 1 : Nat) : Int) := by
 unfold zby; rw [zM (by omega), yob]
theorem zmr (rec1 : Int → Int → Option Int) (a i : Nat) (t : Bool) (hi : i < 4000000000) (ha : a < 4000000000) : zaQ rec1 (a : Int) (i : Int) t = if t = true then rec1 ((a + 1 : Nat) : Int) ((i + 1 : Nat) : Int) else some (-1) := by
 unfold zaQ;rw [zM (by omega), yob, zmq rec1 (a + 1) i hi]
theorem zrk (rec1 : Int → Int → Option Int) (a i : Nat) (x : Str) (t : Bool) (hi : i < 4000000000) (ha : a < 4000000000) (hx : x.length < 1000000000) :
  zaR rec1 (a : Int) (i : Int) x t = if t = true then rec1 ((a + 2 : Nat) : Int) ((i + 1 : Nat) : Int) else if grp x = true then rec1 ((a + 1 : Nat) : Int) ((i + 1 : Nat) : Int) else some (-1) := by
 unfold zaR grp
 have i2 : zav (a : Int) 2 = some ((a + 2 : Nat) : Int) := by rw [zes (by omega) (by omega)]; simp
 have e1 : decide ((1 : Int) ≤ (x.length : Int)) = decide (1 ≤ x.length) := decide_eq_decide.2 (by omega);have e2 : decide ((x.length : Int) ≤ 4) = decide (x.length ≤ 4) := decide_eq_decide.2 (by omega);rw [i2, yob, zmq rec1 (a + 2) i hi, zcq zeI x hx, yob, zmr rec1 a i _ hi ha, zmr rec1 a i _ hi ha, e1, e2];generalize rec1 _ _ = r1;generalize rec1 _ _ = r2;generalize decide (1 ≤ x.length) = d1;generalize decide (x.length ≤ 4) = d2;generalize x.all zhd = d3;cases t <;> cases d1 <;> cases d2 <;> cases d3 <;> rfl
theorem zpb (last : Bool) (x : Str) : zeE last [x] = if last && zji x then some 2 else if grp x then some 1 else none := rfl
theorem znB (last : Bool) (x y : Str) (l : List Str) : zeE last (x :: y :: l) = if grp x then (zeE last (y :: l)).map (· + 1) else none := rfl
theorem zu4 (a : Nat) (o : Option Nat) : zpa a (o.map (· + 1)) = zpa (a + 1) o := by
 cases o with
 | none => rfl
 | some k => simp only [Option.map_some, zpa]; congr 1; omega
theorem zjk (last : Bool) (l : List Str) (hl : l.length < 1000000000) (hx : ∀ x ∈ l, x.length < 1000000000) : ∀ (n i a : Nat), i ≤ l.length → l.length - i < n → a ≤ 2 * i → zD last l n (a : Int) (i : Int) = some (zpa a (zeE last (l.drop i)))
 | 0, _, _, _, h, _ => by omega
 | n + 1, i, a, hi, h, ha => by
  rw [zD]
  cases hd : l.drop i with
  | nil =>
   have : i = l.length := by have := congrArg List.length hd; simp at this; omega
   subst this;simp [zeE, zpa]
  | cons x t =>
   have hlt : i < l.length := by have := congrArg List.length hd; simp at this; omega
   have hxx : l[i]? = some x := by have := congrArg (·[0]?) hd; simpa using this
   have ht : l.drop (i + 1) = t := by rw [← List.drop_drop, hd]; rfl
   have htl : t.length = l.length - (i + 1) := by rw [← ht]; simp
   have hxl := hx x (List.mem_of_getElem? hxx)
   have hsub : zdZ (l.length : Int) 1 = some ((l.length - 1 : Nat) : Int) := by rw [zb6 (by omega) (by omega)]; congr 1; omega
   have ih1 := zjk last l hl hx n (i + 1) (a + 1) (by omega) (by omega) (by omega);have ih2 := zjk last l hl hx n (i + 1) (a + 2) (by omega) (by omega) (by omega);rw [ht] at ih1 ih2;have j2 := fun t => zrk (zD last l n) a i x t (by omega) (by omega) hxl;simp only [Int.ofNat_lt, hlt, decide_true, if_true, zbd, hxx, yob, hsub, ziN x hxl, j2, ih1, ih2]
   cases t with
   | nil =>
    have hei : ((i : Int) == ((l.length - 1 : Nat) : Int)) = true := by simp at htl; simp; omega
    rw [hei, zpb];have en : ∀ b, zeE b [] = some 0 := fun _ => rfl;rw [en];cases last <;> cases zji x <;> cases grp x <;> rfl
   | cons y t =>
    have hei : ((i : Int) == ((l.length - 1 : Nat) : Int)) = false := by simp at htl; simp; omega
    rw [hei, znB];have := zu4 a (zeE last (y :: t));have hn : zpa a none = -1 := rfl;cases last <;> cases grp x <;> simp only [if_true, Bool.false_eq_true, if_false, this, hn]
def zjl (s : Str) : List Str := if s = [] then [] else zx 58 s
theorem zng (s : Str) (last : Bool) (hs : s.length < 900000000) : zb9 s last = some (zpa 0 (zeE last (zjl s))) := by
 unfold zb9 zjl
 by_cases h0 : s = []
 ·subst h0; rfl
 ·have h1 : (s == []) = false := beq_eq_false_iff_ne.2 h0;rw [h1, if_neg h0];have hl := zh1 58 s;simp only [Bool.false_eq_true, if_false, zmS s 58 (by omega), yob];have := zjk last (zx 58 s) (by omega) (fun x hx => by have := (zgN hx).2.1; omega) fuel 0 0 (by omega) (by unfold fuel; omega) (by omega);simpa using this
theorem zqB (last : Bool) : ∀ (l : List Str) (k : Nat), zeE last l = some k → k ≤ l.length + 1
 | [], k, h => by cases h; omega
 | [x], k, h => by
  rw [zpb] at h
  split at h
  ·cases h; simp
  ·split at h
   ·cases h; simp
   ·cases h
 | x :: y :: l, k, h => by
  rw [znB] at h
  split at h
  ·obtain ⟨j, hj, rfl⟩ := Option.map_eq_some_iff.1 h;have := zqB last (y :: l) j hj;simp only [ylc] at this ⊢;omega
  ·cases h
theorem zms (s : Str) (last : Bool) (hs : s.length < 900000000) (k : Nat) (h : zeE last (zjl s) = some k) : k < 1000000000 := by
 have h1 := zqB last _ k h;have h2 := zh1 58 s;unfold zjl at h1
 split at h1
 ·simp at h1; omega
 ·omega
def zt6 (s : Str) : Bool := zeE true (zx 58 s) == some 8
def zt7 (s : Str) : Bool := match zbI [58, 58] s with
 | none => zt6 s
 | some p => match zeE false (zjl p.1), zeE true (zjl p.2) with
  | some a, some b => decide (a + b ≤ 7)
  | _, _ => false
theorem Six_eq (s : Str) (hs : s.length < 900000000) : zeO s = some (zt7 s) := by
 unfold zeO zt7;rw [zks s [58, 58] (by omega) (by simp), yob]
 cases hc : zbI [58, 58] s with
 | none =>
  simp only [ynf, if_true, zng s true hs, yob, zt6];unfold zjl
  split
  ·rename_i h; subst h; rfl
  ·cases zeE true (zx 58 s) with
   | none => rfl
   | some k =>
    simp only [zpa, Nat.zero_add, Option.some.injEq]
    by_cases h : k = 8
    ·subst h; rfl
    ·have h1 : ((k : Int) == 8) = false := beq_eq_false_iff_ne.2 (by omega);rw [h1]; simp [h]
 | some p =>
  have e := congrArg List.length (zfv (a := p.1) (b := p.2) hc);simp only [yla] at e;simp only [ynt, Bool.false_eq_true, if_false, zng p.1 false (by omega), zng p.2 true (by omega), yob]
  cases ha : zeE false (zjl p.1) with
  | none => simp [zpa, zbm]
  | some a =>
   cases hb : zeE true (zjl p.2) with
   | none => simp [zpa, zbm]
   | some b =>
    have hb' := (zms p.1 false (by omega) a ha);have hb2 := (zms p.2 true (by omega) b hb);simp only [zpa, Nat.zero_add]
    have e0 : decide ((0 : Int) ≤ (a : Int)) = true := by simp
    have e1 : decide ((0 : Int) ≤ (b : Int)) = true := by simp
    rw [e0, e1, if_pos rfl, if_pos rfl, zga (by omega), yob];unfold zbm
    congr 1
    exact decide_eq_decide.2 (by omega)
end Go.Dm
end
section
namespace Go.Dm
def zqm (s : Str) : Str := (s.take (s.length - 1)).drop 1
def zmk (s : Str) : Bool := decide (2 < s.length) && s[0]? == some 91 && s[s.length - 1]? == some 93 && zt7 (zqm s)
def zjy (s : Str) : Int × Str := if zmk s then (3, zqm s) else if zji s then (2, s) else if znd s then (1, s) else (0, s)
theorem zoR (x y : UInt8) : ((some x : Option UInt8) == some y) = (x == y) := Option.some_beq_some ..
theorem zuL (s : Str) : (zqm s).length ≤ s.length := by unfold zqm; simp; omega
theorem zpO {β : Type} (s : Str) (hs : s.length < 400000000) (f : Str → Option Bool) (hf : ∀ t, t.length < 400000000 → f t = some (zt7 t)) (J : Bool → Option β) :
  (if (decide (2 < (s.length : Int))) then ((sAt s 0).bind fun b6 => if (b6 == 91) then ((zdZ (s.length : Int) 1).bind fun i8 => (sAt s i8).bind fun b9 => if (b9 == 93) then ((zdZ (s.length : Int) 1).bind fun i11 => (zke s 1 i11).bind fun s12 => (f s12).bind fun r13 => J r13) else J false) else J false) else J false) = J (zmk s) := by
 unfold zmk
 by_cases h : 2 < s.length
 ·have e : decide (2 < (s.length : Int)) = true := ydt (by omega);have e' : decide (2 < s.length) = true := ydt h;have g0 : s[0]? = some s[0] := ygg (by omega);have g1 : s[s.length - 1]? = some s[s.length - 1] := ygg (by omega)
  have i1 : zdZ (s.length : Int) 1 = some ((s.length - 1 : Nat) : Int) := by rw [zb6 (by omega) (by omega)]; congr 1; omega
  have s1 : zke s 1 ((s.length - 1 : Nat) : Int) = some (zqm s) := zg3 (i := 1) (by omega) (by omega);have := zuL s;rw [e, e', if_pos rfl, show (0 : Int) = ((0 : Nat) : Int) from rfl, zil, g0, yob, i1, yob, zil, g1, yob, yob, s1, yob, hf _ (by omega), yob, zoR, zoR];cases s[0] == 91 <;> cases s[s.length - 1] == 93 <;> rfl
 ·rw [ydf (show ¬ (2 < (s.length : Int)) by omega), ydf h]; rfl
theorem zkf (s : Str) (hs : s.length < 400000000) : zfC s = some (⟨(zjy s).1, (zjy s).2, -1⟩, !((zjy s).1 == 0)) := by
 unfold zfC;rw [zpO s hs zeO (fun t ht => Six_eq t (by omega)) (zbS s)];unfold zbS zcz zjy
 cases hb : zmk s with
 | true =>
  have h : 2 < s.length := by unfold zmk at hb; simp at hb; exact hb.1.1.1
  have i1 : zdZ (s.length : Int) 1 = some ((s.length - 1 : Nat) : Int) := by rw [zb6 (by omega) (by omega)]; congr 1; omega
  have s1 : zke s 1 ((s.length - 1 : Nat) : Int) = some (zqm s) := zg3 (i := 1) (by omega) (by omega);rw [if_pos rfl, i1, yob, s1, yob, if_pos rfl]
 | false =>
  rw [if_neg (by decide), ziN s (by omega), yob, zne s (by omega), yob];cases zji s <;> cases znd s <;> rfl
def zlj (s : Str) (c : UInt8) : Nat → Option Nat
 | 0 => none
 | k + 1 => if s[k]? = some c then some k else zlj s c k
theorem zoS {s : Str} {c : UInt8} : ∀ {k i : Nat}, zlj s c k = some i → i < k ∧ s[i]? = some c
 | 0, _, h => by cases h
 | k + 1, i, h => by
  rw [zlj] at h
  split at h
  ·rename_i h2; cases h; exact ⟨by omega, h2⟩
  ·have := zoS h; exact ⟨by omega, this.2⟩
theorem ziG (s : Str) (c : UInt8) (hs : s.length < 1000000000) : zal s c = some (match zlj s c s.length with | none => -1 | some k => (k : Int)) := by
 unfold zal za3
 have key : ∀ (n k : Nat), k ≤ s.length → k < n → zI s c n ((k : Int) - 1) = some (match zlj s c k with | none => -1 | some j => (j : Int)) := by
  intro n
  induction n with
  | zero => intro k _ h; omega
  | succ n ih =>
   intro k hk h;rw [zI]
   cases k with
   | zero => rw [ydf (by omega)]; rfl
   | succ k =>
    have e1 : ((k + 1 : Nat) : Int) - 1 = (k : Int) := by omega
    have g : s[k]? = some s[k] := ygg (by omega);rw [e1, ydt (show (0 : Int) ≤ (k : Int) by omega), if_pos rfl, zil, g, yob, zb6 (by omega) (by omega), yob, ih k (by omega) (by omega), zlj, g]
    by_cases hc : s[k] = c
    ·have : (s[k] == c) = true := by simp [hc]
     rw [this, if_pos rfl, if_pos (by rw [hc])]
    ·have : (s[k] == c) = false := beq_eq_false_iff_ne.2 hc;rw [this, if_neg (by decide), if_neg (by simpa using hc)]
 rw [zb6 (by omega) (by omega), yob, key fuel s.length (Nat.le_refl _) (by unfold fuel; omega), yob]
def zgQ (s : Str) : api_Host × Int :=
 if !((zjy s).1 == 0) then (⟨(zjy s).1, (zjy s).2, -1⟩, 0) else match zlj s 58 s.length with
 | none => (⟨0, [], 0⟩, 27)
 | some k => if !((zjy (s.take k)).1 == 0) && zkW (s.drop (k + 1)) 65535 then (⟨(zjy (s.take k)).1, (zjy (s.take k)).2, (za1 10 (s.drop (k + 1)) 65535).1⟩, 0) else (⟨0, [], 0⟩, 27)
theorem zfO (s : Str) (hs : s.length < 400000000) : zcA s = some (zgQ s) := by
 unfold zcA zgQ;rw [zkf s hs, yob]
 cases !((zjy s).1 == 0) with
 | true => rfl
 | false =>
  show (if false = true then _ else _) = some (if false = true then _ else _);rw [if_neg (by decide), if_neg (by decide), ziG s 58 (by omega), yob]
  cases hl : zlj s 58 s.length with
  | none => rfl
  | some k =>
   have hk := (zoS hl).1;show (if decide ((k : Int) < 0) = true then _ else _) = _;rw [ydf (show ¬ ((k : Int) < 0) by omega), if_neg (by decide), zeY (by omega), yob, zkf _ (by simp; omega), yob];unfold zcZ;rw [zM (by omega), yob, zcR (by omega), yob, yob, zcR (by omega), yob, zid _ _ (by simp; omega) (by decide) (by decide), yob, zdX _ _ (by simp; omega) (by decide) (by decide), yob];dsimp only;cases (zjy (s.take k)).1 == 0 <;> cases zkW (s.drop (k + 1)) 65535 <;> rfl
end Go.Dm
end
section
namespace Go.Dm
def pqL (more : Str) : Str → Bool
 | [] => true
 | c :: s => if c == 37 then (match s with
  | a :: b :: r => zhd a && zhd b && pqL more r
  | _ => false) else (zqK c || more.contains c) && pqL more s
theorem zyk (more s : Str) : pqL more (37 :: s) = (match s with | a :: b :: r => zhd a && zhd b && pqL more r | _ => false) := by
 rw [pqL.eq_def]
 match s with
 | [] => rfl
 | [_] => rfl
 | _ :: _ :: _ => rfl
theorem zyl (more : Str) (c : UInt8) (s : Str) (h : (c == 37) = false) : pqL more (c :: s) = ((zqK c || more.contains c) && pqL more s) := by
 rw [pqL.eq_def]; simp only [h, Bool.false_eq_true, if_false]
theorem zym (l : Str) (c : UInt8) : decide (0 ≤ zhr l c 0) = l.contains c := ztF l c 0
theorem znC (rec1 : Int → Option Bool) (i : Nat) (hi : i < 4000000000) : zfD rec1 (i : Int) = rec1 ((i + 1 : Nat) : Int) := by
 unfold zfD; rw [zM (by omega), yob]
theorem zsx (rec1 : Int → Option Bool) (i : Nat) (t : Bool) (hi : i < 3000000000) : zdI rec1 (i : Int) t = if t = true then rec1 ((i + 3 : Nat) : Int) else some false := by
 unfold zdI
 have i2 : zav (i : Int) 2 = some ((i + 2 : Nat) : Int) := by rw [zes (by omega) (by omega)]; simp
 rw [i2, yob, znC rec1 (i + 2) (by omega)]
theorem znD (s more : Str) (hs : s.length < 1000000000) (hm : more.contains 37 = false) : ziI s more = some (pqL more s) := by
 unfold ziI
 have key : ∀ (n i : Nat), i ≤ s.length → s.length - i < n → zbn s more n (i : Int) = some (pqL more (s.drop i)) := by
  intro n
  induction n with
  | zero => intro i _ h; omega
  | succ n ih =>
   intro i hi h;rw [zbn]
   cases hd : s.drop i with
   | nil =>
    have : i = s.length := by have := congrArg List.length hd; simp at this; omega
    subst this;simp only [Int.lt_irrefl, decide_false, Bool.false_eq_true, if_false, pqL]
   | cons c t =>
    have hlt : i < s.length := by have := congrArg List.length hd; simp at this; omega
    have hx : s[i]? = some c := by have := congrArg (·[0]?) hd; simpa using this
    have ht : s.drop (i + 1) = t := by rw [← List.drop_drop, hd]; rfl
    have htl : t.length = s.length - (i + 1) := by rw [← ht]; simp
    have i2 : zav (i : Int) 2 = some ((i + 2 : Nat) : Int) := by rw [zes (by omega) (by omega)]; simp
    have i3 : zav (i : Int) 3 = some ((i + 3 : Nat) : Int) := by rw [zes (by omega) (by omega)]; simp
    have hih := ih (i + 1) (by omega) (by omega);rw [ht] at hih;have j4 := znC (zbn s more n) i (by omega);have j3 := zsx (zbn s more n) i;simp only [Int.ofNat_lt, hlt, decide_true, if_true, zil, hx, yob, znV, strings_IndexByte, zym, zgS, j4, hih]
    rcases zh4 (c == 37) with hc | hc
    ·have : c = 37 := by simpa using hc
     subst this
     have hp : zqK 37 = false := by decide
     rw [zyk, hp, hm];simp only [Bool.false_eq_true, if_false, ybs, if_true, i2, yob, zM (show i < 4611686018427387904 by omega), i3]
     match t, ht, htl with
     | [], ht, htl =>
      have : ¬ ((i + 2 : Nat) : Int) < (s.length : Int) := by simp at htl; omega
      simp only [this, decide_false, Bool.false_eq_true, if_false, j3 false (by omega)]
     | [a], ht, htl =>
      have : ¬ ((i + 2 : Nat) : Int) < (s.length : Int) := by simp at htl; omega
      simp only [this, decide_false, Bool.false_eq_true, if_false, j3 false (by omega)]
     | a :: b :: r, ht, htl =>
      have hlt2 : ((i + 2 : Nat) : Int) < (s.length : Int) := by simp at htl; omega
      have hr : s.drop (i + 3) = r := by
       have : (s.drop (i + 1)).drop 2 = r := by rw [ht]; rfl
       rwa [List.drop_drop] at this
      have hi3 : i + 3 ≤ s.length := by simp at htl; omega
      have hih := ih (i + 3) hi3 (by omega);rw [hr] at hih
      have hsub : zke s ((i + 1 : Nat) : Int) ((i + 3 : Nat) : Int) = some [a, b] := by
       rw [zg3 (by omega) hi3, List.drop_take, ht]
       have : i + 3 - (i + 1) = 2 := by omega
       rw [this]; rfl
      simp only [hlt2, decide_true, if_true, hsub, yob, zcq zeI [a, b] (by simp), j3 _ (show i < 3000000000 by omega), hih];cases ha : zhd a <;> cases hb : zhd b <;> simp [ha, hb]
    ·rw [zyl more c t hc, hc];cases zqK c <;> cases hq : more.contains c <;> simp [zdI]
 have := key fuel 0 (yz _) (by unfold fuel; omega);simpa using this
def zrl (s : Str) : Bool := (([47] : Str).isPrefixOf s) && pqL [47] s
def zn4 (s : Str) : Bool := pqL [47, 63] s
theorem zpQ (s : Str) (hs : s.length < 1000000000) : zhK s = some (zrl s) := by
 unfold zhK zrl;rw [zeH s [47] hs, yob, znD s [47] hs (by decide), yob];cases ([47] : Str).isPrefixOf s <;> simp [ze8]
theorem zpc (s : Str) (hs : s.length < 1000000000) : zgT s = some (zn4 s) := by
 unfold zgT zn4;rw [znD s [47, 63] hs (by decide), yob]
theorem zu5 (c : UInt8) : ∀ s : Str, Go.Lib.index s [c] = if zck [c] s = [] then -1 else ((upto [c] s).length : Int) := by
 intro s
 induction s with
 | nil => rfl
 | cons x s ih =>
  by_cases h : x = c
  ·subst h;rw [zlf, zij (by simp), zkC (by simp)]; simp
  ·rw [zle h, ih]
   have hx : ([c] : Str).contains x = false := by simp [h]
   rw [zik hx, zkD hx]
   split
   ·rfl
   ·rename_i h2
    rw [if_neg (by omega)];simp
def zif (c : UInt8) (s : Str) : Str × Str × Bool := (upto [c] s, (zck [c] s).drop 1, !(zck [c] s == []))
theorem zjC (s : Str) (c : UInt8) (hs : s.length < 1000000000) : strings_Cut s [c] = some (zif c s) := by
 unfold strings_Cut Go.Lib.cut zif;rw [if_pos (by omega), zu5]
 congr 1
 by_cases h2 : zck [c] s = []
 ·rw [if_pos h2, if_neg (by omega)];have e := zeX [c] s;rw [h2, yan] at e;rw [h2, e]; rfl
 ·have h3 : (zck [c] s == []) = false := beq_eq_false_iff_ne.2 h2;rw [h3, if_neg h2, if_pos (by omega)]
  have e : s.drop ((upto [c] s).length + 1) = (zck [c] s).drop 1 := by rw [← List.drop_drop, zqH]
  simp only [Int.toNat_natCast, zqG, List.length_singleton, e, ynf]
theorem zqC (c : UInt8) (s : Str) : (zif c s).1.length ≤ s.length ∧ (zif c s).2.1.length ≤ s.length := by
 have e := congrArg List.length (zeX [c] s);rw [yla] at e;unfold zif;simp only [yld];omega
def cutQ (s : Str) : Str × Str × Bool × Int :=
 if zrl (zif 63 s).1 && zn4 (zif 63 s).2.1 then ((zif 63 s).1, (zif 63 s).2.1, (zif 63 s).2.2, 0) else ([], [], false, 2)
theorem zmt (s : Str) (hs : s.length < 1000000000) : ziJ s = some (cutQ s) := by
 unfold ziJ cutQ;have := zqC 63 s;rw [zjC s 63 hs, yob, zpQ _ (by omega), yob, zpc _ (by omega), yob];cases zrl (zif 63 s).1 <;> cases zn4 (zif 63 s).2.1 <;> simp [zfU]
end Go.Dm
end
section
namespace Go.Dm
def zeroT : api_Target := ⟨0, [], ⟨0, [], 0⟩, [], [], false⟩
def zp4 (t : api_Target) (s : Str) : api_Target × Bool :=
 if s = [] then (t, true) else
  (⟨t.Kind, t.Scheme, t.Host, if s.head? == some 63 then [] else (cutQ s).1, (cutQ (if s.head? == some 63 then 47 :: s else s)).2.1, (cutQ (if s.head? == some 63 then 47 :: s else s)).2.2.1⟩, (cutQ (if s.head? == some 63 then 47 :: s else s)).2.2.2 == 0)
theorem zjV (t : api_Target) (s : Str) (hs : s.length < 900000000) : zfE t s = some (zp4 t s) := by
 unfold zfE zp4
 cases s with
 | nil => rfl
 | cons c r =>
  have h1 : ((c :: r == ([] : Str))) = false := rfl;rw [h1, if_neg (by decide), if_neg (by simp), show (0 : Int) = ((0 : Nat) : Int) from rfl, zil, List.getElem?_cons_zero, yob, List.head?_cons, Option.some_beq_some];unfold zex zew;simp only [ylc] at hs
  cases hc : c == 63 with
  | true =>
   rw [if_pos rfl, if_pos rfl, zgb (by simp only [ylc, yln]; omega), yob, show ([47] : Str) ++ c :: r = 47 :: c :: r from rfl, zmt _ (by simp only [ylc]; omega), yob];rfl
  | false =>
   rw [if_neg (by decide), if_neg (by decide), zmt _ (by simp only [ylc]; omega), yob, if_neg (by decide)];rfl
def zvq : Str := [104, 116, 116, 112]
def zsU : Str := [104, 116, 116, 112, 115]
def absT (s : Str) : api_Target × Bool := match zbI [58, 47, 47] s with
 | none => (⟨2, low s, ⟨0, [], 0⟩, [], [], false⟩, false)
 | some p => if low p.1 == zvq || low p.1 == zsU then
   (if (zgQ (upto [47, 63] p.2)).2 == 0 then zp4 ⟨2, low p.1, (zgQ (upto [47, 63] p.2)).1, [], [], false⟩ (zck [47, 63] p.2) else (⟨2, low p.1, ⟨0, [], 0⟩, [], [], false⟩, false))
  else (⟨2, low p.1, ⟨0, [], 0⟩, [], [], false⟩, false)
theorem zoe (a b c : Str) (q : Bool) (hb : b.length < 300000000) : zbA (a, b, q) c ((upto [47, 63] b).length : Int) = some (if (zgQ (upto [47, 63] b)).2 == 0 then zp4 ⟨2, c, (zgQ (upto [47, 63] b)).1, [], [], false⟩ (zck [47, 63] b) else (⟨2, c, ⟨0, [], 0⟩, [], [], false⟩, false)) := by
 unfold zbA;have hu := zru [47, 63] b
 have hf : (zck [47, 63] b).length ≤ b.length := by
  have := congrArg List.length (zeX [47, 63] b); rw [yla] at this; omega
 dsimp only;rw [zeY hu, yob, zqG, zfO _ (by omega), yob, zcR hu, yob, zqH, zjV _ _ (by omega), yob];cases (zgQ (upto [47, 63] b)).2 == 0 <;> rfl
theorem zls (s : Str) (hs : s.length < 300000000) : zd2 s = some (absT s) := by
 unfold zd2 absT;rw [zks s _ (by omega) (by simp), yob]
 cases hc : zbI [58, 47, 47] s with
 | none =>
  dsimp only;rw [zgH s (by omega), yob];rfl
 | some p =>
  have e := congrArg List.length (zfv (a := p.1) (b := p.2) hc);simp only [yla, ylc, yln] at e;have hu := zru [47, 63] p.2;dsimp only;rw [zgH p.1 (by omega), yob]
  have hj : zab (p.1, p.2, true) (low p.1) false = some (if (zgQ (upto [47, 63] p.2)).2 == 0 then zp4 ⟨2, low p.1, (zgQ (upto [47, 63] p.2)).1, [], [], false⟩ (zck [47, 63] p.2) else (⟨2, low p.1, ⟨0, [], 0⟩, [], [], false⟩, false)) := by
   unfold zab;rw [if_neg (by decide)];dsimp only;rw [zhi p.2 [47, 63] (by omega) (by decide) (by decide), yob];have hj2 := zoe p.1 p.2 (low p.1) true (by omega)
   by_cases h0 : zck [47, 63] p.2 = []
   ·rw [if_pos h0, ydt (by omega), if_pos rfl];rw [(zrv _ _).1 h0] at hj2;exact hj2
   ·rw [if_neg h0, ydf (by omega), if_neg (by decide)];exact hj2
  have hj0 : zab (p.1, p.2, true) (low p.1) true = some (⟨2, low p.1, ⟨0, [], 0⟩, [], [], false⟩, false) := rfl;rw [hj, hj0, if_neg (by decide)];show (if (!(low p.1 == zvq)) = true then zab (p.1, p.2, true) (low p.1) (!(low p.1 == zsU)) else _) = _
  cases low p.1 == zvq with
  | true => rfl
  | false =>
   cases low p.1 == zsU with
   | true => rw [ynf, if_pos rfl, ynt, hj]; rfl
   | false => rw [ynf, if_pos rfl, hj0]; rfl
def zvr : Str := [79, 80, 84, 73, 79, 78, 83]
def zof : Str := [67, 79, 78, 78, 69, 67, 84]
def ofT (m s : Str) : api_Target × Bool := if s == [42] then (⟨4, [], ⟨0, [], 0⟩, [], [], false⟩, m == zvr) else if ([47] : Str).isPrefixOf s then zp4 ⟨1, [], ⟨0, [], 0⟩, [], [], false⟩ s else absT s
theorem zqN (m s : Str) (hs : s.length < 300000000) : ziK m s = some (ofT m s) := by
 unfold ziK ofT;rw [zeH s [47] (by omega), yob, zls s hs, yob, zjV _ s (by omega), yob];cases s == [42] <;> cases ([47] : Str).isPrefixOf s <;> rfl
def zog (m s : Str) : api_Target × Int :=
 if m == zof then (if (zgQ s).2 == 0 && !decide ((zgQ s).1.Port < 0) then (⟨3, [], (zgQ s).1, [], [], false⟩, 0) else (zeroT, 20))
 else if (ofT m s).2 then ((ofT m s).1, 0) else (zeroT, 20)
theorem znJ (m s : Str) (hs : s.length < 300000000) : zfV m s = some (zog m s) := by
 unfold zfV zog zd3;rw [zfO s (by omega), yob, zqN m s hs, yob];show (if (m == zof) = true then _ else _) = _;cases m == zof <;> cases (zgQ s).2 == 0 <;> cases decide ((zgQ s).1.Port < 0) <;> cases (ofT m s).2 <;> rfl
end Go.Dm
end
section
namespace Go.Dm
theorem zvh (l : List Str) : Go.Lib.join l [] = l.flatten := by
 cases l with
 | nil => rfl
 | cons x r => rw [Go.Lib.join_cons]; simp [Go.Lib.joinTail]
theorem zps (l : List Str) (h : l.length < 1000000) (h2 : l.flatten.length < 4000000000) : zbF [] l = some l.flatten := by
 unfold zbF strings_Join;rw [zvh, if_pos ⟨by omega, by omega⟩];rfl
theorem zkY (n : Int) (hn : inI n = true) : (zkx 10 n).length ≤ 71 := by
 unfold zkx
 split
 ·simp
 ·rw [zvc];have := zho.1 hn;exact zsJ (by decide) _ (by omega)
end Go.Dm
end
section
namespace Go.Dm
def zhV (r : Str) : Int × Bool × Str := match r with
 | [] => (0, false, [])
 | c :: t => if zam c then (((c - 48).toNat : Int), true, t) else (0, false, c :: t)
section
variable {s r : Str} {k : Nat}
theorem zrG (hs : s.length < 1000000000) (h : At s k r) : ∃ k', At s k' (zhV r).2.2 ∧ zaV ⟨scn s k⟩ = some ((zhV r).1, (zhV r).2.1, scn s k') := by
 unfold zaV;show ∃ k', _ ∧ (zq (scn s k)).bind _ = _;rw [zmD h, yob]
 cases r with
 | nil => exact ⟨k, h, rfl⟩
 | cons c t =>
  have e : zhV (c :: t) = if zam c then (((c - 48).toNat : Int), true, t) else (0, false, c :: t) := rfl;rw [e];show ∃ k', _ ∧ (zR c).bind (fun r6 => zaU ⟨scn s k⟩ (c, true) (!r6)) = _;rw [zgF, yob];obtain ⟨k', h1, h2⟩ := zeq hs c h;rw [zcc] at h1
  cases zam c with
  | false => exact ⟨k, h, rfl⟩
  | true =>
   refine ⟨k', h1, ?_⟩;show (ze (scn s k) c).bind (fun r11 => some (((c - 48).toNat : Int), true, r11.2)) = _;rw [h2]; rfl
def zfw : Str := [72, 84, 84, 80, 47]
def zfK (r : Str) : Int × Int × Bool × Str :=
 if zfw.isPrefixOf r then
  ((zhV (r.drop 5)).1, (zhV (z8 46 (zhV (r.drop 5)).2.2)).1, (zhV (r.drop 5)).2.1 && zep 46 (zhV (r.drop 5)).2.2 && (zhV (z8 46 (zhV (r.drop 5)).2.2)).2.1, (zhV (z8 46 (zhV (r.drop 5)).2.2)).2.2)
 else (0, 0, false, r)
theorem zoh (hs : s.length < 1000000000) (h : At s k r) : ∃ k', At s k' (zfK r).2.2.2 ∧ zas ⟨scn s k⟩ = some ((zfK r).1, (zfK r).2.1, (zfK r).2.2.1, scn s k') := by
 unfold zas;obtain ⟨k1, h1, e1⟩ := zyy hs zfw (by decide) h;show ∃ k', _ ∧ (zbZ (scn s k) zfw).bind _ = _;rw [e1, yob];unfold zfK
 cases hp : zfw.isPrefixOf r with
 | false =>
  rw [hp, if_neg (by decide)] at h1;exact ⟨k1, h1, rfl⟩
 | true =>
  rw [hp, if_pos rfl] at h1;have h1 : At s k1 (r.drop 5) := h1;obtain ⟨k2, h2, e2⟩ := zrG hs h1;obtain ⟨k3, h3, e3⟩ := zeq hs 46 h2;obtain ⟨k4, h4, e4⟩ := zrG hs h3;refine ⟨k4, h4, ?_⟩;dsimp only;rw [ynt, if_neg (by decide), e2, yob];dsimp only;rw [e3, yob];dsimp only;rw [e4, yob, if_pos rfl];dsimp only;cases (zhV (r.drop 5)).2.1 <;> cases zep 46 (zhV (r.drop 5)).2.2 <;> rfl
def zg5 (u : Str) : Int := if (zfK u).2.2.1 && (zfK u).2.2.2 == [] then (if (zfK u).1 == 1 && decide ((zfK u).2.1 ≤ 1) then (zfK u).2.1 else 2) else -1
theorem ztM {r : Str} (h : (zhV r).2.1 = true) : ∃ c t, r = c :: t ∧ zam c = true ∧ zhV r = (((c - 48).toNat : Int), true, t) := by
 cases r with
 | nil => cases h
 | cons c t =>
  unfold zhV at h ⊢;dsimp only at h ⊢
  cases hc : zam c with
  | false => rw [hc] at h; cases h
  | true => exact ⟨c, t, rfl, hc, by simp⟩
theorem znX {r : Str} (h : (zfK r).2.2.1 = true) : ∃ a b t, r = zfw ++ a :: 46 :: b :: t ∧ zam a = true ∧ zam b = true ∧ zfK r = (((a - 48).toNat : Int), ((b - 48).toNat : Int), true, t) := by
 unfold zfK at h ⊢
 cases hp : zfw.isPrefixOf r with
 | false => rw [hp] at h; cases h
 | true =>
  rw [hp, if_pos rfl] at h;rw [if_pos rfl];simp only [Bool.and_eq_true] at h;obtain ⟨⟨h1, h2⟩, h3⟩ := h;obtain ⟨t0, ht0⟩ := List.isPrefixOf_iff_prefix.1 hp
  have hd : r.drop 5 = t0 := by rw [← ht0]; rfl
  rw [hd] at h1 h2 h3 ⊢;obtain ⟨a, t1, rfl, ha, ea⟩ := ztM h1;rw [ea] at h2 h3 ⊢;have hb := zeG h2;dsimp only at h2 h3 hb ⊢;obtain ⟨b, t, e, hbd, eb⟩ := ztM h3;rw [e] at hb;rw [eb];refine ⟨a, b, t, by rw [← ht0, hb], ha, hbd, ?_⟩;simp [h2]
theorem zjW {c : UInt8} (h : zam c = true) (h1 : (c - 48).toNat ≤ 1) : c = 48 ∨ c = 49 := by
 have := za2 (fun c => !(zam c && decide ((c - 48).toNat ≤ 1)) || (c == 48 || c == 49)) (by decide +kernel) c;rw [h] at this;simpa [h1] using this
theorem zoi {u : Str} (h : 0 ≤ zg5 u) (h2 : (zg5 u == 2) = false) : (u = zfw ++ [49, 46, 48] ∧ zg5 u = 0) ∨ (u = zfw ++ [49, 46, 49] ∧ zg5 u = 1) := by
 unfold zg5 at *
 cases hc : (zfK u).2.2.1 && (zfK u).2.2.2 == [] with
 | false => rw [hc] at h; exact absurd (show (0 : Int) ≤ -1 from h) (by decide)
 | true =>
  rw [hc, if_pos rfl] at h h2;rw [if_pos rfl];simp only [Bool.and_eq_true] at hc;obtain ⟨a, b, t, e, ha, hb, ev⟩ := znX hc.1;rw [ev] at hc h h2 ⊢
  have ht : t = [] := by simpa using hc.2
  subst ht;dsimp only at h h2 ⊢
  cases hq : (((a - 48).toNat : Int) == 1 && decide (((b - 48).toNat : Int) ≤ 1)) with
  | false => rw [hq] at h2; exact absurd (show ((2 : Int) == 2) = false from h2) (by decide)
  | true =>
   rw [if_pos rfl];simp only [Bool.and_eq_true, beq_iff_eq, decide_eq_true_eq] at hq
   have ha1 : a = 49 := by
    rcases zjW ha (by omega) with h | h
    ·subst h; exact absurd hq.1 (by decide)
    ·exact h
   subst ha1
   rcases zjW hb (by omega) with h | h <;> subst h
   ·left; exact ⟨e, by decide⟩
   ·right; exact ⟨e, by decide⟩
theorem zhz (u : Str) (hu : u.length < 1000000000) : zcL u = some (zg5 u == 2) := by
 unfold zcL;rw [zfH, yob];obtain ⟨k', h, e⟩ := zoh hu (At.zero u);rw [e, yob];dsimp only;rw [zrr h];unfold zg5 zaP
 have h1 : decide ((zfK u).2.1 ≤ 1) = !decide (1 < (zfK u).2.1) := by
  rw [Bool.eq_iff_iff]; simp
 rw [h1]
 cases hv : (zfK u).2.2.1 with
 | false => rfl
 | true =>
  rw [if_pos rfl, yob, Bool.true_and]
  cases (zfK u).2.2.2 == [] with
  | false => rfl
  | true =>
   rw [if_pos rfl, if_pos rfl];obtain ⟨a, b, t, _, ha, hb, ev⟩ := znX hv;rw [ev];dsimp only
   cases ((a - 48).toNat : Int) == 1 with
   | false => rfl
   | true =>
    rw [ynt, if_neg (by decide), Bool.true_and]
    by_cases h2 : (1 : Int) < ((b - 48).toNat : Int)
    ·rw [ydt h2]; rfl
    ·rw [ydf h2, ynf, if_pos rfl];have : (((b - 48).toNat : Int) == 2) = false := beq_eq_false_iff_ne.2 (by omega);rw [this]
def zeu (r : Str) : Int × Bool × Str := ((zfK r).2.1, (zfK r).2.2.1 && (zfK r).1 == 1 && decide ((zfK r).2.1 ≤ 1), (zfK r).2.2.2)
theorem zrH (hs : s.length < 1000000000) (h : At s k r) : ∃ k', At s k' (zeu r).2.2 ∧ zaX ⟨scn s k⟩ = some ((zeu r).1, (zeu r).2.1, scn s k') := by
 unfold zaX zeu;obtain ⟨k', h1, e⟩ := zoh hs h;refine ⟨k', h1, ?_⟩;rw [e, yob];dsimp only;cases (zfK r).2.2.1 <;> cases (zfK r).1 == 1 <;> rfl
theorem zum (r : Str) : ((zeu r).2.1 && (zeu r).2.2 == []) = (decide (0 ≤ zg5 r) && !(zg5 r == 2)) ∧ ((zeu r).2.1 = true → (zeu r).2.2 = [] → (zeu r).1 = zg5 r) := by
 unfold zeu zg5;dsimp only
 cases hv : (zfK r).2.2.1 with
 | false => exact ⟨rfl, fun h => by cases h⟩
 | true =>
  obtain ⟨a, b, t, _, ha, hb, ev⟩ := znX hv;rw [ev];dsimp only;rw [Bool.true_and, Bool.true_and]
  cases hq : (((a - 48).toNat : Int) == 1 && decide (((b - 48).toNat : Int) ≤ 1)) with
  | false =>
   refine ⟨?_, fun h => by cases h⟩;cases t == [] <;> rfl
  | true =>
   simp only [Bool.and_eq_true, decide_eq_true_eq] at hq;refine ⟨?_, fun _ h => ?_⟩
   ·cases t == [] with
    | false => rfl
    | true =>
     rw [if_pos rfl, if_pos rfl];have : (((b - 48).toNat : Int) == 2) = false := beq_eq_false_iff_ne.2 (by omega);rw [this, ydt (by omega)]; rfl
   ·subst h; rfl
end
def zaB : api_Head := ⟨0, [], [], 0, [], 0, []⟩
def zrI (s : Str) : Nat := match zlj s 32 s.length with
 | none => 0
 | some k => k + 1
theorem zsV (s : Str) (hs : s.length < 300000000) : ∃ r, zal s 32 = some r ∧ zav r 1 = some (zrI s : Int) ∧ zrI s ≤ s.length := by
 rw [ziG s 32 (by omega)];unfold zrI
 cases hl : zlj s 32 s.length with
 | none => exact ⟨-1, rfl, by decide, yz _⟩
 | some k =>
  have := (zoS hl).1;exact ⟨k, rfl, zM (by omega), by show k + 1 ≤ s.length; omega⟩
def lastW (s : Str) : Str := s.drop (zrI s)
def znK (s : Str) : Str := s.takeWhile zbG
def zp5 (s : Str) : Str := s.dropWhile zbG
def zqO (s : Str) : Str := (z8 32 (zp5 s)).takeWhile (fun b => !(b == 32))
def zjt (s : Str) : Str := (z8 32 (zp5 s)).dropWhile (fun b => !(b == 32))
def reqF (s : Str) : Bool := !(znK s == []) && zep 32 (zp5 s) && zep 32 (zjt s) && ((zeu (z8 32 (zjt s))).2.1 && (zeu (z8 32 (zjt s))).2.2 == []) && (zog (znK s) (zqO s)).2 == 0
def zpC (s : Str) : api_Head × Int := if zg5 (lastW s) == 2 then (zaB, 26) else if reqF s then (⟨1, znK s, zqO s, 0, [], (zeu (z8 32 (zjt s))).1, []⟩, 0) else (zaB, 20)
theorem zjX (s : Str) (hs : s.length < 300000000) : zc0 s = some (zpC s) := by
 unfold zc0 zpC lastW;obtain ⟨r, e0, hi⟩ := zsV s hs;rw [e0, yob];generalize zrI s = n at hi;rw [hi.1, yob, zcR hi.2, yob, zhz _ (by simp; omega), yob]
 cases zg5 (s.drop n) == 2 with
 | true => rfl
 | false =>
  rw [if_neg (by decide), if_neg (by decide), zfH, yob]
  have hs' : s.length < 1000000000 := by omega
  obtain ⟨k1, h1, e1⟩ := zsK hs' (At.zero s);obtain ⟨k2, h2, e2⟩ := zeq hs' 32 h1;obtain ⟨k3, h3, e3⟩ := ziR (f := zce) (p := fun b => !(b == 32)) (fun b => rfl) hs' h2;obtain ⟨k4, h4, e4⟩ := zeq hs' 32 h3;obtain ⟨k5, h5, e5⟩ := zrH hs' h4;rw [e1, yob];dsimp only;rw [e2, yob];dsimp only;rw [e3, yob];dsimp only;rw [e4, yob];dsimp only;have hl := h2.le_len;have hl2 := zjo (fun b => !(b == 32)) (z8 32 (s.dropWhile zbG));rw [e5, yob, znJ _ _ (by omega), yob];dsimp only;rw [zrr h5, yob];unfold zP reqF zqO znK zjt zp5;cases s.takeWhile zbG == [] <;> cases zep 32 (s.dropWhile zbG) <;> cases zep 32 ((z8 32 (s.dropWhile zbG)).dropWhile (fun b => !(b == 32))) <;> cases (zeu (z8 32 ((z8 32 (s.dropWhile zbG)).dropWhile (fun b => !(b == 32))))).2.1 <;> cases (zeu (z8 32 ((z8 32 (s.dropWhile zbG)).dropWhile (fun b => !(b == 32))))).2.2 == [] <;> cases (zog (s.takeWhile zbG) ((z8 32 (s.dropWhile zbG)).takeWhile (fun b => !(b == 32)))).2 == 0 <;> rfl
theorem zgG {p : UInt8 → Bool} {s : Str} {x : UInt8} (h : x ∈ s.takeWhile p) : p x = true := by
 induction s with
 | nil => cases h
 | cons c s ih =>
  rw [List.takeWhile_cons] at h
  split at h
  ·rename_i hc
   rcases List.mem_cons.1 h with rfl | h
   ·exact hc
   ·exact ih h
  ·cases h
theorem zvs {x : UInt8} (h : zbG x = true) : x ≠ 32 := by rintro rfl; revert h; decide
theorem zoj {s : Str} (h : reqF s = true) : ∃ v, s = znK s ++ 32 :: (zqO s ++ 32 :: v) ∧ (32 : UInt8) ∉ znK s ∧ (32 : UInt8) ∉ zqO s ∧ znK s ≠ [] ∧ (znK s).all zbG = true ∧ 0 ≤ zg5 v ∧ (zg5 v == 2) = false ∧ (zeu (z8 32 (zjt s))).1 = zg5 v ∧ ((zog (znK s) (zqO s)).2 == 0) = true := by
 unfold reqF at h;simp only [Bool.and_eq_true, Bool.not_eq_true', beq_eq_false_iff_ne] at h;obtain ⟨⟨⟨⟨h1, h2⟩, h3⟩, h4, h5⟩, h6⟩ := h;have e1 : znK s ++ zp5 s = s := List.takeWhile_append_dropWhile;have e2 := zeG h2;have e3 : zqO s ++ zjt s = z8 32 (zp5 s) := List.takeWhile_append_dropWhile;have e4 := zeG h3;have hm := zum (z8 32 (zjt s))
 have hk : (decide (0 ≤ zg5 (z8 32 (zjt s))) && !(zg5 (z8 32 (zjt s)) == 2)) = true := by rw [← hm.1, h4, Bool.true_and]; exact h5
 simp only [Bool.and_eq_true, decide_eq_true_eq, Bool.not_eq_true'] at hk;refine ⟨z8 32 (zjt s), ?_, ?_, ?_, h1, ?_, hk.1, hk.2, hm.2 h4 (by simpa using h5), h6⟩
 ·rw [← e4, e3, ← e2, e1]
 ·exact fun hx => zvs (zgG hx) rfl
 ·exact fun hx => by have := zgG hx; simp at this
 ·exact List.all_eq_true.2 fun x hx => zgG hx
def zok (s : Str) : Str := (z8 32 (zeu s).2.2).takeWhile zam
def zlY (s : Str) : Str := (z8 32 (zeu s).2.2).dropWhile zam
def staF (s : Str) : Bool := (zeu s).2.1 && zep 32 (zeu s).2.2 && zep 32 (zlY s) && ((zok s).length : Int) == 3 && (za1 10 (zok s) 599).2 == 0 && !decide ((za1 10 (zok s) 599).1 < 100) && (z8 32 (zlY s)).all zhe
def zsW (s : Str) : api_Head × Int := if zg5 (zif 32 s).1 == 2 then (zaB, 26) else if staF s then (⟨2, [], [], (za1 10 (zok s) 599).1, z8 32 (zlY s), (zeu s).1, []⟩, 0) else (zaB, 20)
theorem zk0 (s : Str) (hs : s.length < 300000000) : zdt s = some (zsW s) := by
 unfold zdt zsW;have hcl := zqC 32 s;rw [zjC s 32 (by omega), yob, zhz _ (by omega), yob]
 cases zg5 (zif 32 s).1 == 2 with
 | true => rfl
 | false =>
  rw [if_neg (by decide), if_neg (by decide), zfH, yob]
  have hs' : s.length < 1000000000 := by omega
  obtain ⟨k1, h1, e1⟩ := zrH hs' (At.zero s);obtain ⟨k2, h2, e2⟩ := zeq hs' 32 h1;obtain ⟨k3, h3, e3⟩ := ziR zgF hs' h2;obtain ⟨k4, h4, e4⟩ := zeq hs' 32 h3;rw [e1, yob];dsimp only;rw [e2, yob];dsimp only;rw [e3, yob];dsimp only;have hl := h2.le_len;have hl2 := zjo zam (z8 32 (zeu s).2.2);have hl4 := h4.le_len;rw [e4, yob, zdX _ _ (by omega) (by decide) (by decide), yob];dsimp only;rw [zn5 h4, yob, zcq zeZ _ (by omega), yob];unfold zO staF zlY zok;dsimp only;rw [zn5 h4, yob];cases (zeu s).2.1 <;> cases zep 32 (zeu s).2.2 <;> cases zep 32 ((z8 32 (zeu s).2.2).dropWhile zam) <;> cases (((z8 32 (zeu s).2.2).takeWhile zam).length : Int) == 3 <;> cases (za1 10 ((z8 32 (zeu s).2.2).takeWhile zam) 599).2 == 0 <;> cases decide ((za1 10 ((z8 32 (zeu s).2.2).takeWhile zam) 599).1 < 100) <;> cases (z8 32 ((z8 32 (zeu s).2.2).dropWhile zam)).all zhe <;> rfl
def zbO (kind : Int) (s : Str) : api_Head × Int := if !(kind == 1) && !(kind == 2) then (zaB, 1) else if s.any ([13, 10] : Str).contains then (zaB, 24) else if kind == 1 then zpC s else zsW s
theorem zdJ (kind : Int) (s : Str) (hs : s.length < 300000000) : zbo kind s = some (zbO kind s) := by
 unfold zbo zcB zbO;rw [zf9 s [13, 10] (by omega) (by decide) (by decide), yob, zjX s hs, yob, zk0 s hs, yob];cases kind == 1 <;> cases kind == 2 <;> cases s.any ([13, 10] : Str).contains <;> rfl

end Go.Dm
end
section
namespace Go.Dm
theorem zou (s : Str) : (zpC s = (zaB, 26) ∨ zpC s = (zaB, 20)) ∨ reqF s = true ∧ zpC s = (⟨1, znK s, zqO s, 0, [], (zeu (z8 32 (zjt s))).1, []⟩, 0) := by
 unfold zpC
 split
 ·exact .inl (.inl rfl)
 ·cases h : reqF s with
  | true => exact .inr ⟨rfl, rfl⟩
  | false => exact .inl (.inr rfl)
end Go.Dm
end
section
namespace Go.Dm
theorem zyn (c : UInt8) : (!zam c || ((((c - 48).toNat : Int) == 1) == (c == 49))) = true := za2 (fun c => !zam c || ((((c - 48).toNat : Int) == 1) == (c == 49))) (by decide +kernel) c
theorem zxh (a b : UInt8) (t : Str) (ha : zam a = true) (hb : zam b = true) : zfK (zfw ++ a :: 46 :: b :: t) = (((a - 48).toNat : Int), ((b - 48).toNat : Int), true, t) := by
 unfold zfK;have hp : zfw.isPrefixOf (zfw ++ a :: 46 :: b :: t) = true := List.isPrefixOf_iff_prefix.2 ⟨_, rfl⟩;have hd : (zfw ++ a :: 46 :: b :: t).drop 5 = a :: 46 :: b :: t := rfl;rw [if_pos hp, hd]
 have e1 : zhV (a :: 46 :: b :: t) = (((a - 48).toNat : Int), true, 46 :: b :: t) := by unfold zhV; dsimp only; rw [if_pos ha]
 have e2 : zhV (b :: t) = (((b - 48).toNat : Int), true, t) := by unfold zhV; dsimp only; rw [if_pos hb]
 rw [e1];dsimp only;rw [zcc, zdi, e2];rfl
theorem zlN {p : UInt8 → Bool} {c : UInt8} (hc : p c = false) : ∀ {m : Str} (r : Str), m.all p = true → (m ++ c :: r).takeWhile p = m ∧ (m ++ c :: r).dropWhile p = c :: r
 | [], r, _ => by simp [hc]
 | x :: m, r, h => by
  simp only [List.all_cons, Bool.and_eq_true] at h;have ih := zlN hc r h.2;constructor
  ·rw [List.cons_append, List.takeWhile_cons, if_pos h.1, ih.1]
  ·rw [List.cons_append, List.dropWhile_cons, if_pos h.1, ih.2]
theorem zu7 (m : Str) : zfJ m = true ↔ m ≠ [] ∧ m.all zbG = true := by
 unfold zfJ;cases m <;> simp
theorem zsy (b : UInt8) (t : Str) (hb : b = 48 ∨ b = 49) : zeu (zfw ++ 49 :: 46 :: b :: t) = (((b - 48).toNat : Int), true, t) := by
 unfold zeu;rw [zxh 49 b t (by decide) (by rcases hb with h | h <;> subst h <;> decide)]
 rcases hb with h | h <;> subst h <;> rfl
theorem zmu {s : Str} {m : Int} (h : (za1 10 s m).2 = 0) : s.all zam = true ∧ s ≠ [] := by
 unfold za1 at h
 split at h
 ·cases h
 ·rename_i h2
  simp only [Bool.or_eq_true, Bool.not_eq_true', not_or] at h2
  have h3 : s.all (znH 10) = true := by simpa using h2.2
  exact ⟨List.all_eq_true.2 fun x hx => (List.all_eq_true.1 h3 x hx : znH 10 x = true), by simpa using h2.1⟩
theorem zxi {b : UInt8} {w r : Str} (hb : b = 48 ∨ b = 49) (hw : w.all zam = true) : (zeu (zfw ++ 49 :: 46 :: b :: 32 :: (w ++ 32 :: r))) = (((b - 48).toNat : Int), true, 32 :: (w ++ 32 :: r)) ∧ zok (zfw ++ 49 :: 46 :: b :: 32 :: (w ++ 32 :: r)) = w ∧ zlY (zfw ++ 49 :: 46 :: b :: 32 :: (w ++ 32 :: r)) = 32 :: r := by
 have h1 := zsy b (32 :: (w ++ 32 :: r)) hb;have h2 := zlN (p := zam) (c := 32) (by decide) r hw;refine ⟨h1, ?_, ?_⟩
 ·unfold zok; rw [h1]; dsimp only; rw [zcc, h2.1]
 ·unfold zlY; rw [h1]; dsimp only; rw [zcc, h2.2]
theorem zpd {s : Str} (h : staF s = true) : ∃ b w r, (b = 48 ∨ b = 49) ∧ s = zfw ++ 49 :: 46 :: b :: 32 :: (w ++ 32 :: r) ∧ w.all zam = true ∧ w.length = 3 := by
 unfold staF at h;simp only [Bool.and_eq_true] at h;obtain ⟨⟨⟨⟨⟨⟨h1, h2⟩, h3⟩, h4⟩, h5⟩, h6⟩, h7⟩ := h;unfold zeu at h1;simp only [Bool.and_eq_true, decide_eq_true_eq, beq_iff_eq] at h1;obtain ⟨⟨a1, a2⟩, a3⟩ := h1;obtain ⟨a, b, t, e, ha, hb, ev⟩ := znX a1;rw [ev] at a2 a3
 have hm : (zeu s).2.2 = t := by unfold zeu; rw [ev]
 rw [hm] at h2
 have ha1 : a = 49 := by
  have := zyn a;rw [ha] at this
  have : (((a - 48).toNat : Int) == 1) = (a == 49) := by simpa using this
  rw [show (((a - 48).toNat : Int) == 1) = true from by simpa using a2] at this;simpa using this.symm
 have hb1 := zjW hb (by dsimp only at a3; omega);have e2 := zeG h2;have e4 := zeG h3
 have e5 : zok s ++ zlY s = z8 32 t := by
  unfold zok zlY; rw [hm]; exact List.takeWhile_append_dropWhile
 have hl3 : ((zok s).length : Int) = 3 := by simpa using h4
 refine ⟨b, zok s, z8 32 (zlY s), hb1, ?_, (zmu (by simpa using h5)).1, by omega⟩;rw [← e4, e5, ← e2, ← ha1, e]
end Go.Dm
end
section
namespace Go.Dm
def zrh (n : Int) : Str := zfw ++ 49 :: 46 :: zkx 10 n
def zfi (h : api_Head) : Str := if h.Kind == 2 then zrh h.Minor ++ 32 :: (zkx 10 h.Code ++ 32 :: h.Reason) else h.Method ++ 32 :: (h.Target ++ 32 :: zrh h.Minor)
def zxe (x h : api_Head) : Bool := x.Method == h.Method && x.Target == h.Target && x.Minor == h.Minor && x.Code == h.Code && x.Reason == h.Reason
def zhS (h : api_Head) : Str × Int := if (zbO h.Kind (zfi h)).2 == 1 then ([], 1) else if (zbO h.Kind (zfi h)).2 == 0 && zxe (zbO h.Kind (zfi h)).1 h then (zfi h, 0) else ([], 20)
structure smallH (h : api_Head) : Prop where
 code : inI h.Code = true
 minor : inI h.Minor = true
 method : h.Method.length < 10000000
 target : h.Target.length < 10000000
 reason : h.Reason.length < 10000000
theorem zsv {n : Int} (hn : inI n = true) : (zrh n).length ≤ 80 := by
 have := zkY n hn;unfold zrh;simp only [yla, ylc];have : zfw.length = 5 := rfl;omega
theorem zsw {h : api_Head} (hs : smallH h) : (zfi h).length < 100000000 := by
 have h1 := zsv hs.minor;have h2 := zkY h.Code hs.code;have h3 := hs.method;have h4 := hs.target;have h5 := hs.reason;unfold zfi
 split <;> simp only [yla, ylc] <;> omega
theorem join3 (a b c : Str) (hl : (a ++ [32] ++ b ++ [32] ++ c).length < 4000000000) : zbF [32] [a, b, c] = some (a ++ 32 :: (b ++ 32 :: c)) := by
 unfold zbF strings_Join
 have e : Go.Lib.join [a, b, c] [32] = a ++ [32] ++ b ++ [32] ++ c := by
  rw [Go.Lib.join_cons]; simp [Go.Lib.joinTail]
 rw [e, if_pos ⟨by simp, by omega⟩];simp
theorem zie (h : api_Head) (hs : smallH h) : zdC h = some (zhS h) := by
 have hl := zsw hs;have h1 := zsv hs.minor;have h2 := zkY h.Code hs.code;have h2' := zkY h.Minor hs.minor;have h3 := hs.method;have h4 := hs.target;have h5 := hs.reason
 have j1 : zb4 h (zfi h) = some (zhS h) := by
  unfold zb4 zaH zc5;rw [zdJ _ _ (by omega), yob];unfold zhS zxe;generalize zfi h = u;generalize zbO h.Kind u = p;obtain ⟨x, e⟩ := p;dsimp only
  cases h1 : e == 1 with
  | true =>
   have : e = 1 := by simpa using h1
   subst this; rfl
  | false =>
   rw [if_neg yfn, if_neg yfn];cases e == 0 <;> cases x.Method == h.Method <;> cases x.Target == h.Target <;> cases x.Minor == h.Minor <;> cases x.Code == h.Code <;> cases x.Reason == h.Reason <;> rfl
 unfold zdC;have hv : ([72, 84, 84, 80, 47, 49, 46] : Str) ++ zkx 10 h.Minor = zrh h.Minor := rfl;rw [zhc _ hs.minor, yob, zgb (by simp; omega), yob, hv, join3 _ _ _ (by simp only [yla, ylc, yln]; omega), yob, zhc _ hs.code, yob, join3 _ _ _ (by simp only [yla, ylc, yln]; omega), yob];unfold zfi at j1
 cases hk : h.Kind == 2 with
 | true => rw [hk, if_pos rfl] at j1; rw [if_pos rfl]; exact j1
 | false => rw [hk, if_neg yfn] at j1; rw [if_neg yfn]; exact j1
theorem zri : ∀ a, a < 10 → ∀ b, b < 10 → ∀ c, c < 10 → 100 ≤ a * 100 + b * 10 + c → digs 10 (a * 100 + b * 10 + c) = [a, b, c] := by decide +kernel
theorem zrj (c : UInt8) : (!zam c || (decide ((c - 48).toNat < 10) && dch (c - 48).toNat == c && wor c == (c - 48).toNat)) = true := za2 (fun c => !zam c || (decide ((c - 48).toNat < 10) && dch (c - 48).toNat == c && wor c == (c - 48).toNat)) (by decide +kernel) c
theorem zty {w : Str} (hl : w.length = 3) (h : (za1 10 w 599).2 = 0) (h1 : ¬ (za1 10 w 599).1 < 100) : zkx 10 (za1 10 w 599).1 = w ∧ inI (za1 10 w 599).1 = true := by
 have hin := zo5 h (by decide);refine ⟨?_, hin.2.2⟩;have hd := (zmu h).1
 match w, hl with
 | [x, y, z], _ =>
  simp only [List.all_cons, List.all_nil, Bool.and_true, Bool.and_eq_true] at hd;have fx := zrj x;have fy := zrj y;have fz := zrj z;rw [hd.1] at fx;rw [hd.2.1] at fy;rw [hd.2.2] at fz;simp only [ynt, Bool.false_or, Bool.and_eq_true, decide_eq_true_eq, beq_iff_eq] at fx fy fz
  have hval : (za1 10 [x, y, z] 599).1 = (((x - 48).toNat * 100 + (y - 48).toNat * 10 + (z - 48).toNat : Nat) : Int) := by
   unfold za1 at h ⊢
   split at h
   ·cases h
   ·rename_i g1
    rw [if_neg g1]
    split at h
    ·cases h
    ·rename_i g2
     rw [if_neg g2]
     have : zg2 10 (vals [x, y, z]) = (x - 48).toNat * 100 + (y - 48).toNat * 10 + (z - 48).toNat := by
      unfold vals zg2;simp only [List.map_cons, List.map_nil, List.foldl_cons, List.foldl_nil, fx.2, fy.2, fz.2];omega
     rw [this]
  rw [hval] at h1 ⊢;unfold zkx;rw [if_neg (by omega), Int.toNat_natCast, zri _ fx.1.1 _ fy.1.1 _ fz.1.1 (by omega)];unfold zm;simp only [List.map_cons, List.map_nil, fx.1.2, fy.1.2, fz.1.2]
theorem zo9 {k : Int} {s : Str} {x : api_Head} (h : zbO k s = (x, 0)) : (k = 1 ∧ zpC s = (x, 0)) ∨ (k = 2 ∧ zsW s = (x, 0)) := by
 unfold zbO at h
 cases h1 : k == 1 with
 | true =>
  have hk : k = 1 := by simpa using h1
  rw [h1, ynt, Bool.false_and, if_neg yfn] at h
  split at h
  ·exact absurd (show (24 : Int) = 0 from congrArg Prod.snd h) (by decide)
  ·rw [if_pos rfl] at h; exact .inl ⟨hk, h⟩
 | false =>
  cases h2 : k == 2 with
  | true =>
   have hk : k = 2 := by simpa using h2
   rw [h1, h2, ynt, Bool.and_false, if_neg yfn] at h
   split at h
   ·exact absurd (show (24 : Int) = 0 from congrArg Prod.snd h) (by decide)
   ·rw [if_neg yfn] at h; exact .inr ⟨hk, h⟩
  | false =>
   rw [h1, h2, ynf, Bool.true_and, if_pos rfl] at h;exact absurd (show (1 : Int) = 0 from congrArg Prod.snd h) (by decide)
structure LineBack (k : Int) (s : Str) (x : api_Head) : Prop where
 kind : x.Kind = k
 raw : zfi x = s
 code : inI x.Code = true
 minor : inI x.Minor = true
 method : x.Method.length ≤ s.length
 target : x.Target.length ≤ s.length
 reason : x.Reason.length ≤ s.length
theorem ztz {v : Str} (h : 0 ≤ zg5 v) (h2 : (zg5 v == 2) = false) : zrh (zg5 v) = v ∧ inI (zg5 v) = true := by
 rcases zoi h h2 with ⟨e, e2⟩ | ⟨e, e2⟩ <;> rw [e2, e] <;> exact ⟨by decide, by decide⟩
theorem zqA {k : Int} {s : Str} {x : api_Head} (h : zbO k s = (x, 0)) : LineBack k s x := by
 rcases zo9 h with ⟨hk, h⟩ | ⟨hk, h⟩
 ·rcases zou s with (h1 | h1) | ⟨h1, h2⟩
  ·rw [h1] at h; exact absurd (show (26 : Int) = 0 from congrArg Prod.snd h) (by decide)
  ·rw [h1] at h; exact absurd (show (20 : Int) = 0 from congrArg Prod.snd h) (by decide)
  ·obtain ⟨v, e, n1, n2, h3, h4, k1, k2, k3, k4⟩ := zoj h1;rw [h2] at h;have hx := congrArg Prod.fst h;dsimp only at hx;subst hx;obtain ⟨q1, q2⟩ := ztz k1 k2;have hlen := congrArg List.length e;simp only [yla, ylc] at hlen;rw [k3];refine ⟨hk.symm, ?_, rfl, q2, by dsimp only; omega, by dsimp only; omega, by simp⟩;show znK s ++ 32 :: (zqO s ++ 32 :: zrh (zg5 v)) = s;rw [q1]; exact e.symm
 ·unfold zsW at h
  split at h
  ·exact absurd (show (26 : Int) = 0 from congrArg Prod.snd h) (by decide)
  ·split at h
   ·rename_i h26 hF
    have hF' := hF;obtain ⟨b, w, r, hb, e, hw, hl⟩ := zpd hF;obtain ⟨m1, m2, m3⟩ := zxi (r := r) hb hw;rw [← e] at m1 m2 m3;unfold staF at hF';rw [m1, m2, m3] at hF';simp only [Bool.and_eq_true, Bool.not_eq_true', decide_eq_false_iff_not] at hF';have hx := congrArg Prod.fst h;dsimp only at hx;subst hx;obtain ⟨q1, q2⟩ := zty hl (by simpa using hF'.1.1.2) hF'.1.2;have hlen := congrArg List.length e;simp only [yla, ylc] at hlen;rw [m1, m2, m3, zcc]
    have hv : zrh ((b - 48).toNat : Int) = zfw ++ [49, 46, b] ∧ inI ((b - 48).toNat : Int) = true := by rcases hb with h | h <;> subst h <;> exact ⟨by decide, by decide⟩
    refine ⟨hk.symm, ?_, q2, hv.2, by simp, by simp, by dsimp only; omega⟩;show zrh ((b - 48).toNat : Int) ++ 32 :: (zkx 10 (za1 10 w 599).1 ++ 32 :: r) = s;rw [hv.1, q1, e]; simp
   ·exact absurd (show (20 : Int) = 0 from congrArg Prod.snd h) (by decide)
theorem zmp (k : Int) (s : Str) : (zbO k s).1.Fields = [] := by
 unfold zbO zpC zsW
 split
 ·rfl
 ·split
  ·rfl
  ·split
   ·split
    ·rfl
    ·split <;> rfl
   ·split
    ·rfl
    ·split <;> rfl
end Go.Dm
end
section
namespace Go.Dm
def zaL (b : UInt8) : Bool := b == 32 || b == 9
def zh6 (s : Str) : Str := s.dropWhile zaL
def zhG (s : Str) : Str := (s.reverse.dropWhile zaL).reverse
def zdO (s : Str) : Str := zh6 (zhG s)
theorem zsk (b : UInt8) : ([32, 9] : Str).contains b = zaL b := by
 simp only [zaL, List.contains_cons, List.contains_nil, Bool.or_false]
theorem zje (s : Str) (c : UInt8) : zhG (s ++ [c]) = if zaL c then zhG s else s ++ [c] := by
 unfold zhG;rw [List.reverse_append];simp only [List.reverse_cons, List.reverse_nil, yna, List.singleton_append, List.dropWhile_cons]
 split <;> simp
theorem zwT (s : Str) : (zhG s).length ≤ s.length := by
 unfold zhG;rw [List.length_reverse];have := (List.dropWhile_suffix (l := s.reverse) zaL).length_le;simpa using this
theorem zwU (s : Str) : (zh6 s).length ≤ s.length := (List.dropWhile_suffix zaL).length_le
theorem zra (s : Str) : (zdO s).length ≤ s.length := Nat.le_trans (zwU _) (zwT _)
theorem znx (s : Str) : (s.all zaL = true ∧ zhG s = []) ∨ ∃ a c b, s = a ++ c :: b ∧ zaL c = false ∧ b.all zaL = true ∧ zhG s = a ++ [c] := by
 rw [← List.reverse_reverse s];generalize s.reverse = r
 induction r with
 | nil => left; exact ⟨rfl, rfl⟩
 | cons x r ih =>
  rw [List.reverse_cons, zje]
  rcases zh4 (zaL x) with h | h
  ·rw [h]
   rcases ih with ⟨h1, h2⟩ | ⟨a, c, b, h1, h2, h3, h4⟩
   ·left; refine ⟨?_, by simpa using h2⟩
    rw [List.all_append, h1]; simp [h]
   ·right; refine ⟨a, c, b ++ [x], by rw [h1]; simp, h2, by rw [List.all_append, h3]; simp [h], by simpa using h4⟩
  ·right; exact ⟨r.reverse, x, [], rfl, h, rfl, by simp [h]⟩
theorem zuM {s : Str} (h : s.all zaL = true) : zh6 s = [] := by
 unfold zh6
 induction s with
 | nil => rfl
 | cons x s ih =>
  simp only [List.all_cons, Bool.and_eq_true] at h;rw [List.dropWhile_cons, h.1];exact ih h.2
theorem zuN {a : Str} {c : UInt8} {b : Str} (hc : zaL c = false) : zh6 (a ++ c :: b) = zh6 (a ++ [c]) ++ b := by
 unfold zh6
 induction a with
 | nil => simp [List.dropWhile_cons, hc]
 | cons x a ih =>
  simp only [List.cons_append, List.dropWhile_cons]
  split
  ·exact ih
  ·simp
theorem zwV {a : Str} {c : UInt8} (hc : zaL c = false) : ∃ d, zh6 (a ++ [c]) = d ++ [c] := by
 unfold zh6
 induction a with
 | nil => exact ⟨[], by simp [List.dropWhile_cons, hc]⟩
 | cons x a ih =>
  simp only [List.cons_append, List.dropWhile_cons]
  split
  ·exact ih
  ·exact ⟨x :: a, rfl⟩
theorem zuO {d : Str} {c : UInt8} {b : Str} (hc : zaL c = false) (hb : b.all zaL = true) : zhG (d ++ c :: b) = d ++ [c] := by
 rw [← List.reverse_reverse b] at *
 generalize b.reverse = r at *
 induction r with
 | nil => rw [List.reverse_nil, zje, hc]; rfl
 | cons x r ih =>
  rw [List.reverse_cons, List.all_append] at hb;simp only [Bool.and_eq_true, List.all_cons, List.all_nil, Bool.and_true] at hb;rw [List.reverse_cons, ← List.cons_append, ← yaa, zje, hb.2];exact ih hb.1
theorem zqn (s : Str) : zhG (zh6 s) = zdO s := by
 unfold zdO
 rcases znx s with ⟨h1, h2⟩ | ⟨a, c, b, h1, h2, h3, h4⟩
 ·rw [h2, zuM h1]; rfl
 ·rw [h4, h1, zuN h2];obtain ⟨d, hd⟩ := zwV (a := a) h2;rw [hd, yaa];exact zuO h2 h3
theorem zx5 {c : UInt8} (h : zaL c = true) (s : Str) : zdO (c :: s) = zdO s := by
 rw [← zqn, ← zqn];unfold zh6;rw [List.dropWhile_cons, h]; rfl
theorem zwW (s : Str) : Go.Lib.trimS s [32, 9] = zdO s := by
 unfold Go.Lib.trimS Go.Lib.trimLeftS Go.Lib.trimRightS zdO zh6 zhG
 have : (fun x => ([32, 9] : List UInt8).contains x) = zaL := by funext b; exact zsk b
 rw [this]
theorem zg8 (s : Str) (hs : s.length < 1000000000) : zcW s [32, 9] = some (zdO s) := by
 unfold zcW;rw [if_pos ⟨by omega, by simp, by decide⟩, zwW]
end Go.Dm
end
section
namespace Go.Dm
def zd8 : Str → Option (Str × Nat)
 | [] => none
 | c :: r => if c == 34 then some ([], 1) else if c == 92 then (match r with
   | [] => none
   | d :: t => if zhe d then (zd8 t).map (fun p => (d :: p.1, p.2 + 2)) else none)
  else if zhe c then (zd8 r).map (fun p => (c :: p.1, p.2 + 1)) else none
theorem zqt (r : Str) : zd8 (34 :: r) = some ([], 1) := by rw [zd8.eq_def]; rfl
theorem zo1 : zd8 [92] = none := by rw [zd8.eq_def]; rfl
theorem zqu (d : UInt8) (t : Str) : zd8 (92 :: d :: t) = if zhe d then (zd8 t).map (fun p => (d :: p.1, p.2 + 2)) else none := by rw [zd8.eq_def]; rfl
theorem zqv {c : UInt8} (r : Str) (h1 : (c == 34) = false) (h2 : (c == 92) = false) : zd8 (c :: r) = if zhe c then (zd8 r).map (fun p => (c :: p.1, p.2 + 1)) else none := by
 rw [zd8.eq_def]; simp only [h1, h2, Bool.false_eq_true, if_false]
theorem znb {P : Str → Prop} (h0 : P []) (h1 : ∀ r, P (34 :: r)) (h2 : P [92]) (h3 : ∀ d t, P t → P (92 :: d :: t)) (h4 : ∀ c r, (c == 34) = false → (c == 92) = false → P r → P (c :: r)) : ∀ (n : Nat) (s : Str), s.length < n → P s
  | 0, s, h => by omega
  | n + 1, [], _ => h0
  | n + 1, c :: r, h => by
    simp only [ylc] at h
    cases h34 : c == 34 with
    | true => have : c = 34 := by simpa using h34
              subst this; exact h1 r
    | false =>
      cases h92 : c == 92 with
      | true =>
        have : c = 92 := by simpa using h92
        subst this
        cases r with
        | nil => exact h2
        | cons d t => simp only [ylc] at h; exact h3 d t (znb h0 h1 h2 h3 h4 n t (by omega))
      | false => exact h4 c r h34 h92 (znb h0 h1 h2 h3 h4 n r (by omega))
theorem zw5 (s : Str) : ∀ p, zd8 s = some p → 1 ≤ p.2 ∧ p.2 ≤ s.length ∧ p.1.length + 1 ≤ p.2 := by
 refine znb (P := fun s => ∀ p, zd8 s = some p → 1 ≤ p.2 ∧ p.2 ≤ s.length ∧ p.1.length + 1 ≤ p.2) ?_ ?_ ?_ ?_ ?_ (s.length + 1) s (by omega)
 ·intro p h; cases h
 ·intro r p h; rw [zqt] at h; cases h; simp
 ·intro p h; rw [zo1] at h; cases h
 ·intro d t ih p h;rw [zqu] at h
  split at h
  ·obtain ⟨q, hq, rfl⟩ := Option.map_eq_some_iff.1 h;have := ih q hq;simp only [ylc]; omega
  ·cases h
 ·intro c r h1 h2 ih p h;rw [zqv r h1 h2] at h
  split at h
  ·obtain ⟨q, hq, rfl⟩ := Option.map_eq_some_iff.1 h;have := ih q hq;simp only [ylc]; omega
  ·cases h
def zge : Nat → Str → Option Nat
 | 0, _ => some 0
 | _ + 1, [] => none
 | d + 1, c :: r => if c == 40 then (zge (d + 2) r).map (· + 1) else if c == 41 then (zge d r).map (· + 1) else if c == 92 then (match r with
   | [] => none
   | _ :: t => (zge (d + 1) t).map (· + 2)) else (zge (d + 1) r).map (· + 1)
theorem zqw (s : Str) : zge 0 s = some 0 := by cases s <;> rfl
theorem znc (d : Nat) (r : Str) : zge (d + 1) (40 :: r) = (zge (d + 2) r).map (· + 1) := by rw [zge.eq_def]; rfl
theorem zlJ (d : Nat) (r : Str) : zge (d + 1) (41 :: r) = (zge d r).map (· + 1) := by rw [zge.eq_def]; rfl
theorem zqx (d : Nat) : zge (d + 1) [92] = none := by rw [zge.eq_def]; rfl
theorem zo2 (d : Nat) (c : UInt8) (t : Str) : zge (d + 1) (92 :: c :: t) = (zge (d + 1) t).map (· + 2) := by rw [zge.eq_def]; rfl
theorem zo3 (d : Nat) {c : UInt8} (r : Str) (h1 : (c == 40) = false) (h2 : (c == 41) = false) (h3 : (c == 92) = false) : zge (d + 1) (c :: r) = (zge (d + 1) r).map (· + 1) := by
 rw [zge.eq_def]; simp only [h1, h2, h3, Bool.false_eq_true, if_false]
theorem zsr {P : Str → Prop} (h0 : P []) (h1 : ∀ r, P r → P (40 :: r)) (h2 : ∀ r, P r → P (41 :: r)) (h3 : P [92]) (h4 : ∀ d t, P t → P (92 :: d :: t)) (h5 : ∀ c r, (c == 40) = false → (c == 41) = false → (c == 92) = false → P r → P (c :: r)) : ∀ (n : Nat) (s : Str), s.length < n → P s
  | 0, s, h => by omega
  | n + 1, [], _ => h0
  | n + 1, c :: r, h => by
    simp only [ylc] at h;have ih := fun t ht => zsr h0 h1 h2 h3 h4 h5 n t ht
    cases c40 : c == 40 with
    | true => have : c = 40 := by simpa using c40
              subst this; exact h1 r (ih r (by omega))
    | false =>
      cases c41 : c == 41 with
      | true => have : c = 41 := by simpa using c41
                subst this; exact h2 r (ih r (by omega))
      | false =>
        cases c92 : c == 92 with
        | true =>
          have : c = 92 := by simpa using c92
          subst this
          cases r with
          | nil => exact h3
          | cons d t => simp only [ylc] at h; exact h4 d t (ih t (by omega))
        | false => exact h5 c r c40 c41 c92 (ih r (by omega))
theorem zyd (s : Str) : ∀ d n, zge d s = some n → n ≤ s.length := by
 refine zsr (P := fun s => ∀ d n, zge d s = some n → n ≤ s.length) ?_ ?_ ?_ ?_ ?_ ?_ (s.length + 1) s (by omega)
 ·intro d n h; cases d with
  | zero => cases h; simp
  | succ d => cases h
 ·intro r ih d n h; cases d with
  | zero => cases h; simp
  | succ d => rw [znc] at h; obtain ⟨m, hm, rfl⟩ := Option.map_eq_some_iff.1 h; have := ih _ _ hm; simp only [ylc]; omega
 ·intro r ih d n h; cases d with
  | zero => cases h; simp
  | succ d => rw [zlJ] at h; obtain ⟨m, hm, rfl⟩ := Option.map_eq_some_iff.1 h; have := ih _ _ hm; simp only [ylc]; omega
 ·intro d n h; cases d with
  | zero => cases h; simp
  | succ d => rw [zqx] at h; cases h
 ·intro c t ih d n h; cases d with
  | zero => cases h; simp
  | succ d => rw [zo2] at h; obtain ⟨m, hm, rfl⟩ := Option.map_eq_some_iff.1 h; have := ih _ _ hm; simp only [ylc]; omega
 ·intro c r h1 h2 h3 ih d n h; cases d with
  | zero => cases h; simp
  | succ d => rw [zo3 d r h1 h2 h3] at h; obtain ⟨m, hm, rfl⟩ := Option.map_eq_some_iff.1 h; have := ih _ _ hm; simp only [ylc]; omega
def zhh (c : UInt8) (r : Str) : Nat := if c == 34 then (match zd8 r with | some p => p.2 + 1 | none => 0) else (match zge 1 r with | some n => n + 1 | none => 0)
theorem zw6 (c : UInt8) (r : Str) : zhh c r ≤ r.length + 1 := by
 unfold zhh
 split
 ·cases h : zd8 r with
  | none => simp
  | some p => have := zw5 r p h; dsimp only; omega
 ·cases h : zge 1 r with
  | none => simp
  | some n => have := zyd r 1 n h; dsimp only; omega
def zht : Nat → Str → Str → Option (List Str)
 | _, cur, [] => some [cur]
 | k + 1, cur, c :: r => zht k (cur ++ [c]) r
 | 0, cur, c :: r => if c == 34 || c == 40 then (if zhh c r = 0 then none else zht (zhh c r - 1) (cur ++ [c]) r) else if c == 44 then (zht 0 [] r).map (cur :: ·) else zht 0 (cur ++ [c]) r
theorem zss (k : Nat) (cur : Str) : zht k cur [] = some [cur] := by cases k <;> rfl
theorem zuX (k : Nat) (cur : Str) (c : UInt8) (r : Str) : zht (k + 1) cur (c :: r) = zht k (cur ++ [c]) r := rfl
theorem zt2 (cur : Str) {c : UInt8} (r : Str) (h : (c == 34 || c == 40) = true) : zht 0 cur (c :: r) = if zhh c r = 0 then none else zht (zhh c r - 1) (cur ++ [c]) r := by
 rw [zht, if_pos h]
theorem zo4 (cur r : Str) : zht 0 cur (44 :: r) = (zht 0 [] r).map (cur :: ·) := by rw [zht]; rfl
theorem zst (cur : Str) {c : UInt8} (r : Str) (h : (c == 34 || c == 40) = false) (h2 : (c == 44) = false) : zht 0 cur (c :: r) = zht 0 (cur ++ [c]) r := by
 rw [zht, if_neg (by rw [h]; decide), if_neg (by rw [h2]; decide)]
theorem zqy : ∀ (k : Nat) (cur s : Str), k ≤ s.length → zht k cur s = zht 0 (cur ++ s.take k) (s.drop k)
 | 0, cur, s, _ => by simp
 | k + 1, cur, [], h => by simp at h
 | k + 1, cur, c :: r, h => by
  rw [zuX, zqy k _ r (by simpa using h)];simp
theorem zrf {a b : Str} (hb : b.all zaL = true) : zdO (a ++ b) = zdO a := by
 have : zhG (a ++ b) = zhG a := by
  rw [← List.reverse_reverse b] at *
  generalize b.reverse = r at *
  induction r with
  | nil => simp
  | cons x r ih =>
   rw [List.reverse_cons, List.all_append] at hb;simp only [Bool.and_eq_true, List.all_cons, List.all_nil, Bool.and_true] at hb;rw [List.reverse_cons, ← yaa, zje, hb.2, if_pos rfl];exact ih hb.1
 unfold zdO; rw [this]
def elems (l : List Str) : List Str := (l.map zdO).filter (fun x => !(x == []))
def zhR (s : Str) : Option (List Str) := (zht 0 [] s).map elems
theorem zuY (a b : List Str) : elems (a ++ b) = elems a ++ elems b := by simp [elems]
end Go.Dm
end
section
namespace Go.Dm
section
variable {s r : Str} {k : Nat}
theorem zjm (s : Str) (k : Nat) : (⟨s, (k : Int)⟩ : scan_Scanner) = scn s k := rfl
theorem zsF (b : UInt8) (r : Str) : (z8 b r).length ≤ r.length := by unfold z8; split <;> simp
def znE (r : Str) : Option (UInt8 × Str) := match z8 92 r with
 | [] => none
 | c :: t => if zhe c then some (c, t) else none
theorem zu8 {c : UInt8} {t : Str} (h : znE r = some (c, t)) : t.length < r.length := by
 unfold znE at h;have := zsF 92 r
 cases hb : z8 92 r with
 | nil => rw [hb] at h; cases h
 | cons d u =>
  rw [hb] at h this;simp only at h
  split at h
  ·cases h; simp only [ylc] at this; omega
  ·cases h
theorem zyu (hs : s.length < 1000000000) (out : Str) (ho : out.length < 1000000000) (h : At s k r) :
  (∀ c t, znE r = some (c, t) → ∃ k', At s k' t ∧ k ≤ k' ∧ zbB ⟨scn s k, out⟩ = some (true, ⟨scn s k', out ++ [c]⟩)) ∧
  (znE r = none → ∃ k', k' ≤ s.length ∧ k ≤ k' ∧ zbB ⟨scn s k, out⟩ = some (false, ⟨scn s k', out⟩)) := by
 unfold zbB znE;obtain ⟨k1, h1, e1⟩ := zeq hs 92 h
 have hk : k ≤ k1 := by have := h.len; have := h1.len; have := zsF 92 r; omega
 show (∀ c t, _ → ∃ k', _ ∧ _ ∧ (ze (scn s k) 92).bind _ = _) ∧ (_ → ∃ k', _ ∧ _ ∧ (ze (scn s k) 92).bind _ = _);rw [e1];simp only [yob];rw [zmD h1]
 cases hb : z8 92 r with
 | nil =>
  rw [hb] at h1;refine ⟨fun c t h => (by cases h), fun _ => ⟨k1, h1.le, hk, rfl⟩⟩
 | cons d u =>
  rw [hb] at h1;simp only [zub, yob, ynt, Bool.false_eq_true, if_false, zeZ];unfold zbt;obtain ⟨k2, h2, e2⟩ := zeq hs d h1
  rw [zcc, zdi] at *
  cases hv : zhe d with
  | false => exact ⟨fun c t h => by simp at h, fun _ => ⟨k1, h1.le, hk, by simp⟩⟩
  | true =>
   refine ⟨fun c t h => ?_, fun h => by simp at h⟩;simp at h;obtain ⟨rfl, rfl⟩ := h;refine ⟨k2, h2, by have := h1.len; have := h2.len; simp only [ylc] at *; omega, ?_⟩;rw [if_neg (by decide), if_pos (zcn (n := out.length) (m := 1) (by omega) (by omega)), e2];simp
theorem ztA (r : Str) : zd8 r = if zep 34 r then some ([], 1) else match znE r with
    | none => none
    | some (c, t) => (zd8 t).map (fun p => (c :: p.1, p.2 + (r.length - t.length))) := by
  cases r with
  | nil => rfl
  | cons c r =>
    rw [zdi]
    cases h34 : c == 34 with
    | true => have : c = 34 := by simpa using h34
              subst this; rw [zqt]; rfl
    | false =>
      rw [if_neg (by decide)];unfold znE
      cases h92 : c == 92 with
      | true =>
        have : c = 92 := by simpa using h92
        subst this;rw [zcc]
        cases r with
        | nil => exact zo1
        | cons d t =>
          rw [zqu];dsimp only
          cases zhe d with
          | false => rfl
          | true =>
            rw [if_pos rfl, if_pos rfl];dsimp only
            congr 1
            funext p
            congr 2
            simp only [ylc]; omega
      | false =>
        rw [zlT (by rw [zdi]; exact h92), zqv r h34 h92];dsimp only
        cases zhe c with
        | false => rfl
        | true =>
          rw [if_pos rfl, if_pos rfl];dsimp only
          congr 1
          funext p
          congr 2
          simp only [ylc]; omega
theorem zro {s : Str} {k k0 : Nat} (h : k0 ≤ k) : zc2 (scn s k) (k0 : Int) = some (true, scn s k0) := by
 unfold zc2;rw [ydf (show ¬ ((k0 : Int) < 0) by omega), if_neg (by decide), zjn, yob];unfold zbT;rw [ydf (show ¬ ((k : Int) < (k0 : Int)) by omega), if_neg (by decide)];rfl
theorem zjE (k0 n : Nat) (hk : k0 ≤ k) (out : Str) : zaM (k0 : Int) (n + 1) s (k : Int) out false = some ([], false, scn s k0) := by
 rw [zaM, if_neg (by decide)];unfold zdv zey;rw [if_neg (by decide), ynf, if_pos rfl, zjm, zro hk, yob]
theorem zmA (hs : s.length < 1000000000) (k0 : Nat) : ∀ (n : Nat) (r : Str) (k : Nat) (out : Str), r.length + 1 < n → At s k r → k0 ≤ k → out.length ≤ k →
  zaM (k0 : Int) n s (k : Int) out true = some (match zd8 r with | some p => (out ++ p.1, true, scn s (k + p.2)) | none => ([], false, scn s k0))
 | 0, _, _, _, h, _, _, _ => by omega
 | n + 1, r, k, out, hn, h, hk, ho => by
  rw [zaM, if_pos rfl, zjm];obtain ⟨k1, h1, e1⟩ := zeq hs 34 h;have hkl := h.le;rw [e1, yob];unfold zdv;rw [ztA]
  cases hb : zep 34 r with
  | true =>
   rw [ynt, if_neg (by decide), if_pos rfl];have hr := zeG hb
   have hk1 : k1 = k + 1 := by
    have := h.len; have := h1.len;have := congrArg List.length hr;simp only [ylc] at this; omega
   subst hk1;unfold zey;rw [ynt, if_neg (by decide)];simp [scn]
  | false =>
   rw [zlT hb] at h1
   have hk1 : k1 = k := by have := h.len; have := h1.len; omega
   subst hk1;rw [ynf, if_pos rfl, if_neg (by decide)];dsimp only [scn];rw [zjm];have hx := zyu hs out (by omega) h
   cases hq : znE r with
   | none =>
    obtain ⟨k2, g1, g2, e2⟩ := hx.2 hq;rw [e2, yob];obtain ⟨m, rfl⟩ : ∃ m, n = m + 1 := ⟨n - 1, by omega⟩;exact zjE k0 m (by omega) out
   | some ct =>
    obtain ⟨c, t⟩ := ct;obtain ⟨k2, g1, g2, e2⟩ := hx.1 c t hq;have hl := zu8 hq;have l1 := h.len;have l2 := g1.len;rw [e2, yob];have ih := zmA hs k0 n t k2 (out ++ [c]) (by omega) g1 (by omega) (by simp; omega);dsimp only [scn];rw [ih]
    cases zd8 t with
    | none => rfl
    | some p =>
     simp only [Option.map_some, yaa, List.singleton_append]
     have : k2 + p.2 = k1 + (p.2 + (r.length - t.length)) := by omega
     exact congrArg (fun k => some (out ++ c :: p.1, true, scn s k)) this
def zua (r : Str) : Option (Str × Nat) := if zep 34 r then (zd8 (z8 34 r)).map (fun p => (p.1, p.2 + 1)) else none
theorem zkw (hs : s.length < 1000000000) (h : At s k r) : zgU (scn s k) = some (match zua r with | some p => (p.1, true, scn s (k + p.2)) | none => ([], false, scn s k)) := by
 unfold zgU zua;rw [zjn, yob];obtain ⟨k1, h1, e1⟩ := zeq hs 34 h;rw [e1, yob];have l0 := h.len;have l1 := h1.len
 cases hb : zep 34 r with
 | false =>
  rw [zlT hb] at h1
  have hk1 : k1 = k := by have := h1.len; omega
  subst hk1;exact zjE k1 999999999999999999 (Nat.le_refl _) []
 | true =>
  have hr := congrArg List.length (zeG hb);simp only [ylc] at hr
  have hk1 : k1 = k + 1 := by omega
  subst hk1;have := zmA hs k fuel (z8 34 r) (k + 1) [] (by unfold fuel; omega) h1 (by omega) (by simp);dsimp only [scn] at this ⊢;rw [this, if_pos rfl]
  cases zd8 (z8 34 r) with
  | none => rfl
  | some p => simp only [Option.map_some, yna]; rw [show k + 1 + p.2 = k + (p.2 + 1) by omega]
theorem zdh (hs : s.length < 1000000000) (p : commas_splitter) : ∀ (n : Nat) (r : Str) (k d : Nat), r.length + 1 < n → At s k r → d ≤ k + 1 →
  ∃ k', (∀ m, zge d r = some m → k' = k + m) ∧ k' ≤ s.length ∧ zh p n s (k : Int) (d : Int) = some ((zge d r).isSome, ⟨scn s k', p.f_out, p.f_from, p.f_s⟩)
 | 0, _, _, _, h, _, _ => by omega
 | n + 1, r, k, 0, hn, h, hd => by
  refine ⟨k, fun m hm => (by rw [zqw] at hm; cases hm; rfl), h.le, ?_⟩;rw [zh, zqw];rfl
 | n + 1, r, k, d + 1, hn, h, hd => by
  have hl := h.len;rw [zh, ydt (show (0 : Int) < ((d + 1 : Nat) : Int) by omega), if_pos rfl, zjm, zmD h, yob]
  cases r with
  | nil => exact ⟨k, fun m hm => (by cases hm), h.le, rfl⟩
  | cons c t =>
   simp only [ylc] at hn hl;obtain ⟨k1, h1, e1⟩ := zeq hs c h;rw [zcc] at h1
   have hk1 : k1 = k + 1 := by have := h1.len; omega
   subst hk1;have i1 : zav ((d + 1 : Nat) : Int) 1 = some ((d + 2 : Nat) : Int) := zM (by omega)
   have i2 : zdZ ((d + 1 : Nat) : Int) 1 = some (d : Int) := by rw [zb6 (by omega) (by omega)]; simp
   rw [show (zub (c :: t)) = (c, true) from rfl];dsimp only;rw [ynt, if_neg (by decide), e1, yob, i1, yob, i2, yob];dsimp only [scn];rw [zjm, zmD h1, yob]
   cases c40 : c == 40 with
   | true =>
    have : c = 40 := by simpa using c40
    subst this;obtain ⟨k', g1, g2, g3⟩ := zdh hs p n t (k + 1) (d + 2) (by omega) h1 (by omega);refine ⟨k', fun m hm => ?_, g2, ?_⟩
    ·rw [znc] at hm; obtain ⟨m', hm', rfl⟩ := Option.map_eq_some_iff.1 hm; rw [g1 m' hm']; omega
    ·rw [if_pos rfl, g3, znc]; simp [scn]
   | false =>
    rw [if_neg (by decide)]
    cases c41 : c == 41 with
    | true =>
     have : c = 41 := by simpa using c41
     subst this;obtain ⟨k', g1, g2, g3⟩ := zdh hs p n t (k + 1) d (by omega) h1 (by omega);refine ⟨k', fun m hm => ?_, g2, ?_⟩
     ·rw [zlJ] at hm; obtain ⟨m', hm', rfl⟩ := Option.map_eq_some_iff.1 hm; rw [g1 m' hm']; omega
     ·rw [if_pos rfl, g3, zlJ]; simp [scn]
    | false =>
     rw [if_neg (by decide)]
     cases c92 : c == 92 with
     | true =>
      have : c = 92 := by simpa using c92
      subst this;rw [if_pos rfl]
      cases t with
      | nil =>
       obtain ⟨k', g1, g2, g3⟩ := zdh hs p n [] (k + 1) (d + 1) (by simp; omega) h1 (by omega);exact ⟨k', fun m hm => (by rw [zqx] at hm; cases hm), g2, by rw [if_neg (by decide), g3]; rfl⟩
      | cons x u =>
       simp only [ylc] at hn hl;obtain ⟨k2, h2, e2⟩ := zeq hs x h1;rw [zcc] at h2
       have hk2 : k2 = k + 2 := by have := h2.len; omega
       subst hk2;obtain ⟨k', g1, g2, g3⟩ := zdh hs p n u (k + 2) (d + 1) (by omega) h2 (by omega);dsimp only [scn] at e2 g3 ⊢;refine ⟨k', fun m hm => ?_, g2, ?_⟩
       ·rw [zo2] at hm; obtain ⟨m', hm', rfl⟩ := Option.map_eq_some_iff.1 hm; rw [g1 m' hm']; omega
       ·rw [show (zub (x :: u)) = (x, true) from rfl];dsimp only;rw [if_pos rfl, e2, yob, g3, zo2]; simp
     | false =>
      obtain ⟨k', g1, g2, g3⟩ := zdh hs p n t (k + 1) (d + 1) (by omega) h1 (by omega);refine ⟨k', fun m hm => ?_, g2, ?_⟩
      ·rw [zo3 d t c40 c41 c92] at hm; obtain ⟨m', hm', rfl⟩ := Option.map_eq_some_iff.1 hm; rw [g1 m' hm']; omega
      ·rw [if_neg (by decide), g3, zo3 d t c40 c41 c92]; simp [scn]
def mid (s : Str) (a b : Nat) : Str := (s.take b).drop a
theorem zsG {a n : Nat} (h : At s k r) (ha : a ≤ k) (hn : n ≤ r.length) : mid s a (k + n) = mid s a k ++ r.take n := by
 unfold mid;have hl := h.len;rw [List.take_add, h.drop, List.drop_append_of_le_length (by simp; omega)]
theorem zsH (s : Str) (a : Nat) : mid s a a = [] := by unfold mid; simp
theorem zyv (s : Str) (a b : Nat) : (mid s a b).length ≤ s.length := by unfold mid; simp; omega
def znF (out : List Str) (x : Str) : List Str := if zdO x == [] then out else out ++ [zdO x]
theorem zsI (out : List Str) (x : Str) : znF out x = out ++ elems [x] := by
 unfold znF elems;rw [List.map_cons, List.map_nil, List.filter_cons]
 cases h : zdO x == [] with
 | true => rw [if_pos rfl, ynt, if_neg (by decide), List.filter_nil, yan]
 | false => rw [if_neg (by decide), ynf, if_pos rfl, List.filter_nil]
theorem zu9 (out : List Str) (x : Str) : (znF out x).length ≤ out.length + 1 := by unfold znF; split <;> simp
theorem zxk (hs : s.length < 1000000000) (out : List Str) (ho : out.length < 4000000000) (a b pos : Nat) (ha : a ≤ b) (hb : b ≤ s.length) : zbg ⟨scn s pos, out, (a : Int), s⟩ (b : Int) = some ⟨scn s pos, znF out (mid s a b), (pos : Int), s⟩ := by
 unfold zbg;have hl := zyv s a b;rw [zg3 ha hb, yob];show (zcW (mid s a b) [32, 9]).bind _ = _;rw [zg8 _ (by omega), yob];unfold za6 znF;show (if (!(zdO (mid s a b) == [])) = true then _ else _) = _
 cases zdO (mid s a b) == [] with
 | true => rfl
 | false => rw [ynf, if_pos rfl, if_pos (zcn (n := out.length) (m := 1) (by omega) (by omega))]; rfl
theorem znG (t : Str) : zhh 34 t = match zd8 t with | some p => p.2 + 1 | none => 0 := rfl
theorem zph (t : Str) : zhh 40 t = match zge 1 t with | some n => n + 1 | none => 0 := rfl
theorem zyw (hs : s.length < 1000000000) (out : List Str) (ho : out.length ≤ k) (a : Nat) (ha : a ≤ k) (c : UInt8) (t : Str) (h : At s k (c :: t)) :
    (c = 44 → zaa ⟨scn s k, out, (a : Int), s⟩ = some (true, ⟨scn s (k + 1), znF out (mid s a k), ((k + 1 : Nat) : Int), s⟩)) ∧
    ((c == 34 || c == 40) = true → zhh c t ≠ 0 → zaa ⟨scn s k, out, (a : Int), s⟩ = some (true, ⟨scn s (k + zhh c t), out, (a : Int), s⟩)) ∧
    ((c == 34 || c == 40) = true → zhh c t = 0 → ∃ p, zaa ⟨scn s k, out, (a : Int), s⟩ = some (false, p)) ∧
    ((c == 34 || c == 40) = false → (c == 44) = false → zaa ⟨scn s k, out, (a : Int), s⟩ = some (true, ⟨scn s (k + 1), out, (a : Int), s⟩)) := by
  have hl := h.len;simp only [ylc] at hl;have e44 := zf8 44 h.le hs h.drop;have e40 := zf8 40 h.le hs h.drop;have ec := zf8 c h.le hs h.drop;rw [ybs, if_pos rfl] at ec;unfold zaa;rw [show (⟨scn s k, out, (a : Int), s⟩ : commas_splitter).Scanner = scn s k from rfl, zjn, yob]
  have hno : (c == 34 || c == 40) = true → (c == 44) = false := fun hc => by
    cases h4 : c == 44 with
    | false => rfl
    | true => have : c = 44 := by simpa using h4
              subst this; exact absurd hc (by decide)
  have n44 : (c == 44) = false → ze (scn s k) 44 = some (false, scn s k) := fun h => by rw [e44, h]; rfl
  have n40 : (c == 40) = false → ze (scn s k) 40 = some (false, scn s k) := fun h => by rw [e40, h]; rfl
  have y40 : c = 40 → ze (scn s k) 40 = some (true, scn s (k + 1)) := fun h => by rw [e40, h]; rfl
  have pk : zq (scn s k) = some (c, true) := zmD h;refine ⟨fun hc => ?_, fun hc hp => ?_, fun hc hp => ?_, fun hc h44 => ?_⟩
  · subst hc
    have y44 : ze (scn s k) 44 = some (true, scn s (k + 1)) := e44;rw [y44, yob];dsimp only;rw [if_pos rfl, zxk hs out (by omega) a k (k + 1) ha h.le, yob];rfl
  · rw [n44 (hno hc), yob]
    dsimp only;rw [if_neg (by decide)]
    cases h40 : c == 40 with
    | true =>
      have : c = 40 := by simpa using h40
      subst this;have h1 := h.next 1 (by simp);obtain ⟨k', g1, _, g3⟩ := zdh hs ⟨scn s (k + 1), out, (a : Int), s⟩ fuel t (k + 1) 1 (by unfold fuel; omega) h1 (by omega);rw [zph] at hp ⊢;rw [y40 rfl, yob];dsimp only;rw [if_pos rfl];unfold zaY
      cases hm : zge 1 t with
      | none => rw [hm] at hp; exact absurd rfl hp
      | some m =>
        rw [hm] at g3;have hk' := g1 m hm;subst hk';have g3 : zh ⟨scn s (k + 1), out, (a : Int), s⟩ fuel (scn s (k + 1)).f_s (scn s (k + 1)).f_at 1 = some (true, ⟨scn s (k + 1 + m), out, (a : Int), s⟩) := g3;dsimp only;rw [g3, yob, show k + 1 + m = k + (m + 1) by omega]
    | false =>
      have h34 : c = 34 := by rw [h40, Bool.or_false] at hc; simpa using hc
      subst h34;rw [znG] at hp ⊢;rw [n40 h40, yob];dsimp only;rw [if_neg (by decide), pk, yob];dsimp only;rw [if_pos (by decide), zkw hs h, yob];unfold zua;rw [zdi, zcc]
      cases hq : zd8 t with
      | none => rw [hq] at hp; exact absurd rfl hp
      | some p => rfl
  · rw [n44 (hno hc), yob]
    dsimp only;rw [if_neg (by decide)]
    cases h40 : c == 40 with
    | true =>
      have : c = 40 := by simpa using h40
      subst this;have h1 := h.next 1 (by simp);obtain ⟨k', g1, _, g3⟩ := zdh hs ⟨scn s (k + 1), out, (a : Int), s⟩ fuel t (k + 1) 1 (by unfold fuel; omega) h1 (by omega);rw [zph] at hp;rw [y40 rfl, yob];dsimp only;rw [if_pos rfl];unfold zaY
      cases hm : zge 1 t with
      | some m => rw [hm] at hp; exact absurd hp (by simp)
      | none =>
        rw [hm] at g3;have g3 : zh ⟨scn s (k + 1), out, (a : Int), s⟩ fuel (scn s (k + 1)).f_s (scn s (k + 1)).f_at 1 = some (false, ⟨scn s k', out, (a : Int), s⟩) := g3;dsimp only;exact ⟨_, by rw [g3, yob]⟩
    | false =>
      have h34 : c = 34 := by rw [h40, Bool.or_false] at hc; simpa using hc
      subst h34;rw [znG] at hp;rw [n40 h40, yob];dsimp only;rw [if_neg (by decide), pk, yob];dsimp only;rw [if_pos (by decide), zkw hs h, yob];unfold zua;rw [zdi, zcc]
      cases hq : zd8 t with
      | some p => rw [hq] at hp; exact absurd hp (by simp)
      | none => exact ⟨_, rfl⟩
  · simp only [Bool.or_eq_false_iff] at hc
    rw [n44 h44, yob];dsimp only;rw [if_neg (by decide), n40 hc.2, yob];dsimp only;rw [if_neg (by decide), pk, yob];dsimp only;rw [hc.1, if_neg (by decide), ec, yob];rfl
def zrp (s : Str) : List Str × Int := match zhR s with
 | some l => (l, 0)
 | none => ([], 2)
theorem zii (hs : s.length < 1000000000) : ∀ (n : Nat) (r : Str) (k a : Nat) (out : List Str), r.length < n → At s k r → a ≤ k → out.length ≤ k →
  zca s n out (a : Int) s s (k : Int) = some (match zht 0 (mid s a k) r with | some l => (out ++ elems l, 0) | none => ([], 2))
 | 0, _, _, _, _, h, _, _, _ => by omega
 | n + 1, r, k, a, out, hn, h, ha, ho => by
  have hl := h.len;rw [zca, zjm, zrr h, yob]
  cases r with
  | nil =>
   have hk : k = s.length := by simpa using hl
   subst hk;unfold zfl;rw [zjm, zxk hs out (by omega) a s.length s.length ha (Nat.le_refl _), yob, zss];dsimp only;rw [zsI];rfl
  | cons c t =>
   simp only [ylc] at hn hl;obtain ⟨s1, s2, s3, s4⟩ := zyw hs out ho a ha c t h;have hne : (!((c :: t : Str) == [])) = true := rfl;have m1 := zsG (a := a) (n := 1) h ha (by simp);rw [hne, if_pos rfl]
   cases hc : (c == 34 || c == 40) with
   | true =>
    rw [zt2 _ t hc]
    by_cases hp : zhh c t = 0
    ·obtain ⟨p, e⟩ := s3 hc hp;rw [if_pos hp, e, yob];rfl
    ·have hple := zw6 c t;rw [if_neg hp, s2 hc hp, yob];have hat := h.next (zhh c t) (by simp; omega);have ih := zii hs n _ (k + zhh c t) a out (by simp; omega) hat (by omega) (by omega);rw [zsG h ha (by simp; omega)] at ih;obtain ⟨q, hq⟩ : ∃ q, zhh c t = q + 1 := ⟨zhh c t - 1, by omega⟩;rw [hq] at ih hple ⊢;rw [Nat.add_sub_cancel, zqy q _ t (by omega)];dsimp only [scn];rw [ynt, if_neg (by decide), ih];simp
   | false =>
    cases h44 : c == 44 with
    | true =>
     have : c = 44 := by simpa using h44
     subst this;rw [s1 rfl, yob, zo4];have hat := h.next 1 (by simp);have hpl := zu9 out (mid s a k);have ih := zii hs n t (k + 1) (k + 1) (znF out (mid s a k)) (by omega) hat (Nat.le_refl _) (by omega);rw [zsH] at ih;dsimp only [scn];rw [ynt, if_neg (by decide), ih]
     cases zht 0 [] t with
     | none => rfl
     | some l =>
      simp only [Option.map_some];rw [zsI, show mid s a k :: l = [mid s a k] ++ l from rfl, zuY, yaa]
    | false =>
     rw [s4 hc h44, yob, zst _ t hc h44];have hat := h.next 1 (by simp);have ih := zii hs n t (k + 1) a out (by omega) hat (by omega) (by omega);rw [m1] at ih;dsimp only [scn];rw [ynt, if_neg (by decide), ih];rfl
theorem zjF (s : Str) (hs : s.length < 1000000000) : zeR s = some (zrp s) := by
 unfold zeR zrp zhR;rw [zfH, yob];have := zii hs fuel s 0 0 [] (by unfold fuel; omega) (At.zero s) (Nat.le_refl _) (by simp);rw [zsH] at this;show zca s fuel [] ((0 : Nat) : Int) s s ((0 : Nat) : Int) = _;rw [this]
 cases zht 0 [] s with
 | none => rfl
 | some l => rfl
end
end Go.Dm
end
section
namespace Go.Dm
def isN (nm : Str) (f : api_Field) : Bool := low f.Name == low nm
def zbq (m : Nat) (l : List api_Field) : Prop := ∀ f ∈ l, f.Name.length < m ∧ f.Value.length < m
theorem zoV (l : List api_Field) (h : l.length < 1000000000) : zy l = some l := by
 unfold zy;rw [if_pos (zcn (by omega) (by omega))]
theorem zuU {α : Type} [BEq α] [LawfulBEq α] (a b : List α) (L : Nat → Int → Option Bool) (hl : a.length = b.length) (ha : a.length < 1000000000)
  (hE : ∀ n, L (n + 1) (a.length : Int) = some true) (hL : ∀ n (i : Nat) x y, i < a.length → a[i]? = some x → b[i]? = some y → L (n + 1) (i : Int) = if (x == y) = true then L n ((i + 1 : Nat) : Int) else some false) : L fuel 0 = some (a == b) := by
 have key : ∀ (n i : Nat), i ≤ a.length → a.length - i < n → L n (i : Int) = some (a.drop i == b.drop i) := by
  intro n
  induction n with
  | zero => intro i _ h; omega
  | succ n ih =>
   intro i hi h
   by_cases hlt : i < a.length
   ·have g1 : a[i]? = some a[i] := ygg hlt;have g2 : b[i]? = some (b[i]'(by omega)) := ygg (by omega);rw [hL n i _ _ hlt g1 g2, ih (i + 1) (by omega) (by omega), ydg hlt, ydg (show i < b.length by omega), List.cons_beq_cons];cases a[i] == b[i]'(by omega) <;> rfl
   ·have : i = a.length := by omega
    subst this;rw [hE, ydl, List.drop_of_length_le (by omega)];rfl
 have := key fuel 0 (yz _) (by unfold fuel; omega);rw [List.drop_zero, List.drop_zero] at this;exact this
theorem zll (a b : List api_Field) (ha : a.length < 1000000000) : zgC a b = some (a == b) := by
 unfold zgC
 by_cases hl : a.length = b.length
 ·rw [hl, ybs, ynt, if_neg (by decide)];refine zuU a b (zdg a b) hl ha (fun n => ?_) (fun n i x y hi hx hy => ?_)
  ·rw [zdg, ydf (by omega), if_neg (by decide)]
  ·rw [zdg, ydt (by omega), if_pos rfl, zbd, hx, yob, zbd, hy, yob, zM (by omega), yob];cases x == y <;> rfl
 ·have : (((a.length : Int) == (b.length : Int))) = false := beq_eq_false_iff_ne.2 (by omega);have h2 : (a == b) = false := beq_eq_false_iff_ne.2 (fun e => hl (by rw [e]));rw [this, h2]; rfl
def cutF (f : api_Field) : api_Field := ⟨f.Name.take 400, f.Value.take 400⟩
def cutL (l : List api_Field) : List api_Field := (l.take 120).map cutF
theorem zfQ (s : Str) : zeT s = some (s.take 400) := by
 unfold zeT;have := zn6 s 400;rw [show ((400 : Nat) : Int) = 400 from rfl] at this;rw [this, yob]
theorem zmm (h : api_Head) (hl : h.Fields.length < 1000000000) : ziL h = some ⟨h.Kind, h.Method.take 400, h.Target.take 400, h.Code, h.Reason.take 400, h.Minor, cutL h.Fields⟩ := by
 unfold ziL;rw [zfQ, yob, zfQ, yob, zfQ, yob]
 have key : ∀ (n i : Nat) (out : List api_Field), i ≤ h.Fields.length → i ≤ 120 → h.Fields.length - i < n → out.length = i → zc3 h (h.Method.take 400) (h.Target.take 400) (h.Reason.take 400) n out (i : Int) = some ⟨h.Kind, h.Method.take 400, h.Target.take 400, h.Code, h.Reason.take 400, h.Minor, out ++ ((h.Fields.drop i).take (120 - i)).map cutF⟩ := by
  intro n
  induction n with
  | zero => intro i _ _ _ h; omega
  | succ n ih =>
   intro i out hi h120 hn ho;rw [zc3];unfold zf0
   by_cases hlt : i < h.Fields.length
   ·have g : h.Fields[i]? = some h.Fields[i] := ygg hlt;rw [ydt (show (i : Int) < (h.Fields.length : Int) by omega), if_pos rfl]
    by_cases h2 : i < 120
    ·rw [ydt (show (i : Int) < 120 by omega), if_pos rfl, zbd, g, yob, zfQ, yob, yob, zfQ, yob, if_pos (zcn (by omega) (by omega)), zM (by omega), yob, ih (i + 1) _ (by omega) (by omega) (by omega) (by simp; omega), ydg hlt, show 120 - i = (120 - (i + 1)) + 1 by omega, List.take_succ_cons];simp [cutF]
    ·have : i = 120 := by omega
     subst this;rw [ydf (by omega), if_neg (by decide)];simp
   ·have : i = h.Fields.length := by omega
    rw [ydf (by omega), if_neg (by decide), if_neg (by decide), this, ydl];simp
 have := key fuel 0 [] (yz _) (by decide) (by unfold fuel; omega) rfl;exact this
theorem zw2 (l : List api_Field) : (cutL l).length ≤ 120 := by unfold cutL; simp; omega
theorem ztp (l : List api_Field) : zbq 401 (cutL l) := by
 intro f hf;unfold cutL at hf;obtain ⟨g, _, rfl⟩ := List.mem_map.1 hf;unfold cutF
 simp; omega
theorem zW {m n : Nat} (h : m ≤ n) {l : List api_Field} (hs : zbq m l) : zbq n l := fun f hf => by have := hs f hf; omega
end Go.Dm
end
section
namespace Go.Dm
def zue (a b : api_Head) : Bool := a.Kind == b.Kind && a.Method == b.Method && a.Target == b.Target && a.Minor == b.Minor && a.Code == b.Code && a.Reason == b.Reason && a.Fields == b.Fields
theorem ztL (a : api_Head) : zue a a = true := by unfold zue; simp
theorem zp0 (a b : api_Head) (ha : a.Fields.length < 1000000000) : zhO a b = some (zue a b) := by
 unfold zhO zfg zjg zbN zue;rw [zll _ _ ha, yob];cases a.Kind == b.Kind <;> cases a.Method == b.Method <;> cases a.Target == b.Target <;> cases a.Minor == b.Minor <;> cases a.Code == b.Code <;> cases a.Reason == b.Reason <;> rfl

end Go.Dm
end
section
namespace Go.Dm
theorem ziH (b : UInt8) : zdd b = some (zaL b) :=
 of_decide_eq_true (za2 (fun b => decide (zdd b = some (zaL b))) (by decide +kernel) b)
def zhH : api_Field := ⟨[], []⟩
def zrb (s : Str) : api_Field × Int :=
 if s.any ([13, 10] : Str).contains then (zhH, 24) else if !(s.takeWhile zaL == []) then (zhH, 23)
 else if s.takeWhile zbG == [] || !zep 58 ((s.dropWhile zbG).dropWhile zaL) then (zhH, 21)
 else if !((s.dropWhile zbG).takeWhile zaL == []) then (zhH, 22)
 else if !((z8 58 ((s.dropWhile zbG).dropWhile zaL)).all zhe) then (zhH, 25)
 else (⟨s.takeWhile zbG, zdO (z8 58 ((s.dropWhile zbG).dropWhile zaL))⟩, 0)
theorem zk7 (s : Str) (hs : s.length < 1000000000) : zbp s = some (zrb s) := by
 unfold zbp zrb;rw [zf9 s _ hs (by decide) (by decide), yob]
 cases s.any ([13, 10] : Str).contains with
 | true => rfl
 | false =>
  obtain ⟨k1, a1, e1⟩ := ziR ziH hs (At.zero s)
  have b1 : zaj (scn s 0) = some (s.takeWhile zaL, scn s k1) := by unfold zaj; rw [e1]; rfl
  rw [if_neg yfn, if_neg yfn, zfH, yob, b1, yob];dsimp only
  cases hb : s.takeWhile zaL == [] with
  | false => rfl
  | true =>
   have hd : s.dropWhile zaL = s := by
    have := List.takeWhile_append_dropWhile (p := zaL) (l := s)
    have h0 : s.takeWhile zaL = [] := by simpa using hb
    rwa [h0, yna] at this
   rw [hd] at a1;obtain ⟨k2, a2, e2⟩ := zsK hs a1;obtain ⟨k3, a3, e3⟩ := ziR ziH hs a2
   have b3 : zaj (scn s k2) = some ((s.dropWhile zbG).takeWhile zaL, scn s k3) := by unfold zaj; rw [e3]; rfl
   rw [ynt, if_neg yfn, if_neg yfn, e2, yob, b3, yob];dsimp only
   cases hn : s.takeWhile zbG == [] with
   | true => rfl
   | false =>
    obtain ⟨k4, a4, e4⟩ := zeq hs 58 a3;rw [ynf, ynt, if_neg yfn, e4, yob, Bool.false_or];have hl := a4.le_len;generalize z8 58 ((s.dropWhile zbG).dropWhile zaL) = v at a4 hl;unfold zcC;show (if (!zep 58 ((s.dropWhile zbG).dropWhile zaL)) = true then _ else if (!((s.dropWhile zbG).takeWhile zaL == [])) = true then _ else (zJ (scn s k4)).bind _) = _;rw [zn5 a4, yob, zcq zeZ v (by omega), yob]
    cases zep 58 ((s.dropWhile zbG).dropWhile zaL) with
    | false => rfl
    | true =>
     rw [ynt, if_neg yfn, if_neg yfn]
     cases (s.dropWhile zbG).takeWhile zaL == [] with
     | false => rfl
     | true =>
      rw [ynt, if_neg yfn, if_neg yfn]
      cases v.all zhe with
      | false => rfl
      | true =>
       rw [ynt, if_neg yfn, if_neg yfn];rw [yob, zg8 v (by omega), yob]
def zm5 : Str → Bool
 | [] => false
 | c :: _ => zaL c
def zdc (s : Str) : api_Field × Int :=
 if s.any ([13, 10] : Str).contains then (zhH, 24) else if zm5 s then (zhH, 23)
 else if zck [58] s == [] || !zfJ (zdO (upto [58] s)) then (zhH, 21)
 else if decide ((zdO (upto [58] s)).length < (upto [58] s).length) then (zhH, 22)
 else if !(((zck [58] s).drop 1).all zhe) then (zhH, 25)
 else (⟨zdO (upto [58] s), zdO ((zck [58] s).drop 1)⟩, 0)
theorem ztn (s : Str) : (!(s.takeWhile zaL == [])) = zm5 s := by
 cases s with
 | nil => rfl
 | cons c s =>
  rw [List.takeWhile_cons];show _ = zaL c;cases zaL c <;> rfl
theorem zx6 (c : UInt8) : (!zbG c || (!zaL c && !(c == 58))) = true := za2 (fun c => !zbG c || (!zaL c && !(c == 58))) (by decide +kernel) c
theorem zwX (c : UInt8) : (!zaL c || (!zbG c && !(c == 58))) = true := za2 (fun c => !zaL c || (!zbG c && !(c == 58))) (by decide +kernel) c
theorem zm6 {n : Str} (h : n.all zbG = true) : (∀ x ∈ n, zaL x = false) ∧ (58 : UInt8) ∉ n := by
 have key : ∀ x ∈ n, zaL x = false ∧ (x == 58) = false := fun x hx => by
  have h1 := List.all_eq_true.1 h x hx;have h2 := zx6 x;rw [h1] at h2;simpa using h2
 exact ⟨fun x hx => (key x hx).1, fun hx => by have := (key _ hx).2; cases this⟩
theorem zwY {b : Str} (h : b.all zaL = true) : (58 : UInt8) ∉ b := fun hx => by
 have := List.all_eq_true.1 h _ hx;cases this
theorem zt0 (u v : Str) (h : (58 : UInt8) ∉ u) : upto [58] (u ++ 58 :: v) = u ∧ zck [58] (u ++ 58 :: v) = 58 :: v := by
 induction u with
 | nil => exact ⟨zkC (by decide), zij (by decide)⟩
 | cons c u ih =>
  have hc : ([58] : Str).contains c = false := by
   have : c ≠ 58 := fun e => h (by rw [e]; exact List.mem_cons_self ..);simpa using this
  have ih := ih (fun hx => h (List.mem_cons_of_mem _ hx));rw [List.cons_append, zkD hc, zik hc, ih.1, ih.2];exact ⟨rfl, rfl⟩
theorem zlk (p : UInt8 → Bool) (s : Str) : (s.takeWhile p).all p = true := List.all_eq_true.2 fun _ hx => zgG hx
theorem zuP {n b v : Str} (hn : n.all zbG = true) (hb : b.all zaL = true) :
  (n ++ (b ++ 58 :: v)).takeWhile zbG = n ∧ (n ++ (b ++ 58 :: v)).dropWhile zbG = b ++ 58 :: v ∧ (b ++ 58 :: v).takeWhile zaL = b ∧ (b ++ 58 :: v).dropWhile zaL = 58 :: v := by
 have h1 := zlN (p := zaL) (c := 58) (by decide) v hb;refine ⟨?_, ?_, h1.1, h1.2⟩
 ·cases b with
  | nil => exact (zlN (p := zbG) (c := 58) (by decide) v hn).1
  | cons c b =>
   have hc : zbG c = false := by
    rw [List.all_cons, Bool.and_eq_true] at hb;have := zwX c;rw [hb.1] at this;simp only [ynt, Bool.false_or, Bool.and_eq_true, Bool.not_eq_true'] at this;exact this.1
   exact (zlN hc _ hn).1
 ·cases b with
  | nil => exact (zlN (p := zbG) (c := 58) (by decide) v hn).2
  | cons c b =>
   have hc : zbG c = false := by
    rw [List.all_cons, Bool.and_eq_true] at hb;have := zwX c;rw [hb.1] at this;simp only [ynt, Bool.false_or, Bool.and_eq_true, Bool.not_eq_true'] at this;exact this.1
   exact (zlN hc _ hn).2
theorem zsl {s : Str} (h : ∀ x ∈ s, zaL x = false) : zdO s = s := by
 have hl : ∀ t : Str, (∀ x ∈ t, zaL x = false) → t.dropWhile zaL = t := by
  intro t ht
  cases t with
  | nil => rfl
  | cons y t => rw [List.dropWhile_cons, ht y (List.mem_cons_self ..)]; rfl
 have hr : zhG s = s := by unfold zhG; rw [hl _ (fun x hx => h x (List.mem_reverse.1 hx)), List.reverse_reverse]
 unfold zdO zh6;rw [hr, hl s h]
theorem zuQ {n b : Str} (hn : n.all zbG = true) (hb : b.all zaL = true) : zdO (n ++ b) = n := by
 rw [zrf hb];exact zsl (zm6 hn).1
theorem zuR {u : Str} (h : zm5 u = false) (ht : zfJ (zdO u) = true) : ∃ b, u = zdO u ++ b ∧ b.all zaL = true := by
 rcases znx u with ⟨h1, h2⟩ | ⟨a, c, b, h1, h2, h3, h4⟩
 ·have : zdO u = [] := by unfold zdO; rw [h2]; rfl
  rw [this] at ht; cases ht
 ·refine ⟨b, ?_, h3⟩
  have e : zdO u = a ++ [c] := by
   unfold zdO;rw [h4];unfold zh6
   cases a with
   | nil => show [c].dropWhile zaL = _; rw [List.dropWhile_cons, h2, if_neg yfn]; rfl
   | cons x a =>
    rw [h1] at h;have hx : zaL x = false := h;rw [List.cons_append, List.dropWhile_cons, hx, if_neg yfn]
  rw [e, h1]; simp
theorem zwZ (s : Str) : zrb s = zdc s := by
 unfold zrb zdc;rw [ztn]
 cases s.any ([13, 10] : Str).contains with
 | true => rfl
 | false =>
  cases hb : zm5 s with
  | true => rfl
  | false =>
   rw [if_neg yfn, if_neg yfn, if_neg yfn, if_neg yfn];have e1 := List.takeWhile_append_dropWhile (p := zbG) (l := s);have e2 := List.takeWhile_append_dropWhile (p := zaL) (l := s.dropWhile zbG);have hn := zlk zbG s;have hbb := zlk zaL (s.dropWhile zbG)
   cases hc : zep 58 ((s.dropWhile zbG).dropWhile zaL) with
   | true =>
    have e3 := zeG hc;generalize z8 58 ((s.dropWhile zbG).dropWhile zaL) = v at e3;generalize s.takeWhile zbG = n at e1 hn;generalize (s.dropWhile zbG).takeWhile zaL = b at e2 hbb
    have es : s = (n ++ b) ++ 58 :: v := by rw [← e1, ← e2, e3, yaa]
    have hno : (58 : UInt8) ∉ n ++ b := fun hx => by
     rcases List.mem_append.1 hx with h | h
     ·exact (zm6 hn).2 h
     ·exact zwY hbb h
    obtain ⟨u1, u2⟩ := zt0 (n ++ b) v hno;rw [es, u1, u2, zuQ hn hbb]
    have ht : zfJ n = !(n == []) := by unfold zfJ; rw [hn, Bool.true_and]
    rw [ht]
    have hlt : decide (n.length < (n ++ b).length) = !(b == []) := by
     cases b with
     | nil => simp
     | cons x b => simp
    rw [hlt];show (if (n == [] || false) = true then _ else _) = if (false || !(!(n == []))) = true then _ else _;rw [Bool.or_false, Bool.false_or, Bool.not_not];rfl
   | false =>
    rw [ynf, Bool.or_true, if_pos rfl]
    cases hf : zck [58] s with
    | nil => rfl
    | cons c v =>
     have hc58 : c = 58 := by simpa using zvf hf
     subst hc58
     cases ht : zfJ (zdO (upto [58] s)) with
     | false => rfl
     | true =>
      exfalso
      have es := zeX [58] s;rw [hf] at es
      have hub : zm5 (upto [58] s) = false := by
       cases hu : upto [58] s with
       | nil => rfl
       | cons x u => rw [hu] at es; rw [← es] at hb; exact hb
      obtain ⟨b, eb, hbl⟩ := zuR hub ht;unfold zfJ at ht;rw [Bool.and_eq_true] at ht
      have es2 : s = zdO (upto [58] s) ++ (b ++ 58 :: v) := by
       rw [← yaa, ← eb]; exact es.symm
      obtain ⟨_, q2, _, q4⟩ := zuP (v := v) ht.1 hbl;rw [es2, q2, q4] at hc;cases hc
theorem zfr (s : Str) (hs : s.length < 1000000000) : zbp s = some (zdc s) := by rw [zk7 s hs, zwZ]
end Go.Dm
end
section
namespace Go.Dm
def lines : Str → List Str
 | [] => [[]]
 | [c] => [[c]]
 | c :: d :: r => if c == 13 && d == 10 then [] :: lines r else zgq [c] (lines (d :: r))
theorem zp8 (c d : UInt8) (r : Str) : lines (c :: d :: r) = if c == 13 && d == 10 then [] :: lines r else zgq [c] (lines (d :: r)) := by rw [lines]
theorem zrQ (c d : UInt8) (r : Str) : ([13, 10] : Str).isPrefixOf (c :: d :: r) = (c == 13 && d == 10) := by
 show ((13 : UInt8) == c && ((10 : UInt8) == d && ([] : Str).isPrefixOf r)) = _
 have : ([] : Str).isPrefixOf r = true := by simp
 rw [this, Bool.and_true, show ((13 : UInt8) == c) = (c == 13) from by rw [Bool.eq_iff_iff, beq_iff_eq, beq_iff_eq]; exact eq_comm, show ((10 : UInt8) == d) = (d == 10) from by rw [Bool.eq_iff_iff, beq_iff_eq, beq_iff_eq]; exact eq_comm]
theorem zrR : ∀ (n : Nat) (s : Str), s.length < n → lines s ≠ []
 | 0, _, h => by omega
 | n + 1, [], _ => by simp [lines]
 | n + 1, [c], _ => by simp [lines]
 | n + 1, c :: d :: r, h => by
  rw [zp8]
  split
  ·simp
  ·simp only [ylc] at h
   cases hl : lines (d :: r) with
   | nil => exact absurd hl (zrR n _ (by simp only [ylc]; omega))
   | cons a t => simp [zgq]
theorem zwv (s : Str) : lines s ≠ [] := zrR _ s (Nat.lt_succ_self _)
theorem zp9 : ∀ (n : Nat) (s : Str), s.length < n → lines s = match zbI [13, 10] s with | none => [s] | some p => p.1 :: lines p.2
 | 0, _, h => by omega
 | n + 1, [], _ => by simp [lines, zbI]
 | n + 1, [c], _ => by
  have : ([13, 10] : Str).isPrefixOf [c] = false := by
   show ((13 : UInt8) == c && false) = false;rw [Bool.and_false]
  rw [zbI, this, if_neg yfn];simp [lines, zbI]
 | n + 1, c :: d :: r, h => by
  simp only [ylc] at h;have ih := zp9 n (d :: r) (by simp only [ylc]; omega);rw [zp8, zbI, zrQ]
  cases hc : (c == 13 && d == 10) with
  | true => rfl
  | false =>
   rw [if_neg yfn, if_neg yfn, ih]
   cases zbI [13, 10] (d :: r) with
   | none => rfl
   | some p => rfl
theorem zl2 (s : Str) : lines s = match zbI [13, 10] s with | none => [s] | some p => p.1 :: lines p.2 := zp9 _ s (Nat.lt_succ_self _)
theorem zns : ∀ (k : Nat) (s : Str), Go.Lib.count s [13, 10] = k → Go.Lib.splitK [13, 10] 0 k s = lines s
 | k, s, h => by
  have hi := zkX (t := [13, 10]) (by decide) s;rw [zl2]
  cases hc : zbI [13, 10] s with
  | none =>
   rw [hc] at hi;have h0 := Go.Lib.count_miss hi
   have : k = 0 := by omega
   subst this;rfl
  | some p =>
   rw [hc] at hi;have e := zfv (a := p.1) (b := p.2) hc
   have e1 : s.take p.1.length = p.1 := by rw [e, yaa, List.take_left']; rfl
   have e2 : s.drop (p.1.length + 2) = p.2 := by rw [e, List.drop_left']; simp
   have hh := Go.Lib.count_hit (i := p.1.length) (by decide) hi;rw [show ([13, 10] : Str).length = 2 from rfl, e2] at hh;obtain ⟨m, rfl⟩ : ∃ m, k = m + 1 := ⟨k - 1, by omega⟩;have ih := zns m p.2 (by omega);unfold Go.Lib.splitK;have hn : (((p.1.length : Int)) == -1) = false := beq_eq_false_iff_ne.2 (by omega);rw [hi];dsimp only;rw [hn, if_neg yfn, Int.toNat_natCast, Nat.add_zero, e1, show ([13, 10] : Str).length = 2 from rfl, e2, ih]
theorem zlu (s : Str) (hs : s.length < 1000000000) : strings_Split s [13, 10] = some (lines s) := by
 unfold strings_Split;rw [if_pos ⟨by omega, by decide⟩];exact congrArg some (zns _ s rfl)
theorem zqa : ∀ (n : Nat) (s : Str), s.length < n → (lines s).length ≤ s.length + 1 ∧ ∀ l ∈ lines s, l.length ≤ s.length
 | 0, _, h => by omega
 | n + 1, s, h => by
  rw [zl2]
  cases hc : zbI [13, 10] s with
  | none => simp
  | some p =>
   have e := congrArg List.length (zfv (a := p.1) (b := p.2) hc);simp only [yla, ylc, yln] at e;obtain ⟨h1, h2⟩ := zqa n p.2 (by omega);dsimp only;refine ⟨by simp only [ylc]; omega, fun l hl => ?_⟩
   rcases List.mem_cons.1 hl with h | h
   ·rw [h]; omega
   ·have := h2 l h; omega
theorem zl3 (s t : Str) (hs : s.length < 1000000000) (ht : t ≠ []) : strings_Index s t = some (match zbI t s with | none => -1 | some p => (p.1.length : Int)) := by
 unfold strings_Index;rw [if_pos (by omega), zoK, zkX ht]
 first | done | (cases zbI t s <;> rfl)
def zj1 (h : api_Head) : List Str := (h.Fields.filter (isN [104, 111, 115, 116])).map (·.Value)
def znY (h : api_Head) : Bool := if h.Kind == 1 then (if decide (1 < (zj1 h).length) || decide (((zj1 h).length : Int) < h.Minor) then false else (zj1 h).all (fun x => x == [] || (zgQ x).2 == 0)) else true
def zj2 (h : api_Head) : Int := if decide (100 < h.Fields.length) then 3 else if znY h then 0 else 27
theorem zww : isN ([72, 111, 115, 116] : Str) = isN [104, 111, 115, 116] := by
 funext f
 unfold isN
 have : low ([72, 111, 115, 116] : Str) = low ([104, 111, 115, 116] : Str) := by decide
 rw [this]
theorem zio (l : List api_Field) (nm : Str) (hn : nm.length < 1000000000) (hl : l.length < 1000000000) (hs : zbq 1000000000 l) : zcD ⟨l⟩ nm = some ((l.filter (isN nm)).map (·.Value)) := by
 unfold zcD zhs;rw [zoV l hl, yob, yob]
 have key : ∀ (n i : Nat) (out : List Str), i ≤ l.length → l.length - i < n → out.length ≤ i → zaD nm l n out (i : Int) = some (out ++ ((l.drop i).filter (isN nm)).map (·.Value)) := by
  intro n
  induction n with
  | zero => intro i _ _ h; omega
  | succ n ih =>
   intro i out hi h ho;rw [zaD]
   by_cases hlt : i < l.length
   ·have g : l[i]? = some l[i] := ygg hlt;have hsm := hs l[i] (ygm _);rw [ydt (show (i : Int) < (l.length : Int) by omega), if_pos rfl, zbd, g, yob, zli _ _ hsm.1 hn, yob, if_pos (zcn (by omega) (by omega))];unfold zc1;rw [zM (by omega), yob, yob, ih (i + 1) _ (by omega) (by omega) (by simp; omega), ih (i + 1) _ (by omega) (by omega) (by omega), ydg hlt, List.filter_cons];show (if (isN nm l[i]) = true then _ else _) = _
    cases isN nm l[i] with
    | true => simp
    | false => rfl
   ·have : i = l.length := by omega
    subst this;rw [ydf (by omega), if_neg yfn, ydl];simp
 have := key fuel 0 [] (yz _) (by unfold fuel; omega) (by simp);rw [List.drop_zero, yna] at this;exact this
theorem zpD (h : api_Head) (hl : h.Fields.length < 1000000000) (hs : zbq 400000000 h.Fields) : zhL h = some (znY h) := by
 unfold zhL znY
 cases h.Kind == 1 with
 | false => rfl
 | true =>
  have hvl : (zj1 h).length ≤ h.Fields.length := by unfold zj1; rw [List.length_map]; exact List.length_filter_le _ _
  have hvm : ∀ v ∈ zj1 h, v.length < 400000000 := fun v hv => by
   obtain ⟨f, hf, rfl⟩ := List.mem_map.1 hv;exact (hs f (List.mem_filter.1 hf).1).2
  rw [ynt, if_neg yfn, if_pos rfl];unfold zkT;rw [zoV _ hl, yob, yob, zio _ _ (by decide) hl (zW (by decide) hs), yob, zww];show (if decide (1 < ((zj1 h).length : Int)) = true then zde (zj1 h) true else zde (zj1 h) (decide (((zj1 h).length : Int) < h.Minor))) = _;generalize zj1 h = vs at hvl hvm
  have key : ∀ (n i : Nat), i ≤ vs.length → vs.length - i < n → zcp vs n (i : Int) = some ((vs.drop i).all (fun x => x == [] || (zgQ x).2 == 0)) := by
   intro n
   induction n with
   | zero => intro i _ h; omega
   | succ n ih =>
    intro i hi h;rw [zcp]
    by_cases hlt : i < vs.length
    ·have g : vs[i]? = some vs[i] := ygg hlt;have hsm := hvm vs[i] (ygm _);unfold ze9;rw [ydt (show (i : Int) < (vs.length : Int) by omega), if_pos rfl, zbd, g, yob, zfO _ hsm, yob, zM (by omega), yob, ih (i + 1) (by omega) (by omega), ydg hlt, List.all_cons];cases (zgQ vs[i]).2 == 0 <;> cases vs[i] == [] <;> rfl
    ·have : i = vs.length := by omega
     subst this;rw [ydf (by omega), if_neg yfn, ydl];rfl
  have hk := key fuel 0 (yz _) (by unfold fuel; omega);rw [List.drop_zero] at hk;unfold zde
  by_cases h1 : 1 < vs.length
  ·rw [ydt (show 1 < (vs.length : Int) by omega), ydt h1]; rfl
  ·rw [ydf (show ¬ 1 < (vs.length : Int) by omega), ydf h1, if_neg yfn, Bool.false_or]
   cases decide ((vs.length : Int) < h.Minor) with
   | true => rfl
   | false => exact hk
theorem zld (h : api_Head) (hl : h.Fields.length < 1000000000) (hs : zbq 400000000 h.Fields) : zgx h = some (zj2 h) := by
 unfold zgx zj2;rw [zpD h hl hs, yob]
 by_cases h1 : 100 < h.Fields.length
 ·rw [ydt (show 100 < (h.Fields.length : Int) by omega), ydt h1]; rfl
 ·rw [ydf (show ¬ 100 < (h.Fields.length : Int) by omega), ydf h1];cases znY h <;> rfl
structure GoodH (h : api_Head) : Prop where
 kind : h.Kind = 1 ∨ h.Kind = 2
 minor : h.Minor = 0 ∨ h.Minor = 1
theorem zs1 {k : Int} {s : Str} {x : api_Head} (h : zbO k s = (x, 0)) : GoodH x := by
 have hb := zqA h
 rcases zo9 h with ⟨hk, h⟩ | ⟨hk, h⟩
 ·refine ⟨.inl (hb.kind.trans hk), ?_⟩
  rcases zou s with (h1 | h1) | ⟨h1, h2⟩
  ·rw [h1] at h; exact absurd (show (26 : Int) = 0 from congrArg Prod.snd h) (by decide)
  ·rw [h1] at h; exact absurd (show (20 : Int) = 0 from congrArg Prod.snd h) (by decide)
  ·obtain ⟨v, _, _, _, _, _, k1, k2, k3, _⟩ := zoj h1;rw [h2] at h;have hx := congrArg Prod.fst h;dsimp only at hx;rw [← hx];dsimp only;rw [k3]
   rcases zoi k1 k2 with ⟨_, e⟩ | ⟨_, e⟩
   ·exact .inl e
   ·exact .inr e
 ·refine ⟨.inr (hb.kind.trans hk), ?_⟩;unfold zsW at h
  split at h
  ·exact absurd (show (26 : Int) = 0 from congrArg Prod.snd h) (by decide)
  ·split at h
   ·rename_i h1
    obtain ⟨b, w, r, e1, e2, _, _⟩ := zpd h1;have hx := congrArg Prod.fst h;dsimp only at hx;rw [← hx];dsimp only;rw [e2, zsy b _ e1]
    rcases e1 with e | e <;> subst e
    ·exact .inl rfl
    ·exact .inr rfl
   ·exact absurd (show (20 : Int) = 0 from congrArg Prod.snd h) (by decide)
def zqb (h : api_Head) (f : api_Field) : api_Head := ⟨h.Kind, h.Method, h.Target, h.Code, h.Reason, h.Minor, h.Fields ++ [f]⟩
def zjv : api_Head → List Str → api_Head × Int
 | h, [] => if zj2 h == 0 then (h, 0) else (zaB, zj2 h)
 | h, l :: ls => if (zdc l).2 == 0 then zjv (zqb h (zdc l).1) ls else (zaB, (zdc l).2)
def zwx (k : Int) : List Str → api_Head × Int
 | [] => (zaB, 6)
 | l :: ls => if (zbO k l).2 == 0 then zjv (zbO k l).1 ls else (zaB, (zbO k l).2)
def zhf (k : Int) (s : Str) (lim : Int) : api_Head × Int :=
 if !(k == 1) && !(k == 2) then (zaB, 1) else if decide (lim < (s.length : Int)) then (zaB, 3) else match zbI [13, 10, 13, 10] s with
 | none => (zaB, 6)
 | some p => if p.2 == [] then zwx k (lines p.1) else (zaB, 6)
theorem zs2 (l : Str) : (zdc l).1.Name.length ≤ l.length ∧ (zdc l).1.Value.length ≤ l.length := by
 unfold zdc;have h1 := zra (upto [58] l);have h2 := zru [58] l;have h3 := zra ((zck [58] l).drop 1);have h4 := congrArg List.length (zeX [58] l);simp only [yla] at h4;simp only [yld] at h3
 split
 ·simp [zhH]
 ·split
  ·simp [zhH]
  ·split
   ·simp [zhH]
   ·split
    ·simp [zhH]
    ·split
     ·simp [zhH]
     ·dsimp only; omega
theorem zs3 {h : api_Head} {l : Str} (hs : zbq 400000000 h.Fields) (hl : l.length < 400000000) : zbq 400000000 (zqb h (zdc l).1).Fields := by
 intro f hf
 rcases List.mem_append.1 hf with h1 | h1
 ·exact hs f h1
 ·have := zs2 l
  have e : f = (zdc l).1 := by simpa using h1
  rw [e]; omega
theorem zs4 (h : api_Head) (hl : h.Fields.length < 1000000000) (hs : zbq 400000000 h.Fields) : zfa h.Kind h.Method h.Target h.Code h.Reason h.Minor h.Fields = some (zjv h []) := by
 unfold zfa;rw [zld _ hl hs, yob, zjv];cases zj2 h == 0 <;> rfl
theorem zoq (ls : List Str) (hln : ls.length < 100000000) (hls : ∀ l ∈ ls, l.length < 400000000) : ∀ (n i : Nat) (h : api_Head), i ≤ ls.length → ls.length - i < n → zbq 400000000 h.Fields → h.Fields.length ≤ i →
  zee ls n h.Kind h.Method h.Target h.Code h.Reason h.Minor h.Fields (i : Int) = some (zjv h (ls.drop i))
 | 0, _, _, _, h, _, _ => by omega
 | n + 1, i, h, hi, hn, hs, hfl => by
  rw [zee]
  by_cases hlt : i < ls.length
  ·have g : ls[i]? = some ls[i] := ygg hlt;have hsm := hls ls[i] (ygm _);have ih := zoq ls hln hls n (i + 1) (zqb h (zdc ls[i]).1) (by omega) (by omega) (zs3 hs hsm) (by unfold zqb; simp; omega);rw [ydt (show (i : Int) < (ls.length : Int) by omega), if_pos rfl, zbd, g, yob, zfr _ (by omega), yob, if_pos (zcn (by omega) (by omega)), zM (by omega), yob, ydg hlt, zjv]
   cases (zdc ls[i]).2 == 0 with
   | false => rfl
   | true => exact ih
  ·have : i = ls.length := by omega
   subst this;rw [ydf (by omega), if_neg yfn, ydl];exact zs4 h (by omega) hs
theorem zqc (k : Int) : ((zbO k []).2 == 1) = (!(k == 1) && !(k == 2)) := by
 unfold zbO
 cases h1 : k == 1 with
 | true => rfl
 | false =>
  cases h2 : k == 2 with
  | true => rfl
  | false => rfl
theorem zs5 (k : Int) (h : (!(k == 1) && !(k == 2)) = true) : (zbO k []).2 = 1 := by
 have := zqc k;rw [h] at this;simpa using this
theorem zpE (k : Int) (s : Str) (lim : Int) (hs : s.length < 90000000) : zhM k s lim = some (zhf k s lim) := by
 unfold zhM zhf;rw [zdJ k [] (by decide), yob, zqc]
 cases hk : (!(k == 1) && !(k == 2)) with
 | true => rw [if_pos rfl, if_pos rfl, zs5 k hk]; rfl
 | false =>
  rw [if_neg yfn, if_neg yfn, zl3 s _ (by omega) (by decide), yob]
  cases decide (lim < (s.length : Int)) with
  | true => rfl
  | false =>
   rw [if_neg yfn, if_neg yfn];have j1t : ∀ r, zef k s r true = some (zaB, 6) := fun r => rfl
   cases hc : zbI [13, 10, 13, 10] s with
   | none => exact j1t (-1)
   | some p =>
    have e := zfv (a := p.1) (b := p.2) hc;have el := congrArg List.length e;simp only [yla, ylc, yln] at el
    have a4 : zav (p.1.length : Int) 4 = some ((p.1.length + 4 : Nat) : Int) := by rw [zes (by omega) (by omega)]; exact congrArg some (by omega)
    dsimp only;rw [ydf (show ¬ (p.1.length : Int) < 0 by omega), if_neg yfn, a4, yob]
    cases hp : p.2 == [] with
    | false =>
     have hne : p.2 ≠ [] := by simpa using hp
     have hpl : 0 < p.2.length := List.length_pos_iff.2 hne;have : (((p.1.length + 4 : Nat) : Int) == (s.length : Int)) = false := beq_eq_false_iff_ne.2 (by omega);rw [this];exact j1t _
    | true =>
     have hp0 : p.2 = [] := by simpa using hp
     rw [hp0] at el;simp only [yln] at el
     have : (((p.1.length + 4 : Nat) : Int) == (s.length : Int)) = true := by rw [beq_iff_eq]; omega
     rw [this, ynt, if_pos rfl];unfold zef
     have st : s.take p.1.length = p.1 := by rw [e, yaa, List.take_left']; rfl
     rw [if_neg yfn, zeY (by omega), yob, st, zlu _ (by omega), yob];obtain ⟨m1, m2⟩ := zqa _ p.1 (Nat.lt_succ_self _)
     cases hl : lines p.1 with
     | nil => exact absurd hl (zwv _)
     | cons l ls =>
      rw [hl] at m1 m2;have hll := m2 l (List.mem_cons_self ..);rw [zsR, List.getElem?_cons_zero, yob, zdJ k l (by omega), yob, zwx]
      cases h0 : (zbO k l).2 == 0 with
      | false => rfl
      | true =>
       have hf : zr7 (l :: ls) 1 = some ls := by
        unfold zr7;rw [if_pos ⟨by decide, by simp only [ylc]; omega⟩];rfl
       rw [ynt, if_neg yfn, hf, yob, if_pos rfl];have hfs := zmp k l;have := zoq ls (by simp only [ylc] at m1; omega) (fun x hx => by have := m2 x (List.mem_cons_of_mem _ hx); omega) fuel 0 (zbO k l).1 (yz _) (by simp only [ylc] at m1; unfold fuel; omega) (by rw [hfs]; intro f hf; cases hf) (by rw [hfs]; simp);rw [List.drop_zero] at this;exact this
end Go.Dm
end
