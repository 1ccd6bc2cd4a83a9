/-
 The models' words: partial operations as functions into Option. No program in sight.
 The models of the functions: written by a program (wip/gen) off the translation. No program in sight.
 The library's functions as the models say them, and as the library's contracts say them. No program in sight.
 Plain tools for the laws: the partial operations at natural numbers, loops over lists. No program in sight.
 Layer 1 (bytes): what the program's and the reference's models come to.
 Layer 3 (numbers): reading and writing: the program's and the document's come to the same. No program in sight.
 Fold
-/
import Derived.Lib.ItoaNum
import Derived.Lib.SplitLaws
import Derived.Lib.SlTrimSet
import Derived.Lib.Join
import Derived.Lib.IndexMore
import Derived.Lib.Bytealg
import Derived.Lib.Index
import Derived.Lib.IndexAny
section
namespace Go.Dm
abbrev Str := List UInt8

def inI (n : Int) : Bool := decide (-9223372036854775808 ≤ n) && decide (n ≤ 9223372036854775807)
theorem zjb {n : Int} : inI n = true ↔ -9223372036854775808 ≤ n ∧ n ≤ 9223372036854775807 := by simp [inI]

def zr (m n : Int) : Option Int := if inI (m + n) then some (m + n) else none
def zcu (m n : Int) : Option Int := if inI (m - n) then some (m - n) else none
def zvv (m n : Int) : Option Int := if inI (m * n) then some (m * n) else none
def zvw (m n : Int) : Option Int := if 0 ≤ m ∧ 1 ≤ n ∧ inI (m / n) = true then some (m / n) else none
def zx8 (m n : Int) : Option Int := if 0 ≤ m ∧ 1 ≤ n ∧ inI (m % n) = true then some (m % n) else none
def sAt (l : Str) (i : Int) : Option UInt8 := if 0 ≤ i then l[i.toNat]? else none
def sTo (l : Str) (h : Int) : Option Str := if 0 ≤ h ∧ h ≤ l.length then some (l.take h.toNat) else none
def zbh (l : Str) (i : Int) : Option Str := if 0 ≤ i ∧ i ≤ l.length then some (l.drop i.toNat) else none
def zhF (l : Str) (i h : Int) : Option Str := if 0 ≤ i ∧ i ≤ h ∧ h ≤ l.length then some ((l.take h.toNat).drop i.toNat) else none
def zdR (l m : Str) : Option Str := if l.length + m.length ≤ 9223372036854775807 then some (l ++ m) else none
def lAt {α : Type} (l : List α) (i : Int) : Option α := if 0 ≤ i then l[i.toNat]? else none
def lTo {α : Type} (l : List α) (h : Int) : Option (List α) := if 0 ≤ h ∧ h ≤ l.length then some (l.take h.toNat) else none
def zwM {α : Type} (l : List α) (i : Int) : Option (List α) := if 0 ≤ i ∧ i ≤ l.length then some (l.drop i.toNat) else none
def lSub {α : Type} (l : List α) (i h : Int) : Option (List α) := if 0 ≤ i ∧ i ≤ h ∧ h ≤ l.length then some ((l.take h.toNat).drop i.toNat) else none
def zC (n m bytes : Nat) : Bool := decide (n + m ≤ 9223372036854775807) && decide ((n + m) * bytes ≤ 140737488355328)
theorem og {α : Type} {b : Bool} {x : Option α} {r : α} (h : (if b = true then x else none) = some r) : b = true ∧ x = some r := by
 cases b with
 | false => cases h
 | true => exact ⟨rfl, h⟩
theorem zdn (b : Bool) : b = true ∨ b = false := by cases b <;> simp
theorem ob {α β : Type} {m : Option α} {f : α → Option β} {r : β} (h : m.bind f = some r) : ∃ x, m = some x ∧ f x = some r := by
 cases m with
 | none => cases h
 | some x => exact ⟨x, rfl, h⟩
theorem it {α : Type} {b : Bool} {x y : Option α} {r : α} (hb : b = true) (h : (if b = true then x else y) = some r) : x = some r := by rwa [if_pos hb] at h
theorem ie {α : Type} {b : Bool} {x y : Option α} {r : α} (hb : b = false) (h : (if b = true then x else y) = some r) : y = some r := by rwa [if_neg (by simp [hb])] at h

def zsY : Str → Str → Bool
 | _, [] => false
 | [], _ :: _ => true
 | a :: x, b :: y => a < b || (a == b && zsY x y)
def fuel : Nat := 1000000000000000000
abbrev yob := @Option.bind_some
abbrev yfn := @Bool.false_ne_true
abbrev yla := @List.length_append
abbrev ylc := @List.length_cons
abbrev yln := @List.length_nil
abbrev ydg := @List.drop_eq_getElem_cons
abbrev yaa := @List.append_assoc
abbrev ydt := @decide_eq_true
abbrev ydf := @decide_eq_false
abbrev ygg := @List.getElem?_eq_getElem
abbrev ygm := @List.getElem_mem
abbrev ylt := @List.length_take
abbrev yld := @List.length_drop
abbrev ydl := @List.drop_length
abbrev ymc := @List.mem_cons
abbrev ybs := @beq_self_eq_true
abbrev yoi := @Option.some.inj
abbrev yz := @Nat.zero_le
abbrev yna := @List.nil_append
abbrev yan := @List.append_nil
abbrev ynt := @Bool.not_true
abbrev ynf := @Bool.not_false
end Go.Dm
end
section
set_option linter.unusedVariables false
set_option maxRecDepth 10000
namespace Go.Dm
structure api_Field where
 Name : Str
 Value : Str
deriving DecidableEq, Inhabited
structure api_Head where
 Kind : Int
 Method : Str
 Target : Str
 Code : Int
 Reason : Str
 Minor : Int
 Fields : List api_Field
deriving DecidableEq, Inhabited
structure accum_Accum where
 f_kind : Int
 f_limit : Int
 f_buf : List UInt8
 f_from : Int
 f_took : Bool
 f_bad : Int
 f_whole : Bool
 f_got : api_Head
deriving DecidableEq, Inhabited
structure scan_Scanner where
 f_s : Str
 f_at : Int
deriving DecidableEq, Inhabited
structure startline_line where
 Scanner : scan_Scanner
deriving DecidableEq, Inhabited
structure api_Host where
 Kind : Int
 Name : Str
 Port : Int
deriving DecidableEq, Inhabited
structure api_Target where
 Kind : Int
 Scheme : Str
 Host : api_Host
 Path : Str
 Query : Str
 HasQuery : Bool
deriving DecidableEq, Inhabited
structure bag_Bag where
 f_l : List api_Field
deriving DecidableEq, Inhabited
structure commas_splitter where
 Scanner : scan_Scanner
 f_out : List Str
 f_from : Int
 f_s : Str
deriving DecidableEq, Inhabited
structure quoted_reader where
 Scanner : scan_Scanner
 f_out : List UInt8
deriving DecidableEq, Inhabited
structure api_Frame where
 Kind : Int
 N : Int
deriving DecidableEq, Inhabited
structure length_reader where
 Bag : bag_Bag
 f_minor : Int
deriving DecidableEq, Inhabited
structure dechunk_Decoder where
 f_limit : Int
 f_at : Int
 f_line : List UInt8
 f_left : Int
 f_sum : Int
 f_spent : Int
 f_trailers : List api_Field
deriving DecidableEq, Inhabited
structure body_Body where
 Decoder : dechunk_Decoder
 f_frame : api_Frame
 f_left : Int
 f_done : Bool
 f_bad : Bool
deriving DecidableEq, Inhabited
structure api_Attr where
 Name : Str
 Value : Str
 Has : Bool
deriving DecidableEq, Inhabited
structure api_Message where
 Head : api_Head
 Frame : api_Frame
 Body : Str
 Trailers : List api_Field
deriving DecidableEq, Inhabited
structure message_reader where
 Body : body_Body
 f_m : api_Message
deriving DecidableEq, Inhabited
structure quill_Quill where
 f_b : List UInt8
 f_most : Int
deriving DecidableEq, Inhabited
structure head_printer where
 Quill : quill_Quill
 f_full : Bool
deriving DecidableEq, Inhabited
structure enchunk_Encoder where
 f_size : Int
 f_buf : Str
 f_done : Bool
deriving DecidableEq, Inhabited
abbrev zpo {α : Type} {β : Sort _} (o : Option α) (k0 : β) (k1 : α → β) : β := match o with | none => k0 | some x => k1 x
theorem zvP {α β : Type} {o : Option α} {k0 R : β} {k1 : α → β} (h : o = none) (hm : zpo o k0 k1 = R) : k0 = R := by subst h; exact hm
theorem zvQ {α β : Type} {o : Option α} {x : α} {k0 R : β} {k1 : α → β} (h : o = some x) (hm : zpo o k0 k1 = R) : k1 x = R := by subst h; exact hm
abbrev bE {β : Sort _} (b : Bool) (k1 k0 : β) : β := match b with | true => k1 | false => k0
theorem bE_t {β : Type} {b : Bool} {k1 k0 R : β} (h : b = true) (hm : bE b k1 k0 = R) : k1 = R := by subst h; exact hm
theorem bE_f {β : Type} {b : Bool} {k1 k0 R : β} (h : b = false) (hm : bE b k1 k0 = R) : k0 = R := by subst h; exact hm
theorem bE_pt {b : Bool} {k1 k0 : Prop} (h : b = true) (hm : bE b k1 k0) : k1 := by subst h; exact hm
theorem bE_pf {b : Bool} {k1 k0 : Prop} (h : b = false) (hm : bE b k1 k0) : k0 := by subst h; exact hm
theorem zsd {α : Type} {o : Option α} {k0 : Prop} {k1 : α → Prop} (h : o = none) (hm : zpo o k0 k1) : k0 := by subst h; exact hm
theorem zse {α : Type} {o : Option α} {x : α} {k0 : Prop} {k1 : α → Prop} (h : o = some x) (hm : zpo o k0 k1) : k1 x := by subst h; exact hm

def zj6 : Str → UInt8 → Nat → Int
 | [], _, _ => -1
 | x :: l, c, k => if x == c then (k : Int) else zj6 l c (k + 1)
def strings_IndexByte (s : Str) (c : UInt8) : Option Int := some (zj6 s c 0)
def zpp : Str → Str → Bool
 | _, [] => true
 | [], _ :: _ => false
 | x :: s, y :: t => x == y && zpp s t
def zkz : Str → Str → Nat → Int
 | s, t, k => if zpp s t then (k : Int) else match s with
  | [] => -1
  | _ :: s => zkz s t (k + 1)
def strings_Index (s t : Str) : Option Int := if s.length < 4294967281 then some (zkz s t 0) else none
def strings_Cut (s t : Str) : Option (Str × Str × Bool) := if s.length < 4294967281 then some (Go.Lib.cut s t) else none
def znD : Str → Str → Nat → Int
 | [], _, _ => -1
 | x :: l, cs, k => if cs.contains x then (k : Int) else znD l cs (k + 1)
def strings_IndexAny (s cs : Str) : Option Int := if s.length < 4294967281 ∧ cs.length < 4294967281 ∧ cs.all (fun c => c.toNat < 128) then some (znD s cs 0) else none
def strings_Split (s sep : Str) : Option (List Str) := if s.length < 4294967281 ∧ 1 ≤ sep.length then some (Go.Lib.splitK sep 0 (Go.Lib.countB ⟨s.toArray⟩ ⟨sep.toArray⟩) s) else none
def zf (c : UInt8) : Str → List Str
 | [] => [[]]
 | x :: s => if x = c then [] :: zf c s else match zf c s with
  | [] => [[x]]
  | h :: t => (x :: h) :: t
def zm8 (k : Nat) : UInt8 := if k < 10 then UInt8.ofNat (48 + k) else UInt8.ofNat (87 + k)
def zmr : Nat → Nat → Str
 | 0, u => [zm8 u]
 | g + 1, u => if u < 16 then [zm8 u] else zmr g (u / 16) ++ [zm8 (u % 16)]
def zdT (n b : Int) : Option Str := if inI n = true ∧ b = 10 then some (Go.Lib.itoa n) else if b = 16 ∧ 0 ≤ n ∧ n < 1048576 then some (zmr 4 n.toNat) else none
def zdU (s cs : Str) : Option Str := if s.length < 4294967281 ∧ cs.length < 4294967281 ∧ cs.all (fun c => c.toNat < 128) then some (Go.Lib.trimS s cs) else none
def strings_Join (l : List Str) (sep : Str) : Option Str := if l.length ≤ 140737488355328 ∧ (Go.Lib.join l sep).length ≤ 140737488355328 then some (Go.Lib.join l sep) else none
def ze4 (x_kind : Int) (x_limit : Int) (t6 : Bool) : Option (Option accum_Accum × Int) :=
 if t6 then (some (none, 1)) else (some ((some ((⟨x_kind, x_limit, [], 0, false, 0, false, (⟨0, [], [], 0, [], 0, []⟩ : api_Head)⟩ : accum_Accum)), 0)))

def zom (x_kind : Int) (x_limit : Int) : Option (Option accum_Accum × Int) :=
 if (!(x_kind == 1)) then (if (!(x_kind == 2)) then (ze4 x_kind x_limit true) else (if (decide (x_limit < 0)) then (ze4 x_kind x_limit true) else (ze4 x_kind x_limit (decide (65536 < x_limit))))) else (if (decide (x_limit < 0)) then (ze4 x_kind x_limit true) else (ze4 x_kind x_limit (decide (65536 < x_limit))))

def zbN (x_a : accum_Accum) (t8 : Bool) : Option Bool :=
 (zcu (x_a.f_buf.length : Int) 1).bind fun i9 =>
 (lAt x_a.f_buf i9).bind fun x10 =>
 some (!((x10 == 10) == t8))

def zet (x_a : accum_Accum) : Option Bool :=
 if (decide (1 < (x_a.f_buf.length : Int))) then ((zcu (x_a.f_buf.length : Int) 2).bind fun i4 =>
 (lAt x_a.f_buf i4).bind fun x5 =>
 zbN x_a (x5 == 13)) else (zbN x_a false)

def strings_ContainsAny (x_s : Str) (x_chars : Str) : Option Bool :=
 (strings_IndexAny x_s x_chars).bind fun r2 =>
 some (decide (0 ≤ r2))

def zQ (x_s : Str) (x_c : UInt8) : Nat → Int → Option Int
 | 0, _ => none
 | n + 1, i4 =>
 if (decide (0 ≤ i4)) then ((sAt x_s i4).bind fun b8 =>
 if (b8 == x_c) then (some i4) else ((zcu i4 1).bind fun i13 =>
 (zQ x_s x_c n) i13)) else (some (-1))

def zbw (x_s : Str) (x_c : UInt8) : Option Int :=
 (zcu (x_s.length : Int) 1).bind fun i2 =>
 zQ x_s x_c fuel i2

def zaG (x_s : Str) (x_c : UInt8) : Option Int :=
 (zbw x_s x_c).bind fun r2 =>
 some r2

def zh9 (x_s : Str) : Option scan_Scanner :=
 some (⟨x_s, 0⟩ : scan_Scanner)

def zR (x_c : scan_Scanner) : Option Str :=
 (zbh x_c.f_s x_c.f_at).bind fun s4 =>
 some s4

def zaA (t4 : Bool) : Option Bool :=
 some t4

def stringslite_HasPrefix (x_s : Str) (x_prefix : Str) : Option Bool :=
 if (decide ((x_prefix.length : Int) ≤ (x_s.length : Int))) then ((sTo x_s (x_prefix.length : Int)).bind fun s3 =>
 zaA (s3 == x_prefix)) else (zaA false)

def strings_HasPrefix (x_s : Str) (x_prefix : Str) : Option Bool :=
 (stringslite_HasPrefix x_s x_prefix).bind fun r2 =>
 some r2

def zcN (x_c : scan_Scanner) (x_t : Str) : Option (Bool × scan_Scanner) :=
 (zR x_c).bind fun r2 =>
 (strings_HasPrefix r2 x_t).bind fun r3 =>
 if (!r3) then (some (false, x_c)) else ((zr x_c.f_at (x_t.length : Int)).bind fun i9 =>
 some ((true, (⟨x_c.f_s, i9⟩ : scan_Scanner))))

def zaB (x_c : scan_Scanner) : Option Bool :=
 (zR x_c).bind fun r2 =>
 some (r2 == [])

def zv (x_c : scan_Scanner) : Option (UInt8 × Bool) :=
 (zaB x_c).bind fun r2 =>
 if r2 then (some (0, false)) else ((sAt x_c.f_s x_c.f_at).bind fun b7 =>
 some (b7, true))

def zgN (t3 : Bool) : Option Bool :=
 some t3

def zac (x_b : UInt8) : Option Bool :=
 if (decide (48 ≤ x_b)) then (zgN (decide (x_b ≤ 57))) else (zgN false)

def zcw (x_c : scan_Scanner) (t5 : Bool) : Option (Bool × scan_Scanner) :=
 if t5 then (some (false, x_c)) else ((zr x_c.f_at 1).bind fun i9 =>
 some ((true, (⟨x_c.f_s, i9⟩ : scan_Scanner))))

def zh (x_c : scan_Scanner) (x_b : UInt8) : Option (Bool × scan_Scanner) :=
 (zv x_c).bind fun r2 =>
 if (!r2.2) then (zcw x_c true) else (zcw x_c (!(r2.1 == x_b)))

def zbm (x_p : startline_line) (r3 : UInt8 × Bool) (t7 : Bool) : Option (Int × Bool × scan_Scanner) :=
 if t7 then (some (0, false, x_p.Scanner)) else ((zh x_p.Scanner r3.1).bind fun r11 =>
 some ((((r3.1 - 48).toNat : Int), true, r11.2)))

def zbn (x_p : startline_line) : Option (Int × Bool × scan_Scanner) :=
 (zv x_p.Scanner).bind fun r3 =>
 if (!r3.2) then (zbm x_p r3 true) else ((zac r3.1).bind fun r6 =>
 zbm x_p r3 (!r6))

def zaY (r9 : Int × Bool × scan_Scanner) (r15 : Int × Bool × scan_Scanner) (t20 : Bool) : Option (Int × Int × Bool × scan_Scanner) :=
 some (r9.1, r15.1, t20, r15.2.2)

def zaU (x_p : startline_line) : Option (Int × Int × Bool × scan_Scanner) :=
 (zcN x_p.Scanner [72, 84, 84, 80, 47]).bind fun r3 =>
 if (!r3.1) then (some (0, 0, false, r3.2)) else ((zbn (⟨r3.2⟩ : startline_line)).bind fun r9 =>
 (zh r9.2.2 46).bind fun r12 =>
 (zbn (⟨r12.2⟩ : startline_line)).bind fun r15 =>
 if r9.2.1 then (if r12.1 then (zaY r9 r15 r15.2.1) else (zaY r9 r15 false)) else (zaY r9 r15 false))

def zbj (t13 : Bool) : Option Bool :=
 some t13

def zdG (x_s : Str) : Option Bool :=
 (zh9 x_s).bind fun r2 =>
 (zaU (⟨r2⟩ : startline_line)).bind fun r6 =>
 if r6.2.2.1 then ((zaB r6.2.2.2).bind fun r10 =>
 if r10 then (if (!(r6.1 == 1)) then (zbj true) else (zbj (decide (1 < r6.2.1)))) else (zbj false)) else (zbj false)

def zbT (x_c : scan_Scanner) : Option Int :=
 some x_c.f_at

def zb3 (r2 : Int) (s14 : Str) (i15 : Int) : Option (Str × scan_Scanner) :=
 (zhF s14 r2 i15).bind fun s18 =>
 some ((s18, (⟨s14, i15⟩ : scan_Scanner)))

def za8 (rec1 : Str → Int → Option (Str × scan_Scanner)) (r2 : Int) (s4 : Str) (i5 : Int) (t10 : Bool) : Option (Str × scan_Scanner) :=
 if t10 then (zb3 r2 s4 i5) else ((zr i5 1).bind fun i13 =>
 rec1 s4 i13)

def zT (x_is : UInt8 → Option Bool) (r2 : Int) : Nat → Str → Int → Option (Str × scan_Scanner)
 | 0, _, _ => none
 | n + 1, s4, i5 =>
 (zv (⟨s4, i5⟩ : scan_Scanner)).bind fun r6 =>
 if (!r6.2) then (za8 (zT x_is r2 n) r2 s4 i5 true) else ((x_is r6.1).bind fun r9 =>
 za8 (zT x_is r2 n) r2 s4 i5 (!r9))

def zad (x_c : scan_Scanner) (x_is : UInt8 → Option Bool) : Option (Str × scan_Scanner) :=
 (zbT x_c).bind fun r2 =>
 zT x_is r2 fuel x_c.f_s x_c.f_at

def zia (x_b : UInt8) (t3 : Bool) : Option UInt8 :=
 if t3 then (some (x_b + 32)) else (some x_b)

def za1 (x_b : UInt8) : Option UInt8 :=
 if (decide (65 ≤ x_b)) then (zia x_b (decide (x_b ≤ 90))) else (zia x_b false)

def zgO (t5 : Bool) : Option Bool :=
 some t5

def zjf (x_b : UInt8) : Option Bool :=
 (za1 x_b).bind fun r2 =>
 if (decide (97 ≤ r2)) then ((za1 x_b).bind fun r4 =>
 zgO (decide (r4 ≤ 122))) else (zgO false)

def zka (x_b : UInt8) (x_l : Str) : Option Bool :=
 (strings_IndexByte x_l x_b).bind fun r2 =>
 some (decide (0 ≤ r2))

def zeu (t7 : Bool) : Option Bool :=
 some t7

def zda (x_b : UInt8) : Option Bool :=
 (zjf x_b).bind fun r2 =>
 if r2 then (zeu true) else ((zac x_b).bind fun r4 =>
 if r4 then (zeu true) else ((zka x_b [33, 35, 36, 37, 38, 39, 42, 43, 45, 46, 94, 95, 96, 124, 126]).bind fun r6 =>
 zeu r6))

def zb7 (x_c : scan_Scanner) : Option (Str × Bool × scan_Scanner) :=
 (zad x_c zda).bind fun r2 =>
 some ((r2.1, !(r2.1 == []), r2.2))

def zc1 (x_b : UInt8) : Option Bool :=
 some (!(x_b == 32))

def zbo (r3 : Int × Int × Bool × scan_Scanner) (t8 : Bool) : Option (Int × Bool × scan_Scanner) :=
 some (r3.2.1, t8, r3.2.2.2)

def zbp (x_p : startline_line) : Option (Int × Bool × scan_Scanner) :=
 (zaU x_p).bind fun r3 =>
 if r3.2.2.1 then (if (r3.1 == 1) then (zbo r3 (decide (r3.2.1 ≤ 1))) else (zbo r3 false)) else (zbo r3 false)

def zdV (rec1 : Int → Option Bool) (x_is : UInt8 → Option Bool) (i3 : Int) (x7 : Str) : Nat → Int → Option Bool
 | 0, _ => none
 | n + 1, i12 =>
 if (decide (i12 < (x7.length : Int))) then ((sAt x7 i12).bind fun b17 =>
 (x_is b17).bind fun r18 =>
 if (!r18) then (some false) else ((zr i12 1).bind fun i23 =>
 (zdV rec1 x_is i3 x7 n) i23)) else ((zr i3 1).bind fun i25 =>
 rec1 i25)

def zdW (x_is : UInt8 → Option Bool) (x_l : List Str) : Nat → Int → Option Bool
 | 0, _ => none
 | n + 1, i3 =>
 if (decide (i3 < (x_l.length : Int))) then ((lAt x_l i3).bind fun x7 =>
 zdV (zdW x_is x_l n) x_is i3 x7 fuel 0) else (some true)

def zdH (x_is : UInt8 → Option Bool) (x_l : List Str) : Option Bool :=
 zdW x_is x_l fuel 0

def zhe (x_b : UInt8) : Option Int :=
 (zac x_b).bind fun r2 =>
 if r2 then (some (((x_b - 48).toNat : Int))) else ((za1 x_b).bind fun r7 =>
 (zr (((r7 - 97).toNat : Int)) 10).bind fun i8 =>
 some i8)

def zdI (rec2 : Int → Int → Option (Int × Int)) (x_base : Int) (i11 : Int) (i12 : Int) (r18 : Int) (t23 : Bool) : Option (Int × Int) :=
 if t23 then (some (0, 7)) else ((zvv i11 x_base).bind fun i27 =>
 (zr i27 r18).bind fun i28 =>
 (zr i12 1).bind fun i30 =>
 rec2 i28 i30)

def zbf (x_s : Str) (x_base : Int) (x_most : Int) : Nat → Int → Int → Option (Int × Int)
 | 0, _, _ => none
 | n + 1, i11, i12 =>
 if (decide (i12 < (x_s.length : Int))) then ((sAt x_s i12).bind fun b17 =>
 (zhe b17).bind fun r18 =>
 if (decide (x_most < r18)) then (zdI (zbf x_s x_base x_most n) x_base i11 i12 r18 true) else ((zcu x_most r18).bind fun i21 =>
 (zvw i21 x_base).bind fun i22 =>
 zdI (zbf x_s x_base x_most n) x_base i11 i12 r18 (decide (i22 < i11)))) else (some (i11, 0))

def zdJ (x_s : Str) (x_base : Int) (x_most : Int) (t5 : Bool) : Option (Int × Int) :=
 if t5 then (some (0, 2)) else (zbf x_s x_base x_most fuel 0 0)

def zgP (x_s : Str) (x_base : Int) (x_most : Int) (x_is : UInt8 → Option Bool) : Option (Int × Int) :=
 if (x_s == []) then (zdJ x_s x_base x_most true) else ((zdH x_is ([x_s] : List Str)).bind fun r4 =>
 zdJ x_s x_base x_most (!r4))

def zbU (x_s : Str) (x_most : Int) : Option (Int × Int) :=
 (zgP x_s 10 x_most zac).bind fun r2 =>
 some (r2.1, r2.2)

def zgQ (x_n : Int) (x_base : Int) : Option Str :=
 if (decide (x_n < 0)) then (some []) else ((zdT x_n x_base).bind fun r6 =>
 some r6)

def ze5 (x_n : Int) : Option Str :=
 (zgQ x_n 10).bind fun r2 =>
 some r2

def zcO (t6 : Bool) : Option Bool :=
 some t6

def zdo (x_s : Str) (x_most : Int) : Option Bool :=
 (zbU x_s x_most).bind fun r2 =>
 if (r2.2 == 0) then ((ze5 r2.1).bind fun r5 =>
 zcO (r5 == x_s)) else (zcO false)

def zfy (s : Str) : Option Bool := if s.length < 1000000000 then ((zf 46 s).mapM (fun x => zdo x 255)).bind fun bs => some (bs.all id && decide ((bs.length : Int) = 4)) else none

def zf5 (t7 : Bool) : Option Bool :=
 some t7

def zaL (x_b : UInt8) : Option Bool :=
 (zac x_b).bind fun r2 =>
 if r2 then (zf5 true) else ((za1 x_b).bind fun r4 =>
 if (decide (97 ≤ r4)) then ((za1 x_b).bind fun r6 =>
 zf5 (decide (r6 ≤ 102))) else (zf5 false))

def zb8 (rec1 : Int → Int → Option Int) (i13 : Int) (i36 : Int) : Option Int :=
 (zr i13 1).bind fun i37 =>
 rec1 i36 i37

def zbk (rec1 : Int → Int → Option Int) (i12 : Int) (i13 : Int) (t32 : Bool) : Option Int :=
 if t32 then ((zr i12 1).bind fun i34 =>
 zb8 rec1 i13 i34) else (some (-1))

def zbl (rec1 : Int → Int → Option Int) (i12 : Int) (i13 : Int) (x17 : Str) (t25 : Bool) : Option Int :=
 if t25 then ((zr i12 2).bind fun i27 =>
 zb8 rec1 i13 i27) else (if (decide (1 ≤ (x17.length : Int))) then (if (decide ((x17.length : Int) ≤ 4)) then ((zdH zaL ([x17] : List Str)).bind fun r31 =>
 zbk rec1 i12 i13 r31) else (zbk rec1 i12 i13 false)) else (zbk rec1 i12 i13 false))

def zK (x_last : Bool) (r6 : List Str) : Nat → Int → Int → Option Int
 | 0, _, _ => none
 | n + 1, i12, i13 =>
 if (decide (i13 < (r6.length : Int))) then ((lAt r6 i13).bind fun x17 =>
 if x_last then ((zcu (r6.length : Int) 1).bind fun i22 =>
 if (i13 == i22) then ((zfy x17).bind fun r24 =>
 zbl (zK x_last r6 n) i12 i13 x17 r24) else (zbl (zK x_last r6 n) i12 i13 x17 false)) else (zbl (zK x_last r6 n) i12 i13 x17 false)) else (some i12)

def zcX (x_s : Str) (x_last : Bool) : Option Int :=
 if (x_s == []) then (some 0) else ((strings_Split x_s [58]).bind fun r6 =>
 zK x_last r6 fuel 0 0)

def zbV (t15 : Bool) : Option Bool :=
 some t15

def zgR (x_s : Str) : Option Bool :=
 (strings_Cut x_s [58, 58]).bind fun r2 =>
 if (!r2.2.2) then ((zcX x_s true).bind fun r6 =>
 some (r6 == 8)) else ((zcX r2.1 false).bind fun r9 =>
 (zcX r2.2.1 true).bind fun r10 =>
 if (decide (0 ≤ r9)) then (if (decide (0 ≤ r10)) then ((zr r9 r10).bind fun i14 =>
 zbV (decide (i14 ≤ 7))) else (zbV false)) else (zbV false))

def zai (t8 : Bool) : Option Bool :=
 some t8

def zgS (x_s : Str) : Option Bool :=
 if (decide (3 ≤ (x_s.length : Int))) then ((sAt x_s 0).bind fun b3 =>
 if (b3 == 37) then ((zhF x_s 1 3).bind fun s5 =>
 (zdH zaL ([s5] : List Str)).bind fun r7 =>
 zai r7) else (zai false)) else (zai false)

def zb4 (t7 : Bool) : Option Bool :=
 some t7

def zb9 (x_b : UInt8) : Option Bool :=
 (zjf x_b).bind fun r2 =>
 if r2 then (zb4 true) else ((zac x_b).bind fun r4 =>
 if r4 then (zb4 true) else ((zka x_b [45, 46, 95, 126]).bind fun r6 =>
 zb4 r6))

def zhP (x_b : UInt8) : Option Bool :=
 (zka x_b [33, 36, 38, 39, 40, 41, 42, 43, 44, 59, 61]).bind fun r2 =>
 some r2

def zev (rec1 : Str → Option Bool) (s6 : Str) (t19 : Bool) : Option Bool :=
 if t19 then ((zbh s6 1).bind fun s21 =>
 rec1 s21) else (some false)

def zaV : Nat → Str → Option Bool
 | 0, _ => none
 | n + 1, s6 =>
 if (!(s6 == [])) then ((zgS s6).bind fun r10 =>
 if r10 then ((zbh s6 3).bind fun s13 =>
 (zaV n) s13) else ((sAt s6 0).bind fun b14 =>
 (zb9 b14).bind fun r15 =>
 if r15 then (zev (zaV n) s6 true) else ((sAt s6 0).bind fun b17 =>
 (zhP b17).bind fun r18 =>
 zev (zaV n) s6 r18))) else (some true)

def zhf (x_s : Str) : Option Bool :=
 if (x_s == []) then (some false) else (zaV fuel x_s)

def zdp (i24 : Int) (s25 : Str) : Option (api_Host × Bool) :=
 some (((⟨i24, s25, (-1)⟩ : api_Host), !(i24 == 0)))

def zcx (x_s : Str) (t14 : Bool) : Option (api_Host × Bool) :=
 if t14 then ((zcu (x_s.length : Int) 1).bind fun i16 =>
 (zhF x_s 1 i16).bind fun s17 =>
 zdp 3 s17) else ((zfy x_s).bind fun r18 =>
 if r18 then (zdp 2 x_s) else ((zhf x_s).bind fun r21 =>
 if r21 then (zdp 1 x_s) else (zdp 0 x_s)))

def zhQ (x_s : Str) : Option (api_Host × Bool) :=
 if (decide (2 < (x_s.length : Int))) then ((sAt x_s 0).bind fun b6 =>
 if (b6 == 91) then ((zcu (x_s.length : Int) 1).bind fun i8 =>
 (sAt x_s i8).bind fun b9 =>
 if (b9 == 93) then ((zcu (x_s.length : Int) 1).bind fun i11 =>
 (zhF x_s 1 i11).bind fun s12 =>
 (zgR s12).bind fun r13 =>
 zcx x_s r13) else (zcx x_s false)) else (zcx x_s false)) else (zcx x_s false)

def zdX (x_s : Str) (r10 : Int) (r17 : api_Host × Bool) (t24 : Bool) : Option (api_Host × Int) :=
 if t24 then (some (((⟨0, [], 0⟩ : api_Host), 27))) else ((zr r10 1).bind fun i28 =>
 (zbh x_s i28).bind fun s29 =>
 (zbU s29 65535).bind fun r30 =>
 some (((⟨r17.1.Kind, r17.1.Name, r30.1⟩ : api_Host), 0)))

def zdq (x_s : Str) : Option (api_Host × Int) :=
 (zhQ x_s).bind fun r3 =>
 if r3.2 then (some (r3.1, 0)) else ((zaG x_s 58).bind fun r10 =>
 if (decide (r10 < 0)) then (some (((⟨0, [], 0⟩ : api_Host), 27))) else ((sTo x_s r10).bind fun s16 =>
 (zhQ s16).bind fun r17 =>
 if (!r17.2) then (zdX x_s r10 r17 true) else ((zr r10 1).bind fun i21 =>
 (zbh x_s i21).bind fun s22 =>
 (zdo s22 65535).bind fun r23 =>
 zdX x_s r10 r17 (!r23))))

def zhH (s : Str) : Option Str := if s.length < 4294967281 then s.mapM za1 else none

def zfl (t7 : Bool) : Option Bool :=
 some t7

def zib (x_b : UInt8) : Option Bool :=
 (zb9 x_b).bind fun r2 =>
 if r2 then (zfl true) else ((zhP x_b).bind fun r4 =>
 if r4 then (zfl true) else ((zka x_b [58, 64]).bind fun r6 =>
 zfl r6))

def zhR (rec1 : Int → Option Bool) (i27 : Int) : Option Bool :=
 (zr i27 1).bind fun i28 =>
 rec1 i28

def zeU (rec1 : Int → Option Bool) (i3 : Int) (t23 : Bool) : Option Bool :=
 if t23 then ((zr i3 2).bind fun i25 =>
 zhR rec1 i25) else (some false)

def zjp (rec1 : Int → Option Bool) (x_s : Str) (i3 : Int) (t12 : Bool) : Option Bool :=
 if t12 then (zhR rec1 i3) else ((sAt x_s i3).bind fun b14 =>
 if (b14 == 37) then ((zr i3 2).bind fun i16 =>
 if (decide (i16 < (x_s.length : Int))) then ((zr i3 1).bind fun i18 =>
 (zr i3 3).bind fun i19 =>
 (zhF x_s i18 i19).bind fun s20 =>
 (zdH zaL ([s20] : List Str)).bind fun r22 =>
 zeU rec1 i3 r22) else (zeU rec1 i3 false)) else (zeU rec1 i3 false))

def zbW (x_s : Str) (x_more : Str) : Nat → Int → Option Bool
 | 0, _ => none
 | n + 1, i3 =>
 if (decide (i3 < (x_s.length : Int))) then ((sAt x_s i3).bind fun b7 =>
 (zib b7).bind fun r8 =>
 if r8 then (zjp (zbW x_s x_more n) x_s i3 true) else ((sAt x_s i3).bind fun b10 =>
 (strings_IndexByte x_more b10).bind fun r11 =>
 zjp (zbW x_s x_more n) x_s i3 (decide (0 ≤ r11)))) else (some true)

def zlO (x_s : Str) (x_more : Str) : Option Bool :=
 zbW x_s x_more fuel 0

def zhg (t5 : Bool) : Option Bool :=
 some t5

def zkA (x_s : Str) : Option Bool :=
 (strings_HasPrefix x_s [47]).bind fun r2 =>
 if r2 then ((zlO x_s [47]).bind fun r4 =>
 zhg r4) else (zhg false)

def zjq (x_s : Str) : Option Bool :=
 (zlO x_s [47, 63]).bind fun r2 =>
 some r2

def zic (r2 : Str × Str × Bool) (t7 : Bool) : Option (Str × Str × Bool × Int) :=
 if t7 then (some ([], [], false, 2)) else (some (r2.1, r2.2.1, r2.2.2, 0))

def zlP (x_s : Str) : Option (Str × Str × Bool × Int) :=
 (strings_Cut x_s [63]).bind fun r2 =>
 (zkA r2.1).bind fun r4 =>
 if (!r4) then (zic r2 true) else ((zjq r2.2.1).bind fun r6 =>
 zic r2 (!r6))

def zf6 (x_t : api_Target) (r15 : Str × Str × Bool × Int) (s19 : Str) : Option (api_Target × Bool) :=
 some (((⟨x_t.Kind, x_t.Scheme, x_t.Host, s19, r15.2.1, r15.2.2.1⟩ : api_Target), r15.2.2.2 == 0))

def zf7 (x_t : api_Target) (b9 : UInt8) (s14 : Str) : Option (api_Target × Bool) :=
 (zlP s14).bind fun r15 =>
 if (b9 == 63) then (zf6 x_t r15 []) else (zf6 x_t r15 r15.1)

def zhS (x_t : api_Target) (x_s : Str) : Option (api_Target × Bool) :=
 if (x_s == []) then (some (x_t, true)) else ((sAt x_s 0).bind fun b9 =>
 if (b9 == 63) then ((zdR [47] x_s).bind fun s13 =>
 zf7 x_t b9 s13) else (zf7 x_t b9 x_s))

def zca (r3 : Str × Str × Bool) (r5 : Str) (i18 : Int) : Option (api_Target × Bool) :=
 (sTo r3.2.1 i18).bind fun s19 =>
 (zdq s19).bind fun r20 =>
 if (!(r20.2 == 0)) then (some (((⟨2, r5, (⟨0, [], 0⟩ : api_Host), [], [], false⟩ : api_Target), false))) else ((zbh r3.2.1 i18).bind fun s28 =>
 (zhS (⟨2, r5, r20.1, [], [], false⟩ : api_Target) s28).bind fun r29 =>
 some (r29.1, r29.2))

def zat (r3 : Str × Str × Bool) (r5 : Str) (t10 : Bool) : Option (api_Target × Bool) :=
 if t10 then (some (((⟨2, r5, (⟨0, [], 0⟩ : api_Host), [], [], false⟩ : api_Target), false))) else ((strings_IndexAny r3.2.1 [47, 63]).bind fun r14 =>
 if (decide (r14 < 0)) then (zca r3 r5 (r3.2.1.length : Int)) else (zca r3 r5 r14))

def zfm (x_s : Str) : Option (api_Target × Bool) :=
 (strings_Cut x_s [58, 47, 47]).bind fun r3 =>
 (zhH r3.1).bind fun r5 =>
 if (!r3.2.2) then (zat r3 r5 true) else (if (!(r5 == [104, 116, 116, 112])) then (zat r3 r5 (!(r5 == [104, 116, 116, 112, 115]))) else (zat r3 r5 false))

def zlQ (x_method : Str) (x_s : Str) : Option (api_Target × Bool) :=
 if (x_s == [42]) then (some (((⟨4, [], (⟨0, [], 0⟩ : api_Host), [], [], false⟩ : api_Target), x_method == [79, 80, 84, 73, 79, 78, 83]))) else ((strings_HasPrefix x_s [47]).bind fun r7 =>
 if (!r7) then ((zfm x_s).bind fun r10 =>
 some (r10.1, r10.2)) else ((zhS ((⟨1, [], (⟨0, [], 0⟩ : api_Host), [], [], false⟩ : api_Target)) x_s).bind fun r13 =>
 some (r13.1, r13.2)))

def zfn (r5 : api_Host × Int) (t9 : Bool) : Option (api_Target × Int) :=
 if t9 then (some (((⟨0, [], (⟨0, [], 0⟩ : api_Host), [], [], false⟩ : api_Target), 20))) else (some (((⟨3, [], r5.1, [], [], false⟩ : api_Target), 0)))

def zid (x_method : Str) (x_s : Str) : Option (api_Target × Int) :=
 if (x_method == [67, 79, 78, 78, 69, 67, 84]) then ((zdq x_s).bind fun r5 =>
 if (!(r5.2 == 0)) then (zfn r5 true) else (zfn r5 (decide (r5.1.Port < 0)))) else ((zlQ x_method x_s).bind fun r15 =>
 if (!r15.2) then (some (((⟨0, [], (⟨0, [], 0⟩ : api_Host), [], [], false⟩ : api_Target), 20))) else (some (r15.1, 0)))

def z7 (r17 : Str × Bool × scan_Scanner) (r23 : Str × scan_Scanner) (r29 : Int × Bool × scan_Scanner) (t41 : Bool) : Option (api_Head × Int) :=
 if t41 then (some (((⟨0, [], [], 0, [], 0, []⟩ : api_Head), 20))) else (some (((⟨1, r17.1, r23.1, 0, [], r29.1, []⟩ : api_Head), 0)))

def zdY (x_a0 : Str) : Option (api_Head × Int) :=
 (zaG x_a0 32).bind fun r5 =>
 (zr r5 1).bind fun i6 =>
 (zbh x_a0 i6).bind fun s7 =>
 (zdG s7).bind fun r8 =>
 if r8 then (some (((⟨0, [], [], 0, [], 0, []⟩ : api_Head), 26))) else ((zh9 x_a0).bind fun r13 =>
 (zb7 r13).bind fun r17 =>
 (zh r17.2.2 32).bind fun r20 =>
 (zad r20.2 zc1).bind fun r23 =>
 (zh r23.2 32).bind fun r26 =>
 (zbp (⟨r26.2⟩ : startline_line)).bind fun r29 =>
 (zid r17.1 r23.1).bind fun r32 =>
 if (!r17.2.1) then (z7 r17 r23 r29 true) else (if (!r20.1) then (z7 r17 r23 r29 true) else (if (!r26.1) then (z7 r17 r23 r29 true) else (if (!r29.2.1) then (z7 r17 r23 r29 true) else ((zaB r29.2.2).bind fun r39 =>
 if (!r39) then (z7 r17 r23 r29 true) else (z7 r17 r23 r29 (!(r32.2 == 0))))))))

def ze6 (t3 : Bool) : Option Bool :=
 some t3

def zjU (x_b : UInt8) : Option Bool :=
 if (decide (32 < x_b)) then (ze6 (decide (x_b < 127))) else (ze6 false)

def zgT (t3 : Bool) : Option Bool :=
 some t3

def zed (x_b : UInt8) : Option Bool :=
 if (x_b == 32) then (zgT true) else (zgT (x_b == 9))

def zew (t6 : Bool) : Option Bool :=
 some t6

def zaQ (x_b : UInt8) : Option Bool :=
 (zjU x_b).bind fun r2 =>
 if r2 then (zew true) else ((zed x_b).bind fun r4 =>
 if r4 then (zew true) else (zew (decide (127 < x_b))))

def zV (r14 : Int × Bool × scan_Scanner) (r23 : Bool × scan_Scanner) (r26 : Int × Int) (t37 : Bool) : Option (api_Head × Int) :=
 if t37 then (some (((⟨0, [], [], 0, [], 0, []⟩ : api_Head), 20))) else ((zR r23.2).bind fun r41 =>
 some (((⟨2, [], [], r26.1, r41, r14.1, []⟩ : api_Head), 0)))

def zex (x_a0 : Str) : Option (api_Head × Int) :=
 (strings_Cut x_a0 [32]).bind fun r3 =>
 (zdG r3.1).bind fun r5 =>
 if r5 then (some (((⟨0, [], [], 0, [], 0, []⟩ : api_Head), 26))) else ((zh9 x_a0).bind fun r10 =>
 (zbp (⟨r10⟩ : startline_line)).bind fun r14 =>
 (zh r14.2.2 32).bind fun r17 =>
 (zad r17.2 zac).bind fun r20 =>
 (zh r20.2 32).bind fun r23 =>
 (zbU r20.1 599).bind fun r26 =>
 if (!r14.2.1) then (zV r14 r23 r26 true) else (if (!r17.1) then (zV r14 r23 r26 true) else (if (!r23.1) then (zV r14 r23 r26 true) else (if (!((r20.1.length : Int) == 3)) then (zV r14 r23 r26 true) else (if (!(r26.2 == 0)) then (zV r14 r23 r26 true) else (if (decide (r26.1 < 100)) then (zV r14 r23 r26 true) else ((zR r23.2).bind fun r34 =>
 (zdH zaQ ([r34] : List Str)).bind fun r36 =>
 zV r14 r23 r26 (!r36))))))))

def zdr (x_kind : Int) (x_s : Str) (t4 : Bool) : Option (api_Head × Int) :=
 if t4 then (some (((⟨0, [], [], 0, [], 0, []⟩ : api_Head), 1))) else ((strings_ContainsAny x_s [13, 10]).bind fun r7 =>
 if r7 then (some (((⟨0, [], [], 0, [], 0, []⟩ : api_Head), 24))) else (if (x_kind == 1) then ((zdY x_s).bind fun r13 =>
 some (r13.1, r13.2)) else ((zex x_s).bind fun r18 =>
 some (r18.1, r18.2))))

def zbX (x_kind : Int) (x_s : Str) : Option (api_Head × Int) :=
 if (!(x_kind == 1)) then (zdr x_kind x_s (!(x_kind == 2))) else (zdr x_kind x_s false)

def zaF (x_c : scan_Scanner) : Option (Str × scan_Scanner) :=
 (zad x_c zed).bind fun r2 =>
 some (r2.1, r2.2)

def zds (r17 : Str × Bool × scan_Scanner) (r20 : Str × scan_Scanner) (t26 : Bool) (s27 : Str) (i28 : Int) : Option (api_Field × Int) :=
 if t26 then (some (((⟨[], []⟩ : api_Field), 21))) else (if (!(r20.1 == [])) then (some (((⟨[], []⟩ : api_Field), 22))) else ((zR (⟨s27, i28⟩ : scan_Scanner)).bind fun r34 =>
 (zdH zaQ ([r34] : List Str)).bind fun r36 =>
 if (!r36) then (some (((⟨[], []⟩ : api_Field), 25))) else ((zR (⟨s27, i28⟩ : scan_Scanner)).bind fun r41 =>
 (zdU r41 [32, 9]).bind fun r42 =>
 some (((⟨r17.1, r42⟩ : api_Field), 0)))))

def zbY (x_s : Str) : Option (api_Field × Int) :=
 (strings_ContainsAny x_s [13, 10]).bind fun r3 =>
 if r3 then (some (((⟨[], []⟩ : api_Field), 24))) else ((zh9 x_s).bind fun r8 =>
 (zaF r8).bind fun r11 =>
 if (!(r11.1 == [])) then (some (((⟨[], []⟩ : api_Field), 23))) else ((zb7 r11.2).bind fun r17 =>
 (zaF r17.2.2).bind fun r20 =>
 if (!r17.2.1) then (zds r17 r20 true r20.2.f_s r20.2.f_at) else ((zh r20.2 58).bind fun r24 =>
 zds r17 r20 (!r24.1) r24.2.f_s r24.2.f_at)))

def zB (x_s : List api_Field) : Option (List api_Field) :=
 if zC 0 x_s.length 32 then (some x_s) else none

def zon (x_l : List api_Field) : Option bag_Bag :=
 (zB x_l).bind fun r2 =>
 some (⟨r2⟩ : bag_Bag)

def zj7 (x_b : bag_Bag) : Option (List api_Field) :=
 (zB x_b.f_l).bind fun r4 =>
 some r4

def ziY (x_a : Str) (x_b : Str) : Option Bool :=
 (zhH x_a).bind fun r2 =>
 (zhH x_b).bind fun r3 =>
 some (r2 == r3)

def zdZ (rec1 : (List Str) → Int → Option (List Str)) (i10 : Int) (l28 : List Str) : Option (List Str) :=
 (zr i10 1).bind fun i29 =>
 rec1 l28 i29

def za2 (x_name : Str) (r3 : List api_Field) : Nat → (List Str) → Int → Option (List Str)
 | 0, _, _ => none
 | n + 1, l9, i10 =>
 if (decide (i10 < (r3.length : Int))) then ((lAt r3 i10).bind fun x14 =>
 (ziY x14.Name x_name).bind fun r19 =>
 if r19 then (if zC l9.length 1 16 then (zdZ (za2 x_name r3 n) i10 (l9 ++ ([x14.Value] : List Str))) else none) else (zdZ (za2 x_name r3 n) i10 l9)) else (some l9)

def zdt (x_b : bag_Bag) (x_name : Str) : Option (List Str) :=
 (zj7 x_b).bind fun r3 =>
 za2 x_name r3 fuel [] 0

def zhh (rec2 : Int → Option Bool) (i21 : Int) (t33 : Bool) : Option Bool :=
 if t33 then (some false) else ((zr i21 1).bind fun i37 =>
 rec2 i37)

def zdb (r11 : List Str) : Nat → Int → Option Bool
 | 0, _ => none
 | n + 1, i21 =>
 if (decide (i21 < (r11.length : Int))) then ((lAt r11 i21).bind fun x25 =>
 (zdq x25).bind fun r29 =>
 if (!(r29.2 == 0)) then (zhh (zdb r11 n) i21 (!(x25 == []))) else (zhh (zdb r11 n) i21 false)) else (some true)

def zee (r11 : List Str) (t16 : Bool) : Option Bool :=
 if t16 then (some false) else (zdb r11 fuel 0)

def zkB (x_h : api_Head) : Option Bool :=
 if (!(x_h.Kind == 1)) then (some true) else ((zon x_h.Fields).bind fun r7 =>
 (zdt r7 [72, 111, 115, 116]).bind fun r11 =>
 if (decide (1 < (r11.length : Int))) then (zee r11 true) else (zee r11 (decide ((r11.length : Int) < x_h.Minor))))

def ziZ (x_h : api_Head) : Option Int :=
 if (decide (100 < (x_h.Fields.length : Int))) then (some 3) else ((zkB x_h).bind fun r6 =>
 if (!r6) then (some 27) else (some 0))

def zhi (i75 : Int) (s76 : Str) (s77 : Str) (i78 : Int) (s79 : Str) (i80 : Int) (l83 : List api_Field) : Option (api_Head × Int) :=
 (ziZ (⟨i75, s76, s77, i78, s79, i80, l83⟩ : api_Head)).bind fun r84 =>
 if (!(r84 == 0)) then (some (((⟨0, [], [], 0, [], 0, []⟩ : api_Head), r84))) else (some (((⟨i75, s76, s77, i78, s79, i80, l83⟩ : api_Head), 0)))

def zfz (l41 : List Str) : Nat → Int → Str → Str → Int → Str → Int → (List api_Field) → Int → Option (api_Head × Int)
 | 0, _, _, _, _, _, _, _, _ => none
 | n + 1, i45, s46, s47, i48, s49, i50, l53, i54 =>
 if (decide (i54 < (l41.length : Int))) then ((lAt l41 i54).bind fun x58 =>
 (zbY x58).bind fun r62 =>
 if (!(r62.2 == 0)) then (some (((⟨0, [], [], 0, [], 0, []⟩ : api_Head), r62.2))) else (if zC l53.length 1 32 then ((zr i54 1).bind fun i74 =>
 (zfz l41 n) i45 s46 s47 i48 s49 i50 (l53 ++ [r62.1]) i74) else none)) else (zhi i45 s46 s47 i48 s49 i50 l53)

def zfA (x_a0 : Int) (x_a1 : Str) (r12 : Int) (t19 : Bool) : Option (api_Head × Int) :=
 if t19 then (some (((⟨0, [], [], 0, [], 0, []⟩ : api_Head), 6))) else ((sTo x_a1 r12).bind fun s23 =>
 (strings_Split s23 [13, 10]).bind fun r24 =>
 (lAt r24 0).bind fun x28 =>
 (zbX x_a0 x28).bind fun r31 =>
 if (!(r31.2 == 0)) then (some (((⟨0, [], [], 0, [], 0, []⟩ : api_Head), r31.2))) else ((zwM r24 1).bind fun l41 =>
 zfz l41 fuel r31.1.Kind r31.1.Method r31.1.Target r31.1.Code r31.1.Reason r31.1.Minor r31.1.Fields 0))

def zkC (x_a0 : Int) (x_a1 : Str) (x_a2 : Int) : Option (api_Head × Int) :=
 (zbX x_a0 []).bind fun r3 =>
 if (r3.2 == 1) then (some (((⟨0, [], [], 0, [], 0, []⟩ : api_Head), r3.2))) else ((strings_Index x_a1 [13, 10, 13, 10]).bind fun r12 =>
 if (decide (x_a2 < (x_a1.length : Int))) then (some (((⟨0, [], [], 0, [], 0, []⟩ : api_Head), 3))) else (if (decide (r12 < 0)) then (zfA x_a0 x_a1 r12 true) else ((zr r12 4).bind fun i18 =>
 zfA x_a0 x_a1 r12 (!(i18 == (x_a1.length : Int))))))

def zc2 (x_a : accum_Accum) (i16 : Int) : Option (Bool × Int × accum_Accum) :=
 some ((false, i16, (⟨x_a.f_kind, x_a.f_limit, x_a.f_buf, (x_a.f_buf.length : Int), x_a.f_took, x_a.f_bad, x_a.f_whole, x_a.f_got⟩ : accum_Accum)))

def zey (x_a : accum_Accum) (x_s : Str) : Option (Bool × Int × accum_Accum) :=
 if (x_a.f_from == 0) then ((zbX x_a.f_kind x_s).bind fun r5 =>
 zc2 x_a r5.2) else (if (!(x_s == [])) then ((zbY x_s).bind fun r10 =>
 zc2 x_a r10.2) else ((zkC x_a.f_kind x_a.f_buf x_a.f_limit).bind fun r11 =>
 some ((r11.2 == 0, r11.2, (⟨x_a.f_kind, x_a.f_limit, x_a.f_buf, x_a.f_from, x_a.f_took, x_a.f_bad, x_a.f_whole, r11.1⟩ : accum_Accum)))))

def zdh (x_a : accum_Accum) (x_b : UInt8) : Option (Bool × Int × accum_Accum) :=
 if (decide (x_a.f_limit ≤ (x_a.f_buf.length : Int))) then (some (false, 3, x_a)) else (if zC x_a.f_buf.length 1 1 then ((zet (⟨x_a.f_kind, x_a.f_limit, x_a.f_buf ++ [x_b], x_a.f_from, x_a.f_took, x_a.f_bad, x_a.f_whole, x_a.f_got⟩ : accum_Accum)).bind fun r11 =>
 if r11 then (some ((false, 24, (⟨x_a.f_kind, x_a.f_limit, x_a.f_buf ++ [x_b], x_a.f_from, x_a.f_took, x_a.f_bad, x_a.f_whole, x_a.f_got⟩ : accum_Accum)))) else (if (!(x_b == 10)) then (some ((false, 0, (⟨x_a.f_kind, x_a.f_limit, x_a.f_buf ++ [x_b], x_a.f_from, x_a.f_took, x_a.f_bad, x_a.f_whole, x_a.f_got⟩ : accum_Accum)))) else ((zcu (((x_a.f_buf ++ [x_b]).length : Int)) 2).bind fun i20 =>
 (lSub (x_a.f_buf ++ [x_b]) x_a.f_from i20).bind fun l21 =>
 (zey (⟨x_a.f_kind, x_a.f_limit, x_a.f_buf ++ [x_b], x_a.f_from, x_a.f_took, x_a.f_bad, x_a.f_whole, x_a.f_got⟩ : accum_Accum) l21).bind fun r24 =>
 some (r24.1, r24.2.1, r24.2.2)))) else none)

def zc3 (rec2 : Int → Int → (List UInt8) → Int → Bool → Int → Bool → Int → Str → Str → Int → Str → Int → (List api_Field) → Int → Option (Int × Bool × Int × accum_Accum)) (i27 : Int) (r34 : Bool × Int × accum_Accum) (t42 : Bool) : Option (Int × Bool × Int × accum_Accum) :=
 if t42 then ((zr i27 1).bind fun i45 =>
 some ((i45, r34.1, r34.2.1, (⟨r34.2.2.f_kind, r34.2.2.f_limit, [], r34.2.2.f_from, r34.2.2.f_took, r34.2.1, r34.1, r34.2.2.f_got⟩ : accum_Accum)))) else ((zr i27 1).bind fun i48 =>
 rec2 r34.2.2.f_kind r34.2.2.f_limit r34.2.2.f_buf r34.2.2.f_from r34.2.2.f_took r34.2.1 r34.1 r34.2.2.f_got.Kind r34.2.2.f_got.Method r34.2.2.f_got.Target r34.2.2.f_got.Code r34.2.2.f_got.Reason r34.2.2.f_got.Minor r34.2.2.f_got.Fields i48)

def zeo (x_a1 : Str) (i49 : Int) (i50 : Int) (l53 : List UInt8) (i54 : Int) (t55 : Bool) (i56 : Int) (t57 : Bool) (i58 : Int) (s59 : Str) (s60 : Str) (i61 : Int) (s62 : Str) (i63 : Int) (l66 : List api_Field) : Option (Int × Bool × Int × accum_Accum) :=
 some (((x_a1.length : Int), false, 0, (⟨i49, i50, l53, i54, t55, i56, t57, (⟨i58, s59, s60, i61, s62, i63, l66⟩ : api_Head)⟩ : accum_Accum)))

def zaj (x_a1 : Str) : Nat → Int → Int → (List UInt8) → Int → Bool → Int → Bool → Int → Str → Str → Int → Str → Int → (List api_Field) → Int → Option (Int × Bool × Int × accum_Accum)
 | 0, _, _, _, _, _, _, _, _, _, _, _, _, _, _, _ => none
 | n + 1, i9, i10, l13, i14, t15, i16, t17, i18, s19, s20, i21, s22, i23, l26, i27 =>
 if (decide (i27 < (x_a1.length : Int))) then ((sAt x_a1 i27).bind fun b33 =>
 (zdh ((⟨i9, i10, l13, i14, true, i16, t17, (⟨i18, s19, s20, i21, s22, i23, l26⟩ : api_Head)⟩ : accum_Accum)) b33).bind fun r34 =>
 if r34.1 then (zc3 (zaj x_a1 n) i27 r34 true) else (zc3 (zaj x_a1 n) i27 r34 (!(r34.2.1 == 0)))) else (zeo x_a1 i9 i10 l13 i14 t15 i16 t17 i18 s19 s20 i21 s22 i23 l26)

def zc4 (x_a0 : accum_Accum) (x_a1 : Str) (t4 : Bool) : Option (Int × Bool × Int × accum_Accum) :=
 if t4 then (some (0, false, 8, x_a0)) else (zaj x_a1 fuel x_a0.f_kind x_a0.f_limit x_a0.f_buf x_a0.f_from x_a0.f_took x_a0.f_bad x_a0.f_whole x_a0.f_got.Kind x_a0.f_got.Method x_a0.f_got.Target x_a0.f_got.Code x_a0.f_got.Reason x_a0.f_got.Minor x_a0.f_got.Fields 0)

def zdi (x_a0 : accum_Accum) (x_a1 : Str) : Option (Int × Bool × Int × accum_Accum) :=
 if (!(x_a0.f_bad == 0)) then (zc4 x_a0 x_a1 true) else (zc4 x_a0 x_a1 x_a0.f_whole)

def zdj (x_a : accum_Accum) : Option (api_Head × Bool) :=
 if (!x_a.f_whole) then (some (((⟨0, [], [], 0, [], 0, []⟩ : api_Head), false))) else (if zC 0 x_a.f_got.Fields.length 32 then (some (x_a.f_got, true)) else none)

def zbB (x_p : commas_splitter) (l12 : List Str) : Option commas_splitter :=
 (zbT x_p.Scanner).bind fun r13 =>
 some (⟨x_p.Scanner, l12, r13, x_p.f_s⟩ : commas_splitter)

def zbO (x_p : commas_splitter) (x_at : Int) : Option commas_splitter :=
 (zhF x_p.f_s x_p.f_from x_at).bind fun s1 =>
 (zdU s1 [32, 9]).bind fun r2 =>
 if (!(r2 == [])) then (if zC x_p.f_out.length 1 16 then (zbB x_p (x_p.f_out ++ ([r2] : List Str))) else none) else (zbB x_p x_p.f_out)

def zdu (x_p : commas_splitter) (s33 : Str) (i34 : Int) : Option (Bool × commas_splitter) :=
 some ((true, (⟨(⟨s33, i34⟩ : scan_Scanner), x_p.f_out, x_p.f_from, x_p.f_s⟩ : commas_splitter)))

def zo (x_p : commas_splitter) : Nat → Str → Int → Int → Option (Bool × commas_splitter)
 | 0, _, _, _ => none
 | n + 1, s3, i4, i5 =>
 if (decide (0 < i5)) then ((zv (⟨s3, i4⟩ : scan_Scanner)).bind fun r9 =>
 if (!r9.2) then (some ((false, (⟨(⟨s3, i4⟩ : scan_Scanner), x_p.f_out, x_p.f_from, x_p.f_s⟩ : commas_splitter)))) else ((zh (⟨s3, i4⟩ : scan_Scanner) r9.1).bind fun r15 =>
 if (r9.1 == 40) then ((zr i5 1).bind fun i21 =>
 (zo x_p n) r15.2.f_s r15.2.f_at i21) else (if (r9.1 == 41) then ((zcu i5 1).bind fun i24 =>
 (zo x_p n) r15.2.f_s r15.2.f_at i24) else (if (r9.1 == 92) then ((zv r15.2).bind fun r27 =>
 if r27.2 then ((zh r15.2 r27.1).bind fun r31 =>
 (zo x_p n) r31.2.f_s r31.2.f_at i5) else ((zo x_p n) r15.2.f_s r15.2.f_at i5)) else ((zo x_p n) r15.2.f_s r15.2.f_at i5))))) else (zdu x_p s3 i4)

def zbq (x_p : commas_splitter) : Option (Bool × commas_splitter) :=
 zo x_p fuel x_p.Scanner.f_s x_p.Scanner.f_at 1

def zb5 (x_r : quoted_reader) (r2 : Bool × scan_Scanner) (r5 : UInt8 × Bool) (t9 : Bool) : Option (Bool × quoted_reader) :=
 if t9 then (some ((false, (⟨r2.2, x_r.f_out⟩ : quoted_reader)))) else (if zC x_r.f_out.length 1 1 then ((zh r2.2 r5.1).bind fun r18 =>
 some ((r18.1, (⟨r18.2, x_r.f_out ++ [r5.1]⟩ : quoted_reader)))) else none)

def zcb (x_r : quoted_reader) : Option (Bool × quoted_reader) :=
 (zh x_r.Scanner 92).bind fun r2 =>
 (zv r2.2).bind fun r5 =>
 if (!r5.2) then (zb5 x_r r2 r5 true) else ((zaQ r5.1).bind fun r8 =>
 zb5 x_r r2 r5 (!r8))

def zcy (x_c : scan_Scanner) (x_at : Int) (t4 : Bool) : Option (Bool × scan_Scanner) :=
 if t4 then (some (false, x_c)) else (some ((true, (⟨x_c.f_s, x_at⟩ : scan_Scanner))))

def zd0 (x_c : scan_Scanner) (x_at : Int) : Option (Bool × scan_Scanner) :=
 if (decide (x_at < 0)) then (zcy x_c x_at true) else ((zbT x_c).bind fun r3 =>
 zcy x_c x_at (decide (r3 < x_at)))

def zf8 (r2 : Int) (t27 : Bool) (s28 : Str) (i29 : Int) (l32 : List UInt8) : Option (Str × Bool × scan_Scanner) :=
 if (!t27) then ((zd0 (⟨s28, i29⟩ : scan_Scanner) r2).bind fun r35 =>
 some ([], false, r35.2)) else (some ((l32, true, (⟨s28, i29⟩ : scan_Scanner))))

def zez (rec1 : Str → Int → (List UInt8) → Bool → Option (Str × Bool × scan_Scanner)) (r2 : Int) (l13 : List UInt8) (t14 : Bool) (t18 : Bool) (s19 : Str) (i20 : Int) : Option (Str × Bool × scan_Scanner) :=
 if t18 then ((zcb ((⟨(⟨s19, i20⟩ : scan_Scanner), l13⟩ : quoted_reader))).bind fun r23 =>
 rec1 r23.2.Scanner.f_s r23.2.Scanner.f_at r23.2.f_out r23.1) else (zf8 r2 t14 s19 i20 l13)

def zba (r2 : Int) : Nat → Str → Int → (List UInt8) → Bool → Option (Str × Bool × scan_Scanner)
 | 0, _, _, _, _ => none
 | n + 1, s9, i10, l13, t14 =>
 if t14 then ((zh (⟨s9, i10⟩ : scan_Scanner) 34).bind fun r16 =>
 zez (zba r2 n) r2 l13 t14 (!r16.1) r16.2.f_s r16.2.f_at) else (zez (zba r2 n) r2 l13 t14 false s9 i10)

def zjr (x_c : scan_Scanner) : Option (Str × Bool × scan_Scanner) :=
 (zbT x_c).bind fun r2 =>
 (zh x_c 34).bind fun r6 =>
 zba r2 fuel r6.2.f_s r6.2.f_at [] r6.1

def zcP (l34 : List Str) (i35 : Int) (s36 : Str) (s37 : Str) (i38 : Int) : Option (Bool × commas_splitter) :=
 some ((true, (⟨(⟨s37, i38⟩ : scan_Scanner), l34, i35, s36⟩ : commas_splitter)))

def zaq (x_p : commas_splitter) : Option (Bool × commas_splitter) :=
 (zbT x_p.Scanner).bind fun r2 =>
 (zh x_p.Scanner 44).bind fun r4 =>
 if r4.1 then ((zbO (⟨r4.2, x_p.f_out, x_p.f_from, x_p.f_s⟩ : commas_splitter) r2).bind fun r8 =>
 zcP r8.f_out r8.f_from r8.f_s r8.Scanner.f_s r8.Scanner.f_at) else ((zh r4.2 40).bind fun r12 =>
 if r12.1 then ((zbq (⟨r12.2, x_p.f_out, x_p.f_from, x_p.f_s⟩ : commas_splitter)).bind fun r16 =>
 some (r16.1, r16.2)) else ((zv r12.2).bind fun r21 =>
 if (r21.1 == 34) then ((zjr r12.2).bind fun r25 =>
 some ((r25.2.1, (⟨r25.2.2, x_p.f_out, x_p.f_from, x_p.f_s⟩ : commas_splitter)))) else ((zh r12.2 r21.1).bind fun r30 =>
 zcP x_p.f_out x_p.f_from x_p.f_s r30.2.f_s r30.2.f_at)))

def zhw (x_s : Str) (l26 : List Str) (i27 : Int) (s28 : Str) (s29 : Str) (i30 : Int) : Option (List Str × Int) :=
 (zbO ((⟨(⟨s29, i30⟩ : scan_Scanner), l26, i27, s28⟩ : commas_splitter)) (x_s.length : Int)).bind fun r31 =>
 some (r31.f_out, 0)

def zcY (x_s : Str) : Nat → (List Str) → Int → Str → Str → Int → Option (List Str × Int)
 | 0, _, _, _, _, _ => none
 | n + 1, l8, i9, s10, s11, i12 =>
 (zaB (⟨s11, i12⟩ : scan_Scanner)).bind fun r13 =>
 if (!r13) then ((zaq ((⟨(⟨s11, i12⟩ : scan_Scanner), l8, i9, s10⟩ : commas_splitter))).bind fun r17 =>
 if (!r17.1) then (some ([], 2)) else ((zcY x_s n) r17.2.f_out r17.2.f_from r17.2.f_s r17.2.Scanner.f_s r17.2.Scanner.f_at)) else (zhw x_s l8 i9 s10 s11 i12)

def zgU (x_s : Str) : Option (List Str × Int) :=
 (zh9 x_s).bind fun r2 =>
 zcY x_s fuel [] 0 x_s r2.f_s r2.f_at

def zf9 (t5 : Bool) : Option Bool :=
 some t5

def zhT (x_s : Str) : Option Bool :=
 if (!(x_s == [])) then ((zdH zda ([x_s] : List Str)).bind fun r4 =>
 zf9 r4) else (zf9 false)

def zcc (rec1 : (List Str) → Int → Option (List Str × Int)) (l6 : List Str) (i7 : Int) (r15 : List Str × Int) : Nat → Int → Option (List Str × Int)
 | 0, _ => none
 | n + 1, i24 =>
 if (decide (i24 < (r15.1.length : Int))) then ((lAt r15.1 i24).bind fun x28 =>
 (zhT x28).bind fun r32 =>
 if (!r32) then (some ([], 2)) else ((zr i24 1).bind fun i37 =>
 (zcc rec1 l6 i7 r15 n) i37)) else (if zC l6.length r15.1.length 16 then ((zr i7 1).bind fun i43 =>
 rec1 (l6 ++ r15.1) i43) else none)

def zcd (x_l : List Str) : Nat → (List Str) → Int → Option (List Str × Int)
 | 0, _, _ => none
 | n + 1, l6, i7 =>
 if (decide (i7 < (x_l.length : Int))) then ((lAt x_l i7).bind fun x11 =>
 (zgU x11).bind fun r15 =>
 if (!(r15.2 == 0)) then (some ([], r15.2)) else (zcc (zcd x_l n) l6 i7 r15 fuel 0)) else (some (l6, 0))

def zhj (x_l : List Str) : Option (List Str × Int) :=
 zcd x_l fuel [] 0

def zal (t15 : Bool) : Option (api_Frame × Int) :=
 if t15 then (some (((⟨0, 0⟩ : api_Frame), 30))) else (some (((⟨3, 0⟩ : api_Frame), 0)))

def zcz (x_r : length_reader) (x_l : List Str) : Option (api_Frame × Int) :=
 (zhj x_l).bind fun r4 =>
 if (!(r4.2 == 0)) then (zal true) else (if (x_r.f_minor == 0) then (zal true) else (if (!((r4.1.length : Int) == 1)) then (zal true) else ((lAt r4.1 0).bind fun x11 =>
 (ziY x11 [99, 104, 117, 110, 107, 101, 100]).bind fun r14 =>
 zal (!r14))))

def zae (rec2 : Int → Int → Option (api_Frame × Int)) (i25 : Int) (r33 : Int × Int) (t37 : Bool) : Option (api_Frame × Int) :=
 if t37 then (some (((⟨0, 0⟩ : api_Frame), 28))) else ((zr i25 1).bind fun i42 =>
 rec2 r33.1 i42)

def zu (rec1 : Int → Int → Option (api_Frame × Int)) (i7 : Int) (r15 : List Str × Int) : Nat → Int → Int → Option (api_Frame × Int)
 | 0, _, _ => none
 | n + 1, i24, i25 =>
 if (decide (i25 < (r15.1.length : Int))) then ((lAt r15.1 i25).bind fun x29 =>
 (zbU x29 1099511627776).bind fun r33 =>
 if (!(r33.2 == 0)) then (zae (zu rec1 i7 r15 n) i25 r33 true) else (if (decide (0 ≤ i24)) then (zae (zu rec1 i7 r15 n) i25 r33 (!(r33.1 == i24))) else (zae (zu rec1 i7 r15 n) i25 r33 false))) else ((zr i7 1).bind fun i44 =>
 rec1 i24 i44)

def zP (x_l : List Str) : Nat → Int → Int → Option (api_Frame × Int)
 | 0, _, _ => none
 | n + 1, i6, i7 =>
 if (decide (i7 < (x_l.length : Int))) then ((lAt x_l i7).bind fun x11 =>
 (zgU x11).bind fun r15 =>
 if (!(r15.2 == 0)) then (some (((⟨0, 0⟩ : api_Frame), 28))) else (zu (zP x_l n) i7 r15 fuel i6 0)) else (if (decide (i6 < 0)) then (some (((⟨0, 0⟩ : api_Frame), 28))) else (some (((⟨2, i6⟩ : api_Frame), 0))))

def zb6 (x_r : length_reader) (x_l : List Str) : Option (api_Frame × Int) :=
 zP x_l fuel (-1) 0

def ze7 (x_h : api_Head) (x_none : Int) (r4 : bag_Bag) (r10 : List Str) (r13 : List Str) (t18 : Bool) : Option (api_Frame × Int) :=
 if t18 then (some (((⟨0, 0⟩ : api_Frame), 29))) else (if (decide (0 < (r10.length : Int))) then ((zcz (⟨r4, x_h.Minor⟩ : length_reader) r10).bind fun r23 =>
 some (r23.1, r23.2)) else (if (decide (0 < (r13.length : Int))) then ((zb6 (⟨r4, x_h.Minor⟩ : length_reader) r13).bind fun r27 =>
 some (r27.1, r27.2)) else (some (((⟨x_none, 0⟩ : api_Frame), 0)))))

def zkb (x_h : api_Head) (x_none : Int) : Option (api_Frame × Int) :=
 (zon x_h.Fields).bind fun r4 =>
 (zdt r4 [84, 114, 97, 110, 115, 102, 101, 114, 45, 69, 110, 99, 111, 100, 105, 110, 103]).bind fun r10 =>
 (zdt r4 [67, 111, 110, 116, 101, 110, 116, 45, 76, 101, 110, 103, 116, 104]).bind fun r13 =>
 if (decide (0 < (r10.length : Int))) then (ze7 x_h x_none r4 r10 r13 (decide (0 < (r13.length : Int)))) else (ze7 x_h x_none r4 r10 r13 false)

def zie (x_h : api_Head) : Option (api_Frame × Int) :=
 (zkb x_h 1).bind fun r4 =>
 some (r4.1, r4.2)

def zau (t7 : Bool) : Option Bool :=
 some t7

def zfo (x_method : Str) (x_code : Int) : Option Bool :=
 if (x_method == [72, 69, 65, 68]) then (zau true) else (if (decide (x_code < 200)) then (zau true) else (if (x_code == 204) then (zau true) else (if (x_code == 304) then (zau true) else (if (x_method == [67, 79, 78, 78, 69, 67, 84]) then (zau (decide (x_code < 300))) else (zau false)))))

def zhx (x_method : Str) (x_h : api_Head) : Option (api_Frame × Int) :=
 (zfo x_method x_h.Code).bind fun r4 =>
 if r4 then (some (((⟨1, 0⟩ : api_Frame), 0))) else ((zkb x_h 4).bind fun r9 =>
 some (r9.1, r9.2))

def zef (x_method : Str) (x_h : api_Head) : Option (api_Frame × Int) :=
 if (x_h.Kind == 1) then ((zie x_h).bind fun r6 =>
 some (r6.1, r6.2)) else ((zhx x_method x_h).bind fun r9 =>
 some (r9.1, r9.2))

def zif (x_limit : Int) (t3 : Bool) : Option (Option dechunk_Decoder × Int) :=
 if t3 then (some (none, 1)) else (some ((some (⟨x_limit, 0, [], 0, 0, 0, []⟩ : dechunk_Decoder), 0)))

def zla (x_limit : Int) : Option (Option dechunk_Decoder × Int) :=
 if (decide (x_limit < 0)) then (zif x_limit true) else (zif x_limit (decide (65536 < x_limit)))

def zjs (x_a0 : api_Frame) (t26 : Bool) : Option (Option (Bool × body_Body) × Int) :=
 some ((some (false, (⟨default, x_a0, x_a0.N, t26, false⟩ : body_Body)), 0))

def zlb (x_a0 : api_Frame) : Option (Option (Bool × body_Body) × Int) :=
 if (x_a0.Kind == 1) then (zjs x_a0 true) else (if (x_a0.Kind == 2) then (zjs x_a0 (x_a0.N == 0)) else (zjs x_a0 false))

def zga (x_a0 : api_Frame) (t16 : Bool) : Option (Option (Bool × body_Body) × Int) :=
 if t16 then (some (none, 1)) else (if (x_a0.Kind == 3) then (zlb x_a0) else (zlb x_a0))

def znE (x_a0 : api_Frame) (i11 : Int) : Option (Option (Bool × body_Body) × Int) :=
 if (!(i11 == 0)) then (zga x_a0 true) else (if (decide (x_a0.Kind < 1)) then (zga x_a0 true) else (if (decide (4 < x_a0.Kind)) then (zga x_a0 true) else (if (decide (x_a0.N < 0)) then (zga x_a0 true) else (zga x_a0 (decide (1099511627776 < x_a0.N))))))

def zjt (x_a0 : api_Frame) (i30 : Int) (i31 : Int) (l34 : List UInt8) (i35 : Int) (i36 : Int) (i37 : Int) (l40 : List api_Field) (t55 : Bool) : Option (Option (Bool × body_Body) × Int) :=
 some ((some (true, (⟨(⟨i30, i31, l34, i35, i36, i37, l40⟩ : dechunk_Decoder), x_a0, x_a0.N, t55, false⟩ : body_Body)), 0))

def znF (x_a0 : api_Frame) (i30 : Int) (i31 : Int) (l34 : List UInt8) (i35 : Int) (i36 : Int) (i37 : Int) (l40 : List api_Field) : Option (Option (Bool × body_Body) × Int) :=
 if (x_a0.Kind == 1) then (zjt x_a0 i30 i31 l34 i35 i36 i37 l40 true) else (if (x_a0.Kind == 2) then (zjt x_a0 i30 i31 l34 i35 i36 i37 l40 (x_a0.N == 0)) else (zjt x_a0 i30 i31 l34 i35 i36 i37 l40 false))

def zig (x_a0 : api_Frame) (t59 : Bool) : Option (Option (Bool × body_Body) × Int) :=
 some ((some (false, (⟨default, x_a0, x_a0.N, t59, false⟩ : body_Body)), 0))

def znG (x_a0 : api_Frame) : Option (Option (Bool × body_Body) × Int) :=
 if (x_a0.Kind == 1) then (zig x_a0 true) else (if (x_a0.Kind == 2) then (zig x_a0 (x_a0.N == 0)) else (zig x_a0 false))

def zgb (x_a0 : api_Frame) (i30 : Int) (i31 : Int) (l34 : List UInt8) (i35 : Int) (i36 : Int) (i37 : Int) (l40 : List api_Field) (t45 : Bool) : Option (Option (Bool × body_Body) × Int) :=
 if t45 then (some (none, 1)) else (if (x_a0.Kind == 3) then (znF x_a0 i30 i31 l34 i35 i36 i37 l40) else (znG x_a0))

def zju (x_a0 : api_Frame) (i29 : Int) (i30 : Int) (i31 : Int) (l34 : List UInt8) (i35 : Int) (i36 : Int) (i37 : Int) (l40 : List api_Field) : Option (Option (Bool × body_Body) × Int) :=
 if (!(i29 == 0)) then (zgb x_a0 i30 i31 l34 i35 i36 i37 l40 true) else (if (decide (x_a0.Kind < 1)) then (zgb x_a0 i30 i31 l34 i35 i36 i37 l40 true) else (if (decide (4 < x_a0.Kind)) then (zgb x_a0 i30 i31 l34 i35 i36 i37 l40 true) else (if (decide (x_a0.N < 0)) then (zgb x_a0 i30 i31 l34 i35 i36 i37 l40 true) else (zgb x_a0 i30 i31 l34 i35 i36 i37 l40 (decide (1099511627776 < x_a0.N))))))

def zhk (x_a0 : api_Frame) (x_a1 : Int) : Option (Option (Bool × body_Body) × Int) :=
 (zla x_a1).bind fun r3 =>
 zpo r3.1 (znE x_a0 r3.2) (fun x5 => zju x_a0 r3.2 x5.f_limit x5.f_at x5.f_line x5.f_left x5.f_sum x5.f_spent x5.f_trailers)

def zeA (x_b : body_Body) : Option Bool :=
 some x_b.f_done

def zaH (x_d : dechunk_Decoder) (x_s : Str) (i7 : Int) (i8 : Int) : Option (Str × dechunk_Decoder) :=
 (sTo x_s (min x_d.f_left (x_s.length : Int))).bind fun s9 =>
 some ((s9, (⟨x_d.f_limit, i7, x_d.f_line, i8, x_d.f_sum, x_d.f_spent, x_d.f_trailers⟩ : dechunk_Decoder)))

def zcA (x_d : dechunk_Decoder) (x_s : Str) : Option (Str × dechunk_Decoder) :=
 (zcu x_d.f_left (min x_d.f_left (x_s.length : Int))).bind fun i3 =>
 if (i3 == 0) then (zaH x_d x_s 2 2) else (zaH x_d x_s x_d.f_at i3)

def zci (x_d : dechunk_Decoder) (i10 : Int) (i14 : Int) : Option (Int × dechunk_Decoder) :=
 some ((0, (⟨x_d.f_limit, i14, x_d.f_line, i10, x_d.f_sum, x_d.f_spent, x_d.f_trailers⟩ : dechunk_Decoder)))

def zcj (x_d : dechunk_Decoder) (x_b : UInt8) (b5 : UInt8) : Option (Int × dechunk_Decoder) :=
 if (!(x_b == b5)) then (some (31, x_d)) else ((zcu x_d.f_left 1).bind fun i10 =>
 if (i10 == 0) then (zci x_d i10 0) else (zci x_d i10 x_d.f_at))

def zfO (x_d : dechunk_Decoder) (x_b : UInt8) : Option (Int × dechunk_Decoder) :=
 if (x_d.f_left == 1) then (zcj x_d x_b 10) else (zcj x_d x_b 13)

def zjv (x_s : Str) (x_most : Int) : Option (Int × Int) :=
 (zgP x_s 16 x_most zaL).bind fun r2 =>
 some (r2.1, r2.2)

def zdv (r9 : Int × Int) (l14 : List api_Attr) (t23 : Bool) : Option (Int × List api_Attr × Int) :=
 if t23 then (some (0, [], 31)) else (if (!(r9.2 == 0)) then (some (0, [], r9.2)) else (some (r9.1, l14, 0)))

def zdw (r6 : Str × scan_Scanner) (r9 : Int × Int) : Nat → (List api_Attr) → Option (Int × List api_Attr × Int)
 | 0, _ => none
 | n + 1, l14 =>
 (zh r6.2 59).bind fun r15 =>
 if r15.1 then (none) else ((zaB r15.2).bind fun r21 =>
 if (!r21) then (zdv r9 l14 true) else (zdv r9 l14 (r9.2 == 2)))

def zfp (x_s : Str) : Option (Int × List api_Attr × Int) :=
 (zh9 x_s).bind fun r2 =>
 (zad r2 zaL).bind fun r6 =>
 (zjv r6.1 1099511627776).bind fun r9 =>
 zdw r6 r9 fuel []

def zbr (x_d : dechunk_Decoder) (x_s : Str) : Option (Int × dechunk_Decoder) :=
 (zfp x_s).bind fun r2 =>
 if (!(r2.2.2 == 0)) then (some (r2.2.2, x_d)) else ((zcu 1099511627776 x_d.f_sum).bind fun i9 =>
 if (decide (i9 < r2.1)) then (some (7, x_d)) else (if (r2.1 == 0) then (some ((0, (⟨x_d.f_limit, 3, x_d.f_line, x_d.f_left, x_d.f_sum, x_d.f_spent, x_d.f_trailers⟩ : dechunk_Decoder)))) else ((zr x_d.f_sum r2.1).bind fun i19 =>
 some ((0, (⟨x_d.f_limit, 1, x_d.f_line, r2.1, i19, x_d.f_spent, x_d.f_trailers⟩ : dechunk_Decoder))))))

def zbs (x_d : dechunk_Decoder) (x_s : Str) : Option (Bool × Int × dechunk_Decoder) :=
 if (x_s == []) then (some (true, 0, x_d)) else ((zbY x_s).bind fun r6 =>
 if (!(r6.2 == 0)) then (some (false, r6.2, x_d)) else (if (decide (100 ≤ (x_d.f_trailers.length : Int))) then (some (false, 3, x_d)) else (if zC x_d.f_trailers.length 1 32 then (some ((false, 0, (⟨x_d.f_limit, x_d.f_at, x_d.f_line, x_d.f_left, x_d.f_sum, x_d.f_spent, x_d.f_trailers ++ [r6.1]⟩ : dechunk_Decoder)))) else none)))

def zaC (x_a0 : dechunk_Decoder) (x_a1 : UInt8) (i5 : Int) (t12 : Bool) (t14 : Bool) : Option (Bool × Int × dechunk_Decoder) :=
 if t14 then (some ((false, 3, (⟨x_a0.f_limit, x_a0.f_at, x_a0.f_line, x_a0.f_left, x_a0.f_sum, i5, x_a0.f_trailers⟩ : dechunk_Decoder)))) else (if (!((x_a1 == 10) == t12)) then (some ((false, 24, (⟨x_a0.f_limit, x_a0.f_at, x_a0.f_line, x_a0.f_left, x_a0.f_sum, i5, x_a0.f_trailers⟩ : dechunk_Decoder)))) else (if (!(x_a1 == 10)) then (if zC x_a0.f_line.length 1 1 then (some ((false, 0, (⟨x_a0.f_limit, x_a0.f_at, x_a0.f_line ++ [x_a1], x_a0.f_left, x_a0.f_sum, i5, x_a0.f_trailers⟩ : dechunk_Decoder)))) else none) else ((zcu (x_a0.f_line.length : Int) 1).bind fun i29 =>
 (lTo x_a0.f_line i29).bind fun l31 =>
 if (x_a0.f_at == 0) then ((zbr (⟨x_a0.f_limit, x_a0.f_at, [], x_a0.f_left, x_a0.f_sum, i5, x_a0.f_trailers⟩ : dechunk_Decoder) l31).bind fun r38 =>
 some (false, r38.1, r38.2)) else ((zbs (⟨x_a0.f_limit, x_a0.f_at, [], x_a0.f_left, x_a0.f_sum, i5, x_a0.f_trailers⟩ : dechunk_Decoder) l31).bind fun r46 =>
 some (r46.1, r46.2.1, r46.2.2)))))

def zaf (x_a0 : dechunk_Decoder) (x_a1 : UInt8) (i5 : Int) (t12 : Bool) : Option (Bool × Int × dechunk_Decoder) :=
 if (decide (4098 ≤ (x_a0.f_line.length : Int))) then (zaC x_a0 x_a1 i5 t12 true) else (zaC x_a0 x_a1 i5 t12 (decide (x_a0.f_limit < i5)))

def zA (x_a0 : dechunk_Decoder) (x_a1 : UInt8) (i5 : Int) : Option (Bool × Int × dechunk_Decoder) :=
 if (decide (0 < (x_a0.f_line.length : Int))) then ((zcu (x_a0.f_line.length : Int) 1).bind fun i8 =>
 (lAt x_a0.f_line i8).bind fun x9 =>
 zaf x_a0 x_a1 i5 (x9 == 13)) else (zaf x_a0 x_a1 i5 false)

def zJ (x_a0 : dechunk_Decoder) (x_a1 : UInt8) : Option (Bool × Int × dechunk_Decoder) :=
 if (x_a0.f_at == 3) then ((zr x_a0.f_spent 1).bind fun i4 =>
 zA x_a0 x_a1 i4) else (zA x_a0 x_a1 x_a0.f_spent)

def zw (x_d : dechunk_Decoder) (x_s : Str) : Option (Int × Str × Bool × Int × dechunk_Decoder) :=
 if (x_d.f_at == 1) then ((zcA x_d x_s).bind fun r5 =>
 some (((r5.1.length : Int), r5.1, false, 0, r5.2))) else (if (x_d.f_at == 2) then ((sAt x_s 0).bind fun b15 =>
 (zfO x_d b15).bind fun r16 =>
 some (1, [], false, r16.1, r16.2)) else ((sAt x_s 0).bind fun b24 =>
 (zJ x_d b24).bind fun r25 =>
 some (1, [], r25.1, r25.2.1, r25.2.2)))

def zcQ (i44 : Int) (t45 : Bool) (i46 : Int) (l49 : List UInt8) (i50 : Int) (i55 : Int) (i56 : Int) (i57 : Int) (l60 : List api_Field) (i64 : Int) (l67 : List UInt8) : Option (Int × Str × Bool × Int × dechunk_Decoder) :=
 some ((i44, l49, t45, i46, (⟨i50, i64, l67, i55, i56, i57, l60⟩ : dechunk_Decoder)))

def zcR (i44 : Int) (t45 : Bool) (i46 : Int) (l49 : List UInt8) (i50 : Int) (i51 : Int) (l54 : List UInt8) (i55 : Int) (i56 : Int) (i57 : Int) (l60 : List api_Field) (t62 : Bool) : Option (Int × Str × Bool × Int × dechunk_Decoder) :=
 if t62 then (zcQ i44 t45 i46 l49 i50 i55 i56 i57 l60 4 []) else (zcQ i44 t45 i46 l49 i50 i55 i56 i57 l60 i51 l54)

def zeB (i44 : Int) (t45 : Bool) (i46 : Int) (l49 : List UInt8) (i50 : Int) (i51 : Int) (l54 : List UInt8) (i55 : Int) (i56 : Int) (i57 : Int) (l60 : List api_Field) : Option (Int × Str × Bool × Int × dechunk_Decoder) :=
 if t45 then (zcR i44 t45 i46 l49 i50 i51 l54 i55 i56 i57 l60 true) else (zcR i44 t45 i46 l49 i50 i51 l54 i55 i56 i57 l60 (!(i46 == 0)))

def zaI (rec1 : (List UInt8) → Int → Int → (List UInt8) → Int → Int → Int → (List api_Field) → Int → Bool → Int → Option (Int × Str × Bool × Int × dechunk_Decoder)) (x_s : Str) (l10 : List UInt8) (i11 : Int) (i12 : Int) (l15 : List UInt8) (i16 : Int) (i17 : Int) (i18 : Int) (l21 : List api_Field) (i22 : Int) (t23 : Bool) (i24 : Int) (t27 : Bool) : Option (Int × Str × Bool × Int × dechunk_Decoder) :=
 if t27 then ((zbh x_s i22).bind fun s31 =>
 (zw (⟨i11, i12, l15, i16, i17, i18, l21⟩ : dechunk_Decoder) s31).bind fun r32 =>
 if zC l10.length r32.2.1.length 1 then ((zr i22 r32.1).bind fun i43 =>
 rec1 (l10 ++ r32.2.1) r32.2.2.2.2.f_limit r32.2.2.2.2.f_at r32.2.2.2.2.f_line r32.2.2.2.2.f_left r32.2.2.2.2.f_sum r32.2.2.2.2.f_spent r32.2.2.2.2.f_trailers i43 r32.2.2.1 r32.2.2.2.1) else none) else (zeB i22 t23 i24 l10 i11 i12 l15 i16 i17 i18 l21)

def zx (x_s : Str) : Nat → (List UInt8) → Int → Int → (List UInt8) → Int → Int → Int → (List api_Field) → Int → Bool → Int → Option (Int × Str × Bool × Int × dechunk_Decoder)
 | 0, _, _, _, _, _, _, _, _, _, _, _ => none
 | n + 1, l10, i11, i12, l15, i16, i17, i18, l21, i22, t23, i24 =>
 if (decide (i22 < (x_s.length : Int))) then (if (!t23) then (zaI (zx x_s n) x_s l10 i11 i12 l15 i16 i17 i18 l21 i22 t23 i24 (i24 == 0)) else (zaI (zx x_s n) x_s l10 i11 i12 l15 i16 i17 i18 l21 i22 t23 i24 false)) else (zaI (zx x_s n) x_s l10 i11 i12 l15 i16 i17 i18 l21 i22 t23 i24 false)

def zar (x_d : dechunk_Decoder) (x_s : Str) : Option (Int × Str × Bool × Int × dechunk_Decoder) :=
 if (x_d.f_at == 4) then (some (0, [], false, 8, x_d)) else (zx x_s fuel [] x_d.f_limit x_d.f_at x_d.f_line x_d.f_left x_d.f_sum x_d.f_spent x_d.f_trailers 0 false 0)

def zfS (x_a0 : body_Body) (x_a1 : Str) (i26 : Int) (i27 : Int) (t28 : Bool) : Option (Int × Str × Bool × Int × body_Body) :=
 (sTo x_a1 i26).bind fun s29 =>
 some ((i26, s29, t28, 0, (⟨x_a0.Decoder, x_a0.f_frame, i27, t28, x_a0.f_bad⟩ : body_Body)))

def zfT (x_a0 : body_Body) (x_a1 : Str) (t4 : Bool) : Option (Int × Str × Bool × Int × body_Body) :=
 if t4 then (some (0, [], false, 8, x_a0)) else (if (x_a0.f_frame.Kind == 3) then ((zar x_a0.Decoder x_a1).bind fun r12 =>
 some ((r12.1, r12.2.1, r12.2.2.1, r12.2.2.2.1, (⟨r12.2.2.2.2, x_a0.f_frame, x_a0.f_left, r12.2.2.1, !(r12.2.2.2.1 == 0)⟩ : body_Body)))) else (if (x_a0.f_frame.Kind == 2) then ((zcu x_a0.f_left (min (x_a1.length : Int) x_a0.f_left)).bind fun i24 =>
 zfS x_a0 x_a1 (min (x_a1.length : Int) x_a0.f_left) i24 (i24 == 0)) else (zfS x_a0 x_a1 (x_a1.length : Int) x_a0.f_left x_a0.f_done)))

def zih (x_a0 : body_Body) (x_a1 : Str) : Option (Int × Str × Bool × Int × body_Body) :=
 if x_a0.f_done then (zfT x_a0 x_a1 true) else (zfT x_a0 x_a1 x_a0.f_bad)

def zgV (x_b : body_Body) (t8 : Bool) : Option (Bool × Int × body_Body) :=
 some ((true, 0, (⟨x_b.Decoder, x_b.f_frame, x_b.f_left, t8, x_b.f_bad⟩ : body_Body)))

def zlt (x_b : body_Body) : Option (Bool × Int × body_Body) :=
 if (x_b.f_frame.Kind == 4) then (zgV x_b true) else (if (!x_b.f_done) then (some (false, 6, x_b)) else (zgV x_b x_b.f_done))

def zck (x_d : dechunk_Decoder) : Option (List api_Field) :=
 if zC 0 x_d.f_trailers.length 32 then (some x_d.f_trailers) else none

def ze8 (x_b : body_Body) : Option (List api_Field) :=
 (zck x_b.Decoder).bind fun r4 =>
 some r4

def zbC (x_a0 : message_reader) (i17 : Int) (s34 : Str) (i44 : Int) (i45 : Int) (i46 : Int) (t47 : Bool) (t48 : Bool) (i49 : Int) (i50 : Int) (l53 : List UInt8) (i54 : Int) (i55 : Int) (i56 : Int) (l59 : List api_Field) : Option (Int × Int × message_reader) :=
 (zeA ((⟨(⟨i49, i50, l53, i54, i55, i56, l59⟩ : dechunk_Decoder), (⟨i44, i45⟩ : api_Frame), i46, t47, t48⟩ : body_Body))).bind fun r60 =>
 if (!r60) then (some ((0, 6, (⟨(⟨(⟨i49, i50, l53, i54, i55, i56, l59⟩ : dechunk_Decoder), (⟨i44, i45⟩ : api_Frame), i46, t47, t48⟩ : body_Body), (⟨x_a0.f_m.Head, x_a0.f_m.Frame, s34, x_a0.f_m.Trailers⟩ : api_Message)⟩ : message_reader)))) else ((ze8 ((⟨(⟨i49, i50, l53, i54, i55, i56, l59⟩ : dechunk_Decoder), (⟨i44, i45⟩ : api_Frame), i46, t47, t48⟩ : body_Body))).bind fun r65 =>
 some ((i17, 0, (⟨(⟨(⟨i49, i50, l53, i54, i55, i56, l59⟩ : dechunk_Decoder), (⟨i44, i45⟩ : api_Frame), i46, t47, t48⟩ : body_Body), (⟨x_a0.f_m.Head, x_a0.f_m.Frame, s34, r65⟩ : api_Message)⟩ : message_reader))))

def zbD (x_a0 : message_reader) (i17 : Int) (i18 : Int) (i19 : Int) (i20 : Int) (t21 : Bool) (t22 : Bool) (i23 : Int) (i24 : Int) (l27 : List UInt8) (i28 : Int) (i29 : Int) (i30 : Int) (l33 : List api_Field) (s34 : Str) (t36 : Bool) : Option (Int × Int × message_reader) :=
 if t36 then ((zlt ((⟨(⟨i23, i24, l27, i28, i29, i30, l33⟩ : dechunk_Decoder), (⟨i18, i19⟩ : api_Frame), i20, t21, t22⟩ : body_Body))).bind fun r38 =>
 zbC x_a0 i17 s34 r38.2.2.f_frame.Kind r38.2.2.f_frame.N r38.2.2.f_left r38.2.2.f_done r38.2.2.f_bad r38.2.2.Decoder.f_limit r38.2.2.Decoder.f_at r38.2.2.Decoder.f_line r38.2.2.Decoder.f_left r38.2.2.Decoder.f_sum r38.2.2.Decoder.f_spent r38.2.2.Decoder.f_trailers) else (zbC x_a0 i17 s34 i18 i19 i20 t21 t22 i23 i24 l27 i28 i29 i30 l33)

def zbE (x_a0 : message_reader) (x_a2 : Bool) (i17 : Int) (i18 : Int) (i19 : Int) (i20 : Int) (t21 : Bool) (t22 : Bool) (i23 : Int) (i24 : Int) (l27 : List UInt8) (i28 : Int) (i29 : Int) (i30 : Int) (l33 : List api_Field) (s34 : Str) : Option (Int × Int × message_reader) :=
 if (x_a0.f_m.Frame.Kind == 4) then (zbD x_a0 i17 i18 i19 i20 t21 t22 i23 i24 l27 i28 i29 i30 l33 s34 x_a2) else (zbD x_a0 i17 i18 i19 i20 t21 t22 i23 i24 l27 i28 i29 i30 l33 s34 false)

def zbP (x_a0 : message_reader) (x_a1 : Str) (x_a2 : Bool) : Option (Int × Int × message_reader) :=
 (zeA x_a0.Body).bind fun r3 =>
 if (!r3) then ((zih x_a0.Body x_a1).bind fun r6 =>
 if (!(r6.2.2.2.1 == 0)) then (some ((0, r6.2.2.2.1, (⟨r6.2.2.2.2, x_a0.f_m⟩ : message_reader)))) else (zbE x_a0 x_a2 r6.1 r6.2.2.2.2.f_frame.Kind r6.2.2.2.2.f_frame.N r6.2.2.2.2.f_left r6.2.2.2.2.f_done r6.2.2.2.2.f_bad r6.2.2.2.2.Decoder.f_limit r6.2.2.2.2.Decoder.f_at r6.2.2.2.2.Decoder.f_line r6.2.2.2.2.Decoder.f_left r6.2.2.2.2.Decoder.f_sum r6.2.2.2.2.Decoder.f_spent r6.2.2.2.2.Decoder.f_trailers r6.2.1)) else (zbE x_a0 x_a2 0 x_a0.Body.f_frame.Kind x_a0.Body.f_frame.N x_a0.Body.f_left x_a0.Body.f_done x_a0.Body.f_bad x_a0.Body.Decoder.f_limit x_a0.Body.Decoder.f_at x_a0.Body.Decoder.f_line x_a0.Body.Decoder.f_left x_a0.Body.Decoder.f_sum x_a0.Body.Decoder.f_spent x_a0.Body.Decoder.f_trailers x_a0.f_m.Body)

def zbQ (x_b : body_Body) : Option Bool :=
 some x_b.f_done

def zeC (x_s : Str) : Option (Int × Str × Bool × Int) :=
 some (0, [], false, 5)

def z8 (x_a0 : body_Body) (x_a1 : Str) (i21 : Int) (i22 : Int) (t23 : Bool) : Option (Int × Str × Bool × Int × body_Body) :=
 (sTo x_a1 i21).bind fun s24 =>
 some ((i21, s24, t23, 0, (⟨default, x_a0.f_frame, i22, t23, x_a0.f_bad⟩ : body_Body)))

def zbF (x_a0 : body_Body) (x_a1 : Str) (t4 : Bool) : Option (Int × Str × Bool × Int × body_Body) :=
 if t4 then (some ((0, [], false, 8, (⟨default, x_a0.f_frame, x_a0.f_left, x_a0.f_done, x_a0.f_bad⟩ : body_Body)))) else (if (x_a0.f_frame.Kind == 3) then ((zeC x_a1).bind fun r12 =>
 some ((r12.1, r12.2.1, r12.2.2.1, r12.2.2.2, (⟨default, x_a0.f_frame, x_a0.f_left, r12.2.2.1, !(r12.2.2.2 == 0)⟩ : body_Body)))) else (if (x_a0.f_frame.Kind == 2) then ((zcu x_a0.f_left (min (x_a1.length : Int) x_a0.f_left)).bind fun i19 =>
 z8 x_a0 x_a1 (min (x_a1.length : Int) x_a0.f_left) i19 (i19 == 0)) else (z8 x_a0 x_a1 (x_a1.length : Int) x_a0.f_left x_a0.f_done)))

def zc5 (x_a0 : body_Body) (x_a1 : Str) : Option (Int × Str × Bool × Int × body_Body) :=
 if x_a0.f_done then (zbF x_a0 x_a1 true) else (zbF x_a0 x_a1 x_a0.f_bad)

def zdE (x_b : body_Body) (t8 : Bool) : Option (Bool × Int × body_Body) :=
 some ((true, 0, (⟨default, x_b.f_frame, x_b.f_left, t8, x_b.f_bad⟩ : body_Body)))

def zhI (x_b : body_Body) : Option (Bool × Int × body_Body) :=
 if (x_b.f_frame.Kind == 4) then (zdE x_b true) else (if (!x_b.f_done) then (some ((false, 6, (⟨default, x_b.f_frame, x_b.f_left, x_b.f_done, x_b.f_bad⟩ : body_Body)))) else (zdE x_b x_b.f_done))

def zc7 : Option (List api_Field) :=
 some []

def zeD (x_b : body_Body) : Option (List api_Field) :=
 (zc7).bind fun r4 =>
 some r4

def za3 (x_a0 : message_reader) (i13 : Int) (s19 : Str) (i25 : Int) (i26 : Int) (i27 : Int) (t28 : Bool) (t29 : Bool) : Option (Int × Int × message_reader) :=
 (zbQ ((⟨default, (⟨i25, i26⟩ : api_Frame), i27, t28, t29⟩ : body_Body))).bind fun r30 =>
 if (!r30) then (some ((0, 6, (⟨(⟨default, (⟨i25, i26⟩ : api_Frame), i27, t28, t29⟩ : body_Body), (⟨x_a0.f_m.Head, x_a0.f_m.Frame, s19, x_a0.f_m.Trailers⟩ : api_Message)⟩ : message_reader)))) else ((zeD ((⟨default, (⟨i25, i26⟩ : api_Frame), i27, t28, t29⟩ : body_Body))).bind fun r35 =>
 some ((i13, 0, (⟨(⟨default, (⟨i25, i26⟩ : api_Frame), i27, t28, t29⟩ : body_Body), (⟨x_a0.f_m.Head, x_a0.f_m.Frame, s19, r35⟩ : api_Message)⟩ : message_reader))))

def za4 (x_a0 : message_reader) (i13 : Int) (i14 : Int) (i15 : Int) (i16 : Int) (t17 : Bool) (t18 : Bool) (s19 : Str) (t21 : Bool) : Option (Int × Int × message_reader) :=
 if t21 then ((zhI ((⟨default, (⟨i14, i15⟩ : api_Frame), i16, t17, t18⟩ : body_Body))).bind fun r23 =>
 za3 x_a0 i13 s19 r23.2.2.f_frame.Kind r23.2.2.f_frame.N r23.2.2.f_left r23.2.2.f_done r23.2.2.f_bad) else (za3 x_a0 i13 s19 i14 i15 i16 t17 t18)

def za5 (x_a0 : message_reader) (x_a2 : Bool) (i13 : Int) (i14 : Int) (i15 : Int) (i16 : Int) (t17 : Bool) (t18 : Bool) (s19 : Str) : Option (Int × Int × message_reader) :=
 if (x_a0.f_m.Frame.Kind == 4) then (za4 x_a0 i13 i14 i15 i16 t17 t18 s19 x_a2) else (za4 x_a0 i13 i14 i15 i16 t17 t18 s19 false)

def zE (x_a0 : message_reader) (x_a1 : Str) (x_a2 : Bool) : Option (Int × Int × message_reader) :=
 (zbQ (⟨default, x_a0.Body.f_frame, x_a0.Body.f_left, x_a0.Body.f_done, x_a0.Body.f_bad⟩ : body_Body)).bind fun r3 =>
 if (!r3) then ((zc5 (⟨default, x_a0.Body.f_frame, x_a0.Body.f_left, x_a0.Body.f_done, x_a0.Body.f_bad⟩ : body_Body) x_a1).bind fun r6 =>
 if (!(r6.2.2.2.1 == 0)) then (some ((0, r6.2.2.2.1, (⟨(⟨default, r6.2.2.2.2.f_frame, r6.2.2.2.2.f_left, r6.2.2.2.2.f_done, r6.2.2.2.2.f_bad⟩ : body_Body), x_a0.f_m⟩ : message_reader)))) else (za5 x_a0 x_a2 r6.1 r6.2.2.2.2.f_frame.Kind r6.2.2.2.2.f_frame.N r6.2.2.2.2.f_left r6.2.2.2.2.f_done r6.2.2.2.2.f_bad r6.2.1)) else (za5 x_a0 x_a2 0 x_a0.Body.f_frame.Kind x_a0.Body.f_frame.N x_a0.Body.f_left x_a0.Body.f_done x_a0.Body.f_bad x_a0.f_m.Body)

def zi0 (i11 : Int) : Option (api_Message × Int × Int) :=
 if (!(i11 == 0)) then (some (((⟨(⟨0, [], [], 0, [], 0, []⟩ : api_Head), (⟨0, 0⟩ : api_Frame), [], []⟩ : api_Message), 0, i11))) else (none)

def zeE (x_a2 : Str) (r40 : Int × Bool × Int × accum_Accum) : Option (api_Message × Int × Int) :=
 (zbh x_a2 r40.1).bind fun s78 =>
 none

def zce (x_a2 : Str) (x_a4 : Bool) (r40 : Int × Bool × Int × accum_Accum) (r54 : api_Head × Bool) (r59 : api_Frame × Int) (i80 : Int) (i81 : Int) (i82 : Int) (t83 : Bool) (t84 : Bool) (i85 : Int) (i86 : Int) (l89 : List UInt8) (i90 : Int) (i91 : Int) (i92 : Int) (l95 : List api_Field) : Option (api_Message × Int × Int) :=
 (zbh x_a2 r40.1).bind fun s97 =>
 (zbP ((⟨(⟨(⟨i85, i86, l89, i90, i91, i92, l95⟩ : dechunk_Decoder), (⟨i80, i81⟩ : api_Frame), i82, t83, t84⟩ : body_Body), (⟨r54.1, r59.1, [], []⟩ : api_Message)⟩ : message_reader)) s97 x_a4).bind fun r98 =>
 if (!(r98.2.1 == 0)) then (some (((⟨(⟨0, [], [], 0, [], 0, []⟩ : api_Head), (⟨0, 0⟩ : api_Frame), [], []⟩ : api_Message), 0, r98.2.1))) else ((zr r40.1 r98.1).bind fun i113 =>
 some (r98.2.2.f_m, i113, 0))

def zam (x_a2 : Str) (x_a4 : Bool) (r40 : Int × Bool × Int × accum_Accum) (r54 : api_Head × Bool) (r59 : api_Frame × Int) (i115 : Int) (i116 : Int) (i117 : Int) (t118 : Bool) (t119 : Bool) : Option (api_Message × Int × Int) :=
 (zbh x_a2 r40.1).bind fun s121 =>
 (zE ((⟨(⟨default, (⟨i115, i116⟩ : api_Frame), i117, t118, t119⟩ : body_Body), (⟨r54.1, r59.1, [], []⟩ : api_Message)⟩ : message_reader)) s121 x_a4).bind fun r122 =>
 if (!(r122.2.1 == 0)) then (some (((⟨(⟨0, [], [], 0, [], 0, []⟩ : api_Head), (⟨0, 0⟩ : api_Frame), [], []⟩ : api_Message), 0, r122.2.1))) else ((zr r40.1 r122.1).bind fun i133 =>
 some (r122.2.2.f_m, i133, 0))

def zeF (x_a1 : Str) (x_a2 : Str) (x_a3 : Int) (x_a4 : Bool) (i17 : Int) (i18 : Int) (i19 : Int) (l22 : List UInt8) (i23 : Int) (t24 : Bool) (i25 : Int) (t26 : Bool) (i27 : Int) (s28 : Str) (s29 : Str) (i30 : Int) (s31 : Str) (i32 : Int) (l35 : List api_Field) : Option (api_Message × Int × Int) :=
 if (!(i17 == 0)) then (some (((⟨(⟨0, [], [], 0, [], 0, []⟩ : api_Head), (⟨0, 0⟩ : api_Frame), [], []⟩ : api_Message), 0, i17))) else ((zdi ((⟨i18, i19, l22, i23, t24, i25, t26, (⟨i27, s28, s29, i30, s31, i32, l35⟩ : api_Head)⟩ : accum_Accum)) x_a2).bind fun r40 =>
 if (!(r40.2.2.1 == 0)) then (some (((⟨(⟨0, [], [], 0, [], 0, []⟩ : api_Head), (⟨0, 0⟩ : api_Frame), [], []⟩ : api_Message), 0, r40.2.2.1))) else (if (!r40.2.1) then (some (((⟨(⟨0, [], [], 0, [], 0, []⟩ : api_Head), (⟨0, 0⟩ : api_Frame), [], []⟩ : api_Message), 0, 6))) else ((zdj r40.2.2.2).bind fun r54 =>
 (zef x_a1 r54.1).bind fun r59 =>
 if (!(r59.2 == 0)) then (some (((⟨(⟨0, [], [], 0, [], 0, []⟩ : api_Head), (⟨0, 0⟩ : api_Frame), [], []⟩ : api_Message), 0, r59.2))) else ((zhk r59.1 x_a3).bind fun r68 =>
 zpo r68.1 (zeE x_a2 r40) (fun x70 => bE x70.1 (zce x_a2 x_a4 r40 r54 r59 x70.2.f_frame.Kind x70.2.f_frame.N x70.2.f_left x70.2.f_done x70.2.f_bad x70.2.Decoder.f_limit x70.2.Decoder.f_at x70.2.Decoder.f_line x70.2.Decoder.f_left x70.2.Decoder.f_sum x70.2.Decoder.f_spent x70.2.Decoder.f_trailers) (zam x_a2 x_a4 r40 r54 r59 x70.2.f_frame.Kind x70.2.f_frame.N x70.2.f_left x70.2.f_done x70.2.f_bad))))))

def zaD (x_a0 : Int) (x_a1 : Str) (x_a2 : Str) (x_a3 : Int) (x_a4 : Bool) : Option (api_Message × Int × Int) :=
 (zom x_a0 x_a3).bind fun r3 =>
 zpo r3.1 (zi0 r3.2) (fun x5 => zeF x_a1 x_a2 x_a3 x_a4 r3.2 x5.f_kind x5.f_limit x5.f_buf x5.f_from x5.f_took x5.f_bad x5.f_whole x5.f_got.Kind x5.f_got.Method x5.f_got.Target x5.f_got.Code x5.f_got.Reason x5.f_got.Minor x5.f_got.Fields)

def zeG (t14 : Bool) : Option Bool :=
 some t14

def zlc : Option Bool :=
 (zdR [80, 79, 83, 84, 32, 47, 32, 72, 84, 84, 80, 47, 49, 46, 49, 13, 10, 72, 111, 115, 116, 58, 32, 97, 13, 10, 67, 111, 110, 116, 101, 110, 116, 45, 76, 101, 110, 103, 116, 104, 58, 32, 50, 13, 10, 13, 10, 104, 105] [109, 111, 114, 101]).bind fun s3 =>
 (zaD 1 [] s3 99 false).bind fun r4 =>
 if (r4.2.2 == 0) then (if (r4.2.1 == ([80, 79, 83, 84, 32, 47, 32, 72, 84, 84, 80, 47, 49, 46, 49, 13, 10, 72, 111, 115, 116, 58, 32, 97, 13, 10, 67, 111, 110, 116, 101, 110, 116, 45, 76, 101, 110, 103, 116, 104, 58, 32, 50, 13, 10, 13, 10, 104, 105].length : Int)) then (if (r4.1.Body == [104, 105]) then (zeG (r4.1.Frame == (⟨2, 2⟩ : api_Frame))) else (zeG false)) else (zeG false)) else (zeG false)

def zgW (x_s : Str) : Option Str :=
 (sTo x_s (min (x_s.length : Int) 400)).bind fun s2 =>
 some s2

def zii (rec1 : (List api_Field) → Int → Option api_Head) (x_h : api_Head) (r4 : Str) (r6 : Str) (r8 : Str) (l14 : List api_Field) (i15 : Int) (t17 : Bool) : Option api_Head :=
 if t17 then ((lAt x_h.Fields i15).bind fun x20 =>
 (zgW x20.Name).bind fun r23 =>
 (lAt x_h.Fields i15).bind fun x24 =>
 (zgW x24.Value).bind fun r27 =>
 if zC l14.length 1 32 then ((zr i15 1).bind fun i33 =>
 rec1 (l14 ++ [(⟨r23, r27⟩ : api_Field)]) i33) else none) else (some (⟨x_h.Kind, r4, r6, x_h.Code, r8, x_h.Minor, l14⟩ : api_Head))

def zd1 (x_h : api_Head) (r4 : Str) (r6 : Str) (r8 : Str) : Nat → (List api_Field) → Int → Option api_Head
 | 0, _, _ => none
 | n + 1, l14, i15 =>
 if (decide (i15 < (x_h.Fields.length : Int))) then (zii (zd1 x_h r4 r6 r8 n) x_h r4 r6 r8 l14 i15 (decide (i15 < 120))) else (zii (zd1 x_h r4 r6 r8 n) x_h r4 r6 r8 l14 i15 false)

def zlR (x_h : api_Head) : Option api_Head :=
 (zgW x_h.Method).bind fun r4 =>
 (zgW x_h.Target).bind fun r6 =>
 (zgW x_h.Reason).bind fun r8 =>
 zd1 x_h r4 r6 r8 fuel [] 0

def zij (rec1 : (List api_Field) → Int → Option (List api_Field)) (x_l : List api_Field) (l6 : List api_Field) (i7 : Int) (t9 : Bool) : Option (List api_Field) :=
 if t9 then ((lAt x_l i7).bind fun x12 =>
 (lAt x_l i7).bind fun x15 =>
 (sTo x12.Name (min (x15.Name.length : Int) 50)).bind fun s18 =>
 (lAt x_l i7).bind fun x19 =>
 (lAt x_l i7).bind fun x22 =>
 (sTo x19.Value (min (x22.Value.length : Int) 200)).bind fun s25 =>
 if zC l6.length 1 32 then ((zr i7 1).bind fun i31 =>
 rec1 (l6 ++ [(⟨s18, s25⟩ : api_Field)]) i31) else none) else (some l6)

def zd2 (x_l : List api_Field) : Nat → (List api_Field) → Int → Option (List api_Field)
 | 0, _, _ => none
 | n + 1, l6, i7 =>
 if (decide (i7 < (x_l.length : Int))) then (zij (zd2 x_l n) x_l l6 i7 (decide (i7 < 105))) else (zij (zd2 x_l n) x_l l6 i7 false)

def zlS (x_l : List api_Field) : Option (List api_Field) :=
 zd2 x_l fuel [] 0

def zi1 (x_m : api_Message) : Option api_Message :=
 (zlR x_m.Head).bind fun r4 =>
 (sTo x_m.Body (min (x_m.Body.length : Int) 500)).bind fun s8 =>
 (zlS x_m.Trailers).bind fun r10 =>
 some (⟨r4, x_m.Frame, s8, r10⟩ : api_Message)

def zcf (x_sep : Str) (x_l : List Str) : Option Str :=
 (strings_Join x_l x_sep).bind fun r2 =>
 some r2

def zd3 (s14 : Str) (t30 : Bool) : Option (Str × Int) :=
 if t30 then (some ([], 20)) else (some (s14, 0))

def za6 (s14 : Str) (r15 : api_Head × Int) (t28 : Bool) : Option (Str × Int) :=
 if (!(r15.2 == 0)) then (zd3 s14 true) else (zd3 s14 (!t28))

def zcS (x_a0 : api_Head) (s14 : Str) : Option (Str × Int) :=
 (zbX x_a0.Kind s14).bind fun r15 =>
 if (r15.2 == 1) then (some ([], r15.2)) else (if (r15.1.Method == x_a0.Method) then (if (r15.1.Target == x_a0.Target) then (if (r15.1.Minor == x_a0.Minor) then (if (r15.1.Code == x_a0.Code) then (za6 s14 r15 (r15.1.Reason == x_a0.Reason)) else (za6 s14 r15 false)) else (za6 s14 r15 false)) else (za6 s14 r15 false)) else (za6 s14 r15 false))

def zeH (x_a0 : api_Head) : Option (Str × Int) :=
 (ze5 x_a0.Minor).bind fun r3 =>
 (zdR [72, 84, 84, 80, 47, 49, 46] r3).bind fun s4 =>
 (zcf [32] ([x_a0.Method, x_a0.Target, s4] : List Str)).bind fun r7 =>
 if (x_a0.Kind == 2) then ((ze5 x_a0.Code).bind fun r11 =>
 (zcf [32] ([s4, r11, x_a0.Reason] : List Str)).bind fun r13 =>
 zcS x_a0 r13) else (zcS x_a0 r7)

def ze9 (t11 : Bool) : Option Int :=
 if t11 then (some 25) else (some 0)

def zdK (x_f : api_Field) : Option Int :=
 (zhT x_f.Name).bind fun r3 =>
 if (!r3) then (some 21) else ((zdH zaQ ([x_f.Value] : List Str)).bind fun r8 =>
 if (!r8) then (ze9 true) else ((zdU x_f.Value [32, 9]).bind fun r10 =>
 ze9 (!(r10 == x_f.Value))))

def zfB (x_h : api_Head) : Nat → Int → Option Int
 | 0, _ => none
 | n + 1, i10 =>
 if (decide (i10 < (x_h.Fields.length : Int))) then ((lAt x_h.Fields i10).bind fun x14 =>
 (zdK x14).bind fun r19 =>
 if (!(r19 == 0)) then (some r19) else ((zr i10 1).bind fun i25 =>
 (zfB x_h n) i25)) else ((ziZ x_h).bind fun r27 =>
 some r27)

def zi2 (x_h : api_Head) : Option Int :=
 (zeH x_h).bind fun r3 =>
 if (!(r3.2 == 0)) then (some r3.2) else (zfB x_h fuel 0)

def zfq (t7 : Bool) : Option Bool :=
 some t7

def zfr (t11 : Bool) : Option Bool :=
 some t11

def zik (x_m : api_Message) : Option Bool :=
 if (x_m.Frame.Kind == 1) then (if (x_m.Body == []) then (zfq ((x_m.Trailers.length : Int) == 0)) else (zfq false)) else (if (x_m.Frame.Kind == 2) then (if ((x_m.Body.length : Int) == x_m.Frame.N) then (zfr ((x_m.Trailers.length : Int) == 0)) else (zfr false)) else (if (x_m.Frame.Kind == 4) then (some ((x_m.Trailers.length : Int) == 0)) else (some true)))

def zcB (x_f : api_Field) : Option (Str × Int) :=
 (zdK x_f).bind fun r3 =>
 if (!(r3 == 0)) then (some ([], r3)) else (if (x_f.Value == []) then ((zdR x_f.Name [58]).bind fun s11 =>
 some (s11, 0)) else ((zdR x_f.Name [58, 32]).bind fun s14 =>
 (zdR s14 x_f.Value).bind fun s15 =>
 some (s15, 0)))

def zcT (x_trailers : List api_Field) : Nat → (List Str) → Int → Option (Str × Int)
 | 0, _, _ => none
 | n + 1, l7, i8 =>
 if (decide (i8 < (x_trailers.length : Int))) then ((lAt x_trailers i8).bind fun x12 =>
 (zcB x12).bind fun r17 =>
 if (!(r17.2 == 0)) then (some ([], r17.2)) else (if zC l7.length 1 16 then ((zr i8 1).bind fun i28 =>
 (zcT x_trailers n) (l7 ++ ([r17.1] : List Str)) i28) else none)) else (if (decide (100 < (x_trailers.length : Int))) then (some ([], 3)) else (if zC l7.length 2 16 then ((zcf [13, 10] (l7 ++ ([[], []] : List Str))).bind fun r38 =>
 some (r38, 0)) else none))

def zdx (x_trailers : List api_Field) : Option (Str × Int) :=
 zcT x_trailers fuel ([[48]] : List Str) 0

def zeI (x_m : api_Message) (t17 : Bool) : Option Int :=
 if t17 then (some 1) else ((zdx x_m.Trailers).bind fun r21 =>
 some r21.2)

def zhl (x_method : Str) (x_m : api_Message) : Option Int :=
 (zi2 x_m.Head).bind fun r3 =>
 if (!(r3 == 0)) then (some r3) else ((zef x_method x_m.Head).bind fun r9 =>
 if (!(r9.2 == 0)) then (some r9.2) else (if (!(r9.1 == x_m.Frame)) then (zeI x_m true) else ((zik x_m).bind fun r16 =>
 zeI x_m (!r16))))

def zoo (x_most : Int) : Option quill_Quill :=
 some (⟨[], max x_most 0⟩ : quill_Quill)

def zgX (x_q : quill_Quill) : Option Int :=
 (zcu x_q.f_most (x_q.f_b.length : Int)).bind fun i4 =>
 some i4

def zhJ (l44 : List UInt8) (i45 : Int) : Option (Int × quill_Quill) :=
 some ((0, (⟨l44, i45⟩ : quill_Quill)))

def zav (x_l : List Str) : Nat → (List UInt8) → Int → Int → Option (Int × quill_Quill)
 | 0, _, _, _ => none
 | n + 1, l27, i28, i29 =>
 if (decide (i29 < (x_l.length : Int))) then ((lAt x_l i29).bind fun x33 =>
 if zC l27.length x33.length 1 then ((zr i29 1).bind fun i41 =>
 (zav x_l n) (l27 ++ x33) i28 i41) else none) else (zhJ l27 i28)

def zaM (x_q : quill_Quill) (x_l : List Str) : Nat → Int → Int → Option (Int × quill_Quill)
 | 0, _, _ => none
 | n + 1, i7, i8 =>
 if (decide (i8 < (x_l.length : Int))) then ((lAt x_l i8).bind fun x12 =>
 if (decide (i7 < (x12.length : Int))) then (some (10, x_q)) else ((zcu i7 (x12.length : Int)).bind fun i20 =>
 (zr i8 1).bind fun i22 =>
 (zaM x_q x_l n) i20 i22)) else (zav x_l fuel x_q.f_b x_q.f_most 0)

def zhy (x_q : quill_Quill) (x_l : List Str) : Option (Int × quill_Quill) :=
 (zgX x_q).bind fun r4 =>
 zaM x_q x_l fuel r4 0

def zgY (x_q : quill_Quill) (x_l : List Str) : Option (Int × quill_Quill) :=
 if zC 0 x_l.length 16 then (if zC x_l.length 1 16 then ((zhy x_q (x_l ++ ([[13, 10]] : List Str))).bind fun r10 =>
 some (r10.1, r10.2)) else none) else none

def zbG (x_p : head_printer) (x_s : Str) : Option head_printer :=
 (zgY x_p.Quill ([x_s] : List Str)).bind fun r2 =>
 if (!(r2.1 == 0)) then (some (⟨r2.2, true⟩ : head_printer)) else (some (⟨r2.2, x_p.f_full⟩ : head_printer))

def zi3 (x_q : quill_Quill) : Option Str :=
 some x_q.f_b

def zhm (t45 : Bool) (l48 : List UInt8) (i49 : Int) : Option (Str × Int) :=
 (zbG ((⟨(⟨l48, i49⟩ : quill_Quill), t45⟩ : head_printer)) []).bind fun r50 =>
 if r50.f_full then (some ([], 3)) else ((zi3 r50.Quill).bind fun r59 =>
 some (r59, 0))

def zfC (x_h : api_Head) : Nat → Bool → (List UInt8) → Int → Int → Option (Str × Int)
 | 0, _, _, _, _ => none
 | n + 1, t23, l26, i27, i28 =>
 if (decide (i28 < (x_h.Fields.length : Int))) then ((lAt x_h.Fields i28).bind fun x32 =>
 (zcB x32).bind fun r37 =>
 (zbG ((⟨(⟨l26, i27⟩ : quill_Quill), t23⟩ : head_printer)) r37.1).bind fun r39 =>
 (zr i28 1).bind fun i44 =>
 (zfC x_h n) r39.f_full r39.Quill.f_b r39.Quill.f_most i44) else (zhm t23 l26 i27)

def zkD (x_h : api_Head) (x_limit : Int) : Option (Str × Int) :=
 (zi2 x_h).bind fun r3 =>
 if (!(r3 == 0)) then (some ([], r3)) else ((zoo x_limit).bind fun r9 =>
 (zeH x_h).bind fun r15 =>
 (zbG (⟨r9, false⟩ : head_printer) r15.1).bind fun r17 =>
 zfC x_h fuel r17.f_full r17.Quill.f_b r17.Quill.f_most 0)

def zgc (x_size : Int) (t3 : Bool) : Option (Option enchunk_Encoder × Int) :=
 if t3 then (some (none, 1)) else (some ((some (⟨x_size, [], false⟩ : enchunk_Encoder), 0)))

def zld (x_size : Int) : Option (Option enchunk_Encoder × Int) :=
 if (decide (x_size < 1)) then (zgc x_size true) else (zgc x_size (decide (65536 < x_size)))

def za9 (x_c : enchunk_Encoder) : Option Int :=
 if x_c.f_done then (some 8) else (some 0)

def zhz (x_n : Int) : Option Str :=
 (zgQ x_n 16).bind fun r2 =>
 some r2

def zgd (x_n : Int) : Option Str :=
 (zhz x_n).bind fun r2 =>
 some r2

def zdL (x_data : Str) : Option Str :=
 if (x_data == []) then (some []) else ((zgd (x_data.length : Int)).bind fun r6 =>
 (zcf [13, 10] ([r6, x_data, []] : List Str)).bind fun r8 =>
 some r8)

def zc8 (l30 : List Str) (i31 : Int) (s32 : Str) (t33 : Bool) : Option (Str × Int × enchunk_Encoder) :=
 (zcf [] l30).bind fun r34 =>
 some ((r34, 0, (⟨i31, s32, t33⟩ : enchunk_Encoder)))

def zaW : Nat → (List Str) → Int → Str → Bool → Option (Str × Int × enchunk_Encoder)
 | 0, _, _, _, _ => none
 | n + 1, l13, i14, s15, t16 =>
 if (decide (i14 ≤ (s15.length : Int))) then ((sTo s15 i14).bind fun s20 =>
 (zdL s20).bind fun r21 =>
 if zC l13.length 1 16 then ((zbh s15 i14).bind fun s27 =>
 (zaW n) (l13 ++ ([r21] : List Str)) i14 s27 t16) else none) else (zc8 l13 i14 s15 t16)

def zep (x_c : enchunk_Encoder) (x_s : Str) : Option (Str × Int × enchunk_Encoder) :=
 (za9 x_c).bind fun r2 =>
 if (!(r2 == 0)) then (some ([], r2, x_c)) else ((zdR x_c.f_buf x_s).bind fun s9 =>
 zaW fuel [] x_c.f_size s9 x_c.f_done)

def zeq (x_c : enchunk_Encoder) (x_trailers : List api_Field) : Option (Str × Int × enchunk_Encoder) :=
 (za9 x_c).bind fun r2 =>
 if (!(r2 == 0)) then (some ([], r2, x_c)) else ((zdx x_trailers).bind fun r8 =>
 if (!(r8.2 == 0)) then (some ([], r8.2, x_c)) else ((zdL x_c.f_buf).bind fun r14 =>
 (zdR r14 r8.1).bind fun s15 =>
 some ((s15, 0, (⟨x_c.f_size, [], true⟩ : enchunk_Encoder)))))

def zcl : Option Int :=
 some 5

def zfa (x_s : Str) : Option (Str × Int) :=
 (zcl).bind fun r2 =>
 if (!(r2 == 0)) then (some ([], r2)) else (none)

def zfb (x_trailers : List api_Field) : Option (Str × Int) :=
 (zcl).bind fun r2 =>
 if (!(r2 == 0)) then (some ([], r2)) else ((zdx x_trailers).bind fun r8 =>
 if (!(r8.2 == 0)) then (some ([], r8.2)) else (none))

def zil (x_body : Str) (x_trailers : List api_Field) (i6 : Int) : Option (Str × Int) :=
 if (!(i6 == 0)) then (some ([], i6)) else ((zfa x_body).bind fun r11 =>
 (zfb x_trailers).bind fun r13 =>
 if (!(r13.2 == 0)) then (some ([], r13.2)) else ((zdR r11.1 r13.1).bind fun s19 =>
 some (s19, 0)))

def zeJ (x_body : Str) (x_trailers : List api_Field) (i22 : Int) (i23 : Int) (s24 : Str) (t25 : Bool) : Option (Str × Int) :=
 if (!(i22 == 0)) then (some ([], i22)) else ((zep (⟨i23, s24, t25⟩ : enchunk_Encoder) x_body).bind fun r30 =>
 (zeq r30.2.2 x_trailers).bind fun r33 =>
 if (!(r33.2.1 == 0)) then (some ([], r33.2.1)) else ((zdR r30.1 r33.1).bind fun s40 =>
 some (s40, 0)))

def zjw (x_size : Int) (x_body : Str) (x_trailers : List api_Field) : Option (Str × Int) :=
 (zld x_size).bind fun r2 =>
 zpo r2.1 (zil x_body x_trailers r2.2) (fun x4 => zeJ x_body x_trailers r2.2 x4.f_size x4.f_buf x4.f_done)

def zeK (r9 : Str × Int) (i19 : Int) (s20 : Str) : Option (Str × Int) :=
 if (!(i19 == 0)) then (some ([], i19)) else ((zdR r9.1 s20).bind fun s25 =>
 some (s25, 0))

def zhn (x_method : Str) (x_m : api_Message) (x_limit : Int) (x_size : Int) : Option (Str × Int) :=
 (zhl x_method x_m).bind fun r3 =>
 if (!(r3 == 0)) then (some ([], r3)) else ((zkD x_m.Head x_limit).bind fun r9 =>
 if (!(r9.2 == 0)) then (some ([], r9.2)) else (if (x_m.Frame.Kind == 3) then ((zjw x_size x_m.Body x_m.Trailers).bind fun r18 =>
 zeK r9 r18.2 r18.1) else (zeK r9 r9.2 x_m.Body)))

def zcC : Nat → Int → Int → Option Str
 | 0, _, _ => none
 | n + 1, x_n, x_base =>
 if (decide (x_n < x_base)) then ((zr x_n 1).bind fun i5 =>
 (zhF [48, 49, 50, 51, 52, 53, 54, 55, 56, 57, 97, 98, 99, 100, 101, 102] x_n i5).bind fun s6 =>
 some s6) else ((zvw x_n x_base).bind fun i9 =>
 ((zcC n) i9 x_base).bind fun r10 =>
 (zx8 x_n x_base).bind fun i11 =>
 (zx8 x_n x_base).bind fun i12 =>
 (zr i12 1).bind fun i13 =>
 (zhF [48, 49, 50, 51, 52, 53, 54, 55, 56, 57, 97, 98, 99, 100, 101, 102] i11 i13).bind fun s14 =>
 (zdR r10 s14).bind fun s15 =>
 some s15)

def zfc (x_n : Int) (x_base : Int) : Option Str := zcC fuel x_n x_base

def zhK (x_n : Int) (x_base : Int) : Option Str :=
 if (decide (x_n < 0)) then (some []) else ((zfc x_n x_base).bind fun r6 =>
 some r6)

def zge (rec1 : (List Str) → Int → Int → Option (List Str)) (i9 : Int) (l25 : List Str) (i26 : Int) : Option (List Str) :=
 (zr i9 1).bind fun i27 =>
 rec1 l25 i26 i27

def zcD (x_s : Str) (x_c : UInt8) : Nat → (List Str) → Int → Int → Option (List Str)
 | 0, _, _, _ => none
 | n + 1, l7, i8, i9 =>
 if (decide (i9 < (x_s.length : Int))) then ((sAt x_s i9).bind fun b13 =>
 if (b13 == x_c) then ((zhF x_s i8 i9).bind fun s16 =>
 if zC l7.length 1 16 then ((zr i9 1).bind fun i22 =>
 zge (zcD x_s x_c n) i9 (l7 ++ ([s16] : List Str)) i22) else none) else (zge (zcD x_s x_c n) i9 l7 i8)) else ((zbh x_s i8).bind fun s29 =>
 if zC l7.length 1 16 then (some (l7 ++ ([s29] : List Str))) else none)

def zgf (x_s : Str) (x_c : UInt8) : Option (List Str) :=
 zcD x_s x_c fuel [] 0 0

def zgg (x_b : UInt8) (x_l : Str) : Nat → Int → Option Bool
 | 0, _ => none
 | n + 1, i3 =>
 if (decide (i3 < (x_l.length : Int))) then ((sAt x_l i3).bind fun b7 =>
 if (b7 == x_b) then (some true) else ((zr i3 1).bind fun i12 =>
 (zgg x_b x_l n) i12)) else (some false)

def zho (x_b : UInt8) (x_l : Str) : Option Bool :=
 zgg x_b x_l fuel 0

def zeV (x_b : UInt8) : Option Bool :=
 (zho x_b [48, 49, 50, 51, 52, 53, 54, 55, 56, 57]).bind fun r2 =>
 some r2

def zbt (x_s : Str) (t12 : Bool) : Option Int :=
 if t12 then (some (-1)) else ((zbh x_s 5).bind fun s16 =>
 if (s16 == [49, 46, 48]) then (some 0) else ((zbh x_s 5).bind fun s21 =>
 if (s21 == [49, 46, 49]) then (some 1) else (some 2)))

def zdc (x_s : Str) : Option Int :=
 if (!((x_s.length : Int) == 8)) then (zbt x_s true) else ((sTo x_s 5).bind fun s3 =>
 if (!(s3 == [72, 84, 84, 80, 47])) then (zbt x_s true) else ((sAt x_s 5).bind fun b5 =>
 (zeV b5).bind fun r6 =>
 if (!r6) then (zbt x_s true) else ((sAt x_s 6).bind fun b8 =>
 if (!(b8 == 46)) then (zbt x_s true) else ((sAt x_s 7).bind fun b10 =>
 (zeV b10).bind fun r11 =>
 zbt x_s (!r11)))))

def zlT (x_b : UInt8) : Option Bool :=
 (zho x_b [97, 98, 99, 100, 101, 102, 103, 104, 105, 106, 107, 108, 109, 110, 111, 112, 113, 114, 115, 116, 117, 118, 119, 120, 121, 122, 65, 66, 67, 68, 69, 70, 71, 72, 73, 74, 75, 76, 77, 78, 79, 80, 81, 82, 83, 84, 85, 86, 87, 88, 89, 90, 48, 49, 50, 51, 52, 53, 54, 55, 56, 57, 33, 35, 36, 37, 38, 39, 42, 43, 45, 46, 94, 95, 96, 124, 126]).bind fun r2 =>
 some r2

def zdy (x_s : Str) : Nat → Int → Option Bool
 | 0, _ => none
 | n + 1, i3 =>
 if (decide (i3 < (x_s.length : Int))) then ((sAt x_s i3).bind fun b7 =>
 (zlT b7).bind fun r8 =>
 if (!r8) then (some false) else ((zr i3 1).bind fun i13 =>
 (zdy x_s n) i13)) else (some (decide (0 < (x_s.length : Int))))

def zeW (x_s : Str) : Option Bool :=
 zdy x_s fuel 0

def zgh (rec1 : Int → Option Int) (i5 : Int) (t12 : Bool) : Option Int :=
 if t12 then (some i5) else ((zr i5 1).bind fun i16 =>
 rec1 i16)

def zF (x_b : UInt8) (x_base : Int) : Nat → Int → Option Int
 | 0, _ => none
 | n + 1, i5 =>
 if (decide (i5 < x_base)) then ((sAt [48, 49, 50, 51, 52, 53, 54, 55, 56, 57, 97, 98, 99, 100, 101, 102] i5).bind fun b9 =>
 if (b9 == x_b) then (zgh (zF x_b x_base n) i5 true) else ((sAt [48, 49, 50, 51, 52, 53, 54, 55, 56, 57, 65, 66, 67, 68, 69, 70] i5).bind fun b11 =>
 zgh (zF x_b x_base n) i5 (b11 == x_b))) else (some (-1))

def zd4 (x_b : UInt8) (x_base : Int) : Option Int :=
 zF x_b x_base fuel 0

def zgi (rec1 : Str → Int → Option (Str × Bool)) (i5 : Int) (s21 : Str) : Option (Str × Bool) :=
 (zr i5 1).bind fun i22 =>
 rec1 s21 i22

def zgj (rec1 : Str → Int → Option (Str × Bool)) (x_base : Int) (s4 : Str) (i5 : Int) (r10 : Int) (t17 : Bool) : Option (Str × Bool) :=
 if t17 then ((zfc r10 x_base).bind fun r19 =>
 (zdR s4 r19).bind fun s20 =>
 zgi rec1 i5 s20) else (zgi rec1 i5 s4)

def zgk (x_s : Str) (s26 : Str) : Option (Str × Bool) :=
 some ((s26, !(x_s == [])))

def zbH (x_s : Str) (x_base : Int) : Nat → Str → Int → Option (Str × Bool)
 | 0, _, _ => none
 | n + 1, s4, i5 =>
 if (decide (i5 < (x_s.length : Int))) then ((sAt x_s i5).bind fun b9 =>
 (zd4 b9 x_base).bind fun r10 =>
 if (decide (r10 < 0)) then (some ([], false)) else (if (!(s4 == [])) then (zgj (zbH x_s x_base n) x_base s4 i5 r10 true) else (zgj (zbH x_s x_base n) x_base s4 i5 r10 (decide (0 < r10))))) else (if (s4 == []) then (zgk x_s [48]) else (zgk x_s s4))

def zjx (x_s : Str) (x_base : Int) : Option (Str × Bool) :=
 zbH x_s x_base fuel [] 0

def zdd (t4 : Bool) : Option Bool :=
 some t4

def zkE (x_a : Str) (x_b : Str) : Option Bool :=
 if (decide ((x_a.length : Int) < (x_b.length : Int))) then (zdd true) else (if ((x_a.length : Int) == (x_b.length : Int)) then (zdd (zsY x_a x_b)) else (zdd false))

def zeg (x_base : Int) (r2 : Str × Bool) : Nat → Int → Int → Option (Int × Int)
 | 0, _, _ => none
 | n + 1, i17, i18 =>
 if (decide (i18 < (r2.1.length : Int))) then ((zvv i17 x_base).bind fun i22 =>
 (sAt r2.1 i18).bind fun b23 =>
 (zd4 b23 x_base).bind fun r24 =>
 (zr i22 r24).bind fun i25 =>
 (zr i18 1).bind fun i27 =>
 (zeg x_base r2 n) i25 i27) else (some (i17, 0))

def zfD (x_base : Int) (r2 : Str × Bool) (t11 : Bool) : Option (Int × Int) :=
 if t11 then (some (0, 7)) else (zeg x_base r2 fuel 0 0)

def zgl (x_s : Str) (x_base : Int) (x_most : Int) : Option (Int × Int) :=
 (zjx x_s x_base).bind fun r2 =>
 if (!r2.2) then (some (0, 2)) else (if (decide (x_most < 0)) then (zfD x_base r2 true) else ((zfc x_most x_base).bind fun r9 =>
 (zkE r9 r2.1).bind fun r10 =>
 zfD x_base r2 r10))

def zeL (r6 : Int × Int) (t10 : Bool) : Option Int :=
 if t10 then (some (-1)) else (some r6.1)

def zhU (x_s : Str) (x_most : Int) : Option Int :=
 if (decide (5 < (x_s.length : Int))) then (some (-1)) else ((zgl x_s 10 x_most).bind fun r6 =>
 if (!(r6.2 == 0)) then (zeL r6 true) else ((zhK r6.1 10).bind fun r9 =>
 zeL r6 (!(r9 == x_s))))

def zeh (r2 : List Str) : Nat → Int → Option Bool
 | 0, _ => none
 | n + 1, i7 =>
 if (decide (i7 < (r2.length : Int))) then ((lAt r2 i7).bind fun x11 =>
 (zhU x11 255).bind fun r14 =>
 if (decide (r14 < 0)) then (some false) else ((zr i7 1).bind fun i19 =>
 (zeh r2 n) i19)) else (some ((r2.length : Int) == 4))

def zi4 (x_s : Str) : Option Bool :=
 (zgf x_s 46).bind fun r2 =>
 zeh r2 fuel 0

def zgZ (x_b : UInt8) : Option Bool :=
 (zho x_b [48, 49, 50, 51, 52, 53, 54, 55, 56, 57, 97, 98, 99, 100, 101, 102, 65, 66, 67, 68, 69, 70]).bind fun r2 =>
 some r2

def zeM (rec1 : Int → Int → Option Bool) (i9 : Int) (i55 : Int) : Option Bool :=
 (zr i9 1).bind fun i56 =>
 rec1 i55 i56

def zgm (rec1 : Int → Int → Option Bool) (i8 : Int) (i9 : Int) (t50 : Bool) : Option Bool :=
 if t50 then (some false) else ((zr i8 1).bind fun i54 =>
 zeM rec1 i9 i54)

def zdz (rec1 : Int → Int → Option Bool) (r2 : List Str) (i8 : Int) (i9 : Int) : Nat → Int → Option Bool
 | 0, _ => none
 | n + 1, i25 =>
 (lAt r2 i9).bind fun x26 =>
 if (decide (i25 < (x26.length : Int))) then ((lAt r2 i9).bind fun x32 =>
 (sAt x32 i25).bind fun b35 =>
 (zgZ b35).bind fun r36 =>
 if (!r36) then (some false) else ((zr i25 1).bind fun i41 =>
 (zdz rec1 r2 i8 i9 n) i41)) else ((lAt r2 i9).bind fun x43 =>
 if (decide ((x43.length : Int) < 1)) then (zgm rec1 i8 i9 true) else ((lAt r2 i9).bind fun x47 =>
 zgm rec1 i8 i9 (decide (4 < (x47.length : Int)))))

def zeN (rec1 : Int → Int → Option Bool) (r2 : List Str) (i8 : Int) (i9 : Int) (t19 : Bool) : Option Bool :=
 if t19 then ((zr i8 2).bind fun i21 =>
 zeM rec1 i9 i21) else (zdz rec1 r2 i8 i9 fuel 0)

def zaw (r2 : List Str) : Nat → Int → Int → Option Bool
 | 0, _, _ => none
 | n + 1, i8, i9 =>
 if (decide (i9 < (r2.length : Int))) then ((zcu (r2.length : Int) 1).bind fun i13 =>
 if (i9 == i13) then ((lAt r2 i9).bind fun x15 =>
 (zi4 x15).bind fun r18 =>
 zeN (zaw r2 n) r2 i8 i9 r18) else (zeN (zaw r2 n) r2 i8 i9 false)) else (some (i8 == 8))

def zhV (x_s : Str) : Option Bool :=
 (zgf x_s 58).bind fun r2 =>
 zaw r2 fuel 0 0

def zim (rec4 : Str → Int → Option Bool) (i24 : Int) (s31 : Str) : Option Bool :=
 (zdR s31 [48]).bind fun s32 =>
 (zr i24 1).bind fun i34 =>
 rec4 s32 i34

def zg0 (rec3 : Int → Option Bool) (i16 : Int) (s44 : Str) : Option Bool :=
 (zhV s44).bind fun r45 =>
 if r45 then (some true) else ((zr i16 1).bind fun i50 =>
 rec3 i50)

def zd5 (rec3 : Int → Option Bool) (x_s : Str) (i3 : Int) (i16 : Int) : Nat → Str → Int → Option Bool
 | 0, _, _ => none
 | n + 1, s23, i24 =>
 if (decide (i24 < i16)) then (if (!(s23 == [])) then ((zdR s23 [58]).bind fun s30 =>
 zim (zd5 rec3 x_s i3 i16 n) i24 s30) else (zim (zd5 rec3 x_s i3 i16 n) i24 s23)) else ((zr i3 2).bind fun i36 =>
 (zbh x_s i36).bind fun s37 =>
 if (!(s37 == [])) then ((zdR s23 [58]).bind fun s40 =>
 (zr i3 2).bind fun i41 =>
 (zbh x_s i41).bind fun s42 =>
 (zdR s40 s42).bind fun s43 =>
 zg0 rec3 i16 s43) else (zg0 rec3 i16 s23))

def zbI (x_s : Str) (i3 : Int) : Nat → Int → Option Bool
 | 0, _ => none
 | n + 1, i16 =>
 if (decide (i16 ≤ 8)) then ((sTo x_s i3).bind fun s20 =>
 zd5 (zbI x_s i3 n) x_s i3 i16 fuel s20 0) else (some false)

def zin (rec1 : Int → Option Bool) (x_s : Str) (i3 : Int) (t12 : Bool) : Option Bool :=
 if t12 then ((zr i3 1).bind fun i54 =>
 rec1 i54) else (zbI x_s i3 fuel 1)

def zd6 (x_s : Str) : Nat → Int → Option Bool
 | 0, _ => none
 | n + 1, i3 =>
 (zr i3 1).bind fun i4 =>
 if (decide (i4 < (x_s.length : Int))) then ((sAt x_s i3).bind fun b8 =>
 if (!(b8 == 58)) then (zin (zd6 x_s n) x_s i3 true) else ((zr i3 1).bind fun i10 =>
 (sAt x_s i10).bind fun b11 =>
 zin (zd6 x_s n) x_s i3 (!(b11 == 58)))) else ((zhV x_s).bind fun r56 =>
 some r56)

def zkc (x_s : Str) : Option Bool :=
 zd6 x_s fuel 0

def zdk (x_b : UInt8) : Option Bool :=
 (zho x_b [97, 98, 99, 100, 101, 102, 103, 104, 105, 106, 107, 108, 109, 110, 111, 112, 113, 114, 115, 116, 117, 118, 119, 120, 121, 122, 65, 66, 67, 68, 69, 70, 71, 72, 73, 74, 75, 76, 77, 78, 79, 80, 81, 82, 83, 84, 85, 86, 87, 88, 89, 90, 48, 49, 50, 51, 52, 53, 54, 55, 56, 57, 45, 46, 95, 126]).bind fun r2 =>
 some r2

def zkd (x_b : UInt8) : Option Bool :=
 (zho x_b [33, 36, 38, 39, 40, 41, 42, 43, 44, 59, 61]).bind fun r2 =>
 some r2

def zfE (rec1 : Int → Option Bool) (i34 : Int) : Option Bool :=
 (zr i34 1).bind fun i35 =>
 rec1 i35

def zcm (rec1 : Int → Option Bool) (i3 : Int) (t19 : Bool) : Option Bool :=
 if t19 then (some false) else ((zr i3 2).bind fun i23 =>
 zfE rec1 i23)

def zhp (rec1 : Int → Option Bool) (i3 : Int) (t31 : Bool) : Option Bool :=
 if t31 then (some false) else (zfE rec1 i3)

def zan (x_s : Str) : Nat → Int → Option Bool
 | 0, _ => none
 | n + 1, i3 =>
 if (decide (i3 < (x_s.length : Int))) then ((sAt x_s i3).bind fun b7 =>
 if (b7 == 37) then ((zr i3 2).bind fun i10 =>
 if (decide ((x_s.length : Int) ≤ i10)) then (zcm (zan x_s n) i3 true) else ((zr i3 1).bind fun i12 =>
 (sAt x_s i12).bind fun b13 =>
 (zgZ b13).bind fun r14 =>
 if (!r14) then (zcm (zan x_s n) i3 true) else ((zr i3 2).bind fun i16 =>
 (sAt x_s i16).bind fun b17 =>
 (zgZ b17).bind fun r18 =>
 zcm (zan x_s n) i3 (!r18)))) else ((sAt x_s i3).bind fun b26 =>
 (zdk b26).bind fun r27 =>
 if (!r27) then ((sAt x_s i3).bind fun b29 =>
 (zkd b29).bind fun r30 =>
 zhp (zan x_s n) i3 (!r30)) else (zhp (zan x_s n) i3 false))) else (some (decide (0 < (x_s.length : Int))))

def zkF (x_s : Str) : Option Bool :=
 zan x_s fuel 0

def zeX (x_s : Str) (t12 : Bool) : Option api_Host :=
 if t12 then ((zcu (x_s.length : Int) 1).bind fun i14 =>
 (zhF x_s 1 i14).bind fun s15 =>
 some ((⟨3, s15, (-1)⟩ : api_Host))) else ((zi4 x_s).bind fun r18 =>
 if r18 then (some ((⟨2, x_s, (-1)⟩ : api_Host))) else ((zkF x_s).bind fun r23 =>
 if r23 then (some ((⟨1, x_s, (-1)⟩ : api_Host))) else (some (⟨0, [], 0⟩ : api_Host))))

def zlU (x_s : Str) : Option api_Host :=
 if (decide (2 < (x_s.length : Int))) then ((sAt x_s 0).bind fun b4 =>
 if (b4 == 91) then ((zcu (x_s.length : Int) 1).bind fun i6 =>
 (sAt x_s i6).bind fun b7 =>
 if (b7 == 93) then ((zcu (x_s.length : Int) 1).bind fun i9 =>
 (zhF x_s 1 i9).bind fun s10 =>
 (zkc s10).bind fun r11 =>
 zeX x_s r11) else (zeX x_s false)) else (zeX x_s false)) else (zeX x_s false)

def zgn (r21 : api_Host) (r25 : Int) (t28 : Bool) : Option (api_Host × Int) :=
 if t28 then (some (((⟨0, [], 0⟩ : api_Host), 27))) else (some (((⟨r21.Kind, r21.Name, r25⟩ : api_Host), 0)))

def zeO (x_s : Str) : Nat → Int → Option (api_Host × Int)
 | 0, _ => none
 | n + 1, i12 =>
 if (decide (0 ≤ i12)) then ((sAt x_s i12).bind fun b16 =>
 if (!(b16 == 58)) then ((zcu i12 1).bind fun i35 =>
 (zeO x_s n) i35) else ((sTo x_s i12).bind fun s20 =>
 (zlU s20).bind fun r21 =>
 (zr i12 1).bind fun i23 =>
 (zbh x_s i23).bind fun s24 =>
 (zhU s24 65535).bind fun r25 =>
 if (r21.Kind == 0) then (zgn r21 r25 true) else (zgn r21 r25 (decide (r25 < 0))))) else (some (((⟨0, [], 0⟩ : api_Host), 27)))

def zeY (x_s : Str) : Option (api_Host × Int) :=
 (zlU x_s).bind fun r3 =>
 if (!(r3.Kind == 0)) then (some (r3, 0)) else ((zcu (x_s.length : Int) 1).bind fun i10 =>
 zeO x_s fuel i10)

def zhq (rec1 : Int → Option Int) (i3 : Int) (t6 : Bool) : Option Int :=
 if t6 then ((zr i3 1).bind fun i9 =>
 rec1 i9) else (some i3)

def zde (x_s : Str) : Nat → Int → Option Int
 | 0, _ => none
 | n + 1, i3 =>
 if (decide (i3 < (x_s.length : Int))) then ((sAt x_s i3).bind fun b5 =>
 zhq (zde x_s n) i3 (!(b5 == 63))) else (zhq (zde x_s n) i3 false)

def zkG (x_s : Str) : Option Int :=
 zde x_s fuel 0

def zfF (t7 : Bool) : Option Bool :=
 some t7

def zkH (x_b : UInt8) : Option Bool :=
 (zdk x_b).bind fun r2 =>
 if r2 then (zfF true) else ((zkd x_b).bind fun r4 =>
 if r4 then (zfF true) else (if (x_b == 58) then (zfF true) else (zfF (x_b == 64))))

def zd7 (t18 : Bool) : Option Bool :=
 some t18

def zhW (t30 : Bool) : Option Bool :=
 some t30

def zfd : Nat → Str → Str → Option Bool
 | 0, _, _ => none
 | n + 1, x_s, x_more =>
 if (x_s == []) then (some true) else ((sAt x_s 0).bind fun b6 =>
 if (b6 == 37) then (if (decide (2 < (x_s.length : Int))) then ((sAt x_s 1).bind fun b10 =>
 (zgZ b10).bind fun r11 =>
 if r11 then ((sAt x_s 2).bind fun b13 =>
 (zgZ b13).bind fun r14 =>
 if r14 then ((zbh x_s 3).bind fun s16 =>
 ((zfd n) s16 x_more).bind fun r17 =>
 zd7 r17) else (zd7 false)) else (zd7 false)) else (zd7 false)) else ((sAt x_s 0).bind fun b20 =>
 (zkH b20).bind fun r21 =>
 if r21 then ((zbh x_s 1).bind fun s23 =>
 ((zfd n) s23 x_more).bind fun r24 =>
 zhW r24) else ((sAt x_s 0).bind fun b25 =>
 (zho b25 x_more).bind fun r26 =>
 if r26 then ((zbh x_s 1).bind fun s28 =>
 ((zfd n) s28 x_more).bind fun r29 =>
 zhW r29) else (zhW false))))

def znH (x_s : Str) (x_more : Str) : Option Bool := zfd fuel x_s x_more

def zfG (t6 : Bool) : Option Bool :=
 some t6

def zkI (x_s : Str) : Option Bool :=
 if (decide (0 < (x_s.length : Int))) then ((sAt x_s 0).bind fun b3 =>
 if (b3 == 47) then ((znH x_s [47]).bind fun r5 =>
 zfG r5) else (zfG false)) else (zfG false)

def zhX (x_s : Str) : Option Bool :=
 (znH x_s [47, 63]).bind fun r2 =>
 some r2

def zfs (x_t : api_Target) (x_s : Str) (r4 : Int) (s6 : Str) (s13 : Str) (t17 : Bool) : Option (api_Target × Bool) :=
 some (((⟨x_t.Kind, x_t.Scheme, x_t.Host, s6, s13, decide (r4 < (x_s.length : Int))⟩ : api_Target), t17))

def zdM (x_t : api_Target) (x_s : Str) (r4 : Int) (s6 : Str) (s13 : Str) : Option (api_Target × Bool) :=
 (zkI s6).bind fun r14 =>
 if r14 then ((zhX s13).bind fun r16 =>
 zfs x_t x_s r4 s6 s13 r16) else (zfs x_t x_s r4 s6 s13 false)

def zg1 (x_t : api_Target) (x_s : Str) : Option (api_Target × Bool) :=
 (zkG x_s).bind fun r4 =>
 (sTo x_s r4).bind fun s6 =>
 if (decide (r4 < (x_s.length : Int))) then ((zr r4 1).bind fun i11 =>
 (zbh x_s i11).bind fun s12 =>
 zdM x_t x_s r4 s6 s12) else (zdM x_t x_s r4 s6 x_t.Query)

def zhr (rec2 : Str → Int → Option Str) (i14 : Int) (s24 : Str) : Option Str :=
 (zr i14 1).bind fun i25 =>
 rec2 s24 i25

def zcn (rec1 : Str → Int → Option Str) (x_s : Str) (s4 : Str) (i5 : Int) : Nat → Str → Int → Option Str
 | 0, _, _ => none
 | n + 1, s13, i14 =>
 if (decide (i14 < 26)) then ((sAt [65, 66, 67, 68, 69, 70, 71, 72, 73, 74, 75, 76, 77, 78, 79, 80, 81, 82, 83, 84, 85, 86, 87, 88, 89, 90] i14).bind fun b18 =>
 (sAt x_s i5).bind fun b19 =>
 if (b18 == b19) then ((zr i14 1).bind fun i22 =>
 (zhF [97, 98, 99, 100, 101, 102, 103, 104, 105, 106, 107, 108, 109, 110, 111, 112, 113, 114, 115, 116, 117, 118, 119, 120, 121, 122] i14 i22).bind fun s23 =>
 zhr (zcn rec1 x_s s4 i5 n) i14 s23) else (zhr (zcn rec1 x_s s4 i5 n) i14 s13)) else ((zdR s4 s13).bind fun s27 =>
 (zr i5 1).bind fun i29 =>
 rec1 s27 i29)

def zco (x_s : Str) : Nat → Str → Int → Option Str
 | 0, _, _ => none
 | n + 1, s4, i5 =>
 if (decide (i5 < (x_s.length : Int))) then ((zr i5 1).bind fun i9 =>
 (zhF x_s i5 i9).bind fun s10 =>
 zcn (zco x_s n) x_s s4 i5 fuel s10 0) else (some s4)

def zfe (x_s : Str) : Option Str :=
 zco x_s fuel [] 0

def zgo (r5 : api_Host × Int) (t9 : Bool) : Option (api_Target × Int) :=
 if t9 then (some (((⟨0, [], (⟨0, [], 0⟩ : api_Host), [], [], false⟩ : api_Target), 20))) else (some (((⟨3, [], r5.1, [], [], false⟩ : api_Target), 0)))

def zgp (t84 : Bool) (i85 : Int) (s86 : Str) (i87 : Int) (s88 : Str) (i89 : Int) (s90 : Str) (s91 : Str) (t92 : Bool) : Option (api_Target × Int) :=
 if (!t84) then (some (((⟨0, [], (⟨0, [], 0⟩ : api_Host), [], [], false⟩ : api_Target), 20))) else (some (((⟨i85, s86, (⟨i87, s88, i89⟩ : api_Host), s90, s91, t92⟩ : api_Target), 0)))

def zcE (rec5 : Int → Option (api_Target × Int)) (x34 : Str) (s47 : Str) (i50 : Int) (t55 : Bool) : Option (api_Target × Int) :=
 if t55 then ((zr i50 1).bind fun i58 =>
 rec5 i58) else ((sTo s47 i50).bind fun s60 =>
 (zeY s60).bind fun r61 =>
 if (!(r61.2 == 0)) then (some (((⟨0, [], (⟨0, [], 0⟩ : api_Host), [], [], false⟩ : api_Target), 20))) else (if (i50 == (s47.length : Int)) then (some (((⟨2, x34, r61.1, [], [], false⟩ : api_Target), 0))) else ((sAt s47 i50).bind fun b74 =>
 if (b74 == 63) then ((zr i50 1).bind fun i78 =>
 (zbh s47 i78).bind fun s79 =>
 (zhX s79).bind fun r81 =>
 zgp r81 2 x34 r61.1.Kind r61.1.Name r61.1.Port [] s79 true) else ((zbh s47 i50).bind fun s82 =>
 (zg1 (⟨2, x34, r61.1, [], [], false⟩ : api_Target) s82).bind fun r83 =>
 zgp r83.2 r83.1.Kind r83.1.Scheme r83.1.Host.Kind r83.1.Host.Name r83.1.Host.Port r83.1.Path r83.1.Query r83.1.HasQuery))))

def zbb (x34 : Str) (s47 : Str) : Nat → Int → Option (api_Target × Int)
 | 0, _ => none
 | n + 1, i50 =>
 if (decide (i50 < (s47.length : Int))) then ((sAt s47 i50).bind fun b52 =>
 if (!(b52 == 47)) then ((sAt s47 i50).bind fun b54 =>
 zcE (zbb x34 s47 n) x34 s47 i50 (!(b54 == 63))) else (zcE (zbb x34 s47 n) x34 s47 i50 false)) else (zcE (zbb x34 s47 n) x34 s47 i50 false)

def zgq (rec3 : Str → Int → Option (api_Target × Int)) (s29 : Str) (i30 : Int) (x34 : Str) (i38 : Int) (t44 : Bool) : Option (api_Target × Int) :=
 if t44 then ((zr i30 1).bind fun i99 =>
 rec3 s29 i99) else ((zbh s29 i38).bind fun s47 =>
 zbb x34 s47 fuel 0)

def zax : Nat → Str → Int → Option (api_Target × Int)
 | 0, _, _ => none
 | n + 1, s29, i30 =>
 if (decide (i30 < ((([[104, 116, 116, 112], [104, 116, 116, 112, 115]] : List Str).length : Int)))) then ((lAt ([[104, 116, 116, 112], [104, 116, 116, 112, 115]] : List Str) i30).bind fun x34 =>
 (zr (x34.length : Int) 3).bind fun i38 =>
 if (decide ((s29.length : Int) < i38)) then (zgq (zax n) s29 i30 x34 i38 true) else ((sTo s29 i38).bind fun s41 =>
 (zfe s41).bind fun r42 =>
 (zdR x34 [58, 47, 47]).bind fun s43 =>
 zgq (zax n) s29 i30 x34 i38 (!(r42 == s43)))) else (some (((⟨0, [], (⟨0, [], 0⟩ : api_Host), [], [], false⟩ : api_Target), 20)))

def zcF (x_a1 : Str) (t16 : Bool) : Option (api_Target × Int) :=
 if t16 then (some (((⟨4, [], (⟨0, [], 0⟩ : api_Host), [], [], false⟩ : api_Target), 0))) else ((zg1 ((⟨1, [], (⟨0, [], 0⟩ : api_Host), [], [], false⟩ : api_Target)) x_a1).bind fun r20 =>
 if r20.2 then (some (r20.1, 0)) else (zax fuel x_a1 0))

def zjy (x_a0 : Str) (x_a1 : Str) : Option (api_Target × Int) :=
 if (x_a0 == [67, 79, 78, 78, 69, 67, 84]) then ((zeY x_a1).bind fun r5 =>
 if (!(r5.2 == 0)) then (zgo r5 true) else (zgo r5 (decide (r5.1.Port < 0)))) else (if (x_a1 == [42]) then (zcF x_a1 (x_a0 == [79, 80, 84, 73, 79, 78, 83])) else (zcF x_a1 false))

def zgr (t4 : Bool) : Option Bool :=
 some t4

def zgs (x_b : UInt8) : Option Bool :=
 if (decide (32 ≤ x_b)) then (if (!(x_b == 127)) then (zgr true) else (zgr (x_b == 9))) else (zgr (x_b == 9))

def zgt (rec2 : Int → Option (api_Head × Int)) (i9 : Int) (t16 : Bool) : Option (api_Head × Int) :=
 if t16 then (some (((⟨0, [], [], 0, [], 0, []⟩ : api_Head), 24))) else ((zr i9 1).bind fun i20 =>
 rec2 i20)

def zaN (r22 : List Str) (r32 : Int) (t44 : Bool) : Option (api_Head × Int) :=
 if t44 then (some (((⟨0, [], [], 0, [], 0, []⟩ : api_Head), 20))) else ((lAt r22 0).bind fun x48 =>
 (lAt r22 1).bind fun x51 =>
 (zjy x48 x51).bind fun r54 =>
 if (!(r54.2 == 0)) then (some (((⟨0, [], [], 0, [], 0, []⟩ : api_Head), 20))) else ((lAt r22 0).bind fun x61 =>
 (lAt r22 1).bind fun x64 =>
 some (((⟨1, x61, x64, 0, [], r32, []⟩ : api_Head), 0))))

def zgu (r72 : Int) (r90 : Int × Int) (s92 : Str) (t108 : Bool) : Option (api_Head × Int) :=
 if t108 then (some (((⟨0, [], [], 0, [], 0, []⟩ : api_Head), 20))) else (some (((⟨2, [], [], r90.1, s92, r72, []⟩ : api_Head), 0)))

def zdA (r72 : Int) (r90 : Int × Int) (s92 : Str) : Nat → Int → Option (api_Head × Int)
 | 0, _ => none
 | n + 1, i95 =>
 if (decide (i95 < (s92.length : Int))) then ((sAt s92 i95).bind fun b99 =>
 (zgs b99).bind fun r100 =>
 if (!r100) then (some (((⟨0, [], [], 0, [], 0, []⟩ : api_Head), 20))) else ((zr i95 1).bind fun i105 =>
 (zdA r72 r90 s92 n) i105)) else (if (!(r90.2 == 0)) then (zgu r72 r90 s92 true) else (zgu r72 r90 s92 (decide (r90.1 < 100))))

def zaO (x_a1 : Str) (r22 : List Str) (r72 : Int) (t83 : Bool) : Option (api_Head × Int) :=
 if t83 then (some (((⟨0, [], [], 0, [], 0, []⟩ : api_Head), 20))) else ((lAt r22 1).bind fun x87 =>
 (zgl x87 10 599).bind fun r90 =>
 (zbh x_a1 13).bind fun s92 =>
 zdA r72 r90 s92 fuel 0)

def zbJ (x_a0 : Int) (x_a1 : Str) : Nat → Int → Option (api_Head × Int)
 | 0, _ => none
 | n + 1, i9 =>
 if (decide (i9 < (x_a1.length : Int))) then ((sAt x_a1 i9).bind fun b13 =>
 if (b13 == 13) then (zgt (zbJ x_a0 x_a1 n) i9 true) else ((sAt x_a1 i9).bind fun b15 =>
 zgt (zbJ x_a0 x_a1 n) i9 (b15 == 10))) else ((zgf x_a1 32).bind fun r22 =>
 if (x_a0 == 1) then ((zcu (r22.length : Int) 1).bind fun i28 =>
 (lAt r22 i28).bind fun x29 =>
 (zdc x29).bind fun r32 =>
 if (r32 == 2) then (some (((⟨0, [], [], 0, [], 0, []⟩ : api_Head), 26))) else (if (!((r22.length : Int) == 3)) then (zaN r22 r32 true) else (if (decide (r32 < 0)) then (zaN r22 r32 true) else ((lAt r22 0).bind fun x40 =>
 (zeW x40).bind fun r43 =>
 zaN r22 r32 (!r43))))) else ((lAt r22 0).bind fun x69 =>
 (zdc x69).bind fun r72 =>
 if (r72 == 2) then (some (((⟨0, [], [], 0, [], 0, []⟩ : api_Head), 26))) else (if (decide ((r22.length : Int) < 3)) then (zaO x_a1 r22 r72 true) else (if (decide (r72 < 0)) then (zaO x_a1 r22 r72 true) else ((lAt r22 1).bind fun x80 =>
 zaO x_a1 r22 r72 (!((x80.length : Int) == 3)))))))

def zgv (x_a0 : Int) (x_a1 : Str) (t4 : Bool) : Option (api_Head × Int) :=
 if t4 then (some (((⟨0, [], [], 0, [], 0, []⟩ : api_Head), 1))) else (zbJ x_a0 x_a1 fuel 0)

def zjz (x_a0 : Int) (x_a1 : Str) : Option (api_Head × Int) :=
 if (!(x_a0 == 1)) then (zgv x_a0 x_a1 (!(x_a0 == 2))) else (zgv x_a0 x_a1 false)

def zcp (s18 : Str) (t33 : Bool) : Option (Str × Int) :=
 if t33 then (some ([], 20)) else (some (s18, 0))

def zfH (x_a0 : api_Head) (s18 : Str) : Option (Str × Int) :=
 (zjz x_a0.Kind s18).bind fun r19 =>
 if (r19.2 == 1) then (some ([], 1)) else (if (!(r19.2 == 0)) then (zcp s18 true) else (if (!(r19.1.Method == x_a0.Method)) then (zcp s18 true) else (if (!(r19.1.Target == x_a0.Target)) then (zcp s18 true) else (if (!(r19.1.Minor == x_a0.Minor)) then (zcp s18 true) else (if (!(r19.1.Code == x_a0.Code)) then (zcp s18 true) else (zcp s18 (!(r19.1.Reason == x_a0.Reason))))))))

def zkJ (x_a0 : api_Head) : Option (Str × Int) :=
 (zhK x_a0.Minor 10).bind fun r3 =>
 (zdR [72, 84, 84, 80, 47, 49, 46] r3).bind fun s4 =>
 (zdR x_a0.Method [32]).bind fun s6 =>
 (zdR s6 x_a0.Target).bind fun s7 =>
 (zdR s7 [32]).bind fun s8 =>
 (zdR s8 s4).bind fun s9 =>
 if (x_a0.Kind == 2) then ((zdR s4 [32]).bind fun s13 =>
 (zhK x_a0.Code 10).bind fun r14 =>
 (zdR s13 r14).bind fun s15 =>
 (zdR s15 [32]).bind fun s16 =>
 (zdR s16 x_a0.Reason).bind fun s17 =>
 zfH x_a0 s17) else (zfH x_a0 s9)

def zdN (x_s : Str) : Nat → Int → Option Bool
 | 0, _ => none
 | n + 1, i3 =>
 if (decide (i3 < (x_s.length : Int))) then ((sAt x_s i3).bind fun b7 =>
 (zgs b7).bind fun r8 =>
 if (!r8) then (some false) else ((zr i3 1).bind fun i13 =>
 (zdN x_s n) i13)) else (some true)

def zio (x_s : Str) : Option Bool :=
 zdN x_s fuel 0

def ziq (t3 : Bool) : Option Bool :=
 some t3

def zhY (x_b : UInt8) : Option Bool :=
 if (x_b == 32) then (ziq true) else (ziq (x_b == 9))

def zfI (rec3 : Str → Option Str) (s11 : Str) (t16 : Bool) : Option Str :=
 if t16 then ((zcu (s11.length : Int) 1).bind fun i19 =>
 (sTo s11 i19).bind fun s20 =>
 rec3 s20) else (some s11)

def zcq : Nat → Str → Option Str
 | 0, _ => none
 | n + 1, s11 =>
 if (decide (0 < (s11.length : Int))) then ((zcu (s11.length : Int) 1).bind fun i13 =>
 (sAt s11 i13).bind fun b14 =>
 (zhY b14).bind fun r15 =>
 zfI (zcq n) s11 r15) else (zfI (zcq n) s11 false)

def zfJ (rec1 : Str → Option Str) (s2 : Str) (t6 : Bool) : Option Str :=
 if t6 then ((zbh s2 1).bind fun s9 =>
 rec1 s9) else (zcq fuel s2)

def zcr : Nat → Str → Option Str
 | 0, _ => none
 | n + 1, s2 =>
 if (decide (0 < (s2.length : Int))) then ((sAt s2 0).bind fun b4 =>
 (zhY b4).bind fun r5 =>
 zfJ (zcr n) s2 r5) else (zfJ (zcr n) s2 false)

def zhL (x_s : Str) : Option Str :=
 zcr fuel x_s

def zir (t11 : Bool) : Option Int :=
 if t11 then (some 25) else (some 0)

def zhZ (x_f : api_Field) : Option Int :=
 (zeW x_f.Name).bind fun r3 =>
 if (!r3) then (some 21) else ((zio x_f.Value).bind fun r8 =>
 if (!r8) then (zir true) else ((zhL x_f.Value).bind fun r10 =>
 zir (!(r10 == x_f.Value))))

def znI (x_f : api_Field) (x_name : Str) : Option Bool :=
 (zfe x_f.Name).bind fun r3 =>
 (zfe x_name).bind fun r4 =>
 some (r3 == r4)

def zft (rec1 : (List Str) → Int → Option (List Str)) (i7 : Int) (l26 : List Str) : Option (List Str) :=
 (zr i7 1).bind fun i27 =>
 rec1 l26 i27

def zbZ (x_l : List api_Field) (x_name : Str) : Nat → (List Str) → Int → Option (List Str)
 | 0, _, _ => none
 | n + 1, l6, i7 =>
 if (decide (i7 < (x_l.length : Int))) then ((lAt x_l i7).bind fun x11 =>
 (znI x11 x_name).bind fun r14 =>
 if r14 then ((lAt x_l i7).bind fun x17 =>
 if zC l6.length 1 16 then (zft (zbZ x_l x_name n) i7 (l6 ++ ([x17.Value] : List Str))) else none) else (zft (zbZ x_l x_name n) i7 l6)) else (some l6)

def zd8 (x_l : List api_Field) (x_name : Str) : Option (List Str) :=
 zbZ x_l x_name fuel [] 0

def zgw (r11 : List Str) (t25 : Bool) : Option Int :=
 if t25 then ((lAt r11 0).bind fun x27 =>
 (zeY x27).bind fun r30 =>
 some r30.2) else (some 0)

def zay (r11 : List Str) (t17 : Bool) : Option Int :=
 if t17 then (some 27) else (if ((r11.length : Int) == 1) then ((lAt r11 0).bind fun x22 =>
 zgw r11 (!(x22 == []))) else (zgw r11 false))

def zjA (x_h : api_Head) : Option Int :=
 if (decide (100 < (x_h.Fields.length : Int))) then (some 3) else (if (x_h.Kind == 2) then (some 0) else ((zd8 x_h.Fields [104, 111, 115, 116]).bind fun r11 =>
 if (decide (1 < (r11.length : Int))) then (zay r11 true) else (if (x_h.Minor == 1) then (zay r11 ((r11.length : Int) == 0)) else (zay r11 false))))

def zeP (x_h : api_Head) : Nat → Int → Option Int
 | 0, _ => none
 | n + 1, i10 =>
 if (decide (i10 < (x_h.Fields.length : Int))) then ((lAt x_h.Fields i10).bind fun x14 =>
 (zhZ x14).bind fun r17 =>
 if (!(r17 == 0)) then (some r17) else ((zr i10 1).bind fun i23 =>
 (zeP x_h n) i23)) else ((zjA x_h).bind fun r25 =>
 some r25)

def zjB (x_h : api_Head) : Option Int :=
 (zkJ x_h).bind fun r3 =>
 if (!(r3.2 == 0)) then (some r3.2) else (zeP x_h fuel 0)

def zdB (rec2 : Str → Int → Option (Str × Int)) (x_s : Str) (s10 : Str) (i25 : Int) (t29 : Bool) : Option (Str × Int) :=
 if t29 then (some ([], 0)) else ((zr i25 1).bind fun i33 =>
 (zhF x_s i25 i33).bind fun s34 =>
 (zdR s10 s34).bind fun s35 =>
 (zr i25 1).bind fun i37 =>
 rec2 s35 i37)

def zgx (rec2 : Str → Int → Option (Str × Int)) (x_s : Str) (s10 : Str) (i25 : Int) : Option (Str × Int) :=
 if (i25 == (x_s.length : Int)) then (zdB rec2 x_s s10 i25 true) else ((sAt x_s i25).bind fun b27 =>
 (zgs b27).bind fun r28 =>
 zdB rec2 x_s s10 i25 (!r28))

def zbc (x_s : Str) : Nat → Str → Int → Option (Str × Int)
 | 0, _, _ => none
 | n + 1, s10, i11 =>
 if (decide (i11 < (x_s.length : Int))) then ((sAt x_s i11).bind fun b15 =>
 if (b15 == 34) then ((zr i11 1).bind fun i18 =>
 some (s10, i18)) else ((sAt x_s i11).bind fun b21 =>
 if (b21 == 92) then ((zr i11 1).bind fun i24 =>
 zgx (zbc x_s n) x_s s10 i24) else (zgx (zbc x_s n) x_s s10 i11))) else (some ([], 0))

def zgy (x_s : Str) (t4 : Bool) : Option (Str × Int) :=
 if t4 then (some ([], 0)) else (zbc x_s fuel [] 1)

def zjC (x_s : Str) : Option (Str × Int) :=
 if ((x_s.length : Int) == 0) then (zgy x_s true) else ((sAt x_s 0).bind fun b3 =>
 zgy x_s (!(b3 == 34)))

def zbd (rec1 : Int → Int → Option Int) (i27 : Int) (i28 : Int) : Option Int :=
 if (i27 == 0) then ((zr i28 1).bind fun i31 =>
 some i31) else ((zr i28 1).bind fun i34 =>
 rec1 i27 i34)

def zaa (x_s : Str) : Nat → Int → Int → Option Int
 | 0, _, _ => none
 | n + 1, i11, i12 =>
 if (decide (i12 < (x_s.length : Int))) then ((sAt x_s i12).bind fun b16 =>
 if (b16 == 40) then ((zr i11 1).bind fun i20 =>
 zbd (zaa x_s n) i20 i12) else (if (b16 == 41) then ((zcu i11 1).bind fun i23 =>
 zbd (zaa x_s n) i23 i12) else (if (b16 == 92) then ((zr i12 1).bind fun i26 =>
 zbd (zaa x_s n) i11 i26) else (zbd (zaa x_s n) i11 i12)))) else (some 0)

def zjD (x_s : Str) : Option Int :=
 (sAt x_s 0).bind fun b2 =>
 if (b2 == 34) then ((zjC x_s).bind fun r5 =>
 some r5.2) else (zaa x_s fuel 0 0)

def zgz (rec1 : (List Str) → Int → Int → Option (List Str × Int)) (i9 : Int) (l41 : List Str) (i42 : Int) : Option (List Str × Int) :=
 (zr i9 1).bind fun i43 =>
 rec1 l41 i42 i43

def zcG (rec1 : (List Str) → Int → Int → Option (List Str × Int)) (x_a0 : Str) (l7 : List Str) (i8 : Int) (i9 : Int) (t16 : Bool) : Option (List Str × Int) :=
 if t16 then ((zbh x_a0 i9).bind fun s18 =>
 (zjD s18).bind fun r19 =>
 if (r19 == 0) then (some ([], 2)) else ((zr i9 r19).bind fun i25 =>
 rec1 l7 i8 i25)) else ((sAt x_a0 i9).bind fun b28 =>
 if (b28 == 44) then ((zhF x_a0 i8 i9).bind fun s31 =>
 (zhL s31).bind fun r32 =>
 if zC l7.length 1 16 then ((zr i9 1).bind fun i38 =>
 zgz rec1 i9 (l7 ++ ([r32] : List Str)) i38) else none) else (zgz rec1 i9 l7 i8))

def zgA (rec4 : (List Str) → Int → Option (List Str × Int)) (i57 : Int) (l75 : List Str) : Option (List Str × Int) :=
 (zr i57 1).bind fun i76 =>
 rec4 l75 i76

def zbK (l7 : List Str) (r46 : Str) : Nat → (List Str) → Int → Option (List Str × Int)
 | 0, _, _ => none
 | n + 1, l56, i57 =>
 if (decide (i57 < (((l7 ++ ([r46] : List Str)).length : Int)))) then ((lAt (l7 ++ ([r46] : List Str)) i57).bind fun x61 =>
 if (!(x61 == [])) then ((lAt (l7 ++ ([r46] : List Str)) i57).bind fun x66 =>
 if zC l56.length 1 16 then (zgA (zbK l7 r46 n) i57 (l56 ++ ([x66] : List Str))) else none) else (zgA (zbK l7 r46 n) i57 l56)) else (some (l56, 0))

def zaz (x_a0 : Str) : Nat → (List Str) → Int → Int → Option (List Str × Int)
 | 0, _, _, _ => none
 | n + 1, l7, i8, i9 =>
 if (decide (i9 < (x_a0.length : Int))) then ((sAt x_a0 i9).bind fun b13 =>
 if (b13 == 34) then (zcG (zaz x_a0 n) x_a0 l7 i8 i9 true) else ((sAt x_a0 i9).bind fun b15 =>
 zcG (zaz x_a0 n) x_a0 l7 i8 i9 (b15 == 40))) else ((zbh x_a0 i8).bind fun s45 =>
 (zhL s45).bind fun r46 =>
 if zC l7.length 1 16 then (zbK l7 r46 fuel [] 0) else none)

def zh0 (x_a0 : Str) : Option (List Str × Int) :=
 zaz x_a0 fuel [] 0 0

def zcZ (rec1 : (List Str) → Int → Option (List Str × Int)) (i7 : Int) (r14 : List Str × Int) : Nat → (List Str) → Int → Option (List Str × Int)
 | 0, _, _ => none
 | n + 1, l25, i26 =>
 if (decide (i26 < (r14.1.length : Int))) then ((lAt r14.1 i26).bind fun x30 =>
 (zeW x30).bind fun r33 =>
 if (!r33) then (some ([], 2)) else ((lAt r14.1 i26).bind fun x38 =>
 if zC l25.length 1 16 then ((zr i26 1).bind fun i46 =>
 (zcZ rec1 i7 r14 n) (l25 ++ ([x38] : List Str)) i46) else none)) else ((zr i7 1).bind fun i48 =>
 rec1 l25 i48)

def zc0 (x_l : List Str) : Nat → (List Str) → Int → Option (List Str × Int)
 | 0, _, _ => none
 | n + 1, l6, i7 =>
 if (decide (i7 < (x_l.length : Int))) then ((lAt x_l i7).bind fun x11 =>
 (zh0 x11).bind fun r14 =>
 if (!(r14.2 == 0)) then (some ([], r14.2)) else (zcZ (zc0 x_l n) i7 r14 fuel l6 0)) else (some (l6, 0))

def zg2 (x_l : List Str) : Option (List Str × Int) :=
 zc0 x_l fuel [] 0

def zcH (t30 : Bool) : Option (api_Frame × Int) :=
 if t30 then (some (((⟨0, 0⟩ : api_Frame), 30))) else (some (((⟨3, 0⟩ : api_Frame), 0)))

def zgB (rec3 : (List Int) → Int → Option (api_Frame × Int)) (i45 : Int) (r52 : List Str × Int) : Nat → (List Int) → Int → Option (api_Frame × Int)
 | 0, _, _ => none
 | n + 1, l63, i64 =>
 if (decide (i64 < (r52.1.length : Int))) then ((lAt r52.1 i64).bind fun x68 =>
 (zgl x68 10 1099511627776).bind fun r71 =>
 if (!(r71.2 == 0)) then (some (((⟨0, 0⟩ : api_Frame), 28))) else (if zC l63.length 1 8 then ((zr i64 1).bind fun i82 =>
 (zgB rec3 i45 r52 n) (l63 ++ [r71.1]) i82) else none)) else ((zr i45 1).bind fun i84 =>
 rec3 l63 i84)

def zgC (l44 : List Int) : Nat → Int → Option (api_Frame × Int)
 | 0, _ => none
 | n + 1, i87 =>
 if (decide (i87 < (l44.length : Int))) then ((lAt l44 i87).bind fun x91 =>
 (lAt l44 0).bind fun x94 =>
 if (!(x91 == x94)) then (some (((⟨0, 0⟩ : api_Frame), 28))) else ((zr i87 1).bind fun i101 =>
 (zgC l44 n) i101)) else (if ((l44.length : Int) == 0) then (some (((⟨0, 0⟩ : api_Frame), 28))) else ((lAt l44 0).bind fun x107 =>
 some (((⟨2, x107⟩ : api_Frame), 0))))

def zeZ (r8 : List Str) : Nat → (List Int) → Int → Option (api_Frame × Int)
 | 0, _, _ => none
 | n + 1, l44, i45 =>
 if (decide (i45 < (r8.length : Int))) then ((lAt r8 i45).bind fun x49 =>
 (zh0 x49).bind fun r52 =>
 if (!(r52.2 == 0)) then (some (((⟨0, 0⟩ : api_Frame), 28))) else (zgB (zeZ r8 n) i45 r52 fuel l44 0)) else (zgC l44 fuel 0)

def zgD (x_a0 : api_Head) (x_a1 : Int) (r4 : List Str) (r8 : List Str) (t13 : Bool) : Option (api_Frame × Int) :=
 if t13 then (some (((⟨0, 0⟩ : api_Frame), 29))) else (if (decide (0 < (r4.length : Int))) then ((zg2 r4).bind fun r19 =>
 if (!(r19.2 == 0)) then (zcH true) else (if (x_a0.Minor == 0) then (zcH true) else (if (!((r19.1.length : Int) == 1)) then (zcH true) else ((lAt r19.1 0).bind fun x26 =>
 (zfe x26).bind fun r29 =>
 zcH (!(r29 == [99, 104, 117, 110, 107, 101, 100])))))) else (if ((r8.length : Int) == 0) then (some (((⟨x_a1, 0⟩ : api_Frame), 0))) else (zeZ r8 fuel [] 0)))

def zlV (x_a0 : api_Head) (x_a1 : Int) : Option (api_Frame × Int) :=
 (zd8 x_a0.Fields [116, 114, 97, 110, 115, 102, 101, 114, 45, 101, 110, 99, 111, 100, 105, 110, 103]).bind fun r4 =>
 (zd8 x_a0.Fields [99, 111, 110, 116, 101, 110, 116, 45, 108, 101, 110, 103, 116, 104]).bind fun r8 =>
 if (decide (0 < (r4.length : Int))) then (zgD x_a0 x_a1 r4 r8 (decide (0 < (r8.length : Int)))) else (zgD x_a0 x_a1 r4 r8 false)

def zcU (x_h : api_Head) (t10 : Bool) : Option (api_Frame × Int) :=
 if t10 then (some (((⟨1, 0⟩ : api_Frame), 0))) else ((zlV x_h 4).bind fun r14 =>
 some (r14.1, r14.2))

def zbL (x_method : Str) (x_h : api_Head) (t7 : Bool) : Option (api_Frame × Int) :=
 if t7 then (zcU x_h true) else (if (x_method == [67, 79, 78, 78, 69, 67, 84]) then (zcU x_h (decide (x_h.Code ≤ 299))) else (zcU x_h false))

def zgE (x_method : Str) (x_h : api_Head) : Option (api_Frame × Int) :=
 if (x_method == [72, 69, 65, 68]) then (zbL x_method x_h true) else (if (decide (x_h.Code < 200)) then (zbL x_method x_h true) else (if (x_h.Code == 204) then (zbL x_method x_h true) else (zbL x_method x_h (x_h.Code == 304))))

def zjE (x_method : Str) (x_h : api_Head) : Option (api_Frame × Int) :=
 if (x_h.Kind == 1) then ((zlV x_h 1).bind fun r6 =>
 some (r6.1, r6.2)) else ((zgE x_method x_h).bind fun r9 =>
 some (r9.1, r9.2))

def zkK (x_f : api_Field) : Option Str :=
 if (x_f.Value == []) then ((zdR x_f.Name [58]).bind fun s5 =>
 some s5) else ((zdR x_f.Name [58, 32]).bind fun s8 =>
 (zdR s8 x_f.Value).bind fun s9 =>
 some s9)

def zfK (x_l : List api_Field) : Nat → Str → Int → Option (Str × Int)
 | 0, _, _ => none
 | n + 1, s4, i5 =>
 if (decide (i5 < (x_l.length : Int))) then ((lAt x_l i5).bind fun x9 =>
 (zhZ x9).bind fun r12 =>
 if (!(r12 == 0)) then (some ([], r12)) else ((lAt x_l i5).bind fun x18 =>
 (zkK x18).bind fun r21 =>
 (zdR s4 r21).bind fun s22 =>
 (zdR s22 [13, 10]).bind fun s23 =>
 (zr i5 1).bind fun i25 =>
 (zfK x_l n) s23 i25)) else (if (decide (100 < (x_l.length : Int))) then (some ([], 3)) else ((zdR s4 [13, 10]).bind fun s31 =>
 some (s31, 0)))

def zkL (x_l : List api_Field) : Option (Str × Int) :=
 zfK x_l fuel [48, 13, 10] 0

def zS (x_a1 : api_Message) (t28 : Bool) : Option Int :=
 if t28 then (some 1) else ((zkL x_a1.Trailers).bind fun r32 =>
 some r32.2)

def zjF (x_a0 : Str) (x_a1 : api_Message) : Option Int :=
 (zjB x_a1.Head).bind fun r3 =>
 if (!(r3 == 0)) then (some r3) else ((zjE x_a0 x_a1.Head).bind fun r9 =>
 if (!(r9.2 == 0)) then (some r9.2) else (if (!(r9.1 == x_a1.Frame)) then (zS x_a1 true) else (if (r9.1.Kind == 1) then (if (!(x_a1.Body == [])) then (zS x_a1 true) else (if (r9.1.Kind == 2) then (if (!((x_a1.Body.length : Int) == r9.1.N)) then (zS x_a1 true) else (if (!(r9.1.Kind == 3)) then (zS x_a1 (decide (0 < (x_a1.Trailers.length : Int)))) else (zS x_a1 false))) else (if (!(r9.1.Kind == 3)) then (zS x_a1 (decide (0 < (x_a1.Trailers.length : Int)))) else (zS x_a1 false)))) else (if (r9.1.Kind == 2) then (if (!((x_a1.Body.length : Int) == r9.1.N)) then (zS x_a1 true) else (if (!(r9.1.Kind == 3)) then (zS x_a1 (decide (0 < (x_a1.Trailers.length : Int)))) else (zS x_a1 false))) else (if (!(r9.1.Kind == 3)) then (zS x_a1 (decide (0 < (x_a1.Trailers.length : Int)))) else (zS x_a1 false))))))

def zcs (t9 : Bool) : Option Bool :=
 some t9

def zms (x_a : api_Head) (x_b : api_Head) : Option Bool :=
 if (x_a.Kind == x_b.Kind) then (if (x_a.Method == x_b.Method) then (if (x_a.Target == x_b.Target) then (if (x_a.Minor == x_b.Minor) then (if (x_a.Code == x_b.Code) then (zcs (x_a.Reason == x_b.Reason)) else (zcs false)) else (zcs false)) else (zcs false)) else (zcs false)) else (zcs false)

def zei (x_a : List api_Field) (x_b : List api_Field) : Nat → Int → Option Bool
 | 0, _ => none
 | n + 1, i7 =>
 if (decide (i7 < (x_a.length : Int))) then ((lAt x_a i7).bind fun x11 =>
 (lAt x_b i7).bind fun x14 =>
 if (!(x11 == x14)) then (some false) else ((zr i7 1).bind fun i21 =>
 (zei x_a x_b n) i21)) else (some true)

def zi5 (x_a : List api_Field) (x_b : List api_Field) : Option Bool :=
 if (!((x_a.length : Int) == (x_b.length : Int))) then (some false) else (zei x_a x_b fuel 0)

def zhs (t7 : Bool) : Option Bool :=
 some t7

def zkM (x_a : api_Head) (x_b : api_Head) : Option Bool :=
 (zms x_a x_b).bind fun r4 =>
 if r4 then ((zi5 x_a.Fields x_b.Fields).bind fun r6 =>
 zhs r6) else (zhs false)

def zfL (t9 : Bool) : Option Bool :=
 some t9

def zkN (x_a : api_Message) (x_b : api_Message) : Option Bool :=
 (zkM x_a.Head x_b.Head).bind fun r4 =>
 if r4 then (if (x_a.Frame == x_b.Frame) then (if (x_a.Body == x_b.Body) then ((zi5 x_a.Trailers x_b.Trailers).bind fun r8 =>
 zfL r8) else (zfL false)) else (zfL false)) else (zfL false)

def zcI (t24 : Bool) : Option Bool :=
 some t24

def zcJ (t40 : Bool) : Option Bool :=
 some t40

def zbu (x_a0 : Str) (r8 : api_Message) (r17 : Str × Int) (s28 : Str) : Option Bool :=
 (zdR r17.1 s28).bind fun s29 =>
 (zaD r8.Head.Kind x_a0 s29 65536 true).bind fun r30 =>
 if (r30.2.2 == 0) then (if (r30.2.1 == (r17.1.length : Int)) then ((zkN r30.1 r8).bind fun r39 =>
 zcJ r39) else (zcJ false)) else (zcJ false)

def zfU (x_a0 : Str) (x_a1 : api_Message) (x_a2 : Str) : Option Bool :=
 (zlc).bind fun r3 =>
 if (!r3) then (some false) else ((zi1 x_a1).bind fun r8 =>
 (sTo x_a2 (min (x_a2.length : Int) 100)).bind fun s13 =>
 (zr 1 (s13.length : Int)).bind fun i15 =>
 (zhn x_a0 r8 65536 i15).bind fun r17 =>
 if (!(r17.2 == 0)) then (if (r17.1 == []) then ((zjF x_a0 r8).bind fun r22 =>
 if (!(r22 == 0)) then (zcI true) else (zcI (r17.2 == 3))) else (zcI false)) else (if (r8.Frame.Kind == 4) then (zbu x_a0 r8 r17 []) else (zbu x_a0 r8 r17 s13)))

end Go.Dm
end
section
namespace Go.Dm
theorem zsS (b : Bool) (v : Int) (k : Nat) (h : -1 ≤ v) : (if b = true then (k : Int) else if v = -1 then -1 else v + ((k + 1 : Nat) : Int)) =
  if (if b = true then 0 else if (v == -1) = true then -1 else v + 1) = -1 then -1 else (if b = true then 0 else if (v == -1) = true then -1 else v + 1) + (k : Int) := by
 cases b with
 | true => simp
 | false =>
  by_cases hm : v = -1
  ·subst hm; simp
  ·have h2 : ¬ (v + 1 = -1) := by omega
   have h3 : (v == -1) = false := beq_eq_false_iff_ne.2 hm;rw [h3];simp only [Bool.false_eq_true, if_false, if_neg hm, if_neg h2];omega
theorem zrw : ∀ (l : Str) (c : UInt8) (k : Nat), zj6 l c k = if Go.Lib.indexByte l c = -1 then -1 else Go.Lib.indexByte l c + k
 | [], _, _ => rfl
 | x :: l, c, k => by
  rw [zj6, Go.Lib.indexByte, zrw l c (k + 1)];exact zsS _ _ k (Go.Lib.indexByte_ge l c)
theorem zsT (x y : UInt8) : (x == y) = (y == x) := by
 by_cases h : x = y
 ·subst h; rfl
 ·rw [beq_eq_false_iff_ne.2 h, beq_eq_false_iff_ne.2 (Ne.symm h)]
theorem zsU : ∀ (s t : Str), zpp s t = t.isPrefixOf s
 | s, [] => by cases s <;> rfl
 | [], y :: t => rfl
 | x :: s, y :: t => by
  rw [zpp, List.isPrefixOf, zsU s t, zsT x y]
theorem zsV : ∀ (l t : Str) (k : Nat), zkz l t k = if Go.Lib.index l t = -1 then -1 else Go.Lib.index l t + k
 | [], t, k => by
  rw [zkz, Go.Lib.index];cases t <;> simp [zpp]
 | x :: l, t, k => by
  rw [zkz, Go.Lib.index, zsU];simp only [zsV l t (k + 1)];exact zsS _ _ k (Go.Lib.index_ge l t)
theorem zsW : ∀ (l cs : Str) (k : Nat), znD l cs k = if Go.Lib.indexAny l cs = -1 then -1 else Go.Lib.indexAny l cs + k
 | [], _, _ => rfl
 | x :: l, cs, k => by
  rw [znD, Go.Lib.indexAny, zsW l cs (k + 1)];exact zsS _ _ k (Go.Lib.indexAny_ge cs l)
theorem zwL (l : Str) (c : UInt8) : zj6 l c 0 = Go.Lib.indexByte l c := by
 rw [zrw]; have := Go.Lib.indexByte_ge l c; split <;> omega
theorem zsX (l t : Str) : zkz l t 0 = Go.Lib.index l t := by
 rw [zsV]; have := Go.Lib.index_ge l t; split <;> omega
theorem zx7 (l cs : Str) : znD l cs 0 = Go.Lib.indexAny l cs := by
 rw [zsW]; have := Go.Lib.indexAny_ge cs l; split <;> omega
end Go.Dm
end
section
namespace Go.Dm
@[simp] theorem zU (l : Str) (i : Nat) : sAt l (i : Int) = l[i]? := by simp [sAt]
@[simp] theorem ziC (l : Str) : sAt l 0 = l[0]? := by simp [sAt]
@[simp] theorem sAt_one (l : Str) : sAt l 1 = l[1]? := by simp [sAt]
@[simp] theorem sAt_two (l : Str) : sAt l 2 = l[2]? := by simp [sAt]
@[simp] theorem zY {α : Type} (l : List α) (i : Nat) : lAt l (i : Int) = l[i]? := by simp [lAt]
@[simp] theorem zn4 {α : Type} (l : List α) : lAt l 0 = l[0]? := by simp [lAt]
theorem zb1 {m n : Int} (h1 : -9223372036854775808 ≤ m + n) (h2 : m + n ≤ 9223372036854775807) : zr m n = some (m + n) := by simp [zr, inI, h1, h2]
theorem zaJ {m n : Int} (h1 : -9223372036854775808 ≤ m - n) (h2 : m - n ≤ 9223372036854775807) : zcu m n = some (m - n) := by simp [zcu, inI, h1, h2]
theorem zy7 {m n : Int} (h1 : -9223372036854775808 ≤ m * n) (h2 : m * n ≤ 9223372036854775807) : zvv m n = some (m * n) := by simp [zvv, inI, h1, h2]
theorem zi {i : Nat} (h : i < 4611686018427387904) : zr (i : Int) 1 = some ((i + 1 : Nat) : Int) := by
 rw [zb1 (by omega) (by omega)]; simp
theorem zn5 {i k : Nat} (h : i + k < 4611686018427387904) : zr (i : Int) (k : Int) = some ((i + k : Nat) : Int) := by
 rw [zb1 (by omega) (by omega)]; simp
theorem zc9 {l : Str} {h : Nat} (hh : h ≤ l.length) : sTo l (h : Int) = some (l.take h) := by simp [sTo, hh]
theorem z6 {l : Str} {i : Nat} (hh : i ≤ l.length) : zbh l (i : Int) = some (l.drop i) := by simp [zbh, hh]
theorem zeS {l : Str} {i h : Nat} (h1 : i ≤ h) (h2 : h ≤ l.length) : zhF l (i : Int) (h : Int) = some ((l.take h).drop i) := by simp [zhF, h1, h2]
theorem zZ {l m : Str} (h : l.length + m.length ≤ 9223372036854775807) : zdR l m = some (l ++ m) := by simp [zdR, h]
theorem zv9 {n : Nat} (h : n < 1000000000000000000) : n < fuel := h

theorem zvf {α β : Type} (l : List α) (L : Nat → Int → Option β) (F : α → Option β → Option β) (E : Option β)
  (hE : ∀ n, L (n + 1) (l.length : Int) = E) (hL : ∀ n (i : Nat) x, i < l.length → l[i]? = some x → L (n + 1) (i : Int) = F x (L n ((i + 1 : Nat) : Int))) :
  ∀ (n i : Nat), i ≤ l.length → l.length - i < n → L n (i : Int) = (l.drop i).foldr F E
 | 0, _, _, h => by omega
 | n + 1, i, hi, h => by
  by_cases hlt : i < l.length
  ·rw [hL n i _ hlt (List.getElem?_eq_getElem hlt), zvf l L F E hE hL n (i + 1) (by omega) (by omega), List.drop_eq_getElem_cons hlt];rfl
  ·have : i = l.length := by omega
   subst this;rw [hE, List.drop_length];rfl
theorem zkU {α β : Type} (l : List α) (L : Nat → Int → Option β) (F : α → Option β → Option β) (E : Option β) (hl : l.length < 1000000000000000000)
  (hE : ∀ n, L (n + 1) (l.length : Int) = E) (hL : ∀ n (i : Nat) x, i < l.length → l[i]? = some x → L (n + 1) (i : Int) = F x (L n ((i + 1 : Nat) : Int))) : L fuel 0 = l.foldr F E := by
 have := zvf l L F E hE hL fuel 0 (Nat.zero_le _) (zv9 (by omega));simpa using this
theorem zaX {n m b : Nat} (h : (n + m) * b ≤ 140737488355328) (h2 : n + m ≤ 140737488355328) : zC n m b = true := by
 simp only [zC, Bool.and_eq_true, decide_eq_true_eq]; exact ⟨by omega, h⟩

theorem zD (p : UInt8 → Bool) (h : (List.range 256).all (fun n => p (UInt8.ofNat n)) = true) (b : UInt8) : p b = true := by
 have := List.all_eq_true.1 h b.toNat (by simpa using b.toNat_lt);simpa using this
theorem zz2 {α : Type} (p : α → Bool) (l : List α) : l.foldr (fun x r => if p x = true then r else some false) (some true) = some (l.all p) := by
 induction l with
 | nil => rfl
 | cons x l ih => simp only [List.foldr_cons, ih, List.all_cons]; cases p x <;> simp
theorem zCf {α : Type} (p : α → Bool) (l : List α) : l.foldr (fun x r => if p x = true then some true else r) (some false) = some (l.any p) := by
 induction l with
 | nil => rfl
 | cons x l ih => simp only [List.foldr_cons, ih, List.any_cons]; cases p x <;> simp
theorem zqv (s : Str) (k : Nat) : sTo s (min (s.length : Int) (k : Int)) = some (s.take k) := by
 have e : min (s.length : Int) (k : Int) = ((min s.length k : Nat) : Int) := by omega
 rw [e, zc9 (Nat.min_le_left _ _)]
 congr 1
 rcases Nat.le_total s.length k with h | h
 ·rw [Nat.min_eq_left h, List.take_length, List.take_of_length_le h]
 ·rw [Nat.min_eq_right h]
end Go.Dm
end
section
namespace Go.Dm
def zL (b : UInt8) : Bool := decide (48 ≤ b) && decide (b ≤ 57)
def zfh (b : UInt8) : UInt8 := if 65 ≤ b ∧ b ≤ 90 then b + 32 else b
def zCg (b : UInt8) : Bool := decide (97 ≤ zfh b) && decide (zfh b ≤ 122)
def zfQ (b : UInt8) : Bool := zL b || decide (97 ≤ zfh b) && decide (zfh b ≤ 102)
def zlz (b : UInt8) : Bool := zCg b || zL b || ([45, 46, 95, 126] : Str).contains b
def zuv (b : UInt8) : Bool := ([33, 36, 38, 39, 40, 41, 42, 43, 44, 59, 61] : Str).contains b
def zqw (b : UInt8) : Bool := zlz b || zuv b || b == 58 || b == 64

theorem zyz (l : Str) (c : UInt8) (k : Nat) : decide (0 ≤ zj6 l c k) = l.contains c := by
 induction l generalizing k with
 | nil => simp [zj6]
 | cons x l ih =>
  simp only [zj6, List.contains_cons]
  by_cases h : x = c
  ·simp [h]
  ·have h' : (c == x) = false := by simp; exact fun e => h e.symm
   simp [h, h', ih]
theorem ztQ (b : UInt8) : za1 b = some (zfh b) :=
 of_decide_eq_true (zD (fun b => decide (za1 b = some (zfh b))) (by decide +kernel) b)
theorem zi8 (b : UInt8) : zac b = some (zL b) :=
 of_decide_eq_true (zD (fun b => decide (zac b = some (zL b))) (by decide +kernel) b)
theorem zgK (b : UInt8) : zaL b = some (zfQ b) :=
 of_decide_eq_true (zD (fun b => decide (zaL b = some (zfQ b))) (by decide +kernel) b)
theorem zr6 (b : UInt8) : zib b = some (zqw b) :=
 of_decide_eq_true (zD (fun b => decide (zib b = some (zqw b))) (by decide +kernel) b)
theorem ztR (b : UInt8) : zeV b = some (zL b) :=
 of_decide_eq_true (zD (fun b => decide (zeV b = some (zL b))) (by decide +kernel) b)
theorem zmI (b : UInt8) : zgZ b = some (zfQ b) :=
 of_decide_eq_true (zD (fun b => decide (zgZ b = some (zfQ b))) (by decide +kernel) b)
theorem zuw (b : UInt8) : zkH b = some (zqw b) :=
 of_decide_eq_true (zD (fun b => decide (zkH b = some (zqw b))) (by decide +kernel) b)

theorem zwa (b : UInt8) (l : Str) : l.any (fun x => x == b) = l.contains b := by
 induction l with
 | nil => rfl
 | cons x l ih =>
  simp only [List.any_cons, List.contains_cons, ih]
  congr 1
  rw [Bool.eq_iff_iff, beq_iff_eq, beq_iff_eq]; exact eq_comm
theorem zxB (b : UInt8) (l : Str) (hl : l.length < 1000000000) : zho b l = some (l.contains b) := by
 unfold zho;rw [zkU l (zgg b l) (fun x r => if (x == b) = true then some true else r) (some false) (by omega)]
 ·rw [zCf, zwa]
 ·intro n; rw [zgg]; simp only [Int.lt_irrefl, decide_false, Bool.false_eq_true, if_false]
 ·intro n i x hi hx;rw [zgg];simp only [Int.ofNat_lt, hi, decide_true, if_true, zU, hx, yob, zi (show i < 4611686018427387904 by omega)]

theorem zdg {p : UInt8 → Bool} {f : UInt8 → Option Bool} (hf : ∀ b, f b = some (p b)) (s : Str) (hs : s.length < 1000000000) : zdH f [s] = some (s.all p) := by
 unfold zdH
 have h2 : ∀ (rec1 : Int → Option Bool) (i : Int), zdV rec1 f i s fuel 0 = s.foldr (fun x r => if p x = true then r else some false) ((zr i 1).bind rec1) := by
  intro rec1 i;refine zkU s (zdV rec1 f i s) _ _ (by omega) ?_ ?_
  ·intro n; rw [zdV]; simp only [Int.lt_irrefl, decide_false, Bool.false_eq_true, if_false]
  ·intro n k x hk hx;rw [zdV];simp only [Int.ofNat_lt, hk, decide_true, if_true, zU, hx, yob, hf, zi (show k < 4611686018427387904 by omega)];cases p x <;> rfl
 rw [zkU [s] (zdW f [s]) (fun x r => x.foldr (fun x r => if p x = true then r else some false) r) (some true) (by simp)]
 ·simp only [List.foldr_cons, List.foldr_nil];exact zz2 p s
 ·intro n; rw [zdW]; simp only [Int.lt_irrefl, decide_false, Bool.false_eq_true, if_false]
 ·intro n i x hi hx
  have hi0 : i = 0 := by simp at hi; exact hi
  subst hi0;simp at hx; subst hx;rw [zdW];simp [h2, zb1]
def zbx (b : UInt8) : Bool := zCg b || zL b || ([33, 35, 36, 37, 38, 39, 42, 43, 45, 46, 94, 95, 96, 124, 126] : Str).contains b
def zek (b : UInt8) : Bool := decide (32 ≤ b) && !(b == 127) || b == 9
theorem zl5 (b : UInt8) : zda b = some (zbx b) :=
 of_decide_eq_true (zD (fun b => decide (zda b = some (zbx b))) (by decide +kernel) b)
theorem zg5 (b : UInt8) : zaQ b = some (zek b) :=
 of_decide_eq_true (zD (fun b => decide (zaQ b = some (zek b))) (by decide +kernel) b)
theorem znc (b : UInt8) : zb9 b = some (zlz b) :=
 of_decide_eq_true (zD (fun b => decide (zb9 b = some (zlz b))) (by decide +kernel) b)
theorem ztS (b : UInt8) : zhP b = some (zuv b) :=
 of_decide_eq_true (zD (fun b => decide (zhP b = some (zuv b))) (by decide +kernel) b)
theorem zwb (b : UInt8) : zlT b = some (zbx b) :=
 of_decide_eq_true (zD (fun b => decide (zlT b = some (zbx b))) (by decide +kernel) b)
theorem ziD (b : UInt8) : zgs b = some (zek b) :=
 of_decide_eq_true (zD (fun b => decide (zgs b = some (zek b))) (by decide +kernel) b)
theorem zoE (b : UInt8) : zdk b = some (zlz b) :=
 of_decide_eq_true (zD (fun b => decide (zdk b = some (zlz b))) (by decide +kernel) b)
theorem zwc (b : UInt8) : zkd b = some (zuv b) :=
 of_decide_eq_true (zD (fun b => decide (zkd b = some (zuv b))) (by decide +kernel) b)
theorem zo3 {α : Type} (p : α → Bool) (l : List α) (e : Bool) : l.foldr (fun x r => if p x = true then r else some false) (some e) = some (l.all p && e) := by
 induction l with
 | nil => simp
 | cons x l ih => simp only [List.foldr_cons, ih, List.all_cons]; cases p x <;> simp
def zem (s : Str) : Bool := s.all zbx && !(s == [])
theorem zkV (s : Str) (hs : s.length < 1000000000) : zeW s = some (zem s) := by
 unfold zeW;rw [zkU s (zdy s) (fun x r => if zbx x = true then r else some false) (some (!(s == []))) (by omega)]
 ·rw [zo3]; rfl
 ·intro n; rw [zdy]; simp only [Int.lt_irrefl, decide_false, Bool.false_eq_true, if_false];cases s <;> simp
 ·intro n i x hi hx;rw [zdy];simp only [Int.ofNat_lt, hi, decide_true, if_true, zU, hx, yob, zwb, zi (show i < 4611686018427387904 by omega)];cases zbx x <;> rfl
theorem zn6 (s : Str) (hs : s.length < 1000000000) : zhT s = some (zem s) := by
 unfold zhT zem;rw [zdg zl5 s hs];cases s <;> simp [zf9]
end Go.Dm
end
section
namespace Go.Dm
def zbg (b : Nat) (l : List Nat) : Nat := l.foldl (fun n d => n * b + d) 0
theorem zu9 (b : Nat) (l : List Nat) : ∀ n, l.foldl (fun n d => n * b + d) n = n * b ^ l.length + zbg b l := by
 unfold zbg
 induction l with
 | nil => intro n; simp
 | cons x l ih =>
  intro n;rw [List.foldl_cons, ih, List.foldl_cons, ih (0 * b + x), ylc, Nat.pow_succ, Nat.add_mul, Nat.zero_mul, Nat.zero_add, Nat.mul_assoc, Nat.mul_comm b, Nat.add_assoc]
theorem zB9 (b : Nat) : zbg b [] = 0 := rfl
theorem zke (b x : Nat) (l : List Nat) : zbg b (x :: l) = x * b ^ l.length + zbg b l := by
 have := zu9 b l (0 * b + x);rw [Nat.zero_mul, Nat.zero_add] at this;rw [← this]; unfold zbg; rw [List.foldl_cons, Nat.zero_mul, Nat.zero_add]
theorem zre (b x : Nat) (l : List Nat) : zbg b (l ++ [x]) = zbg b l * b + x := by
 unfold zbg; rw [List.foldl_append]; rfl
theorem zsf {b : Nat} (hb : 0 < b) : ∀ {l : List Nat}, (∀ d ∈ l, d < b) → zbg b l < b ^ l.length
 | [], _ => by simp [zbg]
 | x :: l, h => by
  have h1 := h x (List.mem_cons_self ..);have h2 := zsf hb (l := l) fun d hd => h d (List.mem_cons_of_mem _ hd);rw [zke, ylc, Nat.pow_succ];have : (x + 1) * b ^ l.length ≤ b * b ^ l.length := Nat.mul_le_mul_right _ h1;rw [Nat.add_mul, Nat.one_mul] at this;rw [Nat.mul_comm (b ^ l.length) b]; omega
def ziM (b : Nat) : Nat → Nat → List Nat
 | 0, n => [n % b]
 | k + 1, n => if n < b then [n] else ziM b k (n / b) ++ [n % b]
def digs (b n : Nat) : List Nat := ziM b 70 n
theorem zpz {b n k : Nat} (hb : 2 ≤ b) (h : n < 2 ^ (k + 1)) : n / b < 2 ^ k := by
 rw [Nat.div_lt_iff_lt_mul (by omega)]
 calc n < 2 ^ (k + 1) := h
  _ = 2 ^ k * 2 := Nat.pow_succ ..
  _ ≤ 2 ^ k * b := Nat.mul_le_mul_left _ hb
theorem zpA {b : Nat} (hb : 2 ≤ b) : ∀ (k m n : Nat), k ≤ m → n < 2 ^ (k + 1) → ziM b m n = ziM b k n
  | 0, 0, n, _, _ => rfl
  | 0, m + 1, n, _, h => by
    have hn : n < b := by have : n < 2 := by simpa using h
                          omega
    show ziM b (m + 1) n = [n % b];rw [ziM, if_pos hn, Nat.mod_eq_of_lt hn]
  | k + 1, 0, n, h, _ => by omega
  | k + 1, m + 1, n, hm, h => by
    rw [ziM, ziM]
    split
    · rfl
    · rw [zpA hb k m (n / b) (by omega) (zpz hb h)]
theorem zl2 {b n : Nat} (hb : 2 ≤ b) (hn : b ≤ n) (h : n < 2 ^ 64) : digs b n = digs b (n / b) ++ [n % b] := by
 have h1 := zpA hb 64 70 n (by decide) (Nat.lt_of_lt_of_le h (Nat.pow_le_pow_right (by decide) (by decide)));have h2 := zpA hb 63 70 (n / b) (by decide) (zpz hb (Nat.lt_of_lt_of_le h (Nat.pow_le_pow_right (by decide) (by decide))));unfold digs;rw [h1, h2, ziM, if_neg (by omega)]
theorem zff {b n : Nat} (hn : n < b) : digs b n = [n] := by unfold digs; rw [ziM, if_pos hn]
theorem zqp {b : Nat} (hb : 2 ≤ b) {P : Nat → Prop} (h0 : ∀ n, n < b → P n) (h1 : ∀ n, b ≤ n → n < 2 ^ 64 → P (n / b) → P n) : ∀ n, n < 2 ^ 64 → P n := by
 intro n
 induction n using Nat.strongRecOn with
 | _ n ih =>
  intro hn
  by_cases h : n < b
  ·exact h0 n h
  ·have : n / b < n := Nat.div_lt_self (by omega) (by omega);exact h1 n (by omega) hn (ih _ this (by omega))
theorem ztB {b : Nat} (hb : 2 ≤ b) : ∀ n, n < 2 ^ 64 → zbg b (digs b n) = n :=
 zqp hb (fun n h => by rw [zff h]; simp [zbg]) fun n h hn ih => by
  rw [zl2 hb h hn, zre, ih, Nat.mul_comm]; exact Nat.div_add_mod n b
theorem zsg {b : Nat} (hb : 2 ≤ b) : ∀ n, n < 2 ^ 64 → ∀ d ∈ digs b n, d < b :=
 zqp hb (fun n h d hd => by rw [zff h] at hd; simp at hd; omega) fun n h hn ih d hd => by
  rw [zl2 hb h hn] at hd
  rcases List.mem_append.1 hd with hd | hd
  ·exact ih d hd
  ·simp at hd; subst hd; exact Nat.mod_lt _ (by omega)
theorem zsh {b n : Nat} : digs b n ≠ [] := by
 unfold digs; rw [ziM]; split <;> simp
theorem zva {b : Nat} (hb : 2 ≤ b) : ∀ n, n < 2 ^ 64 → n = 0 ∨ (digs b n).head? ≠ some 0 :=
 zqp hb (fun n h => by
  rw [zff h]; by_cases e : n = 0
  ·exact .inl e
  ·exact .inr (by simpa using e)) fun n h hn ih => by
  right
  rw [zl2 hb h hn]
  rcases ih with h0 | h0
  ·have : b ≤ n := h;have : 0 < n / b := Nat.div_pos h (by omega);omega
  ·cases hd : digs b (n / b) with
   | nil => exact absurd hd zsh
   | cons x l => rw [hd] at h0; simpa using h0
theorem ztC {b : Nat} (hb : 2 ≤ b) : ∀ n, n < 2 ^ 64 → (digs b n).length ≤ 71 := by
  have : ∀ k n, (ziM b k n).length ≤ k + 1 := by
    intro k
    induction k with
    | zero => intro n; simp [ziM]
    | succ k ih => intro n; rw [ziM]; split
                   · simp
                   · simp; exact ih _
  intro n _; exact this 70 n
def ztD : List Nat → List Nat → Bool
 | _, [] => false
 | [], _ :: _ => true
 | x :: l, y :: m => decide (x < y) || (x == y && ztD l m)
theorem zy4 {b : Nat} (hb : 0 < b) : ∀ (l m : List Nat), l.length = m.length → (∀ d ∈ l, d < b) → (∀ d ∈ m, d < b) → ztD l m = decide (zbg b l < zbg b m)
 | [], [], _, _, _ => by simp [ztD]
 | [], _ :: _, h, _, _ => by simp at h
 | _ :: _, [], h, _, _ => by simp at h
 | x :: l, y :: m, h, hl, hm => by
  have e : l.length = m.length := by simpa using h
  have h1 := zsf hb (l := l) fun d hd => hl d (List.mem_cons_of_mem _ hd);have h2 := zsf hb (l := m) fun d hd => hm d (List.mem_cons_of_mem _ hd);rw [ztD, zy4 hb l m e (fun d hd => hl d (List.mem_cons_of_mem _ hd)) (fun d hd => hm d (List.mem_cons_of_mem _ hd)), zke, zke, e];rw [e] at h1
  rcases Nat.lt_trichotomy x y with hxy | hxy | hxy
  ·have : (x + 1) * b ^ m.length ≤ y * b ^ m.length := Nat.mul_le_mul_right _ hxy;rw [Nat.add_mul, Nat.one_mul] at this
   have h3 : x * b ^ m.length + zbg b l < y * b ^ m.length + zbg b m := by omega
   simp [hxy, h3]
  ·subst hxy; simp
  ·have : (y + 1) * b ^ m.length ≤ x * b ^ m.length := Nat.mul_le_mul_right _ hxy;rw [Nat.add_mul, Nat.one_mul] at this
   have h3 : ¬ x * b ^ m.length + zbg b l < y * b ^ m.length + zbg b m := by omega
   have h4 : ¬ x < y := by omega
   have h5 : (x == y) = false := beq_eq_false_iff_ne.2 (by omega);simp [h3, h4, h5]
def dch (d : Nat) : UInt8 := if d < 10 then UInt8.ofNat (48 + d) else UInt8.ofNat (87 + d)
def zk (l : List Nat) : Str := l.map dch
def wor (c : UInt8) : Nat := if zL c then (c - 48).toNat else (zfh c - 97).toNat + 10
def zkR (b : Nat) (c : UInt8) : Bool := if b = 10 then zL c else zfQ c
theorem zrf : ∀ d : Nat, d < 16 → (wor (dch d) = d ∧ zfQ (dch d) = true ∧ (d < 10 → zL (dch d) = true)) := by decide
theorem dch_lt : ∀ d : Nat, d < 16 → ∀ e : Nat, e < 16 → (decide (dch d < dch e) = decide (d < e) ∧ (dch d == dch e) = (d == e)) := by decide
theorem zrN : ∀ (l m : List Nat), (∀ d ∈ l, d < 16) → (∀ d ∈ m, d < 16) → zsY (zk l) (zk m) = ztD l m
 | [], [], _, _ => rfl
 | [], _ :: _, _, _ => rfl
 | _ :: _, [], _, _ => rfl
 | x :: l, y :: m, hl, hm => by
  have ih := zrN l m (fun d hd => hl d (List.mem_cons_of_mem _ hd)) (fun d hd => hm d (List.mem_cons_of_mem _ hd));obtain ⟨h1, h2⟩ := dch_lt x (hl x (List.mem_cons_self ..)) y (hm y (List.mem_cons_self ..));show (decide (dch x < dch y) || (dch x == dch y && zsY (zk l) (zk m))) = _;rw [h1, h2, ih, ztD]
theorem zrg (b : UInt8) : zhe b = some (wor b : Int) :=
 of_decide_eq_true (zD (fun b => decide (zhe b = some (wor b : Int))) (by decide +kernel) b)
theorem zCa (c : UInt8) : (zL c = true → wor c < 10) ∧ (zfQ c = true → wor c < 16) :=
 of_decide_eq_true (zD (fun c => decide ((zL c = true → wor c < 10) ∧ (zfQ c = true → wor c < 16))) (by decide +kernel) c)
theorem ztE (c : UInt8) (b : Int) (n : Nat) {i : Int} (hn : n ≤ fuel) (h : (zF c b n i).isSome = true) : zF c b fuel i = zF c b n i := by
 obtain ⟨k, hk⟩ : ∃ k, fuel = n + k := ⟨fuel - n, by omega⟩;rw [hk]
 clear hk hn
 induction n generalizing i with
 | zero => simp [zF] at h
 | succ n ih =>
  rw [Nat.add_right_comm, zF, zF];rw [zF] at h
  split
  ·rename_i hlt
   rw [if_pos hlt] at h
   cases hs : sAt [48, 49, 50, 51, 52, 53, 54, 55, 56, 57, 97, 98, 99, 100, 101, 102] i with
   | none => rfl
   | some x =>
    rw [hs] at h;simp only [yob] at h ⊢
    split
    ·rfl
    ·rename_i hne
     rw [if_neg hne] at h
     cases hs2 : sAt [48, 49, 50, 51, 52, 53, 54, 55, 56, 57, 65, 66, 67, 68, 69, 70] i with
     | none => rfl
     | some y =>
      rw [hs2] at h;simp only [yob, zgh] at h ⊢
      split
      ·rfl
      ·rename_i hne2
       rw [if_neg hne2] at h
       cases hi : zr i 1 with
       | none => rfl
       | some j => rw [hi] at h; exact ih h
  ·rfl
theorem ztF (c : UInt8) : zd4 c 10 = some (if zL c then (wor c : Int) else -1) := by
 have h1 : zF c 10 20 0 = some (if zL c then (wor c : Int) else -1) := of_decide_eq_true (zD (fun c => decide (zF c 10 20 0 = some (if zL c then (wor c : Int) else -1))) (by decide +kernel) c);unfold zd4;rw [← h1];exact ztE c 10 20 (by decide) (by rw [h1]; rfl)
theorem ztG (c : UInt8) : zd4 c 16 = some (if zfQ c then (wor c : Int) else -1) := by
 have h1 : zF c 16 20 0 = some (if zfQ c then (wor c : Int) else -1) := of_decide_eq_true (zD (fun c => decide (zF c 16 20 0 = some (if zfQ c then (wor c : Int) else -1))) (by decide +kernel) c);unfold zd4;rw [← h1];exact ztE c 16 20 (by decide) (by rw [h1]; rfl)
def ziz (b : Nat) : Prop := b = 10 ∨ b = 16
theorem ziz.two {b : Nat} (h : ziz b) : 2 ≤ b ∧ b ≤ 16 := by rcases h with rfl | rfl <;> omega
theorem znY {b : Nat} (hb : ziz b) (c : UInt8) : zd4 c (b : Int) = some (if zkR b c then (wor c : Int) else -1) := by
 rcases hb with rfl | rfl
 ·exact ztF c
 ·exact ztG c
theorem ztH {b : Nat} (hb : ziz b) {c : UInt8} (h : zkR b c = true) : wor c < b := by
 rcases hb with rfl | rfl
 ·exact (zCa c).1 h
 ·exact (zCa c).2 h
theorem ztI : ∀ d : Nat, d < 16 → zhF [48, 49, 50, 51, 52, 53, 54, 55, 56, 57, 97, 98, 99, 100, 101, 102] (d : Int) ((d + 1 : Nat) : Int) = some [dch d] := by decide
theorem zxq {b : Nat} (hb : ziz b) : ∀ (k m n : Nat), k ≤ m → n < 2 ^ (k + 1) → k < 63 → zcC (m + 1) (n : Int) (b : Int) = some (zk (digs b n)) := by
  obtain ⟨h2, h16⟩ := hb.two;intro k
  induction k with
  | zero =>
    intro m n _ h _
    have hn : n < b := by have : n < 2 := by simpa using h
                          omega
    rw [zcC, zff hn];simp only [Int.ofNat_lt, hn, decide_true, if_true, zi (show n < 4611686018427387904 by omega), yob, ztI n (by omega)];rfl
  | succ k ih =>
    intro m n hm h hk;obtain ⟨m, rfl⟩ : ∃ j, m = j + 1 := ⟨m - 1, by omega⟩;have hbig : n < 2 ^ 64 := Nat.lt_of_lt_of_le h (Nat.pow_le_pow_right (by decide) (by omega))
    have hq : ∀ q : Nat, q ≤ n → inI (q : Int) = true := fun q hq => zjb.2 (by
      have : n < 2 ^ 63 := Nat.lt_of_lt_of_le h (Nat.pow_le_pow_right (by decide) (by omega))
      omega)
    rw [zcC]
    by_cases hn : n < b
    · rw [zff hn]
      simp only [Int.ofNat_lt, hn, decide_true, if_true, zi (show n < 4611686018427387904 by omega), yob, ztI n (by omega)];rfl
    · have e1 : zvw (n : Int) (b : Int) = some ((n / b : Nat) : Int) := by
        unfold zvw;rw [if_pos ⟨by omega, by omega, by rw [← Int.natCast_ediv]; exact hq _ (Nat.div_le_self n b)⟩, Int.natCast_ediv]
      have e2 : zx8 (n : Int) (b : Int) = some ((n % b : Nat) : Int) := by
        unfold zx8;rw [if_pos ⟨by omega, by omega, by rw [← Int.natCast_emod]; exact hq _ (Nat.mod_le n b)⟩, Int.natCast_emod]
      have hlt : n % b < b := Nat.mod_lt _ (by omega);have hlen := ztC h2 (n / b) (by have := Nat.div_le_self n b; omega)
      have hn' : ¬ decide ((n : Int) < (b : Int)) = true := by simp; omega
      have e3 := ih m (n / b) (by omega) (zpz h2 h) (by omega);have e4 := ztI (n % b) (by omega);have e5 := zi (i := n % b) (by omega);have e6 := zl2 h2 (show b ≤ n by omega) hbig
      generalize n / b = q at *
      generalize n % b = r at *
      have e7 : zdR (zk (digs b q)) [dch r] = some (zk (digs b q) ++ [dch r]) := zZ (by simp [zk]; omega);rw [if_neg hn', e1, yob, e3, yob, e2, yob, yob, e5, yob, e4, yob, e7, yob, e6];simp [zk]
theorem zjW {b : Nat} (hb : ziz b) (n : Nat) (hn : n < 2 ^ 63) : zfc (n : Int) (b : Int) = some (zk (digs b n)) := by
 unfold zfc;obtain ⟨m, hm⟩ : ∃ m, fuel = m + 1 := ⟨999999999999999999, rfl⟩;rw [hm];exact zxq hb 62 m n (by unfold fuel at hm; omega) (by omega) (by omega)
def ziN (b : Nat) (n : Int) : Str := if n < 0 then [] else zk (digs b n.toNat)
theorem zlw {b : Nat} (hb : ziz b) (n : Int) (hn : inI n = true) : zhK n (b : Int) = some (ziN b n) := by
 obtain ⟨h1, h2⟩ := zjb.1 hn;unfold zhK ziN
 by_cases h : n < 0
 ·simp [h]
 ·obtain ⟨k, rfl⟩ : ∃ k : Nat, n = k := ⟨n.toNat, by omega⟩;simp [h, zjW hb k (by omega)]
theorem dec_eq : ∀ n, n < 2 ^ 64 → Go.Lib.decDigits n = zk (digs 10 n) :=
 zqp (b := 10) (by decide) (fun n h => by rw [Go.Lib.decDigits, dif_pos h, zff h]; simp [zk, dch, h]) fun n h hn ih => by
  rw [Go.Lib.decDigits, dif_neg (by omega), ih, zl2 (by decide) h hn];have : n % 10 < 10 := Nat.mod_lt _ (by decide);simp [zk, dch, this]
theorem zjX (n : Int) (hn : inI n = true) : ze5 n = some (ziN 10 n) := by
 obtain ⟨h1, h2⟩ := zjb.1 hn;unfold ze5 zgQ ziN
 by_cases h : n < 0
 ·simp [h]
 ·obtain ⟨k, rfl⟩ : ∃ k : Nat, n = k := ⟨n.toNat, by omega⟩
  have hk : ¬ ((k : Int) < 0) := by omega
  simp [hk, zdT, hn, Go.Lib.itoa, dec_eq k (by omega)]
def vals (s : Str) : List Nat := s.map wor
def zN (b : Nat) (s : Str) (most : Int) : Int × Int :=
 if (s == [] || !s.all (zkR b)) = true then (0, 2) else if most < (zbg b (vals s) : Int) then (0, 7) else (((zbg b (vals s) : Nat) : Int), 0)
theorem zDA {b : Nat} (hb : ziz b) {s : Str} (h : s.all (zkR b) = true) : ∀ d ∈ vals s, d < b := by
 intro d hd;obtain ⟨c, hc, rfl⟩ := List.mem_map.1 hd;exact ztH hb (List.all_eq_true.1 h c hc)
theorem zvb {b : Nat} (hb : 1 ≤ b) (l m : List Nat) : zbg b l ≤ zbg b (l ++ m) := by
 unfold zbg;rw [List.foldl_append];generalize l.foldl (fun n d => n * b + d) 0 = n;rw [zu9];have : 1 ≤ b ^ m.length := Nat.one_le_pow _ _ hb;have := Nat.le_mul_of_pos_right n this;omega
theorem zyy {b : Nat} (hb : ziz b) (s : Str) (most : Int) (hs : s.length < 1000000000) (hd : s.all (zkR b) = true) (hm : most < 4611686018427387904) (hm0 : -4611686018427387904 < most) (hne : s ≠ []) :
  zbf s (b : Int) most fuel 0 0 = some (if most < (zbg b (vals s) : Int) then (0, 7) else (((zbg b (vals s) : Nat) : Int), 0)) := by
 obtain ⟨h2, h16⟩ := hb.two
 have key : ∀ (n i v : Nat), i ≤ s.length → s.length - i < n → v = zbg b (vals (s.take i)) → (i = 0 ∨ (v : Int) ≤ most) → (i < s.length ∨ (v : Int) ≤ most) →
   zbf s (b : Int) most n (v : Int) (i : Int) = some (if most < (zbg b (vals s) : Int) then (0, 7) else (((zbg b (vals s) : Nat) : Int), 0)) := by
  intro n
  induction n with
  | zero => intro i v _ h; omega
  | succ n ih =>
   intro i v hi h hv h0 h1;rw [zbf]
   by_cases hlt : i < s.length
   ·have hx : s[i]? = some s[i] := ygg hlt;have hw : wor s[i] < b := ztH hb (List.all_eq_true.1 hd _ (ygm hlt))
    have htk : vals (s.take (i + 1)) = vals (s.take i) ++ [wor s[i]] := by
     unfold vals;rw [List.take_succ_eq_append_getElem hlt, List.map_append]; rfl
    have hv' : zbg b (vals (s.take (i + 1))) = v * b + wor s[i] := by rw [htk, zre, ← hv]
    have hle : zbg b (vals (s.take (i + 1))) ≤ zbg b (vals s) := by
     have := zvb (b := b) (by omega) (vals (s.take (i + 1))) (vals (s.drop (i + 1)));unfold vals at this ⊢
     rwa [← List.map_append, List.take_append_drop] at this
    simp only [Int.ofNat_lt, hlt, decide_true, if_true, zU, hx, yob, zrg]
    by_cases hov : most < (wor s[i] : Int)
    ·have : most < (zbg b (vals s) : Int) := by
      have := yz (v * b); omega
     simp [hov, zdI, this]
    ·have hsub : zcu most (wor s[i] : Int) = some (most - (wor s[i] : Int)) := zaJ (by omega) (by omega)
     have hdv : zvw (most - (wor s[i] : Int)) (b : Int) = some ((most - (wor s[i] : Int)) / (b : Int)) := by
      unfold zvw;have h5 : 0 ≤ (most - (wor s[i] : Int)) / (b : Int) := Int.ediv_nonneg (by omega) (by omega);have h6 : (most - (wor s[i] : Int)) / (b : Int) ≤ most - (wor s[i] : Int) := Int.ediv_le_self _ (by omega);rw [if_pos ⟨by omega, by omega, by rw [zjb]; omega⟩]
     have hiff : (most - (wor s[i] : Int)) / (b : Int) < (v : Int) ↔ most < ((v * b + wor s[i] : Nat) : Int) := by
      rw [Int.ediv_lt_iff_lt_mul (by omega)]
      push_cast
      omega
     simp only [hov, decide_false, Bool.false_eq_true, if_false, hsub, hdv, yob, zdI]
     by_cases hov2 : (most - (wor s[i] : Int)) / (b : Int) < (v : Int)
     ·have h7 : most < (zbg b (vals s) : Int) := by have := hiff.1 hov2; omega
      simp [hov2, h7]
     ·have h7 : ((v * b + wor s[i] : Nat) : Int) ≤ most := by have := (not_congr hiff).1 hov2; omega
      have hmul : zvv (v : Int) (b : Int) = some ((v * b : Nat) : Int) := by
       rw [zy7 (by rw [← Int.natCast_mul]; omega) (by rw [← Int.natCast_mul]; omega), Int.natCast_mul]
      have hadd : zr ((v * b : Nat) : Int) (wor s[i] : Int) = some ((v * b + wor s[i] : Nat) : Int) := by
       rw [zb1 (by omega) (by omega)]; simp
      simp only [hov2, decide_false, Bool.false_eq_true, if_false, hmul, hadd, yob, zi (show i < 4611686018427387904 by omega)];exact ih (i + 1) (v * b + wor s[i]) (by omega) (by omega) hv'.symm (.inr h7) (.inr h7)
   ·have : i = s.length := by omega
    subst this;rw [List.take_length] at hv
    have h8 : ¬ most < (zbg b (vals s) : Int) := by rw [← hv]; rcases h1 with h1 | h1 <;> omega
    simp [h8, hv]
 have := key fuel 0 0 (yz _) (by unfold fuel; omega) (by simp [vals, zbg]) (.inl rfl) (.inl (by cases s with | nil => exact absurd rfl hne | cons _ _ => simp));simpa using this
theorem zm1 {b : Nat} (hb : ziz b) (s : Str) (most : Int) (hs : s.length < 1000000000) (hm : most < 4611686018427387904) (hm0 : -4611686018427387904 < most) {f : UInt8 → Option Bool} (hf : ∀ c, f c = some (zkR b c)) :
  zgP s (b : Int) most f = some (zN b s most) := by
 unfold zgP zN
 rcases zdn (s == []) with h | h
 ·rw [h]; simp [zdJ]
 ·rw [h];rw [zdg hf s hs];simp only [Bool.false_eq_true, if_false, yob, zdJ, Bool.false_or]
  rcases zdn (s.all (zkR b)) with h2 | h2
  ·rw [h2];simp only [ynt, Bool.false_eq_true, if_false];exact zyy hb s most hs h2 hm hm0 (by simpa using h)
  ·rw [h2]; simp
theorem zfg (s : Str) (most : Int) (hs : s.length < 1000000000) (hm : most < 4611686018427387904) (hm0 : -4611686018427387904 < most) : zbU s most = some (zN 10 s most) := by
 unfold zbU;have := zm1 (.inl rfl) s most hs hm hm0 (f := zac) zi8;rw [show ((10 : Nat) : Int) = 10 from rfl] at this;rw [this]; rfl
theorem ztJ (s : Str) (most : Int) (hs : s.length < 1000000000) (hm : most < 4611686018427387904) (hm0 : -4611686018427387904 < most) : zjv s most = some (zN 16 s most) := by
 unfold zjv;have := zm1 (.inr rfl) s most hs hm hm0 (f := zaL) zgK;rw [show ((16 : Nat) : Int) = 16 from rfl] at this;rw [this]; rfl
def zjI : List Nat → List Nat
 | 0 :: l => zjI l
 | l => l
theorem zrh (b : Nat) : ∀ l, zbg b (zjI l) = zbg b l
 | [] => rfl
 | 0 :: l => by rw [zjI, zrh b l, zke, Nat.zero_mul, Nat.zero_add]
 | (n + 1) :: l => rfl
theorem ztK : ∀ l, (zjI l).head? ≠ some 0
 | [] => by simp [zjI]
 | 0 :: l => by rw [zjI]; exact ztK l
 | (n + 1) :: l => by simp [zjI]
theorem zvc : ∀ {l : List Nat} {d : Nat}, d ∈ zjI l → d ∈ l
 | [], _, h => h
 | 0 :: l, d, h => by rw [zjI] at h; exact List.mem_cons_of_mem _ (zvc h)
 | (n + 1) :: l, _, h => h
theorem zvd : ∀ l, (zjI l).length ≤ l.length
 | [] => Nat.le_refl _
 | 0 :: l => by rw [zjI]; have := zvd l; simp; omega
 | (n + 1) :: l => Nat.le_refl _
def zjJ (l : List Nat) : List Nat := if zjI l = [] then [0] else zjI l
theorem zCb {b : Nat} (hb : ziz b) (s : Str) (hs : s.length < 1000000000) :
  zjx s (b : Int) = some (if s.all (zkR b) then (zk (zjJ (vals s)), !(s == [])) else ([], false)) := by
 obtain ⟨h2, h16⟩ := hb.two;unfold zjx
 have key : ∀ (n i : Nat) (acc : List Nat), i ≤ s.length → s.length - i < n → acc.length ≤ i → (acc = [] ∨ acc.head? ≠ some 0) →
   zbH s (b : Int) n (zk acc) (i : Int) = some (if (s.drop i).all (zkR b) then (zk (if acc = [] then zjJ (vals (s.drop i)) else acc ++ vals (s.drop i)), !(s == [])) else ([], false)) := by
  intro n
  induction n with
  | zero => intro i acc _ h; omega
  | succ n ih =>
   intro i acc hi h ha h0;rw [zbH]
   by_cases hlt : i < s.length
   ·have hx : s[i]? = some s[i] := ygg hlt;rw [ydg hlt];generalize hc : s[i] = c at hx ⊢;simp only [Int.ofNat_lt, hlt, decide_true, if_true, zU, hx, yob, znY hb, List.all_cons]
    rcases zdn (zkR b c) with hdg | hdg
    ·have hw := ztH hb hdg
     have hw0 : ¬ ((wor c : Int) < 0) := by omega
     have hdig : zfc (wor c : Int) (b : Int) = some [dch (wor c)] := by
      rw [zjW hb _ (by omega), zff hw]; rfl
     have hcat : zdR (zk acc) [dch (wor c)] = some (zk (acc ++ [wor c])) := by
      rw [zZ (by simp [zk]; omega)]; simp [zk]
     simp only [hdg, if_true, hw0, decide_false, Bool.false_eq_true, if_false, zgj, zgi, hdig, hcat, yob, zi (show i < 4611686018427387904 by omega), Bool.true_and];have hvc : vals (c :: s.drop (i + 1)) = wor c :: vals (s.drop (i + 1)) := rfl
     cases acc with
     | nil =>
      by_cases hz : wor c = 0
      ·have hz' : ¬ (0 < (wor c : Int)) := by omega
       simp only [show (zk [] == ([] : Str)) = true from rfl, ynt, Bool.false_eq_true, if_false, hz', decide_false];have := ih (i + 1) [] (by omega) (by omega) (by simp) (.inl rfl);rw [show zk [] = ([] : Str) from rfl] at this ⊢;rw [this];simp only [if_true, hvc, hz, zjJ, zjI]
      ·have hz' : 0 < (wor c : Int) := by omega
       simp only [show (zk [] == ([] : Str)) = true from rfl, ynt, Bool.false_eq_true, if_false, hz', decide_true, if_true];rw [ih (i + 1) ([] ++ [wor c]) (by omega) (by omega) (by simp) (.inr (by simpa using hz))];obtain ⟨m, hm⟩ : ∃ m, wor c = m + 1 := ⟨wor c - 1, by omega⟩;simp [hvc, zjJ, hm, zjI]
     | cons y acc =>
      simp only [show (zk (y :: acc) == ([] : Str)) = false from rfl, ynf, if_true]
      have hy : (y :: acc ++ [wor c]) = [] ∨ (y :: acc ++ [wor c]).head? ≠ some 0 := by
       right
       rcases h0 with h0 | h0
       ·cases h0
       ·simpa using h0
      rw [ih (i + 1) (y :: acc ++ [wor c]) (by omega) (by omega) (by simp at ha ⊢; omega) hy];simp [hvc]
    ·simp [hdg]
   ·have : i = s.length := by omega
    subst this;simp only [Int.lt_irrefl, decide_false, Bool.false_eq_true, if_false, ydl, List.all_nil, if_true, zgk]
    cases acc with
    | nil => simp [zk, zjJ, vals, zjI, dch]
    | cons y acc => simp [zk, vals]
 have := key fuel 0 [] (yz _) (by unfold fuel; omega) (by simp) (.inl rfl);simpa [zk] using this
theorem zxr {b : Nat} (hb : 0 < b) {l : List Nat} (h : ∀ d ∈ l, d < b) : zjJ l ≠ [] ∧ (∀ d ∈ zjJ l, d < b) ∧ (zjJ l = [0] ∨ (zjJ l).head? ≠ some 0) ∧ zbg b (zjJ l) = zbg b l ∧ (zjJ l).length ≤ l.length + 1 := by
 unfold zjJ
 by_cases e : zjI l = []
 ·rw [if_pos e];have := zrh b l;rw [e, zB9] at this;refine ⟨by simp, fun d hd => by simp at hd; omega, .inl rfl, by simp [zbg] at this ⊢; exact this, by simp⟩
 ·rw [if_neg e];exact ⟨e, fun d hd => h d (zvc hd), .inr (ztK l), zrh b l, by have := zvd l; omega⟩
theorem zCc {b : Nat} (hb : 2 ≤ b) (l m : List Nat) (hl0 : l ≠ []) (hm0 : m ≠ []) (hl : ∀ d ∈ l, d < b) (hm : ∀ d ∈ m, d < b) (zl : l = [0] ∨ l.head? ≠ some 0) (zm : m = [0] ∨ m.head? ≠ some 0) :
  (decide (l.length < m.length) || (l.length == m.length && ztD l m)) = decide (zbg b l < zbg b m) := by
 have low : ∀ x : List Nat, x ≠ [] → x.head? ≠ some 0 → b ^ (x.length - 1) ≤ zbg b x := by
  intro x hx h0
  cases x with
  | nil => exact absurd rfl hx
  | cons y t =>
   have hy : 1 ≤ y := by
    rcases Nat.eq_zero_or_pos y with e | e
    ·subst e; simp at h0
    ·exact e
   rw [zke, ylc, Nat.add_sub_cancel];have := Nat.mul_le_mul_right (b ^ t.length) hy;rw [Nat.one_mul] at this; omega
 have cmp : ∀ x y : List Nat, x ≠ [] → y ≠ [] → (∀ d ∈ x, d < b) → (y = [0] ∨ y.head? ≠ some 0) → x.length < y.length → zbg b x < zbg b y := by
  intro x y hx hy hxd zy h
  have hyh : y.head? ≠ some 0 := by
   rcases zy with e | e
   ·have : 1 ≤ x.length := by cases x with | nil => exact absurd rfl hx | cons _ _ => simp
    rw [e] at h;have h' : x.length < 1 := h;omega
   ·exact e
  have h1 := zsf (b := b) (by omega) hxd;have h2 := low y hy hyh;have h3 : b ^ x.length ≤ b ^ (y.length - 1) := Nat.pow_le_pow_right (by omega) (by omega);omega
 rcases Nat.lt_trichotomy l.length m.length with h | h | h
 ·have := cmp l m hl0 hm0 hl zm h;simp [h, this]
 ·rw [h, zy4 (b := b) (by omega) l m h hl hm]; simp
 ·have h1 := cmp m l hm0 hl0 hm zl h
  have h2 : ¬ l.length < m.length := by omega
  have h3 : (l.length == m.length) = false := beq_eq_false_iff_ne.2 (by omega)
  have h4 : ¬ zbg b l < zbg b m := by omega
  simp [h2, h3, h4]
theorem zkf (l : List Nat) : (zk l).length = l.length := by simp [zk]
theorem zri {b : Nat} (hb : ziz b) (l : List Nat) (q : Bool) (hl : ∀ d ∈ l, d < b) (hlen : l.length < 2000000000) (hv : zbg b l < 4611686018427387904) :
  zeg (b : Int) (zk l, q) fuel 0 0 = some (((zbg b l : Nat) : Int), 0) := by
 obtain ⟨h2, h16⟩ := hb.two
 have key : ∀ (n i v : Nat), i ≤ l.length → l.length - i < n → v = zbg b (l.take i) → zeg (b : Int) (zk l, q) n (v : Int) (i : Int) = some (((zbg b l : Nat) : Int), 0) := by
  intro n
  induction n with
  | zero => intro i v _ h; omega
  | succ n ih =>
   intro i v hi h hvv;rw [zeg]
   by_cases hlt : i < l.length
   ·have hx : (zk l)[i]? = some (dch l[i]) := by simp [zk, hlt]
    have hd : l[i] < b := hl _ (ygm hlt);obtain ⟨w1, w2, w3⟩ := zrf l[i] (by omega)
    have hdg : zkR b (dch l[i]) = true := by
     rcases hb with rfl | rfl
     ·exact w3 hd
     ·exact w2
    have hv' : zbg b (l.take (i + 1)) = v * b + l[i] := by
     rw [List.take_succ_eq_append_getElem hlt, zre, ← hvv]
    have hle : zbg b (l.take (i + 1)) ≤ zbg b l := by
     have := zvb (b := b) (by omega) (l.take (i + 1)) (l.drop (i + 1))
     rwa [List.take_append_drop] at this
    have hmul : zvv (v : Int) (b : Int) = some ((v * b : Nat) : Int) := by
     rw [zy7 (by rw [← Int.natCast_mul]; omega) (by rw [← Int.natCast_mul]; omega), Int.natCast_mul]
    have hadd : zr ((v * b : Nat) : Int) (l[i] : Int) = some ((v * b + l[i] : Nat) : Int) := by
     rw [zb1 (by omega) (by omega)]; simp
    simp only [zkf, Int.ofNat_lt, hlt, decide_true, if_true, hmul, yob, zU, hx, znY hb, hdg, w1, hadd, zi (show i < 4611686018427387904 by omega)];exact ih (i + 1) _ (by omega) (by omega) hv'.symm
   ·have : i = l.length := by omega
    subst this;rw [List.take_length] at hvv;simp [zkf, hvv]
 have := key fuel 0 0 (yz _) (by unfold fuel; omega) (by simp [zbg]);simpa using this
theorem zlx {b : Nat} (hb : ziz b) (s : Str) (most : Int) (hs : s.length < 1000000000) (hm : most < 4611686018427387904) (hm0 : -4611686018427387904 < most) : zgl s (b : Int) most = some (zN b s most) := by
 obtain ⟨h2, h16⟩ := hb.two;unfold zgl zN;rw [zCb hb s hs, yob]
 rcases zdn (s.all (zkR b)) with hd | hd
 ·rw [hd];simp only [if_true, ynt, Bool.or_false]
  rcases zdn (s == []) with he | he
  ·rw [he]; simp
  ·rw [he];have hv := zDA hb hd;obtain ⟨c1, c2, c3, c4, c5⟩ := zxr (b := b) (by omega) hv
   have hlen : (vals s).length = s.length := by simp [vals]
   simp only [ynf, ynt, Bool.false_eq_true, if_false]
   by_cases hneg : most < 0
   ·have h7 : most < (zbg b (vals s) : Int) := by omega
    simp [hneg, h7, zfD]
   ·obtain ⟨k, rfl⟩ : ∃ k : Nat, most = k := ⟨most.toNat, by omega⟩
    have hk : k < 2 ^ 64 := by omega
    have hless : zkE (zk (digs b k)) (zk (zjJ (vals s))) = some (decide (k < zbg b (vals s))) := by
     unfold zkE;have d1 := zsg h2 k hk
     have d3 : digs b k = [0] ∨ (digs b k).head? ≠ some 0 := by
      rcases zva h2 k hk with e | e
      ·left; subst e; exact zff (by omega)
      ·exact .inr e
     have := zCc h2 (digs b k) (zjJ (vals s)) zsh c1 d1 c2 d3 c3;rw [ztB h2 k hk, c4] at this;rw [← this, zkf, zkf, zrN _ _ (fun d hd => by have := d1 d hd; omega) (fun d hd => by have := c2 d hd; omega)]
     by_cases h1 : (digs b k).length < (zjJ (vals s)).length
     ·simp [h1, zdd]
     ·by_cases h3 : (digs b k).length = (zjJ (vals s)).length
      ·simp [h3, zdd]
      ·have h4 : (((digs b k).length : Int) == ((zjJ (vals s)).length : Int)) = false := beq_eq_false_iff_ne.2 (by omega);simp [h1, h3, h4, zdd]
    simp only [hneg, decide_false, Bool.false_eq_true, if_false, zjW hb k (by omega), yob, hless, zfD]
    by_cases h7 : k < zbg b (vals s)
    ·have h8 : (k : Int) < (zbg b (vals s) : Int) := by omega
     simp [h7, h8]
    ·have h8 : ¬ ((k : Int) < (zbg b (vals s) : Int)) := by omega
     simp only [h7, decide_false, Bool.false_eq_true, if_false, h8];rw [zri hb _ _ c2 (by omega) (by rw [c4]; omega), c4]
 ·rw [hd]; simp
end Go.Dm
end
section
namespace Go.Dm
def low (s : Str) : Str := s.map zfh
theorem zjc (s : Str) (hs : s.length < 1000000000) : zhH s = some (low s) := by
 unfold zhH;rw [if_pos (by omega)];unfold low
 clear hs
 induction s with
 | nil => rfl
 | cons x s ih => simp [List.mapM_cons, ztQ, ih]
theorem upAt : ∀ j : Nat, j < 26 → (([65, 66, 67, 68, 69, 70, 71, 72, 73, 74, 75, 76, 77, 78, 79, 80, 81, 82, 83, 84, 85, 86, 87, 88, 89, 90] : Str)[j]? = some (UInt8.ofNat (65 + j)) ∧
  zhF [97, 98, 99, 100, 101, 102, 103, 104, 105, 106, 107, 108, 109, 110, 111, 112, 113, 114, 115, 116, 117, 118, 119, 120, 121, 122] (j : Int) ((j + 1 : Nat) : Int) = some [UInt8.ofNat (97 + j)]) := by decide
theorem zqP (rec1 : Str → Int → Option Str) (t : Str) (s4 : Str) (i : Nat) (x : UInt8) (hx : t[i]? = some x) : ∀ (k j n : Nat) (s : Str), j + k = 26 → k < n →
  zcn rec1 t s4 (i : Int) n s (j : Int) = (zdR s4 (if 65 + j ≤ x.toNat ∧ x.toNat < 91 then [x + 32] else s)).bind fun s27 => (zr (i : Int) 1).bind fun i29 => rec1 s27 i29 := by
 intro k
 induction k with
 | zero =>
  intro j n s hj hn;obtain ⟨n, rfl⟩ : ∃ m, n = m + 1 := ⟨n - 1, by omega⟩
  obtain rfl : j = 26 := by omega
  have h0 : ¬ (65 + 26 ≤ x.toNat ∧ x.toNat < 91) := by omega
  rw [zcn, if_neg h0];rfl
 | succ k ih =>
  intro j n s hj hn;obtain ⟨n, rfl⟩ : ∃ m, n = m + 1 := ⟨n - 1, by omega⟩;obtain ⟨h1, h2⟩ := upAt j (by omega)
  have hj26 : (j : Int) < 26 := by omega
  rw [zcn];simp only [hj26, decide_true, if_true, zU, h1, hx, yob, zi (show j < 4611686018427387904 by omega), h2, zhr];rw [ih (j + 1) n _ (by omega) (by omega), ih (j + 1) n _ (by omega) (by omega)]
  by_cases he : UInt8.ofNat (65 + j) = x
  ·subst he
   have e1 : (UInt8.ofNat (65 + j)).toNat = 65 + j := by simp; omega
   have e2 : UInt8.ofNat (97 + j) = UInt8.ofNat (65 + j) + 32 := by
    apply UInt8.toNat_inj.1; simp; omega
   simp only [ybs, if_true, e1];rw [if_neg (by omega), if_pos (by omega), e2]
  ·have hb : (UInt8.ofNat (65 + j) == x) = false := beq_eq_false_iff_ne.2 he;have hne : x.toNat ≠ 65 + j := fun e => he (by apply UInt8.toNat_inj.1; simp; omega);simp only [hb, Bool.false_eq_true, if_false]
   have : (65 + (j + 1) ≤ x.toNat ∧ x.toNat < 91) ↔ (65 + j ≤ x.toNat ∧ x.toNat < 91) := by omega
   simp only [this]
theorem zzz (x : UInt8) : (if 65 ≤ x.toNat ∧ x.toNat < 91 then [x + 32] else [x]) = [zfh x] := by
 have hi : (65 ≤ x ∧ x ≤ 90) ↔ (65 ≤ x.toNat ∧ x.toNat < 91) := by
  have h1 : (65 ≤ x) ↔ (65 ≤ x.toNat) := Iff.rfl;have h2 : (x ≤ 90) ↔ (x.toNat ≤ 90) := Iff.rfl;rw [h1, h2]; omega
 unfold zfh
 by_cases h : 65 ≤ x.toNat ∧ x.toNat < 91
 ·rw [if_pos h, if_pos (hi.2 h)]
 ·rw [if_neg h, if_neg (fun e => h (hi.1 e))]
theorem zjd (s : Str) (hs : s.length < 1000000000) : zfe s = some (low s) := by
 unfold zfe
 have key : ∀ (n i : Nat) (acc : Str), acc.length = i → i ≤ s.length → s.length - i < n → zco s n acc (i : Int) = some (acc ++ low (s.drop i)) := by
  intro n
  induction n with
  | zero => intro i acc _ _ h; omega
  | succ n ih =>
   intro i acc ha hi h;rw [zco]
   by_cases hlt : i < s.length
   ·have hx : s[i]? = some s[i] := ygg hlt
    have e1 : (s.take (i + 1)).drop i = [s[i]] := by
     rw [List.drop_take, ydg hlt, show i + 1 - i = 1 by omega];rfl
    have h2 := zqP (zco s n) s acc i s[i] hx 26 0 fuel [s[i]] rfl (by unfold fuel; omega);simp only [Int.natCast_zero, Nat.add_zero, zzz] at h2;simp only [Int.ofNat_lt, hlt, decide_true, if_true, zi (show i < 4611686018427387904 by omega), yob, zeS (show i ≤ i + 1 by omega) (show i + 1 ≤ s.length by omega), e1, h2, zZ (show acc.length + [zfh s[i]].length ≤ 9223372036854775807 by simp; omega)];rw [ih (i + 1) _ (by simp [ha]) (by omega) (by omega), ydg hlt];show some ((acc ++ [zfh s[i]]) ++ low (s.drop (i + 1))) = some (acc ++ (zfh s[i] :: low (s.drop (i + 1))));rw [yaa];rfl
   ·have : i = s.length := by omega
    subst this;simp [low]
 have := key fuel 0 [] rfl (yz _) (by unfold fuel; omega);simpa using this
theorem zoV (a b : Str) (ha : a.length < 1000000000) (hb : b.length < 1000000000) : ziY a b = some (low a == low b) := by
 unfold ziY;rw [zjc a ha, zjc b hb]; rfl
end Go.Dm
end
section
namespace Go.Dm
def upto (cs s : Str) : Str := s.takeWhile (fun c => !cs.contains c)
def zbv (cs s : Str) : Str := s.dropWhile (fun c => !cs.contains c)
theorem zdl (cs s : Str) : upto cs s ++ zbv cs s = s := List.takeWhile_append_dropWhile
theorem zot (cs s : Str) : (upto cs s).length ≤ s.length := by
 have := congrArg List.length (zdl cs s); simp at this; omega
theorem zou (cs s : Str) : s.take (upto cs s).length = upto cs s := by
 have h := zdl cs s
 conv => lhs; arg 2; rw [← h]
 exact List.take_left
theorem zl4 (cs s : Str) : s.drop (upto cs s).length = zbv cs s := by
 have h := zdl cs s
 conv => lhs; arg 2; rw [← h]
 exact List.drop_left
theorem zg4 (cs s : Str) : zbv cs s = [] ↔ (upto cs s).length = s.length := by
 have h := congrArg List.length (zdl cs s);simp only [yla] at h;rw [← List.length_eq_zero_iff]; omega
theorem zrk {cs s : Str} {c : UInt8} {r : Str} (h : zbv cs s = c :: r) : cs.contains c = true := by
 have := List.head?_dropWhile_not (fun c => !cs.contains c) s;unfold zbv at h;rw [h] at this;simpa using this
theorem zxt {cs s : Str} : ∀ c ∈ upto cs s, cs.contains c = false := by
 intro c hc;have h : (upto cs s).all (fun c => !cs.contains c) = true := List.all_takeWhile;have := List.all_eq_true.1 h c hc;simpa using this
theorem zjK {cs s : Str} {x : UInt8} (h : cs.contains x = true) : upto cs (x :: s) = [] := by
 unfold upto; rw [List.takeWhile_cons_of_neg (by rw [h]; simp)]
theorem zjL {cs s : Str} {x : UInt8} (h : cs.contains x = true) : zbv cs (x :: s) = x :: s := by
 unfold zbv; rw [List.dropWhile_cons_of_neg (by rw [h]; simp)]
theorem zjM {cs s : Str} {x : UInt8} (h : cs.contains x = false) : upto cs (x :: s) = x :: upto cs s := by
 unfold upto; rw [List.takeWhile_cons_of_pos (by rw [h]; rfl)]
theorem zjN {cs s : Str} {x : UInt8} (h : cs.contains x = false) : zbv cs (x :: s) = zbv cs s := by
 unfold zbv; rw [List.dropWhile_cons_of_pos (by rw [h]; rfl)]

theorem zve (cs : Str) : ∀ (s : Str) (k : Nat), znD s cs k = if zbv cs s = [] then -1 else ((k + (upto cs s).length : Nat) : Int)
 | [], k => by simp [znD, zbv]
 | x :: s, k => by
  simp only [znD]
  by_cases h : cs.contains x = true
  ·rw [if_pos h, zjK h, zjL h]; simp
  ·have h' : cs.contains x = false := by simpa using h
   rw [if_neg h, zve cs s (k + 1)];rw [zjN h', zjM h', ylc]
   split
   ·rfl
   ·congr 1; omega
theorem zv6 (s p : Str) (hs : s.length < 1000000000) : stringslite_HasPrefix s p = some (p.isPrefixOf s) := by
 unfold stringslite_HasPrefix
 by_cases h : p.length ≤ s.length
 ·have h' : (p.length : Int) ≤ (s.length : Int) := by omega
  simp only [h', decide_true, if_true, zc9 h, yob, zaA]
  congr 1
  rw [Bool.eq_iff_iff, beq_iff_eq, List.isPrefixOf_iff_prefix, List.prefix_iff_eq_take];exact eq_comm
 ·have h' : ¬ (p.length : Int) ≤ (s.length : Int) := by omega
  simp only [h', decide_false, Bool.false_eq_true, if_false, zaA]
  congr 1
  rw [eq_comm, Bool.eq_false_iff];intro hp;rw [List.isPrefixOf_iff_prefix] at hp;exact h hp.length_le
theorem zgJ (s p : Str) (hs : s.length < 1000000000) : strings_HasPrefix s p = some (p.isPrefixOf s) := by
 unfold strings_HasPrefix;rw [zv6 s p hs]; rfl
theorem zj2 (s cs : Str) (hs : s.length < 1000000000) (hc : cs.length < 1000000000) (ha : cs.all (fun c => c.toNat < 128) = true) :
  strings_IndexAny s cs = some (if zbv cs s = [] then -1 else ((upto cs s).length : Int)) := by
 unfold strings_IndexAny;rw [if_pos ⟨by omega, by omega, ha⟩, zve, Nat.zero_add]
theorem zxu (cs s : Str) : zbv cs s = [] ↔ s.any cs.contains = false := by
 induction s with
 | nil => simp [zbv]
 | cons x s ih =>
  rcases zdn (cs.contains x) with h | h
  ·rw [zjL h, List.any_cons, h]; simp
  ·rw [zjN h, ih, List.any_cons, h, Bool.false_or]
theorem ziB (s cs : Str) (hs : s.length < 1000000000) (hc : cs.length < 1000000000) (ha : cs.all (fun c => c.toNat < 128) = true) : strings_ContainsAny s cs = some (s.any cs.contains) := by
 unfold strings_ContainsAny;rw [zj2 s cs hs hc ha, yob]
 rcases zdn (s.any cs.contains) with h | h
 ·have e : ¬ zbv cs s = [] := fun e => by rw [(zxu cs s).1 e] at h; cases h
  rw [if_neg e, h]; simp
 ·rw [if_pos ((zxu cs s).2 h), h]; rfl

end Go.Dm
end
section
namespace Go.Dm
def scn (s : Str) (k : Nat) : scan_Scanner := ⟨s, (k : Int)⟩
theorem zh2 (s : Str) : zh9 s = some (scn s 0) := rfl
theorem zmG (s : Str) (k : Nat) : zbT (scn s k) = some (k : Int) := rfl
theorem zqq {s : Str} {k : Nat} (h : k ≤ s.length) : zR (scn s k) = some (s.drop k) := by
 unfold zR scn;rw [z6 h]; rfl
theorem znZ {s : Str} {k : Nat} (h : k ≤ s.length) : zaB (scn s k) = some (s.drop k == []) := by
 unfold zaB;rw [zqq h]; rfl
theorem zly {s : Str} {k : Nat} (h : k ≤ s.length) (hd : s.drop k = []) : zv (scn s k) = some (0, false) := by
 unfold zv;rw [znZ h, hd]; rfl
theorem zkS {s : Str} {k : Nat} {x : UInt8} {r : Str} (h : k ≤ s.length) (hd : s.drop k = x :: r) : zv (scn s k) = some (x, true) := by
 unfold zv;rw [znZ h, hd]
 have hx : s[k]? = some x := by
  have := congrArg (·[0]?) hd;simpa using this
 simp [scn, hx]
theorem zuq {s : Str} {k : Nat} (b : UInt8) (h : k ≤ s.length) (hd : s.drop k = []) : zh (scn s k) b = some (false, scn s k) := by
 unfold zh;rw [zly h hd]; rfl
theorem ziA {s : Str} {k : Nat} {x : UInt8} {r : Str} (b : UInt8) (h : k ≤ s.length) (hs : s.length < 1000000000) (hd : s.drop k = x :: r) : zh (scn s k) b = some (x == b, if x == b then scn s (k + 1) else scn s k) := by
 unfold zh;rw [zkS h hd];simp only [yob, ynt, Bool.false_eq_true, if_false, zcw]
 rcases zdn (x == b) with hb | hb
 ·rw [hb]; simp [scn, zi (show k < 4611686018427387904 by omega)]
 ·rw [hb]; simp
theorem zg3 {s : Str} {k : Nat} {x : UInt8} {r : Str} (hd : s.drop k = x :: r) : k < s.length ∧ s.drop (k + 1) = r := by
 have hl : k < s.length := by
  rcases Nat.lt_or_ge k s.length with h | h
  ·exact h
  ·rw [List.drop_eq_nil_of_le h] at hd; cases hd
 refine ⟨hl, ?_⟩;rw [ydg hl] at hd;exact (List.cons.inj hd).2
theorem zur {f : UInt8 → Option Bool} {p : UInt8 → Bool} (hf : ∀ b, f b = some (p b)) {s : Str} {k : Nat} (hs : s.length < 1000000000) (hk : k ≤ s.length) :
  zad (scn s k) f = some ((s.drop k).takeWhile p, scn s (k + ((s.drop k).takeWhile p).length)) := by
 unfold zad;rw [zmG, yob];show zT f k fuel s k = _
 have key : ∀ (n i : Nat), k ≤ i → i ≤ s.length → s.length - i < n → zT f k n s i = some ((s.take (i + ((s.drop i).takeWhile p).length)).drop k, scn s (i + ((s.drop i).takeWhile p).length)) := by
  intro n
  induction n with
  | zero => intro i _ _ h; omega
  | succ n ih =>
   intro i hki hi h;rw [zT];have e : (⟨s, (i : Int)⟩ : scan_Scanner) = scn s i := rfl;rw [e]
   cases hd : s.drop i with
   | nil =>
    rw [zly hi hd];simp [za8, zb3, zeS hki hi, scn]
   | cons x r =>
    obtain ⟨hlt, hr⟩ := zg3 hd;rw [zkS hi hd];simp only [yob, ynt, Bool.false_eq_true, if_false, hf, za8, zi (show i < 4611686018427387904 by omega), ih (i + 1) (by omega) (by omega) (by omega), hr, List.takeWhile_cons]
    rcases zdn (p x) with hp | hp
    ·rw [hp]; simp [Nat.add_assoc, Nat.add_comm 1]
    ·rw [hp]; simp [zb3, zeS hki hi, scn]
 rw [key fuel k (Nat.le_refl _) hk (by unfold fuel; omega)]
 congr 2
 rw [List.drop_take, Nat.add_sub_cancel_left];have := List.takeWhile_prefix (l := s.drop k) p;exact (List.prefix_iff_eq_take.1 this).symm
theorem zmH (p : UInt8 → Bool) (s : Str) : (s.takeWhile p).length ≤ s.length := (List.takeWhile_prefix p).length_le
theorem zz0 (p : UInt8 → Bool) (s : Str) (k : Nat) (hk : k ≤ s.length) : s.drop (k + ((s.drop k).takeWhile p).length) = (s.drop k).dropWhile p ∧ k + ((s.drop k).takeWhile p).length ≤ s.length := by
 refine ⟨?_, ?_⟩
 ·rw [← List.drop_drop];generalize s.drop k = t;have h := List.takeWhile_append_dropWhile (p := p) (l := t)
  conv => lhs; arg 2; rw [← h]
  exact List.drop_left
 ·have := zmH p (s.drop k);rw [yld] at this; omega
end Go.Dm
end
section
namespace Go.Dm
structure At (s : Str) (k : Nat) (r : Str) : Prop where
 le : k ≤ s.length
 drop : s.drop k = r
theorem At.zero (s : Str) : At s 0 s := ⟨yz _, rfl⟩
theorem At.len {s : Str} {k : Nat} {r : Str} (h : At s k r) : k + r.length = s.length := by
 have := congrArg List.length h.drop;rw [yld] at this;have := h.le;omega
theorem At.le_len {s : Str} {k : Nat} {r : Str} (h : At s k r) : r.length ≤ s.length := by have := h.len; omega
theorem At.next {s : Str} {k : Nat} {r : Str} (h : At s k r) (n : Nat) (hn : n ≤ r.length) : At s (k + n) (r.drop n) :=
 ⟨by have := h.len; omega, by rw [← List.drop_drop, h.drop]⟩
def zy5 : Str → UInt8 × Bool
 | [] => (0, false)
 | x :: _ => (x, true)
def zfW (b : UInt8) (r : Str) : Bool := r.head? == some b
def zap (b : UInt8) (r : Str) : Str := if zfW b r then r.drop 1 else r
theorem zz1 (b : UInt8) : zfW b [] = false := rfl
theorem zcg (b x : UInt8) (r : Str) : zfW b (x :: r) = (x == b) := Option.some_beq_some ..
theorem zaP (b : UInt8) (r : Str) : zap b (b :: r) = r := by unfold zap; rw [zcg, ybs, if_pos rfl]; rfl
theorem zpB {b : UInt8} {r : Str} (h : zfW b r = false) : zap b r = r := by unfold zap; rw [h]; rfl
theorem zgI {b : UInt8} {r : Str} (h : zfW b r = true) : r = b :: zap b r := by
 cases r with
 | nil => cases h
 | cons x r =>
  rw [zcg] at h
  have : x = b := by simpa using h
  subst this;rw [zaP]
section
variable {s r : Str} {k : Nat}
theorem zv4 (h : At s k r) : zaB (scn s k) = some (r == []) := by rw [znZ h.le, h.drop]
theorem zsi (h : At s k r) : zR (scn s k) = some r := by rw [zqq h.le, h.drop]
theorem zqr (h : At s k r) : zv (scn s k) = some (zy5 r) := by
 cases r with
 | nil => exact zly h.le h.drop
 | cons x r => exact zkS h.le h.drop
theorem zfX (hs : s.length < 1000000000) (b : UInt8) (h : At s k r) : ∃ k', At s k' (zap b r) ∧ zh (scn s k) b = some (zfW b r, scn s k') := by
 cases r with
 | nil => exact ⟨k, h, zuq b h.le h.drop⟩
 | cons x r =>
  rw [ziA b h.le hs h.drop, zcg];unfold zap;rw [zcg]
  cases x == b with
  | true => exact ⟨k + 1, h.next 1 (by simp), rfl⟩
  | false => exact ⟨k, h, rfl⟩
theorem zl3 {f : UInt8 → Option Bool} {p : UInt8 → Bool} (hf : ∀ b, f b = some (p b)) (hs : s.length < 1000000000) (h : At s k r) : ∃ k', At s k' (r.dropWhile p) ∧ zad (scn s k) f = some (r.takeWhile p, scn s k') := by
 have e := zur hf hs h.le;rw [h.drop] at e;have hd := zz0 p s k h.le;rw [h.drop] at hd;exact ⟨_, ⟨hd.2, hd.1⟩, e⟩
theorem zxs (hs : s.length < 1000000000) (h : At s k r) : ∃ k', At s k' (r.dropWhile zbx) ∧ zb7 (scn s k) = some (r.takeWhile zbx, !(r.takeWhile zbx == []), scn s k') := by
 obtain ⟨k', h1, h2⟩ := zl3 zl5 hs h;refine ⟨k', h1, ?_⟩;unfold zb7;rw [h2]; rfl
theorem zDB (hs : s.length < 1000000000) (t : Str) (ht : t.length < 1000000000) (h : At s k r) : ∃ k', At s k' (if t.isPrefixOf r then r.drop t.length else r) ∧ zcN (scn s k) t = some (t.isPrefixOf r, scn s k') := by
 unfold zcN;have := h.le_len;rw [zsi h, yob, zgJ r t (by omega), yob]
 cases hp : t.isPrefixOf r with
 | false => exact ⟨k, h, rfl⟩
 | true =>
  have hl := (List.isPrefixOf_iff_prefix.1 hp).length_le;have hk := h.len;rw [if_pos rfl];show ∃ k', At s k' (r.drop t.length) ∧ ((zr (k : Int) (t.length : Int)).bind fun i9 => some (true, (⟨s, i9⟩ : scan_Scanner))) = _;rw [zb1 (by omega) (by omega), yob];exact ⟨k + t.length, h.next _ hl, by unfold scn; simp⟩
end
end Go.Dm
end
section
namespace Go.Dm
theorem zbz (c : UInt8) (s : Str) : zf c s ≠ [] := by
 cases s with
 | nil => simp [zf]
 | cons x s =>
  unfold zf
  split
  ·simp
  ·split <;> simp
theorem zoQ {b c : UInt8} {l : Str} (h : b ≠ c) : Go.Lib.index (b :: l) [c] = if Go.Lib.index l [c] = -1 then -1 else Go.Lib.index l [c] + 1 := by
 have hp : ([c] : List UInt8).isPrefixOf (b :: l) = false := by simp [List.isPrefixOf, Ne.symm h]
 rw [Go.Lib.index, hp]; simp
theorem zoR (c : UInt8) (l : Str) : Go.Lib.index (c :: l) [c] = 0 := by
 rw [Go.Lib.index]; simp [List.isPrefixOf]
theorem zpf (c : UInt8) : ∀ (s : Str) (k : Nat), Go.Lib.count s [c] = k → Go.Lib.splitK [c] 0 k s = zf c s
 | [], k, h => by
  rw [Go.Lib.count_one] at h;simp at h; subst h; rfl
 | b :: l, k, h => by
  by_cases hb : b = c
  ·subst hb;rw [Go.Lib.count_cons_eq] at h;obtain ⟨m, rfl⟩ : ∃ m, k = m + 1 := ⟨k - 1, by omega⟩;have ih := zpf b l m (by omega);unfold Go.Lib.splitK;rw [zoR];simp [zf, ih]
  ·rw [Go.Lib.count_cons_ne b c l hb] at h;have ih := zpf c l k h;unfold zf;rw [if_neg hb, ← ih]
   cases k with
   | zero => simp [Go.Lib.splitK]
   | succ k =>
    unfold Go.Lib.splitK;rw [zoQ hb];have hge := Go.Lib.index_ge l [c]
    by_cases hm : Go.Lib.index l [c] = -1
    ·rw [Go.Lib.count_miss hm] at h; omega
    ·obtain ⟨j, hj⟩ : ∃ j : Nat, Go.Lib.index l [c] = j := ⟨(Go.Lib.index l [c]).toNat, by omega⟩
     have e1 : ¬ ((j : Int) + 1 = -1) := by omega
     have e2 : ¬ ((j : Int) = -1) := by omega
     have e3 : ((j : Int) + 1).toNat = j + 1 := by omega
     rw [hj];simp [e1, e2, e3, Nat.add_right_comm j 1 1]
theorem zqD (s : Str) (c : UInt8) (hs : s.length < 1000000000) : strings_Split s [c] = some (zf c s) := by
 unfold strings_Split;rw [if_pos ⟨by omega, by simp⟩];rw [zpf c s _ rfl]
def zfN (p : Str) : List Str → List Str
 | [] => [p]
 | h :: t => (p ++ h) :: t
theorem zaR (c x : UInt8) (s : Str) : zf c (x :: s) = if x = c then [] :: zf c s else zfN [x] (zf c s) := by
 rw [zf]
 split
 ·rfl
 ·cases h : zf c s <;> rfl
theorem zpg (l : List Str) (h : l ≠ []) : zfN [] l = l := by
 cases l with
 | nil => exact absurd rfl h
 | cons a t => rfl
theorem zoS (p q : Str) (l : List Str) (h : l ≠ []) : zfN p (zfN q l) = zfN (p ++ q) l := by
 cases l with
 | nil => exact absurd rfl h
 | cons a t => simp [zfN]
theorem znp (c : UInt8) : ∀ (a s : Str), c ∉ a → zf c (a ++ s) = zfN a (zf c s)
 | [], s, _ => (zpg _ (zbz c s)).symm
 | x :: a, s, h => by
  have hx : ¬ x = c := fun e => h (by simp [e]);rw [List.cons_append, zaR, if_neg hx, znp c a s (fun e => h (List.mem_cons_of_mem _ e)), zoS _ _ _ (zbz c s)];rfl
theorem zh4 {c : UInt8} {a : Str} (h : c ∉ a) : zf c a = [a] := by
 have := znp c a [] h;simpa [zf, zfN] using this
theorem zf2 {c : UInt8} {a : Str} (s : Str) (h : c ∉ a) : zf c (a ++ c :: s) = a :: zf c s := by
 rw [znp c a _ h, zaR, if_pos rfl];simp [zfN]
theorem zdO {c : UInt8} : ∀ {s p : Str}, p ∈ zf c s → c ∉ p ∧ p.length ≤ s.length ∧ ∀ x ∈ p, x ∈ s
 | [], p, h => by
  simp [zf] at h; subst h; simp
 | x :: s, p, h => by
  rw [zaR] at h
  split at h
  ·rcases List.mem_cons.1 h with rfl | h
   ·simp
   ·obtain ⟨h1, h2, h3⟩ := zdO h;exact ⟨h1, by simp; omega, fun y hy => List.mem_cons_of_mem _ (h3 y hy)⟩
  ·rename_i hx
   cases hl : zf c s with
   | nil => exact absurd hl (zbz c s)
   | cons a t =>
    rw [hl] at h
    rcases List.mem_cons.1 h with rfl | h
    ·obtain ⟨h1, h2, h3⟩ := zdO (c := c) (s := s) (p := a) (by rw [hl]; simp);refine ⟨?_, by simp; omega, ?_⟩
     ·simp only [List.singleton_append, ymc, not_or]; exact ⟨fun e => hx e.symm, h1⟩
     ·intro y hy;simp only [List.singleton_append, ymc] at hy ⊢
      rcases hy with hy | hy
      ·exact .inl hy
      ·exact .inr (h3 y hy)
    ·obtain ⟨h1, h2, h3⟩ := zdO (c := c) (s := s) (p := p) (by rw [hl]; exact List.mem_cons_of_mem _ h);exact ⟨h1, by simp; omega, fun y hy => List.mem_cons_of_mem _ (h3 y hy)⟩
theorem zf3 (c : UInt8) : ∀ s : Str, (zf c s).length ≤ s.length + 1
 | [] => by simp [zf]
 | x :: s => by
  have ih := zf3 c s;rw [zaR]
  split
  ·simp; omega
  ·cases hl : zf c s with
   | nil => exact absurd hl (zbz c s)
   | cons a t => rw [hl] at ih; simp [zfN] at ih ⊢; omega
theorem zko (s : Str) (c : UInt8) (hs : s.length < 1000000000) : zgf s c = some (zf c s) := by
 unfold zgf
 have key : ∀ (n i k : Nat) (acc : List Str), k ≤ i → i ≤ s.length → acc.length ≤ i → s.length - i < n → zcD s c n acc (k : Int) (i : Int) = some (acc ++ zfN ((s.take i).drop k) (zf c (s.drop i))) := by
  intro n
  induction n with
  | zero => intro i k acc _ _ _ h; omega
  | succ n ih =>
   intro i k acc hk hi ha h;rw [zcD]
   by_cases hlt : i < s.length
   ·have hx : s[i]? = some s[i] := ygg hlt
    have ht : (s.take (i + 1)).drop k = (s.take i).drop k ++ [s[i]] := by
     rw [List.take_succ_eq_append_getElem hlt, List.drop_append_of_le_length (by simp; omega)]
    simp only [Int.ofNat_lt, hlt, decide_true, if_true, zU, hx, yob, zge, zi (show i < 4611686018427387904 by omega), zeS hk hi];rw [ydg hlt, zaR]
    by_cases he : s[i] = c
    ·simp only [he, ybs, if_true, zaX (n := acc.length) (m := 1) (b := 16) (by omega) (by omega)];rw [ih (i + 1) (i + 1) _ (by omega) (by omega) (by simp; omega) (by omega)]
     have e0 : (s.take (i + 1)).drop (i + 1) = [] := by simp
     rw [e0, zpg _ (zbz _ _)];simp [zfN]
    ·have hb : (s[i] == c) = false := beq_eq_false_iff_ne.2 he;simp only [hb, Bool.false_eq_true, if_false, he];rw [ih (i + 1) k _ (by omega) (by omega) (by omega) (by omega), ht, zoS _ _ _ (zbz _ _)]
   ·have : i = s.length := by omega
    subst this;simp only [Int.lt_irrefl, decide_false, Bool.false_eq_true, if_false, z6 hk, yob, zaX (n := acc.length) (m := 1) (b := 16) (by omega) (by omega), if_true];simp [zf, zfN]
 have := key fuel 0 0 [] (Nat.le_refl _) (yz _) (Nat.le_refl _) (by unfold fuel; omega);simp only [Int.natCast_zero, yna, List.take_zero, List.drop_nil, List.drop_zero] at this;rw [this, zpg _ (zbz _ _)]
end Go.Dm
end
section
namespace Go.Dm
theorem zBR {b : Nat} : ∀ {x : List Nat}, x ≠ [] → x.head? ≠ some 0 → b ^ (x.length - 1) ≤ zbg b x
 | [], h, _ => absurd rfl h
 | y :: t, _, h0 => by
  have hy : 1 ≤ y := by
   rcases Nat.eq_zero_or_pos y with e | e
   ·subst e; simp at h0
   ·exact e
  rw [zke, ylc, Nat.add_sub_cancel];have := Nat.mul_le_mul_right (b ^ t.length) hy;rw [Nat.one_mul] at this; omega
theorem zyo {k n : Nat} (hk : 1 ≤ k) (h64 : n < 2 ^ 64) (hn : n < 10 ^ k) : (digs 10 n).length ≤ k := by
 rcases zva (b := 10) (by decide) n h64 with e | e
 ·subst e; rw [zff (by decide)]; exact hk
 ·have h1 := zBR (b := 10) zsh e;rw [ztB (by decide) n h64] at h1
  rcases Nat.lt_or_ge k (digs 10 n).length with h | h
  ·have : 10 ^ k ≤ 10 ^ ((digs 10 n).length - 1) := Nat.pow_le_pow_right (by decide) (by omega);omega
  ·exact h
def zer (s : Str) (most : Int) : Bool := (zN 10 s most).2 == 0 && ziN 10 (zN 10 s most).1 == s
theorem zkO {b : Nat} {s : Str} {most : Int} (h : (zN b s most).2 = 0) (hm : most < 4611686018427387904) : 0 ≤ (zN b s most).1 ∧ (zN b s most).1 ≤ most ∧ inI (zN b s most).1 = true := by
 unfold zN at *
 split at h
 ·cases h
 ·rename_i h1
  rw [if_neg h1]
  split at h
  ·cases h
  ·rename_i h2
   rw [if_neg h2];refine ⟨by simp only; omega, by simp only; omega, by rw [zjb]; simp only; omega⟩
theorem zle (s : Str) (most : Int) (hs : s.length < 1000000000) (hm : most < 4611686018427387904) (hm0 : -4611686018427387904 < most) : zdo s most = some (zer s most) := by
 unfold zdo zer;rw [zfg s most hs hm hm0, yob]
 by_cases h : (zN 10 s most).2 = 0
 ·have hi := (zkO h hm).2.2;simp [h, zjX _ hi, zcO]
 ·simp [h, zcO]
theorem znJ (s : Str) (most : Int) (hs : s.length < 1000000000) (hm : most < 100000) (hm0 : -4611686018427387904 < most) : zhU s most = some (if zer s most then (zN 10 s most).1 else -1) := by
 unfold zhU;have hR := zlx (b := 10) (.inl rfl) s most hs (by omega) hm0;rw [show ((10 : Nat) : Int) = 10 from rfl] at hR
 by_cases hl : 5 < (s.length : Int)
 ·have : zer s most = false := by
   rw [Bool.eq_false_iff];intro h;unfold zer at h;simp only [Bool.and_eq_true, beq_iff_eq] at h;obtain ⟨h1, h2⟩ := h;obtain ⟨g1, g2, g3⟩ := zkO (b := 10) h1 (by omega);have hlen := congrArg List.length h2;unfold ziN at hlen;rw [if_neg (by omega), zkf] at hlen;have := zyo (k := 5) (n := (zN 10 s most).1.toNat) (by decide) (by omega) (by omega);omega
  simp [hl, this]
 ·simp only [hl, decide_false, Bool.false_eq_true, if_false, hR, yob];unfold zer
  by_cases h : (zN 10 s most).2 = 0
  ·have hi := (zkO h (by omega)).2.2;have hT := zlw (b := 10) (.inl rfl) _ hi;rw [show ((10 : Nat) : Int) = 10 from rfl] at hT;simp only [h, ybs, ynt, Bool.false_eq_true, if_false, hT, yob, zeL, Bool.true_and]
   rcases zdn (ziN 10 (zN 10 s most).1 == s) with h2 | h2 <;> rw [h2] <;> simp
  ·have h' : ((zN 10 s most).2 == 0) = false := beq_eq_false_iff_ne.2 h;simp [h', zeL]
def zhM (s : Str) : Bool := (zf 46 s).all (fun x => zer x 255) && decide (((zf 46 s).length : Int) = 4)
theorem zuZ {α β : Type} {f : α → Option β} {g : α → β} : ∀ {l : List α}, (∀ x ∈ l, f x = some (g x)) → l.mapM f = some (l.map g)
 | [], _ => rfl
 | x :: l, h => by
  rw [List.mapM_cons, h x (List.mem_cons_self ..), zuZ fun y hy => h y (List.mem_cons_of_mem _ hy)]; rfl
theorem zlW (s : Str) (hs : s.length < 1000000000) : zfy s = some (zhM s) := by
 unfold zfy zhM;rw [if_pos hs, zuZ (g := fun x => zer x 255) fun x hx => zle x 255 (by have := (zdO hx).2.1; omega) (by decide) (by decide)];simp only [yob, List.length_map, List.all_map];rfl
theorem zo1 (s : Str) (hs : s.length < 1000000000) : zi4 s = some (zhM s) := by
 unfold zi4 zhM;rw [zko s 46 hs, yob];have hlen := zf3 46 s;have hm := fun x (h : x ∈ zf 46 s) => (zdO h).2.1
 generalize zf 46 s = l at *
 rw [zkU l (zeh l) (fun x r => if zer x 255 = true then r else some false) (some (decide ((l.length : Int) = 4))) (by omega)]
 ·exact zo3 _ _ _
 ·intro n; rw [zeh]; simp only [Int.lt_irrefl, decide_false, Bool.false_eq_true, if_false];rw [show ((l.length : Int) == 4) = decide ((l.length : Int) = 4) from rfl]
 ·intro n i x hi hx;have hxl := hm x (List.mem_of_getElem? hx);rw [zeh];simp only [Int.ofNat_lt, hi, decide_true, if_true, zY, hx, yob, znJ x 255 (by omega) (by decide) (by decide), zi (show i < 4611686018427387904 by omega)]
  rcases zdn (zer x 255) with h | h
  ·have h2 : (zN 10 x 255).2 = 0 := by unfold zer at h; simp at h; exact h.1
   have h3 := (zkO h2 (by decide)).1
   have h4 : ¬ (zN 10 x 255).1 < 0 := by omega
   rw [h]; simp [h4]
  ·rw [h]; simp
def zlX : Str → Bool
 | [] => true
 | c :: s => if c == 37 then (match s with
  | a :: b :: r => zfQ a && zfQ b && zlX r
  | _ => false) else (zlz c || zuv c) && zlX s
theorem zu0 (s : Str) : zlX (37 :: s) = (match s with | a :: b :: r => zfQ a && zfQ b && zlX r | _ => false) := by
 rw [zlX.eq_def]
 match s with
 | [] => rfl
 | [_] => rfl
 | _ :: _ :: _ => rfl
theorem zu1 (c : UInt8) (s : Str) (h : (c == 37) = false) : zlX (c :: s) = ((zlz c || zuv c) && zlX s) := by
 rw [zlX.eq_def]; simp only [h, Bool.false_eq_true, if_false]
def zmv (s : Str) : Bool := !(s == []) && zlX s
theorem zq5 (s : Str) (hs : s.length < 1000000000) : zhf s = some (zmv s) := by
 unfold zhf zmv
 rcases zdn (s == []) with h0 | h0
 ·rw [h0]; simp
 rw [h0];simp only [Bool.false_eq_true, if_false, ynf, Bool.true_and]
 have key : ∀ (n : Nat) (s : Str), s.length < n → s.length < 1000000000 → zaV n s = some (zlX s) := by
  intro n
  induction n with
  | zero => intro s h; omega
  | succ n ih =>
   intro s h hs;rw [zaV]
   cases s with
   | nil => simp [zlX]
   | cons c s =>
    have h1 : ((c :: s == ([] : Str))) = false := rfl
    have e1 : zbh (c :: s) 1 = some s := by
     have := z6 (l := c :: s) (i := 1) (by simp);simpa using this
    simp only [ylc] at h hs;simp only [h1, ynf, if_true, zgS, ziC, List.getElem?_cons_zero, yob, znc, ztS, zev, e1, ih s (by omega) (by omega), Bool.false_eq_true, if_false]
    rcases zdn (c == 37) with hc | hc
    ·have : c = 37 := by simpa using hc
     subst this
     have hu : zlz 37 = false := by decide
     have hb : zuv 37 = false := by decide
     rw [zu0]
     match s, h, hs with
     | [], _, _ => simp [hu, hb, zai]
     | [a], _, _ => simp [hu, hb, zai]
     | a :: b :: r, h, hs =>
      have h2 : (3 : Int) ≤ ((37 :: a :: b :: r : Str).length : Int) := by simp only [ylc]; omega
      have e3 : zbh (37 :: a :: b :: r) 3 = some r := by
       have := z6 (l := 37 :: a :: b :: r) (i := 3) (by simp);simpa using this
      have e2 : zhF (37 :: a :: b :: r) 1 3 = some [a, b] := by
       have := zeS (l := 37 :: a :: b :: r) (i := 1) (h := 3) (by decide) (by simp);simpa using this
      simp only [ylc] at h hs;simp only [h2, decide_true, if_true, ybs, e2, yob, zdg zgK [a, b] (by simp), zai, e3, ih r (by omega) (by omega), hu, hb, Bool.false_eq_true, if_false];cases ha : zfQ a <;> cases hb : zfQ b <;> simp [ha, hb]
    ·rw [zu1 c s hc, hc];simp only [Bool.false_eq_true, if_false, zai]
     have : (if (decide ((3 : Int) ≤ ((c :: s).length : Int))) = true then some false else some false) = some false := by split <;> rfl
     rw [this];simp only [yob, Bool.false_eq_true, if_false];cases hp : zlz c <;> cases hq : zuv c <;> simp
 exact key fuel s (zv9 (by omega)) hs
theorem zq6 (rec1 : Int → Option Bool) (i : Nat) (t : Bool) (hi : i < 4000000000) : zcm rec1 (i : Int) t = if t = true then some false else rec1 ((i + 3 : Nat) : Int) := by
 unfold zcm zfE
 have i2 : zr (i : Int) 2 = some ((i + 2 : Nat) : Int) := by rw [zb1 (by omega) (by omega)]; simp
 have i3 : zr ((i + 2 : Nat) : Int) 1 = some ((i + 3 : Nat) : Int) := zi (i := i + 2) (by omega);rw [i2, yob, i3, yob]
theorem zui (s : Str) (hs : s.length < 1000000000) : zkF s = some (zmv s) := by
 unfold zkF zmv
 have key : ∀ (n i : Nat), i ≤ s.length → s.length - i < n → zan s n (i : Int) = some (zlX (s.drop i) && !(s == [])) := by
  intro n
  induction n with
  | zero => intro i _ h; omega
  | succ n ih =>
   intro i hi h;rw [zan]
   cases hd : s.drop i with
   | nil =>
    have : i = s.length := by have := congrArg List.length hd; simp at this; omega
    subst this;simp only [Int.lt_irrefl, decide_false, Bool.false_eq_true, if_false, zlX, Bool.true_and];cases s <;> simp
   | cons c t =>
    have hlt : i < s.length := by have := congrArg List.length hd; simp at this; omega
    have hx : s[i]? = some c := by have := congrArg (·[0]?) hd; simpa using this
    have ht : s.drop (i + 1) = t := by rw [← List.drop_drop, hd]; rfl
    have htl : t.length = s.length - (i + 1) := by rw [← ht]; simp
    have i2 : zr (i : Int) 2 = some ((i + 2 : Nat) : Int) := by rw [zb1 (by omega) (by omega)]; simp
    simp only [Int.ofNat_lt, hlt, decide_true, if_true, zU, hx, yob, zi (show i < 4611686018427387904 by omega), i2]
    rcases zdn (c == 37) with hc | hc
    ·have : c = 37 := by simpa using hc
     subst this;rw [zu0]
     match t, ht, htl with
     | [], ht, htl =>
      have : (s.length : Int) ≤ ((i + 2 : Nat) : Int) := by simp at htl; omega
      simp only [ybs, if_true, this, decide_true, zcm, Bool.false_and]
     | [a], ht, htl =>
      have : (s.length : Int) ≤ ((i + 2 : Nat) : Int) := by simp at htl; omega
      simp only [ybs, if_true, this, decide_true, zcm, Bool.false_and]
     | a :: b :: r, ht, htl =>
      have hlt2 : ¬ (s.length : Int) ≤ ((i + 2 : Nat) : Int) := by simp at htl; omega
      have ha : s[i + 1]? = some a := by have := congrArg (·[0]?) ht; simpa using this
      have hb : s[i + 2]? = some b := by have := congrArg (·[1]?) ht; simpa using this
      have hr : s.drop (i + 3) = r := by
       have : (s.drop (i + 1)).drop 2 = r := by rw [ht]; rfl
       rwa [List.drop_drop] at this
      have hi3 : i + 3 ≤ s.length := by simp at htl; omega
      have hih := ih (i + 3) hi3 (by omega);rw [hr] at hih;have hj := zq6 (zan s n) i;simp only [ybs, if_true, hlt2, decide_false, Bool.false_eq_true, if_false, zU, ha, hb, yob, zmI, hj _ (by omega), hih];cases zfQ a <;> cases zfQ b <;> simp
    ·rw [zu1 c t hc, hc];have hih := ih (i + 1) (by omega) (by omega);rw [ht] at hih;simp only [Bool.false_eq_true, if_false, zoE, zwc, yob, zhp, zfE, zi (show i < 4611686018427387904 by omega), hih];cases zlz c <;> cases zuv c <;> simp
 have := key fuel 0 (yz _) (by unfold fuel; omega);simp only [Int.natCast_zero, List.drop_zero] at this;rw [this, Bool.and_comm]
def under (a b : Str) : Bool := zmv a && zmv b && !zhM a && !zhM b && (low a == low b || ((46 :: low b) : Str).isSuffixOf (low a))
end Go.Dm
end
section
namespace Go.Dm
def zao (t : Str) : Str → Option (Str × Str)
 | [] => none
 | x :: s => if t.isPrefixOf (x :: s) then some ([], (x :: s).drop t.length) else (zao t s).map fun p => (x :: p.1, p.2)
theorem zdC {t : Str} : ∀ {s a b : Str}, zao t s = some (a, b) → s = a ++ t ++ b
 | [], _, _, h => by cases h
 | x :: s, a, b, h => by
  rw [zao] at h
  split at h
  ·rename_i hp
   obtain ⟨r, hr⟩ := List.isPrefixOf_iff_prefix.1 hp;simp only [Option.some.injEq, Prod.mk.injEq] at h;obtain ⟨rfl, rfl⟩ := h;rw [← hr]; simp
  ·cases hc : zao t s with
   | none => rw [hc] at h; cases h
   | some p =>
    rw [hc] at h;simp only [Option.map_some, Option.some.injEq, Prod.mk.injEq] at h;obtain ⟨rfl, rfl⟩ := h;have := zdC (a := p.1) (b := p.2) hc;rw [List.cons_append, List.cons_append, ← this]
theorem zor {t : Str} (ht : t ≠ []) : ∀ s : Str, Go.Lib.index s t = match zao t s with | none => -1 | some p => (p.1.length : Int)
 | [] => by
  cases t with
  | nil => exact absurd rfl ht
  | cons y t => rfl
 | x :: s => by
  rw [Go.Lib.index, zao, zor ht s]
  cases t.isPrefixOf (x :: s) with
  | true => rfl
  | false =>
   cases zao t s with
   | none => rfl
   | some p =>
    simp only [Bool.false_eq_true, if_false, Option.map_some, ylc];have : ((p.1.length : Int) == -1) = false := beq_eq_false_iff_ne.2 (by omega);rw [this];simp
theorem znN (s t : Str) (hs : s.length < 1000000000) (ht : t ≠ []) : strings_Cut s t = some (match zao t s with | none => (s, [], false) | some p => (p.1, p.2, true)) := by
 unfold strings_Cut Go.Lib.cut;rw [if_pos (by omega), zor ht]
 congr 1
 cases hc : zao t s with
 | none => rfl
 | some p =>
  have e := zdC (a := p.1) (b := p.2) hc
  have h0 : (0 : Int) ≤ (p.1.length : Int) := by omega
  simp only [h0, if_true, Int.toNat_natCast]
  have e1 : s.take p.1.length = p.1 := by rw [e, yaa, List.take_left']; rfl
  have e2 : s.drop (p.1.length + t.length) = p.2 := by rw [e, List.drop_left']; simp
  rw [e1, e2]
def grp (x : Str) : Bool := decide (1 ≤ x.length) && decide (x.length ≤ 4) && x.all zfQ
def zG (last : Bool) : List Str → Option Nat
 | [] => some 0
 | [x] => if last && zhM x then some 2 else if grp x then some 1 else none
 | x :: y :: l => if grp x then (zG last (y :: l)).map (· + 1) else none
theorem zpu (last : Bool) : ∀ (l m : List Str), m ≠ [] → zG last (l ++ m) = (zG false l).bind fun a => (zG last m).map (· + a)
 | [], m, _ => by simp [zG]
 | [x], m, hm => by
  cases m with
  | nil => exact absurd rfl hm
  | cons y m =>
   show zG last (x :: y :: m) = _;rw [zG, zG];cases grp x <;> simp
 | x :: y :: l, m, hm => by
  show zG last (x :: y :: (l ++ m)) = _;have ih := zpu last (y :: l) m hm;rw [zG, zG];rw [List.cons_append] at ih;rw [ih]
  cases grp x with
  | false => rfl
  | true =>
   simp only [if_true]
   cases zG false (y :: l) with
   | none => rfl
   | some a =>
    cases zG last m with
    | none => rfl
    | some b => simp; omega
def ztp (a : Nat) : Option Nat → Int
 | none => -1
 | some k => ((a + k : Nat) : Int)
theorem zqa (rec1 : Int → Int → Option Int) (a i : Nat) (hi : i < 4000000000) : zb8 rec1 (i : Int) (a : Int) = rec1 (a : Int) ((i + 1 : Nat) : Int) := by
 unfold zb8; rw [zi (by omega), yob]
theorem zqb (rec1 : Int → Int → Option Int) (a i : Nat) (t : Bool) (hi : i < 4000000000) (ha : a < 4000000000) : zbk rec1 (a : Int) (i : Int) t = if t = true then rec1 ((a + 1 : Nat) : Int) ((i + 1 : Nat) : Int) else some (-1) := by
 unfold zbk;rw [zi (by omega), yob, zqa rec1 (a + 1) i hi]
theorem zvW (rec1 : Int → Int → Option Int) (a i : Nat) (x : Str) (t : Bool) (hi : i < 4000000000) (ha : a < 4000000000) (hx : x.length < 1000000000) :
  zbl rec1 (a : Int) (i : Int) x t = if t = true then rec1 ((a + 2 : Nat) : Int) ((i + 1 : Nat) : Int) else if grp x = true then rec1 ((a + 1 : Nat) : Int) ((i + 1 : Nat) : Int) else some (-1) := by
 unfold zbl grp
 have i2 : zr (a : Int) 2 = some ((a + 2 : Nat) : Int) := by rw [zb1 (by omega) (by omega)]; simp
 have e1 : decide ((1 : Int) ≤ (x.length : Int)) = decide (1 ≤ x.length) := decide_eq_decide.2 (by omega);have e2 : decide ((x.length : Int) ≤ 4) = decide (x.length ≤ 4) := decide_eq_decide.2 (by omega);rw [i2, yob, zqa rec1 (a + 2) i hi, zdg zgK x hx, yob, zqb rec1 a i _ hi ha, zqb rec1 a i _ hi ha, e1, e2];generalize rec1 _ _ = r1;generalize rec1 _ _ = r2;generalize decide (1 ≤ x.length) = d1;generalize decide (x.length ≤ 4) = d2;generalize x.all zfQ = d3;cases t <;> cases d1 <;> cases d2 <;> cases d3 <;> rfl
theorem zmx (last : Bool) (x : Str) : zG last [x] = if last && zhM x then some 2 else if grp x then some 1 else none := rfl
theorem zlg (last : Bool) (x y : Str) (l : List Str) : zG last (x :: y :: l) = if grp x then (zG last (y :: l)).map (· + 1) else none := rfl
theorem zzU (a : Nat) (o : Option Nat) : ztp a (o.map (· + 1)) = ztp (a + 1) o := by
 cases o with
 | none => rfl
 | some k => simp only [Option.map_some, ztp]; congr 1; omega
theorem zmy (last : Bool) (l : List Str) (hl : l.length < 1000000000) (hx : ∀ x ∈ l, x.length < 1000000000) : ∀ (n i a : Nat), i ≤ l.length → l.length - i < n → a ≤ 2 * i → zK last l n (a : Int) (i : Int) = some (ztp a (zG last (l.drop i)))
 | 0, _, _, _, h, _ => by omega
 | n + 1, i, a, hi, h, ha => by
  rw [zK]
  cases hd : l.drop i with
  | nil =>
   have : i = l.length := by have := congrArg List.length hd; simp at this; omega
   subst this;simp [zG, ztp]
  | cons x t =>
   have hlt : i < l.length := by have := congrArg List.length hd; simp at this; omega
   have hxx : l[i]? = some x := by have := congrArg (·[0]?) hd; simpa using this
   have ht : l.drop (i + 1) = t := by rw [← List.drop_drop, hd]; rfl
   have htl : t.length = l.length - (i + 1) := by rw [← ht]; simp
   have hxl := hx x (List.mem_of_getElem? hxx)
   have hsub : zcu (l.length : Int) 1 = some ((l.length - 1 : Nat) : Int) := by rw [zaJ (by omega) (by omega)]; congr 1; omega
   have ih1 := zmy last l hl hx n (i + 1) (a + 1) (by omega) (by omega) (by omega);have ih2 := zmy last l hl hx n (i + 1) (a + 2) (by omega) (by omega) (by omega);rw [ht] at ih1 ih2;have j2 := fun t => zvW (zK last l n) a i x t (by omega) (by omega) hxl;simp only [Int.ofNat_lt, hlt, decide_true, if_true, zY, hxx, yob, hsub, zlW x hxl, j2, ih1, ih2]
   cases t with
   | nil =>
    have hei : ((i : Int) == ((l.length - 1 : Nat) : Int)) = true := by simp at htl; simp; omega
    rw [hei, zmx];have en : ∀ b, zG b [] = some 0 := fun _ => rfl;rw [en];cases last <;> cases zhM x <;> cases grp x <;> rfl
   | cons y t =>
    have hei : ((i : Int) == ((l.length - 1 : Nat) : Int)) = false := by simp at htl; simp; omega
    rw [hei, zlg];have := zzU a (zG last (y :: t));have hn : ztp a none = -1 := rfl;cases last <;> cases grp x <;> simp only [if_true, Bool.false_eq_true, if_false, this, hn]
def zbe (s : Str) : List Str := if s = [] then [] else zf 58 s
theorem zq8 (s : Str) (last : Bool) (hs : s.length < 900000000) : zcX s last = some (ztp 0 (zG last (zbe s))) := by
 unfold zcX zbe
 by_cases h0 : s = []
 ·subst h0; rfl
 ·have h1 : (s == []) = false := beq_eq_false_iff_ne.2 h0;rw [h1, if_neg h0];have hl := zf3 58 s;simp only [Bool.false_eq_true, if_false, zqD s 58 (by omega), yob];have := zmy last (zf 58 s) (by omega) (fun x hx => by have := (zdO hx).2.1; omega) fuel 0 0 (by omega) (by unfold fuel; omega) (by omega);simpa using this
theorem zu3 (last : Bool) : ∀ (l : List Str) (k : Nat), zG last l = some k → k ≤ l.length + 1
 | [], k, h => by cases h; omega
 | [x], k, h => by
  rw [zmx] at h
  split at h
  ·cases h; simp
  ·split at h
   ·cases h; simp
   ·cases h
 | x :: y :: l, k, h => by
  rw [zlg] at h
  split at h
  ·obtain ⟨j, hj, rfl⟩ := Option.map_eq_some_iff.1 h;have := zu3 last (y :: l) j hj;simp only [ylc] at this ⊢;omega
  ·cases h
theorem zqc (s : Str) (last : Bool) (hs : s.length < 900000000) (k : Nat) (h : zG last (zbe s) = some k) : k < 1000000000 := by
 have h1 := zu3 last _ k h;have h2 := zf3 58 s;unfold zbe at h1
 split at h1
 ·simp at h1; omega
 ·omega
def ziw (s : Str) : Bool := zG true (zf 58 s) == some 8
def zu4 (s : Str) : Bool := match zao [58, 58] s with
 | none => ziw s
 | some p => match zG false (zbe p.1), zG true (zbe p.2) with
  | some a, some b => decide (a + b ≤ 7)
  | _, _ => false
theorem Six_eq (s : Str) (hs : s.length < 900000000) : zgR s = some (zu4 s) := by
 unfold zgR zu4;rw [znN s [58, 58] (by omega) (by simp), yob]
 cases hc : zao [58, 58] s with
 | none =>
  simp only [ynf, if_true, zq8 s true hs, yob, ziw];unfold zbe
  split
  ·rename_i h; subst h; rfl
  ·cases zG true (zf 58 s) with
   | none => rfl
   | some k =>
    simp only [ztp, Nat.zero_add, Option.some.injEq]
    by_cases h : k = 8
    ·subst h; rfl
    ·have h1 : ((k : Int) == 8) = false := beq_eq_false_iff_ne.2 (by omega);rw [h1]; simp [h]
 | some p =>
  have e := congrArg List.length (zdC (a := p.1) (b := p.2) hc);simp only [yla] at e;simp only [ynt, Bool.false_eq_true, if_false, zq8 p.1 false (by omega), zq8 p.2 true (by omega), yob]
  cases ha : zG false (zbe p.1) with
  | none => simp [ztp, zbV]
  | some a =>
   cases hb : zG true (zbe p.2) with
   | none => simp [ztp, zbV]
   | some b =>
    have hb' := (zqc p.1 false (by omega) a ha);have hb2 := (zqc p.2 true (by omega) b hb);simp only [ztp, Nat.zero_add]
    have e0 : decide ((0 : Int) ≤ (a : Int)) = true := by simp
    have e1 : decide ((0 : Int) ≤ (b : Int)) = true := by simp
    rw [e0, e1, if_pos rfl, if_pos rfl, zn5 (by omega), yob];unfold zbV
    congr 1
    exact decide_eq_decide.2 (by omega)
theorem zxa (rec1 : Int → Int → Option Bool) (l : List Str) (a i : Nat) (x : Str) (hx : l[i]? = some x) (hxl : x.length < 1000000000) (hi : i < 2000000000) (ha : a < 4000000000) :
  zdz rec1 l (a : Int) (i : Int) fuel 0 = if grp x = true then rec1 ((a + 1 : Nat) : Int) ((i + 1 : Nat) : Int) else some false := by
 have key : ∀ (n j : Nat), j ≤ x.length → x.length - j < n → zdz rec1 l (a : Int) (i : Int) n (j : Int) = if (x.drop j).all zfQ = true then (if (decide (1 ≤ x.length) && decide (x.length ≤ 4)) = true then rec1 ((a + 1 : Nat) : Int) ((i + 1 : Nat) : Int) else some false) else some false := by
  intro n
  induction n with
  | zero => intro j _ h; omega
  | succ n ih =>
   intro j hj h;rw [zdz];rw [zY, hx];simp only [yob]
   by_cases hlt : j < x.length
   ·have e : decide ((j : Int) < (x.length : Int)) = true := ydt (by omega);have hc : x[j]? = some x[j] := ygg hlt;rw [e, if_pos rfl, zU, hc, yob, zmI, yob, zi (by omega), yob, ih (j + 1) (by omega) (by omega), ydg hlt, List.all_cons];cases zfQ x[j] <;> rfl
   ·have hjl : j = x.length := by omega
    subst hjl;have e : decide ((x.length : Int) < (x.length : Int)) = false := ydf (by omega)
    have e1 : decide ((x.length : Int) < 1) = !decide (1 ≤ x.length) := by rw [← decide_not]; exact decide_eq_decide.2 (by omega)
    have e2 : decide (4 < (x.length : Int)) = !decide (x.length ≤ 4) := by rw [← decide_not]; exact decide_eq_decide.2 (by omega)
    rw [e, if_neg (by decide), ydl, e1, e2];unfold zgm zeM;rw [zi (by omega), yob, zi (by omega), yob];generalize rec1 _ _ = r1;generalize decide (1 ≤ x.length) = d1;generalize decide (x.length ≤ 4) = d2;cases d1 <;> cases d2 <;> rfl
 have := key fuel 0 (yz _) (by unfold fuel; omega);rw [show (0 : Int) = ((0 : Nat) : Int) from rfl, this, List.drop_zero];unfold grp;generalize rec1 _ _ = r1;generalize decide (1 ≤ x.length) = d1;generalize decide (x.length ≤ 4) = d2;generalize x.all zfQ = d3;cases d1 <;> cases d2 <;> cases d3 <;> rfl
def isW (a : Nat) : Option Nat → Bool
 | none => false
 | some k => a + k == 8
theorem zBZ (a : Nat) (o : Option Nat) : isW a (o.map (· + 1)) = isW (a + 1) o := by
 cases o with
 | none => rfl
 | some k => simp only [Option.map_some, isW]; congr 1; omega
theorem znO (l : List Str) (hl : l.length < 1000000000) (hx : ∀ x ∈ l, x.length < 1000000000) : ∀ (n i a : Nat), i ≤ l.length → l.length - i < n → a ≤ 2 * i → zaw l n (a : Int) (i : Int) = some (isW a (zG true (l.drop i)))
 | 0, _, _, _, h, _ => by omega
 | n + 1, i, a, hi, h, ha => by
  rw [zaw]
  cases hd : l.drop i with
  | nil =>
   have : i = l.length := by have := congrArg List.length hd; simp at this; omega
   subst this;have e : decide ((l.length : Int) < (l.length : Int)) = false := ydf (by omega);rw [e, if_neg (by decide)];show some ((a : Int) == 8) = some (a + 0 == 8)
   congr 1
   by_cases h8 : a = 8
   ·subst h8; rfl
   ·rw [beq_eq_false_iff_ne.2 (show (a : Int) ≠ 8 by omega), beq_eq_false_iff_ne.2 (show a + 0 ≠ 8 by omega)]
  | cons x t =>
   have hlt : i < l.length := by have := congrArg List.length hd; simp at this; omega
   have hxx : l[i]? = some x := by have := congrArg (·[0]?) hd; simpa using this
   have ht : l.drop (i + 1) = t := by rw [← List.drop_drop, hd]; rfl
   have htl : t.length = l.length - (i + 1) := by rw [← ht]; simp
   have hxl := hx x (List.mem_of_getElem? hxx)
   have hsub : zcu (l.length : Int) 1 = some ((l.length - 1 : Nat) : Int) := by rw [zaJ (by omega) (by omega)]; congr 1; omega
   have ih1 := znO l hl hx n (i + 1) (a + 1) (by omega) (by omega) (by omega);have ih2 := znO l hl hx n (i + 1) (a + 2) (by omega) (by omega) (by omega);rw [ht] at ih1 ih2;have e : decide ((i : Int) < (l.length : Int)) = true := ydt (by omega)
   have i2 : zr (a : Int) 2 = some ((a + 2 : Nat) : Int) := by rw [zb1 (by omega) (by omega)]; simp
   have j2 : ∀ t, zeN (zaw l n) l (a : Int) (i : Int) t = if t = true then some (isW (a + 2) (zG true (l.drop (i + 1)))) else if grp x = true then some (isW (a + 1) (zG true (l.drop (i + 1)))) else some false := by
    intro t;unfold zeN zeM;rw [i2, yob, zi (by omega), yob, zxa _ l a i x hxx hxl (by omega) (by omega), ht, ih1, ih2]
   rw [e, if_pos rfl, hsub, yob, zY, hxx, yob, zo1 x hxl, yob, j2, j2, ht]
   cases t with
   | nil =>
    have hei : ((i : Int) == ((l.length - 1 : Nat) : Int)) = true := by simp at htl; simp; omega
    rw [hei, zmx];have en : ∀ b, zG b [] = some 0 := fun _ => rfl;rw [en];cases zhM x <;> cases grp x <;> rfl
   | cons y t =>
    have hei : ((i : Int) == ((l.length - 1 : Nat) : Int)) = false := by simp at htl; simp; omega
    rw [hei, zlg];have := zBZ a (zG true (y :: t));have hn : isW a none = false := rfl;cases grp x <;> simp only [if_true, Bool.false_eq_true, if_false, this, hn]
theorem zxb (s : Str) (hs : s.length < 900000000) : zhV s = some (ziw s) := by
 unfold zhV ziw;have hl := zf3 58 s;rw [zko s 58 (by omega), yob];have := znO (zf 58 s) (by omega) (fun x hx => by have := (zdO hx).2.1; omega) fuel 0 0 (by omega) (by unfold fuel; omega) (by omega);rw [List.drop_zero] at this;rw [show (0 : Int) = ((0 : Nat) : Int) from rfl, this]
 congr 1
 cases zG true (zf 58 s) with
 | none => rfl
 | some k => simp only [isW, Nat.zero_add]; exact (Option.some_beq_some ..).symm
def ztq : Nat → Str → Str
 | 0, s => s
 | k + 1, s => ztq k (if s = [] then [48] else s ++ [58, 48])
def zxc (s b : Str) : Str := if b = [] then s else s ++ 58 :: b
theorem zyt (p : Str) (l m : List Str) (h : l ≠ []) : zfN p (l ++ m) = zfN p l ++ m := by
 cases l with
 | nil => exact absurd rfl h
 | cons x l => rfl
theorem znP (c : UInt8) : ∀ x y : Str, zf c (x ++ c :: y) = zf c x ++ zf c y
 | [], y => by rw [yna, zaR, if_pos rfl]; rfl
 | z :: x, y => by
  rw [List.cons_append, zaR, zaR, znP c x y]
  split
  ·rfl
  ·rw [zyt _ _ _ (zbz c x)]
theorem zmz : ∀ (k : Nat) (s : Str), s ≠ [] → zf 58 (ztq k s) = zf 58 s ++ List.replicate k [48]
 | 0, s, _ => by simp [ztq]
 | k + 1, s, h => by
  rw [ztq, if_neg h, zmz k _ (by simp), show s ++ [58, 48] = s ++ (58 : UInt8) :: [48] from rfl, znP, yaa];rfl
theorem ztr (k : Nat) (s : Str) : zf 58 (ztq (k + 1) s) = zbe s ++ List.replicate (k + 1) [48] := by
 unfold zbe
 split
 ·rename_i h
  subst h;rw [ztq, if_pos rfl, zmz k _ (by simp)];rfl
 ·rename_i h
  rw [zmz _ _ h]
theorem zzV : zhM [48] = false := by simp [zhM, zf]
theorem zxd : grp [48] = true := by decide
theorem znQ (last : Bool) : ∀ k : Nat, zG last (List.replicate (k + 1) [48]) = some (k + 1)
 | 0 => by rw [show List.replicate (0 + 1) ([48] : Str) = [[48]] from rfl, zmx, zzV, zxd]; cases last <;> rfl
 | k + 1 => by
  have ih := znQ last k;rw [List.replicate_succ] at ih;rw [List.replicate_succ, List.replicate_succ, zlg, zxd, ih];rfl
def zqd (k : Nat) (a b : Str) : Bool := match zG false (zbe a), zG true (zbe b) with
 | some x, some y => decide (x + y + k ≤ 8)
 | _, _ => false
def sixE (k : Nat) (a b : Str) : Bool := match zG false (zbe a), zG true (zbe b) with
 | some x, some y => x + y + k == 8
 | _, _ => false
theorem zyu (k : Nat) (a b : Str) : ziw (zxc (ztq (k + 1) a) b) = sixE (k + 1) a b := by
 unfold ziw sixE
 have e : zf 58 (zxc (ztq (k + 1) a) b) = zbe a ++ (List.replicate (k + 1) [48] ++ zbe b) := by
  unfold zxc
  split
  ·rename_i h; subst h; rw [ztr]; simp [zbe]
  ·rename_i h
   rw [znP, ztr, yaa]
   congr 2
   unfold zbe; rw [if_neg h]
 rw [e, zpu _ _ _ (by simp [List.replicate_succ])]
 have e2 : zG true (List.replicate (k + 1) [48] ++ zbe b) = (zG true (zbe b)).map (· + (k + 1)) := by
  by_cases hb : zbe b = []
  ·rw [hb, yan, znQ];simp [zG]
  ·rw [zpu _ _ _ hb, znQ]; rfl
 rw [e2]
 cases zG false (zbe a) with
 | none => rfl
 | some x =>
  cases zG true (zbe b) with
  | none => rfl
  | some y =>
   simp only [yob, Option.map_some]
   have : y + (k + 1) + x = x + y + (k + 1) := by omega
   rw [this];exact Option.some_beq_some ..
theorem zu5 (rec3 : Int → Option Bool) (k : Nat) (t : Str) (ht : t.length < 900000000) (hk : k < 100) : zg0 rec3 (k : Int) t = if ziw t = true then some true else rec3 ((k + 1 : Nat) : Int) := by
 unfold zg0;rw [zxb t ht, yob, zi (by omega), yob]
theorem zq9 (rec3 : Int → Option Bool) (s b : Str) (i k : Nat) (hi : i + 2 ≤ s.length) (hs : s.length < 400000000) (hb : s.drop (i + 2) = b) (hk : k < 100) : ∀ (n j : Nat) (t : Str), j ≤ k → k - j < n → t.length ≤ s.length + 2 * j →
  zd5 rec3 s (i : Int) (k : Int) n t (j : Int) = if ziw (zxc (ztq (k - j) t) b) = true then some true else rec3 ((k + 1 : Nat) : Int)
 | 0, _, _, _, h, _ => by omega
 | n + 1, j, t, hj, h, ht => by
  rw [zd5]
  by_cases hlt : j < k
  ·have e : decide ((j : Int) < (k : Int)) = true := ydt (by omega)
   have hkj : k - j = (k - (j + 1)) + 1 := by omega
   rw [e, if_pos rfl, hkj, ztq];unfold zim;rw [zi (by omega)];simp only [yob]
   by_cases h0 : t = []
   ·subst h0;have hn : (!(([] : Str) == [])) = false := rfl;have := zq9 rec3 s b i k hi hs hb hk n (j + 1) [48] (by omega) (by omega) (by simp; omega);rw [hn, if_neg (by decide), zZ (by simp), yob, if_pos rfl];exact this
   ·have hn : (!(t == [])) = true := by simp [h0]
    have := zq9 rec3 s b i k hi hs hb hk n (j + 1) (t ++ [58, 48]) (by omega) (by omega) (by simp; omega);rw [hn, if_pos rfl, zZ (by simp; omega), yob, zZ (by simp; omega), yob, if_neg h0, yaa];exact this
  ·have hjk : j = k := by omega
   subst hjk;have e : decide ((j : Int) < (j : Int)) = false := ydf (by omega)
   have i2 : zr (i : Int) 2 = some ((i + 2 : Nat) : Int) := by rw [zb1 (by omega) (by omega)]; simp
   have hbl : b.length ≤ s.length := by rw [← hb]; simp
   rw [e, if_neg (by decide), Nat.sub_self, ztq, i2, yob, z6 hi, yob, hb];unfold zxc
   by_cases h0 : b = []
   ·subst h0;have hn : (!(([] : Str) == [])) = false := rfl;rw [hn, if_neg (by decide), if_pos rfl, zu5 rec3 j t (by omega) hk]
   ·have hn : (!(b == [])) = true := by simp [h0]
    rw [hn, if_pos rfl, zZ (by simp; omega), yob, yob, z6 hi, yob, hb, zZ (by simp; omega), yob, if_neg h0, yaa];exact zu5 rec3 j (t ++ 58 :: b) (by simp; omega) hk
theorem zB1 (k : Nat) (a b : Str) : zqd k a b = (sixE k a b || zqd (k + 1) a b) := by
 unfold zqd sixE
 cases zG false (zbe a) with
 | none => rfl
 | some x =>
  cases zG true (zbe b) with
  | none => rfl
  | some y =>
   show decide (x + y + k ≤ 8) = (x + y + k == 8 || decide (x + y + (k + 1) ≤ 8));rw [Bool.eq_iff_iff];simp only [decide_eq_true_eq, Bool.or_eq_true, beq_iff_eq];omega
theorem zu6 (s b : Str) (i : Nat) (hi : i + 2 ≤ s.length) (hs : s.length < 400000000) (hb : s.drop (i + 2) = b) : ∀ (n k : Nat), k ≤ 8 → 8 - k + 1 < n → zbI s (i : Int) n ((k + 1 : Nat) : Int) = some (zqd (k + 1) (s.take i) b)
 | 0, _, _, h => by omega
 | n + 1, k, hk, h => by
  rw [zbI]
  by_cases hlt : k < 8
  ·have e : decide (((k + 1 : Nat) : Int) ≤ 8) = true := ydt (by omega);have ih := zu6 s b i hi hs hb n (k + 1) (by omega) (by omega);rw [e, if_pos rfl, zc9 (by omega), yob];have := zq9 (zbI s (i : Int) n) s b i (k + 1) hi hs hb (by omega) fuel 0 (s.take i) (by omega) (by unfold fuel; omega) (by simp; omega);rw [Nat.sub_zero] at this;rw [show (0 : Int) = ((0 : Nat) : Int) from rfl, this, ih, zyu, zB1 (k + 1)];cases sixE (k + 1) (s.take i) b <;> rfl
  ·have : k = 8 := by omega
   subst this
   have e : decide (((8 + 1 : Nat) : Int) ≤ 8) = false := by decide
   rw [e, if_neg (by decide)]
   congr 1
   unfold zqd
   cases zG false (zbe (s.take i)) with
   | none => rfl
   | some x =>
    cases zG true (zbe b) with
    | none => rfl
    | some y => exact (ydf (by omega)).symm
theorem zDm (a b : Str) : zqd 1 a b = (match zG false (zbe a), zG true (zbe b) with | some a, some b => decide (a + b ≤ 7) | _, _ => false) := by
 unfold zqd
 cases zG false (zbe a) with
 | none => rfl
 | some x =>
  cases zG true (zbe b) with
  | none => rfl
  | some y => exact decide_eq_decide.2 (by omega)
theorem zvX (s : Str) (hs : s.length < 400000000) : zkc s = some (zu4 s) := by
 unfold zkc
 have key : ∀ (n i : Nat), i ≤ s.length → s.length - i < n → zd6 s n (i : Int) = some (match zao [58, 58] (s.drop i) with | none => ziw s | some p => zqd 1 (s.take (i + p.1.length)) p.2) := by
  intro n
  induction n with
  | zero => intro i _ h; omega
  | succ n ih =>
   intro i hi h;rw [zd6, zi (by omega), yob]
   by_cases hlt : i + 1 < s.length
   ·have e : decide (((i + 1 : Nat) : Int) < (s.length : Int)) = true := ydt (by omega)
    have hd : s.drop i = s[i] :: s[i + 1] :: s.drop (i + 2) := by rw [ydg (by omega), ydg hlt]
    have hd1 : s.drop (i + 1) = s[i + 1] :: s.drop (i + 2) := ydg hlt;have g0 : s[i]? = some s[i] := ygg (by omega);have g1 : s[i + 1]? = some s[i + 1] := ygg hlt;have ih1 := ih (i + 1) (by omega) (by omega);have hL3 := zu6 s (s.drop (i + 2)) i (by omega) hs rfl fuel 0 (by omega) (by unfold fuel; omega)
    have next : (match zao [58, 58] (s[i] :: s.drop (i + 1)) with | none => ziw s | some p => zqd 1 (s.take (i + p.1.length)) p.2) = if ([58, 58] : Str).isPrefixOf (s[i] :: s.drop (i + 1)) = true then zqd 1 (s.take i) (s.drop (i + 2)) else (match zao [58, 58] (s.drop (i + 1)) with | none => ziw s | some p => zqd 1 (s.take (i + 1 + p.1.length)) p.2) := by
     rw [zao]
     cases ([58, 58] : Str).isPrefixOf (s[i] :: s.drop (i + 1)) with
     | true =>
      rw [if_pos rfl, if_pos rfl];show zqd 1 (s.take (i + 0)) (List.drop (1 + 1) (s[i] :: s.drop (i + 1))) = _;rw [hd1]; rfl
     | false =>
      rw [if_neg (by decide), if_neg (by decide)]
      cases zao [58, 58] (s.drop (i + 1)) with
      | none => rfl
      | some p =>
       show zqd 1 (s.take (i + (p.1.length + 1))) p.2 = _;rw [show i + (p.1.length + 1) = i + 1 + p.1.length from by omega]
    rw [e, if_pos rfl, zU, g0, yob, yob, zU, g1, yob, ydg (show i < s.length by omega), next];unfold zin;rw [zi (by omega), yob, ih1]
    have hp : ([58, 58] : Str).isPrefixOf (s[i] :: s.drop (i + 1)) = (s[i] == 58 && s[i + 1] == 58) := by
     rw [hd1];simp only [List.isPrefixOf_cons_cons, List.isPrefixOf_nil_left, Bool.and_true];rw [zsT 58, zsT 58]
    rw [hp];have hL3' : zbI s (i : Int) fuel 1 = some (zqd 1 (s.take i) (s.drop (i + 2))) := hL3;rw [hL3'];cases s[i] == 58 <;> cases s[i + 1] == 58 <;> rfl
   ·have e : decide (((i + 1 : Nat) : Int) < (s.length : Int)) = false := ydf (by omega);rw [e, if_neg (by decide), zxb s (by omega), yob]
    have : zao [58, 58] (s.drop i) = none := by
     cases hd : s.drop i with
     | nil => rfl
     | cons x t =>
      have : t = [] := by have := congrArg List.length hd; simp at this; exact List.eq_nil_of_length_eq_zero (by omega)
      subst this;rw [zao];simp [List.isPrefixOf, zao]
    rw [this]
 have := key fuel 0 (yz _) (by unfold fuel; omega);rw [List.drop_zero] at this;rw [show (0 : Int) = ((0 : Nat) : Int) from rfl, this];unfold zu4
 congr 1
 cases hc : zao [58, 58] s with
 | none => rfl
 | some p =>
  have e := zdC (a := p.1) (b := p.2) hc
  have e1 : s.take (0 + p.1.length) = p.1 := by rw [Nat.zero_add, e, yaa, List.take_left']; rfl
  simp only [e1];exact zDm p.1 p.2
end Go.Dm
end
section
namespace Go.Dm
def zs4 (s : Str) : Str := (s.take (s.length - 1)).drop 1
def zmp (s : Str) : Bool := decide (2 < s.length) && s[0]? == some 91 && s[s.length - 1]? == some 93 && zu4 (zs4 s)
def zhc (s : Str) : Int × Str := if zmp s then (3, zs4 s) else if zhM s then (2, s) else if zmv s then (1, s) else (0, s)
theorem zs5 (x y : UInt8) : ((some x : Option UInt8) == some y) = (x == y) := Option.some_beq_some ..
theorem zzA (s : Str) : (zs4 s).length ≤ s.length := by unfold zs4; simp; omega
theorem zoX {β : Type} (s : Str) (hs : s.length < 400000000) (f : Str → Option Bool) (hf : ∀ t, t.length < 400000000 → f t = some (zu4 t)) (J : Bool → Option β) :
  (if (decide (2 < (s.length : Int))) then ((sAt s 0).bind fun b6 => if (b6 == 91) then ((zcu (s.length : Int) 1).bind fun i8 => (sAt s i8).bind fun b9 => if (b9 == 93) then ((zcu (s.length : Int) 1).bind fun i11 => (zhF s 1 i11).bind fun s12 => (f s12).bind fun r13 => J r13) else J false) else J false) else J false) = J (zmp s) := by
 unfold zmp
 by_cases h : 2 < s.length
 ·have e : decide (2 < (s.length : Int)) = true := ydt (by omega);have e' : decide (2 < s.length) = true := ydt h;have g0 : s[0]? = some s[0] := ygg (by omega);have g1 : s[s.length - 1]? = some s[s.length - 1] := ygg (by omega)
  have i1 : zcu (s.length : Int) 1 = some ((s.length - 1 : Nat) : Int) := by rw [zaJ (by omega) (by omega)]; congr 1; omega
  have s1 : zhF s 1 ((s.length - 1 : Nat) : Int) = some (zs4 s) := zeS (i := 1) (by omega) (by omega);have := zzA s;rw [e, e', if_pos rfl, show (0 : Int) = ((0 : Nat) : Int) from rfl, zU, g0, yob, i1, yob, zU, g1, yob, yob, s1, yob, hf _ (by omega), yob, zs5, zs5];cases s[0] == 91 <;> cases s[s.length - 1] == 93 <;> rfl
 ·rw [ydf (show ¬ (2 < (s.length : Int)) by omega), ydf h]; rfl
theorem znA (s : Str) (hs : s.length < 400000000) : zhQ s = some (⟨(zhc s).1, (zhc s).2, -1⟩, !((zhc s).1 == 0)) := by
 unfold zhQ;rw [zoX s hs zgR (fun t ht => Six_eq t (by omega)) (zcx s)];unfold zcx zdp zhc
 cases hb : zmp s with
 | true =>
  have h : 2 < s.length := by unfold zmp at hb; simp at hb; exact hb.1.1.1
  have i1 : zcu (s.length : Int) 1 = some ((s.length - 1 : Nat) : Int) := by rw [zaJ (by omega) (by omega)]; congr 1; omega
  have s1 : zhF s 1 ((s.length - 1 : Nat) : Int) = some (zs4 s) := zeS (i := 1) (by omega) (by omega);rw [if_pos rfl, i1, yob, s1, yob, if_pos rfl]
 | false =>
  rw [if_neg (by decide), zlW s (by omega), yob, zq5 s (by omega), yob];cases zhM s <;> cases zmv s <;> rfl
theorem zry (s : Str) (hs : s.length < 400000000) : zlU s = some (if (zhc s).1 == 0 then ⟨0, [], 0⟩ else ⟨(zhc s).1, (zhc s).2, -1⟩) := by
 unfold zlU;rw [zoX s hs zkc zvX (zeX s)];unfold zeX zhc
 cases hb : zmp s with
 | true =>
  have h : 2 < s.length := by unfold zmp at hb; simp at hb; exact hb.1.1.1
  have i1 : zcu (s.length : Int) 1 = some ((s.length - 1 : Nat) : Int) := by rw [zaJ (by omega) (by omega)]; congr 1; omega
  have s1 : zhF s 1 ((s.length - 1 : Nat) : Int) = some (zs4 s) := zeS (i := 1) (by omega) (by omega);rw [if_pos rfl, i1, yob, s1, yob, if_pos rfl];rfl
 | false =>
  rw [if_neg (by decide), zo1 s (by omega), yob, zui s (by omega), yob];cases zhM s <;> cases zmv s <;> rfl
def zjm (s : Str) (c : UInt8) : Nat → Option Nat
 | 0 => none
 | k + 1 => if s[k]? = some c then some k else zjm s c k
theorem znB {s : Str} {c : UInt8} : ∀ {k i : Nat}, zjm s c k = some i → i < k ∧ s[i]? = some c
 | 0, _, h => by cases h
 | k + 1, i, h => by
  rw [zjm] at h
  split at h
  ·rename_i h2; cases h; exact ⟨by omega, h2⟩
  ·have := znB h; exact ⟨by omega, this.2⟩
theorem zlL (s : Str) (c : UInt8) (hs : s.length < 1000000000) : zaG s c = some (match zjm s c s.length with | none => -1 | some k => (k : Int)) := by
 unfold zaG zbw
 have key : ∀ (n k : Nat), k ≤ s.length → k < n → zQ s c n ((k : Int) - 1) = some (match zjm s c k with | none => -1 | some j => (j : Int)) := by
  intro n
  induction n with
  | zero => intro k _ h; omega
  | succ n ih =>
   intro k hk h;rw [zQ]
   cases k with
   | zero => rw [ydf (by omega)]; rfl
   | succ k =>
    have e1 : ((k + 1 : Nat) : Int) - 1 = (k : Int) := by omega
    have g : s[k]? = some s[k] := ygg (by omega);rw [e1, ydt (show (0 : Int) ≤ (k : Int) by omega), if_pos rfl, zU, g, yob, zaJ (by omega) (by omega), yob, ih k (by omega) (by omega), zjm, g]
    by_cases hc : s[k] = c
    ·have : (s[k] == c) = true := by simp [hc]
     rw [this, if_pos rfl, if_pos (by rw [hc])]
    ·have : (s[k] == c) = false := beq_eq_false_iff_ne.2 hc;rw [this, if_neg (by decide), if_neg (by simpa using hc)]
 rw [zaJ (by omega) (by omega), yob, key fuel s.length (Nat.le_refl _) (by unfold fuel; omega), yob]
def zcM (s : Str) : api_Host × Int :=
 if !((zhc s).1 == 0) then (⟨(zhc s).1, (zhc s).2, -1⟩, 0) else match zjm s 58 s.length with
 | none => (⟨0, [], 0⟩, 27)
 | some k => if !((zhc (s.take k)).1 == 0) && zer (s.drop (k + 1)) 65535 then (⟨(zhc (s.take k)).1, (zhc (s.take k)).2, (zN 10 (s.drop (k + 1)) 65535).1⟩, 0) else (⟨0, [], 0⟩, 27)
theorem zh6 (s : Str) (hs : s.length < 400000000) : zdq s = some (zcM s) := by
 unfold zdq zcM;rw [znA s hs, yob]
 cases !((zhc s).1 == 0) with
 | true => rfl
 | false =>
  show (if false = true then _ else _) = some (if false = true then _ else _);rw [if_neg (by decide), if_neg (by decide), zlL s 58 (by omega), yob]
  cases hl : zjm s 58 s.length with
  | none => rfl
  | some k =>
   have hk := (znB hl).1;show (if decide ((k : Int) < 0) = true then _ else _) = _;rw [ydf (show ¬ ((k : Int) < 0) by omega), if_neg (by decide), zc9 (by omega), yob, znA _ (by simp; omega), yob];unfold zdX;rw [zi (by omega), yob, z6 (by omega), yob, yob, z6 (by omega), yob, zle _ _ (by simp; omega) (by decide) (by decide), yob, zfg _ _ (by simp; omega) (by decide) (by decide), yob];dsimp only;cases (zhc (s.take k)).1 == 0 <;> cases zer (s.drop (k + 1)) 65535 <;> rfl
theorem zkt (s : Str) (hs : s.length < 400000000) : zeY s = some (zcM s) := by
 unfold zeY zcM
 have key : ∀ (n k : Nat), k ≤ s.length → k < n → zeO s n ((k : Int) - 1) = some (match zjm s 58 k with
   | none => (⟨0, [], 0⟩, 27)
   | some k => if !((zhc (s.take k)).1 == 0) && zer (s.drop (k + 1)) 65535 then (⟨(zhc (s.take k)).1, (zhc (s.take k)).2, (zN 10 (s.drop (k + 1)) 65535).1⟩, 0) else (⟨0, [], 0⟩, 27)) := by
  intro n
  induction n with
  | zero => intro k _ h; omega
  | succ n ih =>
   intro k hk h;rw [zeO]
   cases k with
   | zero => rw [ydf (by omega)]; rfl
   | succ k =>
    have e1 : ((k + 1 : Nat) : Int) - 1 = (k : Int) := by omega
    have g : s[k]? = some s[k] := ygg (by omega);rw [e1, ydt (show (0 : Int) ≤ (k : Int) by omega), if_pos rfl, zU, g, yob, zaJ (by omega) (by omega), yob, ih k (by omega) (by omega), zjm, g]
    by_cases hc : s[k] = 58
    ·have : (s[k] == 58) = true := by simp [hc]
     rw [this, if_neg (by decide), if_pos (by rw [hc]), zc9 (by omega), yob, zry _ (by simp; omega), yob, zi (by omega), yob, z6 (by omega), yob, znJ _ _ (by simp; omega) (by decide) (by decide), yob];unfold zgn;dsimp only
     cases h0 : (zhc (s.take k)).1 == 0 with
     | true => rfl
     | false =>
      simp only [Bool.false_eq_true, if_false, h0, ynf, Bool.true_and]
      cases hsm : zer (s.drop (k + 1)) 65535 with
      | false => rfl
      | true =>
       have h2 : (zN 10 (s.drop (k + 1)) 65535).2 = 0 := by unfold zer at hsm; simp at hsm; exact hsm.1
       have h3 := (zkO h2 (by decide)).1;simp only [if_true];rw [ydf (by omega)]; rfl
    ·have : (s[k] == 58) = false := beq_eq_false_iff_ne.2 hc;rw [this, ynf, if_pos rfl, if_neg (by simpa using hc)]
 rw [zry s hs, yob]
 cases h0 : (zhc s).1 == 0 with
 | true =>
  simp only [if_true, ybs, ynt, Bool.false_eq_true, if_false];rw [zaJ (by omega) (by omega), yob, key fuel s.length (Nat.le_refl _) (by unfold fuel; omega)]
 | false =>
  simp only [Bool.false_eq_true, if_false, h0, ynf, if_true]
end Go.Dm
end
section
namespace Go.Dm
def pqL (more : Str) : Str → Bool
 | [] => true
 | c :: s => if c == 37 then (match s with
  | a :: b :: r => zfQ a && zfQ b && pqL more r
  | _ => false) else (zqw c || more.contains c) && pqL more s
theorem zyZ (more s : Str) : pqL more (37 :: s) = (match s with | a :: b :: r => zfQ a && zfQ b && pqL more r | _ => false) := by
 rw [pqL.eq_def]
 match s with
 | [] => rfl
 | [_] => rfl
 | _ :: _ :: _ => rfl
theorem zy0 (more : Str) (c : UInt8) (s : Str) (h : (c == 37) = false) : pqL more (c :: s) = ((zqw c || more.contains c) && pqL more s) := by
 rw [pqL.eq_def]; simp only [h, Bool.false_eq_true, if_false]
theorem zDn (l : Str) (c : UInt8) : decide (0 ≤ zj6 l c 0) = l.contains c := zyz l c 0
theorem zrD (rec1 : Int → Option Bool) (i : Nat) (hi : i < 4000000000) : zhR rec1 (i : Int) = rec1 ((i + 1 : Nat) : Int) := by
 unfold zhR; rw [zi (by omega), yob]
theorem zxe (rec1 : Int → Option Bool) (i : Nat) (t : Bool) (hi : i < 3000000000) : zeU rec1 (i : Int) t = if t = true then rec1 ((i + 3 : Nat) : Int) else some false := by
 unfold zeU
 have i2 : zr (i : Int) 2 = some ((i + 2 : Nat) : Int) := by rw [zb1 (by omega) (by omega)]; simp
 rw [i2, yob, zrD rec1 (i + 2) (by omega)]
theorem zrE (s more : Str) (hs : s.length < 1000000000) (hm : more.contains 37 = false) : zlO s more = some (pqL more s) := by
 unfold zlO
 have key : ∀ (n i : Nat), i ≤ s.length → s.length - i < n → zbW s more n (i : Int) = some (pqL more (s.drop i)) := by
  intro n
  induction n with
  | zero => intro i _ h; omega
  | succ n ih =>
   intro i hi h;rw [zbW]
   cases hd : s.drop i with
   | nil =>
    have : i = s.length := by have := congrArg List.length hd; simp at this; omega
    subst this;simp only [Int.lt_irrefl, decide_false, Bool.false_eq_true, if_false, pqL]
   | cons c t =>
    have hlt : i < s.length := by have := congrArg List.length hd; simp at this; omega
    have hx : s[i]? = some c := by have := congrArg (·[0]?) hd; simpa using this
    have ht : s.drop (i + 1) = t := by rw [← List.drop_drop, hd]; rfl
    have htl : t.length = s.length - (i + 1) := by rw [← ht]; simp
    have i2 : zr (i : Int) 2 = some ((i + 2 : Nat) : Int) := by rw [zb1 (by omega) (by omega)]; simp
    have i3 : zr (i : Int) 3 = some ((i + 3 : Nat) : Int) := by rw [zb1 (by omega) (by omega)]; simp
    have hih := ih (i + 1) (by omega) (by omega);rw [ht] at hih;have j4 := zrD (zbW s more n) i (by omega);have j3 := zxe (zbW s more n) i;simp only [Int.ofNat_lt, hlt, decide_true, if_true, zU, hx, yob, zr6, strings_IndexByte, zDn, zjp, j4, hih]
    rcases zdn (c == 37) with hc | hc
    ·have : c = 37 := by simpa using hc
     subst this
     have hp : zqw 37 = false := by decide
     rw [zyZ, hp, hm];simp only [Bool.false_eq_true, if_false, ybs, if_true, i2, yob, zi (show i < 4611686018427387904 by omega), i3]
     match t, ht, htl with
     | [], ht, htl =>
      have : ¬ ((i + 2 : Nat) : Int) < (s.length : Int) := by simp at htl; omega
      simp only [this, decide_false, Bool.false_eq_true, if_false, j3 false (by omega)]
     | [a], ht, htl =>
      have : ¬ ((i + 2 : Nat) : Int) < (s.length : Int) := by simp at htl; omega
      simp only [this, decide_false, Bool.false_eq_true, if_false, j3 false (by omega)]
     | a :: b :: r, ht, htl =>
      have hlt2 : ((i + 2 : Nat) : Int) < (s.length : Int) := by simp at htl; omega
      have hr : s.drop (i + 3) = r := by
       have : (s.drop (i + 1)).drop 2 = r := by rw [ht]; rfl
       rwa [List.drop_drop] at this
      have hi3 : i + 3 ≤ s.length := by simp at htl; omega
      have hih := ih (i + 3) hi3 (by omega);rw [hr] at hih
      have hsub : zhF s ((i + 1 : Nat) : Int) ((i + 3 : Nat) : Int) = some [a, b] := by
       rw [zeS (by omega) hi3, List.drop_take, ht]
       have : i + 3 - (i + 1) = 2 := by omega
       rw [this]; rfl
      simp only [hlt2, decide_true, if_true, hsub, yob, zdg zgK [a, b] (by simp), j3 _ (show i < 3000000000 by omega), hih];cases ha : zfQ a <;> cases hb : zfQ b <;> simp [ha, hb]
    ·rw [zy0 more c t hc, hc];cases zqw c <;> cases hq : more.contains c <;> simp [zeU]
 have := key fuel 0 (yz _) (by unfold fuel; omega);simpa using this
theorem zrF (s more : Str) (hs : s.length < 1000000000) (hm : more.length < 1000000000) : znH s more = some (pqL more s) := by
 unfold znH
 have key : ∀ (n : Nat) (s : Str), s.length < n → s.length < 1000000000 → zfd n s more = some (pqL more s) := by
  intro n
  induction n with
  | zero => intro s h; omega
  | succ n ih =>
   intro s h hs;rw [zfd]
   cases s with
   | nil => simp [pqL]
   | cons c s =>
    have h1 : ((c :: s == ([] : Str))) = false := rfl
    have e1 : zbh (c :: s) 1 = some s := by
     have := z6 (l := c :: s) (i := 1) (by simp);simpa using this
    simp only [ylc] at h hs;simp only [h1, Bool.false_eq_true, if_false, ziC, List.getElem?_cons_zero, yob, zuw, zxB _ more hm, zhW, e1, ih s (by omega) (by omega)]
    rcases zdn (c == 37) with hc | hc
    ·have : c = 37 := by simpa using hc
     subst this;rw [zyZ]
     match s, h, hs with
     | [], _, _ => simp [zd7]
     | [a], _, _ => simp [zd7]
     | a :: b :: r, h, hs =>
      have h2 : (2 : Int) < ((37 :: a :: b :: r : Str).length : Int) := by simp only [ylc]; omega
      have e3 : zbh (37 :: a :: b :: r) 3 = some r := by
       have := z6 (l := 37 :: a :: b :: r) (i := 3) (by simp);simpa using this
      have a1 : sAt (37 :: a :: b :: r) 1 = some a := by simp
      have a2 : sAt (37 :: a :: b :: r) 2 = some b := by simp
      simp only [ylc] at h hs;simp only [h2, decide_true, if_true, ybs, a1, a2, yob, zmI, zd7, e3, ih r (by omega) (by omega)];cases ha : zfQ a <;> cases hb : zfQ b <;> simp [ha, hb]
    ·rw [zy0 more c s hc, hc];cases zqw c <;> cases more.contains c <;> simp
 exact key fuel s (zv9 (by omega)) hs
def zfP (s : Str) : Bool := (([47] : Str).isPrefixOf s) && pqL [47] s
def zfV (s : Str) : Bool := pqL [47, 63] s
theorem zul (s : Str) (hs : s.length < 1000000000) : zkA s = some (zfP s) := by
 unfold zkA zfP;rw [zgJ s [47] hs, yob, zrE s [47] hs (by decide), yob];cases ([47] : Str).isPrefixOf s <;> simp [zhg]
theorem zts (s : Str) (hs : s.length < 1000000000) : zjq s = some (zfV s) := by
 unfold zjq zfV;rw [zrE s [47, 63] hs (by decide), yob]
theorem zum (s : Str) (hs : s.length < 1000000000) : zkI s = some (zfP s) := by
 unfold zkI zfP;rw [zrF s [47] hs (by decide)]
 cases s with
 | nil => rfl
 | cons c s =>
  have h2 : (0 : Int) < ((c :: s : Str).length : Int) := by simp only [ylc]; omega
  simp only [h2, decide_true, if_true, ziC, List.getElem?_cons_zero, yob, zfG, List.isPrefixOf_cons_cons, List.isPrefixOf_nil_left, Bool.and_true]
  rcases zdn (c == 47) with h | h
  ·have : c = 47 := by simpa using h
   subst this; simp
  ·have : ((47 : UInt8) == c) = false := by rw [beq_eq_false_iff_ne] at h ⊢; exact fun e => h e.symm
   rw [h, this]; simp
theorem znR (s : Str) (hs : s.length < 1000000000) : zhX s = some (zfV s) := by
 unfold zhX zfV;rw [zrF s [47, 63] hs (by decide), yob]
theorem zzW (c : UInt8) : ∀ s : Str, Go.Lib.index s [c] = if zbv [c] s = [] then -1 else ((upto [c] s).length : Int) := by
 intro s
 induction s with
 | nil => rfl
 | cons x s ih =>
  by_cases h : x = c
  ·subst h;rw [zoR, zjL (by simp), zjK (by simp)]; simp
  ·rw [zoQ h, ih]
   have hx : ([c] : Str).contains x = false := by simp [h]
   rw [zjN hx, zjM hx]
   split
   ·rfl
   ·rename_i h2
    rw [if_neg (by omega)];simp
def zI (c : UInt8) (s : Str) : Str × Str × Bool := (upto [c] s, (zbv [c] s).drop 1, !(zbv [c] s == []))
theorem zmX (s : Str) (c : UInt8) (hs : s.length < 1000000000) : strings_Cut s [c] = some (zI c s) := by
 unfold strings_Cut Go.Lib.cut zI;rw [if_pos (by omega), zzW]
 congr 1
 by_cases h2 : zbv [c] s = []
 ·rw [if_pos h2, if_neg (by omega)];have e := zdl [c] s;rw [h2, yan] at e;rw [h2, e]; rfl
 ·have h3 : (zbv [c] s == []) = false := beq_eq_false_iff_ne.2 h2;rw [h3, if_neg h2, if_pos (by omega)]
  have e : s.drop ((upto [c] s).length + 1) = (zbv [c] s).drop 1 := by rw [← List.drop_drop, zl4]
  simp only [Int.toNat_natCast, zou, List.length_singleton, e, ynf]
theorem ztt (c : UInt8) (s : Str) (h : (zI c s).2.2 = true) : (zI c s).1 ++ c :: (zI c s).2.1 = s := by
 have e := zdl [c] s;unfold zI at h ⊢;simp only [Bool.not_eq_true', beq_eq_false_iff_ne] at h
 cases hf : zbv [c] s with
 | nil => exact absurd hf h
 | cons x r =>
  have := zrk hf
  have hx : x = c := by simpa using this
  subst hx;rw [hf] at e;simpa [hf] using e
theorem zmA (c : UInt8) (s : Str) (h : (zI c s).2.2 = false) : zI c s = (s, [], false) := by
 have e := zdl [c] s;unfold zI at h ⊢;simp only [Bool.not_eq_false', beq_iff_eq] at h;rw [h, yan] at e;rw [h, e]; rfl
theorem zos (c : UInt8) (s : Str) : (zI c s).1.length ≤ s.length ∧ (zI c s).2.1.length ≤ s.length := by
 have e := congrArg List.length (zdl [c] s);rw [yla] at e;unfold zI;simp only [yld];omega
def zun (s : Str) : Str × Str × Bool × Int :=
 if zfP (zI 63 s).1 && zfV (zI 63 s).2.1 then ((zI 63 s).1, (zI 63 s).2.1, (zI 63 s).2.2, 0) else ([], [], false, 2)
theorem zqe (s : Str) (hs : s.length < 1000000000) : zlP s = some (zun s) := by
 unfold zlP zun;have := zos 63 s;rw [zmX s 63 hs, yob, zul _ (by omega), yob, zts _ (by omega), yob];cases zfP (zI 63 s).1 <;> cases zfV (zI 63 s).2.1 <;> simp [zic]
end Go.Dm
end
section
namespace Go.Dm
def zuF : api_Target := ⟨0, [], ⟨0, [], 0⟩, [], [], false⟩
def zmN (t : api_Target) (s : Str) : api_Target × Bool :=
 if s = [] then (t, true) else
  (⟨t.Kind, t.Scheme, t.Host, if s.head? == some 63 then [] else (zun s).1, (zun (if s.head? == some 63 then 47 :: s else s)).2.1, (zun (if s.head? == some 63 then 47 :: s else s)).2.2.1⟩, (zun (if s.head? == some 63 then 47 :: s else s)).2.2.2 == 0)
theorem znj (t : api_Target) (s : Str) (hs : s.length < 900000000) : zhS t s = some (zmN t s) := by
 unfold zhS zmN
 cases s with
 | nil => rfl
 | cons c r =>
  have h1 : ((c :: r == ([] : Str))) = false := rfl;rw [h1, if_neg (by decide), if_neg (by simp), show (0 : Int) = ((0 : Nat) : Int) from rfl, zU, List.getElem?_cons_zero, yob, List.head?_cons, Option.some_beq_some];unfold zf7 zf6;simp only [ylc] at hs
  cases hc : c == 63 with
  | true =>
   rw [if_pos rfl, if_pos rfl, zZ (by simp only [ylc, yln]; omega), yob, show ([47] : Str) ++ c :: r = 47 :: c :: r from rfl, zqe _ (by simp only [ylc]; omega), yob];rfl
  | false =>
   rw [if_neg (by decide), if_neg (by decide), zqe _ (by simp only [ylc]; omega), yob, if_neg (by decide)];rfl
def zmO : Str := [104, 116, 116, 112]
def zjP : Str := [104, 116, 116, 112, 115]
def zwi (s : Str) : api_Target × Bool := match zao [58, 47, 47] s with
 | none => (⟨2, low s, ⟨0, [], 0⟩, [], [], false⟩, false)
 | some p => if low p.1 == zmO || low p.1 == zjP then
   (if (zcM (upto [47, 63] p.2)).2 == 0 then zmN ⟨2, low p.1, (zcM (upto [47, 63] p.2)).1, [], [], false⟩ (zbv [47, 63] p.2) else (⟨2, low p.1, ⟨0, [], 0⟩, [], [], false⟩, false))
  else (⟨2, low p.1, ⟨0, [], 0⟩, [], [], false⟩, false)
theorem zst (a b c : Str) (q : Bool) (hb : b.length < 300000000) : zca (a, b, q) c ((upto [47, 63] b).length : Int) = some (if (zcM (upto [47, 63] b)).2 == 0 then zmN ⟨2, c, (zcM (upto [47, 63] b)).1, [], [], false⟩ (zbv [47, 63] b) else (⟨2, c, ⟨0, [], 0⟩, [], [], false⟩, false)) := by
 unfold zca;have hu := zot [47, 63] b
 have hf : (zbv [47, 63] b).length ≤ b.length := by
  have := congrArg List.length (zdl [47, 63] b); rw [yla] at this; omega
 dsimp only;rw [zc9 hu, yob, zou, zh6 _ (by omega), yob, z6 hu, yob, zl4, znj _ _ (by omega), yob];cases (zcM (upto [47, 63] b)).2 == 0 <;> rfl
theorem zpb (s : Str) (hs : s.length < 300000000) : zfm s = some (zwi s) := by
 unfold zfm zwi;rw [znN s _ (by omega) (by simp), yob]
 cases hc : zao [58, 47, 47] s with
 | none =>
  dsimp only;rw [zjc s (by omega), yob];rfl
 | some p =>
  have e := congrArg List.length (zdC (a := p.1) (b := p.2) hc);simp only [yla, ylc, yln] at e;have hu := zot [47, 63] p.2;dsimp only;rw [zjc p.1 (by omega), yob]
  have hj : zat (p.1, p.2, true) (low p.1) false = some (if (zcM (upto [47, 63] p.2)).2 == 0 then zmN ⟨2, low p.1, (zcM (upto [47, 63] p.2)).1, [], [], false⟩ (zbv [47, 63] p.2) else (⟨2, low p.1, ⟨0, [], 0⟩, [], [], false⟩, false)) := by
   unfold zat;rw [if_neg (by decide)];dsimp only;rw [zj2 p.2 [47, 63] (by omega) (by decide) (by decide), yob];have hj2 := zst p.1 p.2 (low p.1) true (by omega)
   by_cases h0 : zbv [47, 63] p.2 = []
   ·rw [if_pos h0, ydt (by omega), if_pos rfl];rw [(zg4 _ _).1 h0] at hj2;exact hj2
   ·rw [if_neg h0, ydf (by omega), if_neg (by decide)];exact hj2
  have hj0 : zat (p.1, p.2, true) (low p.1) true = some (⟨2, low p.1, ⟨0, [], 0⟩, [], [], false⟩, false) := rfl;rw [hj, hj0, if_neg (by decide)];show (if (!(low p.1 == zmO)) = true then zat (p.1, p.2, true) (low p.1) (!(low p.1 == zjP)) else _) = _
  cases low p.1 == zmO with
  | true => rfl
  | false =>
   cases low p.1 == zjP with
   | true => rw [ynf, if_pos rfl, ynt, hj]; rfl
   | false => rw [ynf, if_pos rfl, hj0]; rfl
def zsu : Str := [79, 80, 84, 73, 79, 78, 83]
def znk : Str := [67, 79, 78, 78, 69, 67, 84]
def ofT (m s : Str) : api_Target × Bool := if s == [42] then (⟨4, [], ⟨0, [], 0⟩, [], [], false⟩, m == zsu) else if ([47] : Str).isPrefixOf s then zmN ⟨1, [], ⟨0, [], 0⟩, [], [], false⟩ s else zwi s
theorem zvk (m s : Str) (hs : s.length < 300000000) : zlQ m s = some (ofT m s) := by
 unfold zlQ ofT;rw [zgJ s [47] (by omega), yob, zpb s hs, yob, znj _ s (by omega), yob];cases s == [42] <;> cases ([47] : Str).isPrefixOf s <;> rfl
def zkj (m s : Str) : api_Target × Int :=
 if m == znk then (if (zcM s).2 == 0 && !decide ((zcM s).1.Port < 0) then (⟨3, [], (zcM s).1, [], [], false⟩, 0) else (zuF, 20))
 else if (ofT m s).2 then ((ofT m s).1, 0) else (zuF, 20)
theorem zrU (m s : Str) (hs : s.length < 300000000) : zid m s = some (zkj m s) := by
 unfold zid zkj zfn;rw [zh6 s (by omega), yob, zvk m s hs, yob];show (if (m == znk) = true then _ else _) = _;cases m == znk <;> cases (zcM s).2 == 0 <;> cases decide ((zcM s).1.Port < 0) <;> cases (ofT m s).2 <;> rfl
end Go.Dm
end
section
namespace Go.Dm
theorem zyw (c : UInt8) (s : Str) : (zI c s).1 ++ (if (zI c s).2.2 = true then c :: (zI c s).2.1 else []) = s := by
 rcases zdn (zI c s).2.2 with h | h
 ·rw [if_pos h]; exact ztt c s h
 ·rw [if_neg (by rw [h]; decide), zmA c s h, yan]
theorem zv0 {s : Str} (h : zfP s = true) : ∃ r, s = 47 :: r := by
 unfold zfP at h;simp only [Bool.and_eq_true] at h;obtain ⟨r, hr⟩ := List.isPrefixOf_iff_prefix.1 h.1;exact ⟨r, hr.symm⟩
def zB7 : api_Target := ⟨1, [], ⟨0, [], 0⟩, [], [], false⟩
end Go.Dm
end
