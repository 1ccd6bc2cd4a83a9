/-
 The models' words: partial operations as functions into Option. No program in sight.
 The models of the functions: written by a program (wip/gen) off the translation. No program in sight.
 The library's functions as the models say them, and as the library's contracts say them. No program in sight.
 Plain tools for the laws: the partial operations at natural numbers, loops over lists. No program in sight.
 Layer 1 (bytes): what the program's and the reference's models come to.
 Layer 3 (numbers): reading and writing: the program's and the document's come to the same. No program in sight.
 Fold
-/
import Derived.Lib.ItoaNum
import Derived.Lib.SplitLaws
import Derived.Lib.SlTrimSet
import Derived.Lib.Join
import Derived.Lib.IndexMore
import Derived.Lib.Bytealg
import Derived.Lib.Index
import Derived.Lib.IndexAny
section
namespace Go.Dm
abbrev Str := List UInt8

def inI (n : Int) : Bool := decide (-9223372036854775808 ≤ n) && decide (n ≤ 9223372036854775807)
theorem zlh {n : Int} : inI n = true ↔ -9223372036854775808 ≤ n ∧ n ≤ 9223372036854775807 := by simp [inI]

def zq (m n : Int) : Option Int := if inI (m + n) then some (m + n) else none
def zbc (m n : Int) : Option Int := if inI (m - n) then some (m - n) else none
def ztZ (m n : Int) : Option Int := if inI (m * n) then some (m * n) else none
def zvq (m n : Int) : Option Int := if 0 ≤ m ∧ 1 ≤ n ∧ inI (m / n) = true then some (m / n) else none
def zxI (m n : Int) : Option Int := if 0 ≤ m ∧ 1 ≤ n ∧ inI (m % n) = true then some (m % n) else none
def sAt (l : Str) (i : Int) : Option UInt8 := if 0 ≤ i then l[i.toNat]? else none
def sTo (l : Str) (h : Int) : Option Str := if 0 ≤ h ∧ h ≤ l.length then some (l.take h.toNat) else none
def zaG (l : Str) (i : Int) : Option Str := if 0 ≤ i ∧ i ≤ l.length then some (l.drop i.toNat) else none
def zd0 (l : Str) (i h : Int) : Option Str := if 0 ≤ i ∧ i ≤ h ∧ h ≤ l.length then some ((l.take h.toNat).drop i.toNat) else none
def zlz (l m : Str) : Option Str := if l.length + m.length ≤ 9223372036854775807 then some (l ++ m) else none
def lAt {α : Type} (l : List α) (i : Int) : Option α := if 0 ≤ i then l[i.toNat]? else none
def lTo {α : Type} (l : List α) (h : Int) : Option (List α) := if 0 ≤ h ∧ h ≤ l.length then some (l.take h.toNat) else none
def zwr {α : Type} (l : List α) (i : Int) : Option (List α) := if 0 ≤ i ∧ i ≤ l.length then some (l.drop i.toNat) else none
def lSub {α : Type} (l : List α) (i h : Int) : Option (List α) := if 0 ≤ i ∧ i ≤ h ∧ h ≤ l.length then some ((l.take h.toNat).drop i.toNat) else none
def zJ (n m bytes : Nat) : Bool := decide (n + m ≤ 9223372036854775807) && decide ((n + m) * bytes ≤ 140737488355328)
theorem og {α : Type} {b : Bool} {x : Option α} {r : α} (h : (if b = true then x else none) = some r) : b = true ∧ x = some r := by
 cases b with
 | false => cases h
 | true => exact ⟨rfl,h⟩
theorem zdX (b : Bool) : b = true ∨ b = false := by cases b <;> simp
theorem ob {α β : Type} {m : Option α} {f : α → Option β} {r : β} (h : m.bind f = some r) : ∃ x,m = some x ∧ f x = some r := by
 cases m with
 | none => cases h
 | some x => exact ⟨x,rfl,h⟩
theorem it {α : Type} {b : Bool} {x y : Option α} {r : α} (hb : b = true) (h : (if b = true then x else y) = some r) : x = some r := by rwa [if_pos hb] at h
theorem ie {α : Type} {b : Bool} {x y : Option α} {r : α} (hb : b = false) (h : (if b = true then x else y) = some r) : y = some r := by rwa [if_neg (by simp [hb])] at h

def zsx : Str → Str → Bool
 | _,[] => false
 | [],_ :: _ => true
 | a :: x,b :: y => a < b || (a == b && zsx x y)
def fuel : Nat := 1000000000000000000
abbrev yob := @Option.bind_some
abbrev yfn := @Bool.false_ne_true
abbrev yla := @List.length_append
abbrev ylc := @List.length_cons
abbrev yln := @List.length_nil
abbrev ydg := @List.drop_eq_getElem_cons
abbrev yaa := @List.append_assoc
abbrev ydt := @decide_eq_true
abbrev ydf := @decide_eq_false
abbrev ygg := @List.getElem?_eq_getElem
abbrev ygm := @List.getElem_mem
abbrev ylt := @List.length_take
abbrev yld := @List.length_drop
abbrev ydl := @List.drop_length
abbrev ymc := @List.mem_cons
abbrev ybs := @beq_self_eq_true
abbrev yoi := @Option.some.inj
abbrev yz := @Nat.zero_le
abbrev yna := @List.nil_append
abbrev yan := @List.append_nil
abbrev ynt := @Bool.not_true
abbrev ynf := @Bool.not_false
theorem yif {α : Type _} {i : Decidable (false = true)} {a b : α} : @ite α (false = true) i a b = b := if_neg Bool.false_ne_true
end Go.Dm
end
section
set_option linter.unusedVariables false
set_option maxRecDepth 10000
namespace Go.Dm
structure api_Field where
 Name : Str
 Value : Str
deriving DecidableEq,Inhabited
structure api_Head where
 Kind : Int
 Method : Str
 Target : Str
 Code : Int
 Reason : Str
 Minor : Int
 Fields : List api_Field
deriving DecidableEq,Inhabited
structure accum_Accum where
 f_kind : Int
 f_limit : Int
 f_buf : List UInt8
 f_from : Int
 f_took : Bool
 f_bad : Int
 f_whole : Bool
 f_got : api_Head
deriving DecidableEq,Inhabited
structure scan_Scanner where
 f_s : Str
 f_at : Int
deriving DecidableEq,Inhabited
structure startline_line where
 Scanner : scan_Scanner
deriving DecidableEq,Inhabited
structure api_Host where
 Kind : Int
 Name : Str
 Port : Int
deriving DecidableEq,Inhabited
structure api_Target where
 Kind : Int
 Scheme : Str
 Host : api_Host
 Path : Str
 Query : Str
 HasQuery : Bool
deriving DecidableEq,Inhabited
structure bag_Bag where
 f_l : List api_Field
deriving DecidableEq,Inhabited
structure commas_splitter where
 Scanner : scan_Scanner
 f_out : List Str
 f_from : Int
 f_s : Str
deriving DecidableEq,Inhabited
structure quoted_reader where
 Scanner : scan_Scanner
 f_out : List UInt8
deriving DecidableEq,Inhabited
structure api_Frame where
 Kind : Int
 N : Int
deriving DecidableEq,Inhabited
structure length_reader where
 Bag : bag_Bag
 f_minor : Int
deriving DecidableEq,Inhabited
structure dechunk_Decoder where
 f_limit : Int
 f_at : Int
 f_line : List UInt8
 f_left : Int
 f_sum : Int
 f_spent : Int
 f_trailers : List api_Field
deriving DecidableEq,Inhabited
structure body_Body where
 Decoder : dechunk_Decoder
 f_frame : api_Frame
 f_left : Int
 f_done : Bool
 f_bad : Bool
deriving DecidableEq,Inhabited
structure api_Attr where
 Name : Str
 Value : Str
 Has : Bool
deriving DecidableEq,Inhabited
structure chunkline_reader where
 Scanner : scan_Scanner
deriving DecidableEq,Inhabited
structure api_Message where
 Head : api_Head
 Frame : api_Frame
 Body : Str
 Trailers : List api_Field
deriving DecidableEq,Inhabited
structure message_reader where
 Body : body_Body
 f_m : api_Message
deriving DecidableEq,Inhabited
structure stream_reader where
 f_s : Str
 f_at : Int
 f_limit : Int
 f_ended : Bool
deriving DecidableEq,Inhabited
structure ref16_Fate where
 At : Int
 Err : Int
 Head : api_Head
deriving DecidableEq,Inhabited
structure ref19_line where
 N : Int
 Bad : Int
 Err : Int
deriving DecidableEq,Inhabited
structure ref19_Fate where
 At : Int
 Err : Int
 Body : Str
 Trailers : List api_Field
 Line : Int
deriving DecidableEq,Inhabited
structure ref21_Fate where
 At : Int
 Err : Int
 Body : Str
 Trailers : List api_Field
 Kept : Int
deriving DecidableEq,Inhabited
structure ref22_Read where
 M : api_Message
 N : Int
 Err : Int
deriving DecidableEq,Inhabited
structure ref23_Row where
 L : List api_Message
 N : Int
 Err : Int
deriving DecidableEq,Inhabited
abbrev ztB {α : Type} {β : Sort _} (o : Option α) (k0 : β) (k1 : α → β) : β := match o with | none => k0 | some x => k1 x
theorem zyl {α β : Type} {o : Option α} {k0 R : β} {k1 : α → β} (h : o = none) (hm : ztB o k0 k1 = R) : k0 = R := by subst h; exact hm
theorem zym {α β : Type} {o : Option α} {x : α} {k0 R : β} {k1 : α → β} (h : o = some x) (hm : ztB o k0 k1 = R) : k1 x = R := by subst h; exact hm
abbrev bE {β : Sort _} (b : Bool) (k1 k0 : β) : β := match b with | true => k1 | false => k0
theorem bE_t {β : Type} {b : Bool} {k1 k0 R : β} (h : b = true) (hm : bE b k1 k0 = R) : k1 = R := by subst h; exact hm
theorem bE_f {β : Type} {b : Bool} {k1 k0 R : β} (h : b = false) (hm : bE b k1 k0 = R) : k0 = R := by subst h; exact hm
theorem bE_pt {b : Bool} {k1 k0 : Prop} (h : b = true) (hm : bE b k1 k0) : k1 := by subst h; exact hm
theorem bE_pf {b : Bool} {k1 k0 : Prop} (h : b = false) (hm : bE b k1 k0) : k0 := by subst h; exact hm
theorem zv3 {α : Type} {o : Option α} {k0 : Prop} {k1 : α → Prop} (h : o = none) (hm : ztB o k0 k1) : k0 := by subst h; exact hm
theorem zv4 {α : Type} {o : Option α} {x : α} {k0 : Prop} {k1 : α → Prop} (h : o = some x) (hm : ztB o k0 k1) : k1 x := by subst h; exact hm

def zkk : Str → UInt8 → Nat → Int
 | [],_,_ => -1
 | x :: l,c,k => if x == c then (k : Int) else zkk l c (k + 1)
def strings_IndexByte (s : Str) (c : UInt8) : Option Int := some (zkk s c 0)
def zpG : Str → Str → Bool
 | _,[] => true
 | [],_ :: _ => false
 | x :: s,y :: t => x == y && zpG s t
def zkP : Str → Str → Nat → Int
 | s,t,k => if zpG s t then (k : Int) else match s with
  | [] => -1
  | _ :: s => zkP s t (k + 1)
def strings_Index (s t : Str) : Option Int := if s.length < 4294967281 then some (zkP s t 0) else none
def strings_Cut (s t : Str) : Option (Str × Str × Bool) := if s.length < 4294967281 then some (Go.Lib.cut s t) else none
def znZ : Str → Str → Nat → Int
 | [],_,_ => -1
 | x :: l,cs,k => if cs.contains x then (k : Int) else znZ l cs (k + 1)
def strings_IndexAny (s cs : Str) : Option Int := if s.length < 4294967281 ∧ cs.length < 4294967281 ∧ cs.all (fun c => c.toNat < 128) then some (znZ s cs 0) else none
def strings_Split (s sep : Str) : Option (List Str) := if s.length < 4294967281 ∧ 1 ≤ sep.length then some (Go.Lib.splitK sep 0 (Go.Lib.countB ⟨s.toArray⟩ ⟨sep.toArray⟩) s) else none
def ze (c : UInt8) : Str → List Str
 | [] => [[]]
 | x :: s => if x = c then [] :: ze c s else match ze c s with
  | [] => [[x]]
  | h :: t => (x :: h) :: t
def zgb (n b : Int) : Option Str := if inI n = true ∧ b = 10 then some (Go.Lib.itoa n) else none
def zfq (s cs : Str) : Option Str := if s.length < 4294967281 ∧ cs.length < 4294967281 ∧ cs.all (fun c => c.toNat < 128) then some (Go.Lib.trimS s cs) else none
def zee (x_kind : Int) (x_limit : Int) (t6 : Bool) : Option (Option accum_Accum × Int) :=
 if t6 then (some (none,1)) else (some ((some ((⟨x_kind,x_limit,[],0,false,0,false,(⟨0,[],[],0,[],0,[]⟩ : api_Head)⟩ : accum_Accum)),0)))

def zko (x_kind : Int) (x_limit : Int) : Option (Option accum_Accum × Int) :=
 if (!(x_kind == 1)) then (if (!(x_kind == 2)) then (zee x_kind x_limit true) else (if (decide (x_limit < 0)) then (zee x_kind x_limit true) else (zee x_kind x_limit (decide (65536 < x_limit))))) else (if (decide (x_limit < 0)) then (zee x_kind x_limit true) else (zee x_kind x_limit (decide (65536 < x_limit))))

def zb5 (x_a : accum_Accum) (t8 : Bool) : Option Bool :=
 (zbc (x_a.f_buf.length : Int) 1).bind fun i9 =>
 (lAt x_a.f_buf i9).bind fun x10 =>
 some (!((x10 == 10) == t8))

def zeQ (x_a : accum_Accum) : Option Bool :=
 if (decide (1 < (x_a.f_buf.length : Int))) then ((zbc (x_a.f_buf.length : Int) 2).bind fun i4 =>
 (lAt x_a.f_buf i4).bind fun x5 =>
 zb5 x_a (x5 == 13)) else (zb5 x_a false)

def strings_ContainsAny (x_s : Str) (x_chars : Str) : Option Bool :=
 (strings_IndexAny x_s x_chars).bind fun r2 =>
 some (decide (0 ≤ r2))

def zW (x_s : Str) (x_c : UInt8) : Nat → Int → Option Int
 | 0,_ => none
 | n + 1,i4 =>
 if (decide (0 ≤ i4)) then ((sAt x_s i4).bind fun b8 =>
 if (b8 == x_c) then (some i4) else ((zbc i4 1).bind fun i13 =>
 (zW x_s x_c n) i13)) else (some (-1))

def zbQ (x_s : Str) (x_c : UInt8) : Option Int :=
 (zbc (x_s.length : Int) 1).bind fun i2 =>
 zW x_s x_c fuel i2

def zaR (x_s : Str) (x_c : UInt8) : Option Int :=
 (zbQ x_s x_c).bind fun r2 =>
 some r2

def ziE (x_s : Str) : Option scan_Scanner :=
 some (⟨x_s,0⟩ : scan_Scanner)

def zX (x_c : scan_Scanner) : Option Str :=
 (zaG x_c.f_s x_c.f_at).bind fun s4 =>
 some s4

def zaL (t4 : Bool) : Option Bool :=
 some t4

def stringslite_HasPrefix (x_s : Str) (x_prefix : Str) : Option Bool :=
 if (decide ((x_prefix.length : Int) ≤ (x_s.length : Int))) then ((sTo x_s (x_prefix.length : Int)).bind fun s3 =>
 zaL (s3 == x_prefix)) else (zaL false)

def strings_HasPrefix (x_s : Str) (x_prefix : Str) : Option Bool :=
 (stringslite_HasPrefix x_s x_prefix).bind fun r2 =>
 some r2

def zc4 (x_c : scan_Scanner) (x_t : Str) : Option (Bool × scan_Scanner) :=
 (zX x_c).bind fun r2 =>
 (strings_HasPrefix r2 x_t).bind fun r3 =>
 if (!r3) then (some (false,x_c)) else ((zq x_c.f_at (x_t.length : Int)).bind fun i9 =>
 some ((true,(⟨x_c.f_s,i9⟩ : scan_Scanner))))

def zaM (x_c : scan_Scanner) : Option Bool :=
 (zX x_c).bind fun r2 =>
 some (r2 == [])

def zE (x_c : scan_Scanner) : Option (UInt8 × Bool) :=
 (zaM x_c).bind fun r2 =>
 if r2 then (some (0,false)) else ((sAt x_c.f_s x_c.f_at).bind fun b7 =>
 some (b7,true))

def zg8 (t3 : Bool) : Option Bool :=
 some t3

def zah (x_b : UInt8) : Option Bool :=
 if (decide (48 ≤ x_b)) then (zg8 (decide (x_b ≤ 57))) else (zg8 false)

def zcK (x_c : scan_Scanner) (t5 : Bool) : Option (Bool × scan_Scanner) :=
 if t5 then (some (false,x_c)) else ((zq x_c.f_at 1).bind fun i9 =>
 some ((true,(⟨x_c.f_s,i9⟩ : scan_Scanner))))

def zj (x_c : scan_Scanner) (x_b : UInt8) : Option (Bool × scan_Scanner) :=
 (zE x_c).bind fun r2 =>
 if (!r2.2) then (zcK x_c true) else (zcK x_c (!(r2.1 == x_b)))

def zbG (x_p : startline_line) (r3 : UInt8 × Bool) (t7 : Bool) : Option (Int × Bool × scan_Scanner) :=
 if t7 then (some (0,false,x_p.Scanner)) else ((zj x_p.Scanner r3.1).bind fun r11 =>
 some ((((r3.1 - 48).toNat : Int),true,r11.2)))

def zbH (x_p : startline_line) : Option (Int × Bool × scan_Scanner) :=
 (zE x_p.Scanner).bind fun r3 =>
 if (!r3.2) then (zbG x_p r3 true) else ((zah r3.1).bind fun r6 =>
 zbG x_p r3 (!r6))

def zbe (r9 : Int × Bool × scan_Scanner) (r15 : Int × Bool × scan_Scanner) (t20 : Bool) : Option (Int × Int × Bool × scan_Scanner) :=
 some (r9.1,r15.1,t20,r15.2.2)

def za6 (x_p : startline_line) : Option (Int × Int × Bool × scan_Scanner) :=
 (zc4 x_p.Scanner [72,84,84,80,47]).bind fun r3 =>
 if (!r3.1) then (some (0,0,false,r3.2)) else ((zbH (⟨r3.2⟩ : startline_line)).bind fun r9 =>
 (zj r9.2.2 46).bind fun r12 =>
 (zbH (⟨r12.2⟩ : startline_line)).bind fun r15 =>
 if r9.2.1 then (if r12.1 then (zbe r9 r15 r15.2.1) else (zbe r9 r15 false)) else (zbe r9 r15 false))

def zbC (t13 : Bool) : Option Bool :=
 some t13

def zd2 (x_s : Str) : Option Bool :=
 (ziE x_s).bind fun r2 =>
 (za6 (⟨r2⟩ : startline_line)).bind fun r6 =>
 if r6.2.2.1 then ((zaM r6.2.2.2).bind fun r10 =>
 if r10 then (if (!(r6.1 == 1)) then (zbC true) else (zbC (decide (1 < r6.2.1)))) else (zbC false)) else (zbC false)

def zcb (x_c : scan_Scanner) : Option Int :=
 some x_c.f_at

def zci (r2 : Int) (s14 : Str) (i15 : Int) : Option (Str × scan_Scanner) :=
 (zd0 s14 r2 i15).bind fun s18 =>
 some ((s18,(⟨s14,i15⟩ : scan_Scanner)))

def zbo (rec1 : Str → Int → Option (Str × scan_Scanner)) (r2 : Int) (s4 : Str) (i5 : Int) (t10 : Bool) : Option (Str × scan_Scanner) :=
 if t10 then (zci r2 s4 i5) else ((zq i5 1).bind fun i13 =>
 rec1 s4 i13)

def z7 (x_is : UInt8 → Option Bool) (r2 : Int) : Nat → Str → Int → Option (Str × scan_Scanner)
 | 0,_,_ => none
 | n + 1,s4,i5 =>
 (zE (⟨s4,i5⟩ : scan_Scanner)).bind fun r6 =>
 if (!r6.2) then (zbo (z7 x_is r2 n) r2 s4 i5 true) else ((x_is r6.1).bind fun r9 =>
 zbo (z7 x_is r2 n) r2 s4 i5 (!r9))

def zai (x_c : scan_Scanner) (x_is : UInt8 → Option Bool) : Option (Str × scan_Scanner) :=
 (zcb x_c).bind fun r2 =>
 z7 x_is r2 fuel x_c.f_s x_c.f_at

def ziF (x_b : UInt8) (t3 : Bool) : Option UInt8 :=
 if t3 then (some (x_b + 32)) else (some x_b)

def zbh (x_b : UInt8) : Option UInt8 :=
 if (decide (65 ≤ x_b)) then (ziF x_b (decide (x_b ≤ 90))) else (ziF x_b false)

def zg9 (t5 : Bool) : Option Bool :=
 some t5

def zjx (x_b : UInt8) : Option Bool :=
 (zbh x_b).bind fun r2 =>
 if (decide (97 ≤ r2)) then ((zbh x_b).bind fun r4 =>
 zg9 (decide (r4 ≤ 122))) else (zg9 false)

def zkp (x_b : UInt8) (x_l : Str) : Option Bool :=
 (strings_IndexByte x_l x_b).bind fun r2 =>
 some (decide (0 ≤ r2))

def zeR (t7 : Bool) : Option Bool :=
 some t7

def zdr (x_b : UInt8) : Option Bool :=
 (zjx x_b).bind fun r2 =>
 if r2 then (zeR true) else ((zah x_b).bind fun r4 =>
 if r4 then (zeR true) else ((zkp x_b [33,35,36,37,38,39,42,43,45,46,94,95,96,124,126]).bind fun r6 =>
 zeR r6))

def zaU (x_c : scan_Scanner) : Option (Str × Bool × scan_Scanner) :=
 (zai x_c zdr).bind fun r2 =>
 some ((r2.1, !(r2.1 == []),r2.2))

def zdk (x_b : UInt8) : Option Bool :=
 some (!(x_b == 32))

def zbI (r3 : Int × Int × Bool × scan_Scanner) (t8 : Bool) : Option (Int × Bool × scan_Scanner) :=
 some (r3.2.1,t8,r3.2.2.2)

def zbJ (x_p : startline_line) : Option (Int × Bool × scan_Scanner) :=
 (za6 x_p).bind fun r3 =>
 if r3.2.2.1 then (if (r3.1 == 1) then (zbI r3 (decide (r3.2.1 ≤ 1))) else (zbI r3 false)) else (zbI r3 false)

def zef (rec1 : Int → Option Bool) (x_is : UInt8 → Option Bool) (i3 : Int) (x7 : Str) : Nat → Int → Option Bool
 | 0,_ => none
 | n + 1,i12 =>
 if (decide (i12 < (x7.length : Int))) then ((sAt x7 i12).bind fun b17 =>
 (x_is b17).bind fun r18 =>
 if (!r18) then (some false) else ((zq i12 1).bind fun i23 =>
 (zef rec1 x_is i3 x7 n) i23)) else ((zq i3 1).bind fun i25 =>
 rec1 i25)

def zeg (x_is : UInt8 → Option Bool) (x_l : List Str) : Nat → Int → Option Bool
 | 0,_ => none
 | n + 1,i3 =>
 if (decide (i3 < (x_l.length : Int))) then ((lAt x_l i3).bind fun x7 =>
 zef (zeg x_is x_l n) x_is i3 x7 fuel 0) else (some true)

def zeS (x_is : UInt8 → Option Bool) (x_l : List Str) : Option Bool :=
 zeg x_is x_l fuel 0

def zhx (x_b : UInt8) : Option Int :=
 (zah x_b).bind fun r2 =>
 if r2 then (some (((x_b - 48).toNat : Int))) else ((zbh x_b).bind fun r7 =>
 (zq (((r7 - 97).toNat : Int)) 10).bind fun i8 =>
 some i8)

def zd3 (rec2 : Int → Int → Option (Int × Int)) (x_base : Int) (i11 : Int) (i12 : Int) (r18 : Int) (t23 : Bool) : Option (Int × Int) :=
 if t23 then (some (0,7)) else ((ztZ i11 x_base).bind fun i27 =>
 (zq i27 r18).bind fun i28 =>
 (zq i12 1).bind fun i30 =>
 rec2 i28 i30)

def zbA (x_s : Str) (x_base : Int) (x_most : Int) : Nat → Int → Int → Option (Int × Int)
 | 0,_,_ => none
 | n + 1,i11,i12 =>
 if (decide (i12 < (x_s.length : Int))) then ((sAt x_s i12).bind fun b17 =>
 (zhx b17).bind fun r18 =>
 if (decide (x_most < r18)) then (zd3 (zbA x_s x_base x_most n) x_base i11 i12 r18 true) else ((zbc x_most r18).bind fun i21 =>
 (zvq i21 x_base).bind fun i22 =>
 zd3 (zbA x_s x_base x_most n) x_base i11 i12 r18 (decide (i22 < i11)))) else (some (i11,0))

def zd4 (x_s : Str) (x_base : Int) (x_most : Int) (t5 : Bool) : Option (Int × Int) :=
 if t5 then (some (0,2)) else (zbA x_s x_base x_most fuel 0 0)

def zha (x_s : Str) (x_base : Int) (x_most : Int) (x_is : UInt8 → Option Bool) : Option (Int × Int) :=
 if (x_s == []) then (zd4 x_s x_base x_most true) else ((zeS x_is ([x_s] : List Str)).bind fun r4 =>
 zd4 x_s x_base x_most (!r4))

def zcc (x_s : Str) (x_most : Int) : Option (Int × Int) :=
 (zha x_s 10 x_most zah).bind fun r2 =>
 some (r2.1,r2.2)

def zkl (x_n : Int) (x_base : Int) : Option Str :=
 if (decide (x_n < 0)) then (some []) else ((zgb x_n x_base).bind fun r6 =>
 some r6)

def ziG (x_n : Int) : Option Str :=
 (zkl x_n 10).bind fun r2 =>
 some r2

def zc5 (t6 : Bool) : Option Bool :=
 some t6

def zdC (x_s : Str) (x_most : Int) : Option Bool :=
 (zcc x_s x_most).bind fun r2 =>
 if (r2.2 == 0) then ((ziG r2.1).bind fun r5 =>
 zc5 (r5 == x_s)) else (zc5 false)

def zfU (s : Str) : Option Bool := if s.length < 1000000000 then ((ze 46 s).mapM (fun x => zdC x 255)).bind fun bs => some (bs.all id && decide ((bs.length : Int) = 4)) else none

def zgs (t7 : Bool) : Option Bool :=
 some t7

def zaV (x_b : UInt8) : Option Bool :=
 (zah x_b).bind fun r2 =>
 if r2 then (zgs true) else ((zbh x_b).bind fun r4 =>
 if (decide (97 ≤ r4)) then ((zbh x_b).bind fun r6 =>
 zgs (decide (r6 ≤ 102))) else (zgs false))

def zco (rec1 : Int → Int → Option Int) (i13 : Int) (i36 : Int) : Option Int :=
 (zq i13 1).bind fun i37 =>
 rec1 i36 i37

def zbD (rec1 : Int → Int → Option Int) (i12 : Int) (i13 : Int) (t32 : Bool) : Option Int :=
 if t32 then ((zq i12 1).bind fun i34 =>
 zco rec1 i13 i34) else (some (-1))

def zbE (rec1 : Int → Int → Option Int) (i12 : Int) (i13 : Int) (x17 : Str) (t25 : Bool) : Option Int :=
 if t25 then ((zq i12 2).bind fun i27 =>
 zco rec1 i13 i27) else (if (decide (1 ≤ (x17.length : Int))) then (if (decide ((x17.length : Int) ≤ 4)) then ((zeS zaV ([x17] : List Str)).bind fun r31 =>
 zbD rec1 i12 i13 r31) else (zbD rec1 i12 i13 false)) else (zbD rec1 i12 i13 false))

def zS (x_last : Bool) (r6 : List Str) : Nat → Int → Int → Option Int
 | 0,_,_ => none
 | n + 1,i12,i13 =>
 if (decide (i13 < (r6.length : Int))) then ((lAt r6 i13).bind fun x17 =>
 if x_last then ((zbc (r6.length : Int) 1).bind fun i22 =>
 if (i13 == i22) then ((zfU x17).bind fun r24 =>
 zbE (zS x_last r6 n) i12 i13 x17 r24) else (zbE (zS x_last r6 n) i12 i13 x17 false)) else (zbE (zS x_last r6 n) i12 i13 x17 false)) else (some i12)

def zdb (x_s : Str) (x_last : Bool) : Option Int :=
 if (x_s == []) then (some 0) else ((strings_Split x_s [58]).bind fun r6 =>
 zS x_last r6 fuel 0 0)

def zcd (t15 : Bool) : Option Bool :=
 some t15

def zhb (x_s : Str) : Option Bool :=
 (strings_Cut x_s [58,58]).bind fun r2 =>
 if (!r2.2.2) then ((zdb x_s true).bind fun r6 =>
 some (r6 == 8)) else ((zdb r2.1 false).bind fun r9 =>
 (zdb r2.2.1 true).bind fun r10 =>
 if (decide (0 ≤ r9)) then (if (decide (0 ≤ r10)) then ((zq r9 r10).bind fun i14 =>
 zcd (decide (i14 ≤ 7))) else (zcd false)) else (zcd false))

def zar (t8 : Bool) : Option Bool :=
 some t8

def zhc (x_s : Str) : Option Bool :=
 if (decide (3 ≤ (x_s.length : Int))) then ((sAt x_s 0).bind fun b3 =>
 if (b3 == 37) then ((zd0 x_s 1 3).bind fun s5 =>
 (zeS zaV ([s5] : List Str)).bind fun r7 =>
 zar r7) else (zar false)) else (zar false)

def zcj (t7 : Bool) : Option Bool :=
 some t7

def zcp (x_b : UInt8) : Option Bool :=
 (zjx x_b).bind fun r2 =>
 if r2 then (zcj true) else ((zah x_b).bind fun r4 =>
 if r4 then (zcj true) else ((zkp x_b [45,46,95,126]).bind fun r6 =>
 zcj r6))

def zh3 (x_b : UInt8) : Option Bool :=
 (zkp x_b [33,36,38,39,40,41,42,43,44,59,61]).bind fun r2 =>
 some r2

def zeT (rec1 : Str → Option Bool) (s6 : Str) (t19 : Bool) : Option Bool :=
 if t19 then ((zaG s6 1).bind fun s21 =>
 rec1 s21) else (some false)

def za7 : Nat → Str → Option Bool
 | 0,_ => none
 | n + 1,s6 =>
 if (!(s6 == [])) then ((zhc s6).bind fun r10 =>
 if r10 then ((zaG s6 3).bind fun s13 =>
 (za7 n) s13) else ((sAt s6 0).bind fun b14 =>
 (zcp b14).bind fun r15 =>
 if r15 then (zeT (za7 n) s6 true) else ((sAt s6 0).bind fun b17 =>
 (zh3 b17).bind fun r18 =>
 zeT (za7 n) s6 r18))) else (some true)

def zhy (x_s : Str) : Option Bool :=
 if (x_s == []) then (some false) else (za7 fuel x_s)

def zdD (i24 : Int) (s25 : Str) : Option (api_Host × Bool) :=
 some (((⟨i24,s25,(-1)⟩ : api_Host), !(i24 == 0)))

def zcL (x_s : Str) (t14 : Bool) : Option (api_Host × Bool) :=
 if t14 then ((zbc (x_s.length : Int) 1).bind fun i16 =>
 (zd0 x_s 1 i16).bind fun s17 =>
 zdD 3 s17) else ((zfU x_s).bind fun r18 =>
 if r18 then (zdD 2 x_s) else ((zhy x_s).bind fun r21 =>
 if r21 then (zdD 1 x_s) else (zdD 0 x_s)))

def zh4 (x_s : Str) : Option (api_Host × Bool) :=
 if (decide (2 < (x_s.length : Int))) then ((sAt x_s 0).bind fun b6 =>
 if (b6 == 91) then ((zbc (x_s.length : Int) 1).bind fun i8 =>
 (sAt x_s i8).bind fun b9 =>
 if (b9 == 93) then ((zbc (x_s.length : Int) 1).bind fun i11 =>
 (zd0 x_s 1 i11).bind fun s12 =>
 (zhb s12).bind fun r13 =>
 zcL x_s r13) else (zcL x_s false)) else (zcL x_s false)) else (zcL x_s false)

def zeh (x_s : Str) (r10 : Int) (r17 : api_Host × Bool) (t24 : Bool) : Option (api_Host × Int) :=
 if t24 then (some (((⟨0,[],0⟩ : api_Host),27))) else ((zq r10 1).bind fun i28 =>
 (zaG x_s i28).bind fun s29 =>
 (zcc s29 65535).bind fun r30 =>
 some (((⟨r17.1.Kind,r17.1.Name,r30.1⟩ : api_Host),0)))

def zdE (x_s : Str) : Option (api_Host × Int) :=
 (zh4 x_s).bind fun r3 =>
 if r3.2 then (some (r3.1,0)) else ((zaR x_s 58).bind fun r10 =>
 if (decide (r10 < 0)) then (some (((⟨0,[],0⟩ : api_Host),27))) else ((sTo x_s r10).bind fun s16 =>
 (zh4 s16).bind fun r17 =>
 if (!r17.2) then (zeh x_s r10 r17 true) else ((zq r10 1).bind fun i21 =>
 (zaG x_s i21).bind fun s22 =>
 (zdC s22 65535).bind fun r23 =>
 zeh x_s r10 r17 (!r23))))

def zhU (s : Str) : Option Str := if s.length < 4294967281 then s.mapM zbh else none

def zfJ (t7 : Bool) : Option Bool :=
 some t7

def ziH (x_b : UInt8) : Option Bool :=
 (zcp x_b).bind fun r2 =>
 if r2 then (zfJ true) else ((zh3 x_b).bind fun r4 =>
 if r4 then (zfJ true) else ((zkp x_b [58,64]).bind fun r6 =>
 zfJ r6))

def zh5 (rec1 : Int → Option Bool) (i27 : Int) : Option Bool :=
 (zq i27 1).bind fun i28 =>
 rec1 i28

def zfd (rec1 : Int → Option Bool) (i3 : Int) (t23 : Bool) : Option Bool :=
 if t23 then ((zq i3 2).bind fun i25 =>
 zh5 rec1 i25) else (some false)

def zjJ (rec1 : Int → Option Bool) (x_s : Str) (i3 : Int) (t12 : Bool) : Option Bool :=
 if t12 then (zh5 rec1 i3) else ((sAt x_s i3).bind fun b14 =>
 if (b14 == 37) then ((zq i3 2).bind fun i16 =>
 if (decide (i16 < (x_s.length : Int))) then ((zq i3 1).bind fun i18 =>
 (zq i3 3).bind fun i19 =>
 (zd0 x_s i18 i19).bind fun s20 =>
 (zeS zaV ([s20] : List Str)).bind fun r22 =>
 zfd rec1 i3 r22) else (zfd rec1 i3 false)) else (zfd rec1 i3 false))

def zce (x_s : Str) (x_more : Str) : Nat → Int → Option Bool
 | 0,_ => none
 | n + 1,i3 =>
 if (decide (i3 < (x_s.length : Int))) then ((sAt x_s i3).bind fun b7 =>
 (ziH b7).bind fun r8 =>
 if r8 then (zjJ (zce x_s x_more n) x_s i3 true) else ((sAt x_s i3).bind fun b10 =>
 (strings_IndexByte x_more b10).bind fun r11 =>
 zjJ (zce x_s x_more n) x_s i3 (decide (0 ≤ r11)))) else (some true)

def zl6 (x_s : Str) (x_more : Str) : Option Bool :=
 zce x_s x_more fuel 0

def zhz (t5 : Bool) : Option Bool :=
 some t5

def zkQ (x_s : Str) : Option Bool :=
 (strings_HasPrefix x_s [47]).bind fun r2 =>
 if r2 then ((zl6 x_s [47]).bind fun r4 =>
 zhz r4) else (zhz false)

def zjK (x_s : Str) : Option Bool :=
 (zl6 x_s [47,63]).bind fun r2 =>
 some r2

def ziI (r2 : Str × Str × Bool) (t7 : Bool) : Option (Str × Str × Bool × Int) :=
 if t7 then (some ([],[],false,2)) else (some (r2.1,r2.2.1,r2.2.2,0))

def zl7 (x_s : Str) : Option (Str × Str × Bool × Int) :=
 (strings_Cut x_s [63]).bind fun r2 =>
 (zkQ r2.1).bind fun r4 =>
 if (!r4) then (ziI r2 true) else ((zjK r2.2.1).bind fun r6 =>
 ziI r2 (!r6))

def zgt (x_t : api_Target) (r15 : Str × Str × Bool × Int) (s19 : Str) : Option (api_Target × Bool) :=
 some (((⟨x_t.Kind,x_t.Scheme,x_t.Host,s19,r15.2.1,r15.2.2.1⟩ : api_Target),r15.2.2.2 == 0))

def zgu (x_t : api_Target) (b9 : UInt8) (s14 : Str) : Option (api_Target × Bool) :=
 (zl7 s14).bind fun r15 =>
 if (b9 == 63) then (zgt x_t r15 []) else (zgt x_t r15 r15.1)

def zh6 (x_t : api_Target) (x_s : Str) : Option (api_Target × Bool) :=
 if (x_s == []) then (some (x_t,true)) else ((sAt x_s 0).bind fun b9 =>
 if (b9 == 63) then ((zlz [47] x_s).bind fun s13 =>
 zgu x_t b9 s13) else (zgu x_t b9 x_s))

def zcq (r3 : Str × Str × Bool) (r5 : Str) (i18 : Int) : Option (api_Target × Bool) :=
 (sTo r3.2.1 i18).bind fun s19 =>
 (zdE s19).bind fun r20 =>
 if (!(r20.2 == 0)) then (some (((⟨2,r5,(⟨0,[],0⟩ : api_Host),[],[],false⟩ : api_Target),false))) else ((zaG r3.2.1 i18).bind fun s28 =>
 (zh6 (⟨2,r5,r20.1,[],[],false⟩ : api_Target) s28).bind fun r29 =>
 some (r29.1,r29.2))

def zaD (r3 : Str × Str × Bool) (r5 : Str) (t10 : Bool) : Option (api_Target × Bool) :=
 if t10 then (some (((⟨2,r5,(⟨0,[],0⟩ : api_Host),[],[],false⟩ : api_Target),false))) else ((strings_IndexAny r3.2.1 [47,63]).bind fun r14 =>
 if (decide (r14 < 0)) then (zcq r3 r5 (r3.2.1.length : Int)) else (zcq r3 r5 r14))

def zfK (x_s : Str) : Option (api_Target × Bool) :=
 (strings_Cut x_s [58,47,47]).bind fun r3 =>
 (zhU r3.1).bind fun r5 =>
 if (!r3.2.2) then (zaD r3 r5 true) else (if (!(r5 == [104,116,116,112])) then (zaD r3 r5 (!(r5 == [104,116,116,112,115]))) else (zaD r3 r5 false))

def zl8 (x_method : Str) (x_s : Str) : Option (api_Target × Bool) :=
 if (x_s == [42]) then (some (((⟨4,[],(⟨0,[],0⟩ : api_Host),[],[],false⟩ : api_Target),x_method == [79,80,84,73,79,78,83]))) else ((strings_HasPrefix x_s [47]).bind fun r7 =>
 if (!r7) then ((zfK x_s).bind fun r10 =>
 some (r10.1,r10.2)) else ((zh6 ((⟨1,[],(⟨0,[],0⟩ : api_Host),[],[],false⟩ : api_Target)) x_s).bind fun r13 =>
 some (r13.1,r13.2)))

def zfL (r5 : api_Host × Int) (t9 : Bool) : Option (api_Target × Int) :=
 if t9 then (some (((⟨0,[],(⟨0,[],0⟩ : api_Host),[],[],false⟩ : api_Target),20))) else (some (((⟨3,[],r5.1,[],[],false⟩ : api_Target),0)))

def ziJ (x_method : Str) (x_s : Str) : Option (api_Target × Int) :=
 if (x_method == [67,79,78,78,69,67,84]) then ((zdE x_s).bind fun r5 =>
 if (!(r5.2 == 0)) then (zfL r5 true) else (zfL r5 (decide (r5.1.Port < 0)))) else ((zl8 x_method x_s).bind fun r15 =>
 if (!r15.2) then (some (((⟨0,[],(⟨0,[],0⟩ : api_Host),[],[],false⟩ : api_Target),20))) else (some (r15.1,0)))

def zae (r17 : Str × Bool × scan_Scanner) (r23 : Str × scan_Scanner) (r29 : Int × Bool × scan_Scanner) (t41 : Bool) : Option (api_Head × Int) :=
 if t41 then (some (((⟨0,[],[],0,[],0,[]⟩ : api_Head),20))) else (some (((⟨1,r17.1,r23.1,0,[],r29.1,[]⟩ : api_Head),0)))

def zei (x_a0 : Str) : Option (api_Head × Int) :=
 (zaR x_a0 32).bind fun r5 =>
 (zq r5 1).bind fun i6 =>
 (zaG x_a0 i6).bind fun s7 =>
 (zd2 s7).bind fun r8 =>
 if r8 then (some (((⟨0,[],[],0,[],0,[]⟩ : api_Head),26))) else ((ziE x_a0).bind fun r13 =>
 (zaU r13).bind fun r17 =>
 (zj r17.2.2 32).bind fun r20 =>
 (zai r20.2 zdk).bind fun r23 =>
 (zj r23.2 32).bind fun r26 =>
 (zbJ (⟨r26.2⟩ : startline_line)).bind fun r29 =>
 (ziJ r17.1 r23.1).bind fun r32 =>
 if (!r17.2.1) then (zae r17 r23 r29 true) else (if (!r20.1) then (zae r17 r23 r29 true) else (if (!r26.1) then (zae r17 r23 r29 true) else (if (!r29.2.1) then (zae r17 r23 r29 true) else ((zaM r29.2.2).bind fun r39 =>
 if (!r39) then (zae r17 r23 r29 true) else (zae r17 r23 r29 (!(r32.2 == 0))))))))

def zfr (t3 : Bool) : Option Bool :=
 some t3

def zj7 (x_b : UInt8) : Option Bool :=
 if (decide (32 < x_b)) then (zfr (decide (x_b < 127))) else (zfr false)

def zhd (t3 : Bool) : Option Bool :=
 some t3

def zez (x_b : UInt8) : Option Bool :=
 if (x_b == 32) then (zhd true) else (zhd (x_b == 9))

def zeU (t6 : Bool) : Option Bool :=
 some t6

def zcz (x_b : UInt8) : Option Bool :=
 (zj7 x_b).bind fun r2 =>
 if r2 then (zeU true) else ((zez x_b).bind fun r4 =>
 if r4 then (zeU true) else (zeU (decide (127 < x_b))))

def zab (r14 : Int × Bool × scan_Scanner) (r23 : Bool × scan_Scanner) (r26 : Int × Int) (t37 : Bool) : Option (api_Head × Int) :=
 if t37 then (some (((⟨0,[],[],0,[],0,[]⟩ : api_Head),20))) else ((zX r23.2).bind fun r41 =>
 some (((⟨2,[],[],r26.1,r41,r14.1,[]⟩ : api_Head),0)))

def zeV (x_a0 : Str) : Option (api_Head × Int) :=
 (strings_Cut x_a0 [32]).bind fun r3 =>
 (zd2 r3.1).bind fun r5 =>
 if r5 then (some (((⟨0,[],[],0,[],0,[]⟩ : api_Head),26))) else ((ziE x_a0).bind fun r10 =>
 (zbJ (⟨r10⟩ : startline_line)).bind fun r14 =>
 (zj r14.2.2 32).bind fun r17 =>
 (zai r17.2 zah).bind fun r20 =>
 (zj r20.2 32).bind fun r23 =>
 (zcc r20.1 599).bind fun r26 =>
 if (!r14.2.1) then (zab r14 r23 r26 true) else (if (!r17.1) then (zab r14 r23 r26 true) else (if (!r23.1) then (zab r14 r23 r26 true) else (if (!((r20.1.length : Int) == 3)) then (zab r14 r23 r26 true) else (if (!(r26.2 == 0)) then (zab r14 r23 r26 true) else (if (decide (r26.1 < 100)) then (zab r14 r23 r26 true) else ((zX r23.2).bind fun r34 =>
 (zeS zcz ([r34] : List Str)).bind fun r36 =>
 zab r14 r23 r26 (!r36))))))))

def zdF (x_kind : Int) (x_s : Str) (t4 : Bool) : Option (api_Head × Int) :=
 if t4 then (some (((⟨0,[],[],0,[],0,[]⟩ : api_Head),1))) else ((strings_ContainsAny x_s [13,10]).bind fun r7 =>
 if r7 then (some (((⟨0,[],[],0,[],0,[]⟩ : api_Head),24))) else (if (x_kind == 1) then ((zei x_s).bind fun r13 =>
 some (r13.1,r13.2)) else ((zeV x_s).bind fun r18 =>
 some (r18.1,r18.2))))

def zdc (x_kind : Int) (x_s : Str) : Option (api_Head × Int) :=
 if (!(x_kind == 1)) then (zdF x_kind x_s (!(x_kind == 2))) else (zdF x_kind x_s false)

def zaP (x_c : scan_Scanner) : Option (Str × scan_Scanner) :=
 (zai x_c zez).bind fun r2 =>
 some (r2.1,r2.2)

def zdG (r17 : Str × Bool × scan_Scanner) (r20 : Str × scan_Scanner) (t26 : Bool) (s27 : Str) (i28 : Int) : Option (api_Field × Int) :=
 if t26 then (some (((⟨[],[]⟩ : api_Field),21))) else (if (!(r20.1 == [])) then (some (((⟨[],[]⟩ : api_Field),22))) else ((zX (⟨s27,i28⟩ : scan_Scanner)).bind fun r34 =>
 (zeS zcz ([r34] : List Str)).bind fun r36 =>
 if (!r36) then (some (((⟨[],[]⟩ : api_Field),25))) else ((zX (⟨s27,i28⟩ : scan_Scanner)).bind fun r41 =>
 (zfq r41 [32,9]).bind fun r42 =>
 some (((⟨r17.1,r42⟩ : api_Field),0)))))

def zcf (x_s : Str) : Option (api_Field × Int) :=
 (strings_ContainsAny x_s [13,10]).bind fun r3 =>
 if r3 then (some (((⟨[],[]⟩ : api_Field),24))) else ((ziE x_s).bind fun r8 =>
 (zaP r8).bind fun r11 =>
 if (!(r11.1 == [])) then (some (((⟨[],[]⟩ : api_Field),23))) else ((zaU r11.2).bind fun r17 =>
 (zaP r17.2.2).bind fun r20 =>
 if (!r17.2.1) then (zdG r17 r20 true r20.2.f_s r20.2.f_at) else ((zj r20.2 58).bind fun r24 =>
 zdG r17 r20 (!r24.1) r24.2.f_s r24.2.f_at)))

def zK (x_s : List api_Field) : Option (List api_Field) :=
 if zJ 0 x_s.length 32 then (some x_s) else none

def zoA (x_l : List api_Field) : Option bag_Bag :=
 (zK x_l).bind fun r2 =>
 some (⟨r2⟩ : bag_Bag)

def zkm (x_b : bag_Bag) : Option (List api_Field) :=
 (zK x_b.f_l).bind fun r4 =>
 some r4

def zjk (x_a : Str) (x_b : Str) : Option Bool :=
 (zhU x_a).bind fun r2 =>
 (zhU x_b).bind fun r3 =>
 some (r2 == r3)

def zej (rec1 : (List Str) → Int → Option (List Str)) (i10 : Int) (l28 : List Str) : Option (List Str) :=
 (zq i10 1).bind fun i29 =>
 rec1 l28 i29

def zbi (x_name : Str) (r3 : List api_Field) : Nat → (List Str) → Int → Option (List Str)
 | 0,_,_ => none
 | n + 1,l9,i10 =>
 if (decide (i10 < (r3.length : Int))) then ((lAt r3 i10).bind fun x14 =>
 (zjk x14.Name x_name).bind fun r19 =>
 if r19 then (if zJ l9.length 1 16 then (zej (zbi x_name r3 n) i10 (l9 ++ ([x14.Value] : List Str))) else none) else (zej (zbi x_name r3 n) i10 l9)) else (some l9)

def zdH (x_b : bag_Bag) (x_name : Str) : Option (List Str) :=
 (zkm x_b).bind fun r3 =>
 zbi x_name r3 fuel [] 0

def zhA (rec2 : Int → Option Bool) (i21 : Int) (t33 : Bool) : Option Bool :=
 if t33 then (some false) else ((zq i21 1).bind fun i37 =>
 rec2 i37)

def zds (r11 : List Str) : Nat → Int → Option Bool
 | 0,_ => none
 | n + 1,i21 =>
 if (decide (i21 < (r11.length : Int))) then ((lAt r11 i21).bind fun x25 =>
 (zdE x25).bind fun r29 =>
 if (!(r29.2 == 0)) then (zhA (zds r11 n) i21 (!(x25 == []))) else (zhA (zds r11 n) i21 false)) else (some true)

def zeA (r11 : List Str) (t16 : Bool) : Option Bool :=
 if t16 then (some false) else (zds r11 fuel 0)

def zkR (x_h : api_Head) : Option Bool :=
 if (!(x_h.Kind == 1)) then (some true) else ((zoA x_h.Fields).bind fun r7 =>
 (zdH r7 [72,111,115,116]).bind fun r11 =>
 if (decide (1 < (r11.length : Int))) then (zeA r11 true) else (zeA r11 (decide ((r11.length : Int) < x_h.Minor))))

def zkS (x_h : api_Head) : Option Int :=
 if (decide (100 < (x_h.Fields.length : Int))) then (some 3) else ((zkR x_h).bind fun r6 =>
 if (!r6) then (some 27) else (some 0))

def zhB (i75 : Int) (s76 : Str) (s77 : Str) (i78 : Int) (s79 : Str) (i80 : Int) (l83 : List api_Field) : Option (api_Head × Int) :=
 (zkS (⟨i75,s76,s77,i78,s79,i80,l83⟩ : api_Head)).bind fun r84 =>
 if (!(r84 == 0)) then (some (((⟨0,[],[],0,[],0,[]⟩ : api_Head),r84))) else (some (((⟨i75,s76,s77,i78,s79,i80,l83⟩ : api_Head),0)))

def zfV (l41 : List Str) : Nat → Int → Str → Str → Int → Str → Int → (List api_Field) → Int → Option (api_Head × Int)
 | 0,_,_,_,_,_,_,_,_ => none
 | n + 1,i45,s46,s47,i48,s49,i50,l53,i54 =>
 if (decide (i54 < (l41.length : Int))) then ((lAt l41 i54).bind fun x58 =>
 (zcf x58).bind fun r62 =>
 if (!(r62.2 == 0)) then (some (((⟨0,[],[],0,[],0,[]⟩ : api_Head),r62.2))) else (if zJ l53.length 1 32 then ((zq i54 1).bind fun i74 =>
 (zfV l41 n) i45 s46 s47 i48 s49 i50 (l53 ++ [r62.1]) i74) else none)) else (zhB i45 s46 s47 i48 s49 i50 l53)

def zfW (x_a0 : Int) (x_a1 : Str) (r12 : Int) (t19 : Bool) : Option (api_Head × Int) :=
 if t19 then (some (((⟨0,[],[],0,[],0,[]⟩ : api_Head),6))) else ((sTo x_a1 r12).bind fun s23 =>
 (strings_Split s23 [13,10]).bind fun r24 =>
 (lAt r24 0).bind fun x28 =>
 (zdc x_a0 x28).bind fun r31 =>
 if (!(r31.2 == 0)) then (some (((⟨0,[],[],0,[],0,[]⟩ : api_Head),r31.2))) else ((zwr r24 1).bind fun l41 =>
 zfV l41 fuel r31.1.Kind r31.1.Method r31.1.Target r31.1.Code r31.1.Reason r31.1.Minor r31.1.Fields 0))

def zkT (x_a0 : Int) (x_a1 : Str) (x_a2 : Int) : Option (api_Head × Int) :=
 (zdc x_a0 []).bind fun r3 =>
 if (r3.2 == 1) then (some (((⟨0,[],[],0,[],0,[]⟩ : api_Head),r3.2))) else ((strings_Index x_a1 [13,10,13,10]).bind fun r12 =>
 if (decide (x_a2 < (x_a1.length : Int))) then (some (((⟨0,[],[],0,[],0,[]⟩ : api_Head),3))) else (if (decide (r12 < 0)) then (zfW x_a0 x_a1 r12 true) else ((zq r12 4).bind fun i18 =>
 zfW x_a0 x_a1 r12 (!(i18 == (x_a1.length : Int))))))

def zdl (x_a : accum_Accum) (i16 : Int) : Option (Bool × Int × accum_Accum) :=
 some ((false,i16,(⟨x_a.f_kind,x_a.f_limit,x_a.f_buf,(x_a.f_buf.length : Int),x_a.f_took,x_a.f_bad,x_a.f_whole,x_a.f_got⟩ : accum_Accum)))

def zeW (x_a : accum_Accum) (x_s : Str) : Option (Bool × Int × accum_Accum) :=
 if (x_a.f_from == 0) then ((zdc x_a.f_kind x_s).bind fun r5 =>
 zdl x_a r5.2) else (if (!(x_s == [])) then ((zcf x_s).bind fun r10 =>
 zdl x_a r10.2) else ((zkT x_a.f_kind x_a.f_buf x_a.f_limit).bind fun r11 =>
 some ((r11.2 == 0,r11.2,(⟨x_a.f_kind,x_a.f_limit,x_a.f_buf,x_a.f_from,x_a.f_took,x_a.f_bad,x_a.f_whole,r11.1⟩ : accum_Accum)))))

def zdx (x_a : accum_Accum) (x_b : UInt8) : Option (Bool × Int × accum_Accum) :=
 if (decide (x_a.f_limit ≤ (x_a.f_buf.length : Int))) then (some (false,3,x_a)) else (if zJ x_a.f_buf.length 1 1 then ((zeQ (⟨x_a.f_kind,x_a.f_limit,x_a.f_buf ++ [x_b],x_a.f_from,x_a.f_took,x_a.f_bad,x_a.f_whole,x_a.f_got⟩ : accum_Accum)).bind fun r11 =>
 if r11 then (some ((false,24,(⟨x_a.f_kind,x_a.f_limit,x_a.f_buf ++ [x_b],x_a.f_from,x_a.f_took,x_a.f_bad,x_a.f_whole,x_a.f_got⟩ : accum_Accum)))) else (if (!(x_b == 10)) then (some ((false,0,(⟨x_a.f_kind,x_a.f_limit,x_a.f_buf ++ [x_b],x_a.f_from,x_a.f_took,x_a.f_bad,x_a.f_whole,x_a.f_got⟩ : accum_Accum)))) else ((zbc (((x_a.f_buf ++ [x_b]).length : Int)) 2).bind fun i20 =>
 (lSub (x_a.f_buf ++ [x_b]) x_a.f_from i20).bind fun l21 =>
 (zeW (⟨x_a.f_kind,x_a.f_limit,x_a.f_buf ++ [x_b],x_a.f_from,x_a.f_took,x_a.f_bad,x_a.f_whole,x_a.f_got⟩ : accum_Accum) l21).bind fun r24 =>
 some (r24.1,r24.2.1,r24.2.2)))) else none)

def zdm (rec2 : Int → Int → (List UInt8) → Int → Bool → Int → Bool → Int → Str → Str → Int → Str → Int → (List api_Field) → Int → Option (Int × Bool × Int × accum_Accum)) (i27 : Int) (r34 : Bool × Int × accum_Accum) (t42 : Bool) : Option (Int × Bool × Int × accum_Accum) :=
 if t42 then ((zq i27 1).bind fun i45 =>
 some ((i45,r34.1,r34.2.1,(⟨r34.2.2.f_kind,r34.2.2.f_limit,[],r34.2.2.f_from,r34.2.2.f_took,r34.2.1,r34.1,r34.2.2.f_got⟩ : accum_Accum)))) else ((zq i27 1).bind fun i48 =>
 rec2 r34.2.2.f_kind r34.2.2.f_limit r34.2.2.f_buf r34.2.2.f_from r34.2.2.f_took r34.2.1 r34.1 r34.2.2.f_got.Kind r34.2.2.f_got.Method r34.2.2.f_got.Target r34.2.2.f_got.Code r34.2.2.f_got.Reason r34.2.2.f_got.Minor r34.2.2.f_got.Fields i48)

def zeM (x_a1 : Str) (i49 : Int) (i50 : Int) (l53 : List UInt8) (i54 : Int) (t55 : Bool) (i56 : Int) (t57 : Bool) (i58 : Int) (s59 : Str) (s60 : Str) (i61 : Int) (s62 : Str) (i63 : Int) (l66 : List api_Field) : Option (Int × Bool × Int × accum_Accum) :=
 some (((x_a1.length : Int),false,0,(⟨i49,i50,l53,i54,t55,i56,t57,(⟨i58,s59,s60,i61,s62,i63,l66⟩ : api_Head)⟩ : accum_Accum)))

def zas (x_a1 : Str) : Nat → Int → Int → (List UInt8) → Int → Bool → Int → Bool → Int → Str → Str → Int → Str → Int → (List api_Field) → Int → Option (Int × Bool × Int × accum_Accum)
 | 0,_,_,_,_,_,_,_,_,_,_,_,_,_,_,_ => none
 | n + 1,i9,i10,l13,i14,t15,i16,t17,i18,s19,s20,i21,s22,i23,l26,i27 =>
 if (decide (i27 < (x_a1.length : Int))) then ((sAt x_a1 i27).bind fun b33 =>
 (zdx ((⟨i9,i10,l13,i14,true,i16,t17,(⟨i18,s19,s20,i21,s22,i23,l26⟩ : api_Head)⟩ : accum_Accum)) b33).bind fun r34 =>
 if r34.1 then (zdm (zas x_a1 n) i27 r34 true) else (zdm (zas x_a1 n) i27 r34 (!(r34.2.1 == 0)))) else (zeM x_a1 i9 i10 l13 i14 t15 i16 t17 i18 s19 s20 i21 s22 i23 l26)

def zdn (x_a0 : accum_Accum) (x_a1 : Str) (t4 : Bool) : Option (Int × Bool × Int × accum_Accum) :=
 if t4 then (some (0,false,8,x_a0)) else (zas x_a1 fuel x_a0.f_kind x_a0.f_limit x_a0.f_buf x_a0.f_from x_a0.f_took x_a0.f_bad x_a0.f_whole x_a0.f_got.Kind x_a0.f_got.Method x_a0.f_got.Target x_a0.f_got.Code x_a0.f_got.Reason x_a0.f_got.Minor x_a0.f_got.Fields 0)

def zdy (x_a0 : accum_Accum) (x_a1 : Str) : Option (Int × Bool × Int × accum_Accum) :=
 if (!(x_a0.f_bad == 0)) then (zdn x_a0 x_a1 true) else (zdn x_a0 x_a1 x_a0.f_whole)

def zeX (x_a : accum_Accum) : Option (api_Head × Bool) :=
 if (!x_a.f_whole) then (some (((⟨0,[],[],0,[],0,[]⟩ : api_Head),false))) else (if zJ 0 x_a.f_got.Fields.length 32 then (some (x_a.f_got,true)) else none)

def zbW (x_p : commas_splitter) (l12 : List Str) : Option commas_splitter :=
 (zcb x_p.Scanner).bind fun r13 =>
 some (⟨x_p.Scanner,l12,r13,x_p.f_s⟩ : commas_splitter)

def zb6 (x_p : commas_splitter) (x_at : Int) : Option commas_splitter :=
 (zd0 x_p.f_s x_p.f_from x_at).bind fun s1 =>
 (zfq s1 [32,9]).bind fun r2 =>
 if (!(r2 == [])) then (if zJ x_p.f_out.length 1 16 then (zbW x_p (x_p.f_out ++ ([r2] : List Str))) else none) else (zbW x_p x_p.f_out)

def zdI (x_p : commas_splitter) (s33 : Str) (i34 : Int) : Option (Bool × commas_splitter) :=
 some ((true,(⟨(⟨s33,i34⟩ : scan_Scanner),x_p.f_out,x_p.f_from,x_p.f_s⟩ : commas_splitter)))

def zr (x_p : commas_splitter) : Nat → Str → Int → Int → Option (Bool × commas_splitter)
 | 0,_,_,_ => none
 | n + 1,s3,i4,i5 =>
 if (decide (0 < i5)) then ((zE (⟨s3,i4⟩ : scan_Scanner)).bind fun r9 =>
 if (!r9.2) then (some ((false,(⟨(⟨s3,i4⟩ : scan_Scanner),x_p.f_out,x_p.f_from,x_p.f_s⟩ : commas_splitter)))) else ((zj (⟨s3,i4⟩ : scan_Scanner) r9.1).bind fun r15 =>
 if (r9.1 == 40) then ((zq i5 1).bind fun i21 =>
 (zr x_p n) r15.2.f_s r15.2.f_at i21) else (if (r9.1 == 41) then ((zbc i5 1).bind fun i24 =>
 (zr x_p n) r15.2.f_s r15.2.f_at i24) else (if (r9.1 == 92) then ((zE r15.2).bind fun r27 =>
 if r27.2 then ((zj r15.2 r27.1).bind fun r31 =>
 (zr x_p n) r31.2.f_s r31.2.f_at i5) else ((zr x_p n) r15.2.f_s r15.2.f_at i5)) else ((zr x_p n) r15.2.f_s r15.2.f_at i5))))) else (zdI x_p s3 i4)

def zbK (x_p : commas_splitter) : Option (Bool × commas_splitter) :=
 zr x_p fuel x_p.Scanner.f_s x_p.Scanner.f_at 1

def zck (x_r : quoted_reader) (r2 : Bool × scan_Scanner) (r5 : UInt8 × Bool) (t9 : Bool) : Option (Bool × quoted_reader) :=
 if t9 then (some ((false,(⟨r2.2,x_r.f_out⟩ : quoted_reader)))) else (if zJ x_r.f_out.length 1 1 then ((zj r2.2 r5.1).bind fun r18 =>
 some ((r18.1,(⟨r18.2,x_r.f_out ++ [r5.1]⟩ : quoted_reader)))) else none)

def zcr (x_r : quoted_reader) : Option (Bool × quoted_reader) :=
 (zj x_r.Scanner 92).bind fun r2 =>
 (zE r2.2).bind fun r5 =>
 if (!r5.2) then (zck x_r r2 r5 true) else ((zcz r5.1).bind fun r8 =>
 zck x_r r2 r5 (!r8))

def zcM (x_c : scan_Scanner) (x_at : Int) (t4 : Bool) : Option (Bool × scan_Scanner) :=
 if t4 then (some (false,x_c)) else (some ((true,(⟨x_c.f_s,x_at⟩ : scan_Scanner))))

def zek (x_c : scan_Scanner) (x_at : Int) : Option (Bool × scan_Scanner) :=
 if (decide (x_at < 0)) then (zcM x_c x_at true) else ((zcb x_c).bind fun r3 =>
 zcM x_c x_at (decide (r3 < x_at)))

def zgv (r2 : Int) (t27 : Bool) (s28 : Str) (i29 : Int) (l32 : List UInt8) : Option (Str × Bool × scan_Scanner) :=
 if (!t27) then ((zek (⟨s28,i29⟩ : scan_Scanner) r2).bind fun r35 =>
 some ([],false,r35.2)) else (some ((l32,true,(⟨s28,i29⟩ : scan_Scanner))))

def zeY (rec1 : Str → Int → (List UInt8) → Bool → Option (Str × Bool × scan_Scanner)) (r2 : Int) (l13 : List UInt8) (t14 : Bool) (t18 : Bool) (s19 : Str) (i20 : Int) : Option (Str × Bool × scan_Scanner) :=
 if t18 then ((zcr ((⟨(⟨s19,i20⟩ : scan_Scanner),l13⟩ : quoted_reader))).bind fun r23 =>
 rec1 r23.2.Scanner.f_s r23.2.Scanner.f_at r23.2.f_out r23.1) else (zgv r2 t14 s19 i20 l13)

def zbp (r2 : Int) : Nat → Str → Int → (List UInt8) → Bool → Option (Str × Bool × scan_Scanner)
 | 0,_,_,_,_ => none
 | n + 1,s9,i10,l13,t14 =>
 if t14 then ((zj (⟨s9,i10⟩ : scan_Scanner) 34).bind fun r16 =>
 zeY (zbp r2 n) r2 l13 t14 (!r16.1) r16.2.f_s r16.2.f_at) else (zeY (zbp r2 n) r2 l13 t14 false s9 i10)

def zh7 (x_c : scan_Scanner) : Option (Str × Bool × scan_Scanner) :=
 (zcb x_c).bind fun r2 =>
 (zj x_c 34).bind fun r6 =>
 zbp r2 fuel r6.2.f_s r6.2.f_at [] r6.1

def zc6 (l34 : List Str) (i35 : Int) (s36 : Str) (s37 : Str) (i38 : Int) : Option (Bool × commas_splitter) :=
 some ((true,(⟨(⟨s37,i38⟩ : scan_Scanner),l34,i35,s36⟩ : commas_splitter)))

def zaz (x_p : commas_splitter) : Option (Bool × commas_splitter) :=
 (zcb x_p.Scanner).bind fun r2 =>
 (zj x_p.Scanner 44).bind fun r4 =>
 if r4.1 then ((zb6 (⟨r4.2,x_p.f_out,x_p.f_from,x_p.f_s⟩ : commas_splitter) r2).bind fun r8 =>
 zc6 r8.f_out r8.f_from r8.f_s r8.Scanner.f_s r8.Scanner.f_at) else ((zj r4.2 40).bind fun r12 =>
 if r12.1 then ((zbK (⟨r12.2,x_p.f_out,x_p.f_from,x_p.f_s⟩ : commas_splitter)).bind fun r16 =>
 some (r16.1,r16.2)) else ((zE r12.2).bind fun r21 =>
 if (r21.1 == 34) then ((zh7 r12.2).bind fun r25 =>
 some ((r25.2.1,(⟨r25.2.2,x_p.f_out,x_p.f_from,x_p.f_s⟩ : commas_splitter)))) else ((zj r12.2 r21.1).bind fun r30 =>
 zc6 x_p.f_out x_p.f_from x_p.f_s r30.2.f_s r30.2.f_at)))

def zhQ (x_s : Str) (l26 : List Str) (i27 : Int) (s28 : Str) (s29 : Str) (i30 : Int) : Option (List Str × Int) :=
 (zb6 ((⟨(⟨s29,i30⟩ : scan_Scanner),l26,i27,s28⟩ : commas_splitter)) (x_s.length : Int)).bind fun r31 =>
 some (r31.f_out,0)

def zdd (x_s : Str) : Nat → (List Str) → Int → Str → Str → Int → Option (List Str × Int)
 | 0,_,_,_,_,_ => none
 | n + 1,l8,i9,s10,s11,i12 =>
 (zaM (⟨s11,i12⟩ : scan_Scanner)).bind fun r13 =>
 if (!r13) then ((zaz ((⟨(⟨s11,i12⟩ : scan_Scanner),l8,i9,s10⟩ : commas_splitter))).bind fun r17 =>
 if (!r17.1) then (some ([],2)) else ((zdd x_s n) r17.2.f_out r17.2.f_from r17.2.f_s r17.2.Scanner.f_s r17.2.Scanner.f_at)) else (zhQ x_s l8 i9 s10 s11 i12)

def zhe (x_s : Str) : Option (List Str × Int) :=
 (ziE x_s).bind fun r2 =>
 zdd x_s fuel [] 0 x_s r2.f_s r2.f_at

def zgw (t5 : Bool) : Option Bool :=
 some t5

def zjL (x_s : Str) : Option Bool :=
 if (!(x_s == [])) then ((zeS zdr ([x_s] : List Str)).bind fun r4 =>
 zgw r4) else (zgw false)

def zcs (rec1 : (List Str) → Int → Option (List Str × Int)) (l6 : List Str) (i7 : Int) (r15 : List Str × Int) : Nat → Int → Option (List Str × Int)
 | 0,_ => none
 | n + 1,i24 =>
 if (decide (i24 < (r15.1.length : Int))) then ((lAt r15.1 i24).bind fun x28 =>
 (zjL x28).bind fun r32 =>
 if (!r32) then (some ([],2)) else ((zq i24 1).bind fun i37 =>
 (zcs rec1 l6 i7 r15 n) i37)) else (if zJ l6.length r15.1.length 16 then ((zq i7 1).bind fun i43 =>
 rec1 (l6 ++ r15.1) i43) else none)

def zct (x_l : List Str) : Nat → (List Str) → Int → Option (List Str × Int)
 | 0,_,_ => none
 | n + 1,l6,i7 =>
 if (decide (i7 < (x_l.length : Int))) then ((lAt x_l i7).bind fun x11 =>
 (zhe x11).bind fun r15 =>
 if (!(r15.2 == 0)) then (some ([],r15.2)) else (zcs (zct x_l n) l6 i7 r15 fuel 0)) else (some (l6,0))

def zhC (x_l : List Str) : Option (List Str × Int) :=
 zct x_l fuel [] 0

def zat (t15 : Bool) : Option (api_Frame × Int) :=
 if t15 then (some (((⟨0,0⟩ : api_Frame),30))) else (some (((⟨3,0⟩ : api_Frame),0)))

def zcN (x_r : length_reader) (x_l : List Str) : Option (api_Frame × Int) :=
 (zhC x_l).bind fun r4 =>
 if (!(r4.2 == 0)) then (zat true) else (if (x_r.f_minor == 0) then (zat true) else (if (!((r4.1.length : Int) == 1)) then (zat true) else ((lAt r4.1 0).bind fun x11 =>
 (zjk x11 [99,104,117,110,107,101,100]).bind fun r14 =>
 zat (!r14))))

def zaj (rec2 : Int → Int → Option (api_Frame × Int)) (i25 : Int) (r33 : Int × Int) (t37 : Bool) : Option (api_Frame × Int) :=
 if t37 then (some (((⟨0,0⟩ : api_Frame),28))) else ((zq i25 1).bind fun i42 =>
 rec2 r33.1 i42)

def zC (rec1 : Int → Int → Option (api_Frame × Int)) (i7 : Int) (r15 : List Str × Int) : Nat → Int → Int → Option (api_Frame × Int)
 | 0,_,_ => none
 | n + 1,i24,i25 =>
 if (decide (i25 < (r15.1.length : Int))) then ((lAt r15.1 i25).bind fun x29 =>
 (zcc x29 1099511627776).bind fun r33 =>
 if (!(r33.2 == 0)) then (zaj (zC rec1 i7 r15 n) i25 r33 true) else (if (decide (0 ≤ i24)) then (zaj (zC rec1 i7 r15 n) i25 r33 (!(r33.1 == i24))) else (zaj (zC rec1 i7 r15 n) i25 r33 false))) else ((zq i7 1).bind fun i44 =>
 rec1 i24 i44)

def zT (x_l : List Str) : Nat → Int → Int → Option (api_Frame × Int)
 | 0,_,_ => none
 | n + 1,i6,i7 =>
 if (decide (i7 < (x_l.length : Int))) then ((lAt x_l i7).bind fun x11 =>
 (zhe x11).bind fun r15 =>
 if (!(r15.2 == 0)) then (some (((⟨0,0⟩ : api_Frame),28))) else (zC (zT x_l n) i7 r15 fuel i6 0)) else (if (decide (i6 < 0)) then (some (((⟨0,0⟩ : api_Frame),28))) else (some (((⟨2,i6⟩ : api_Frame),0))))

def zcl (x_r : length_reader) (x_l : List Str) : Option (api_Frame × Int) :=
 zT x_l fuel (-1) 0

def zfs (x_h : api_Head) (x_none : Int) (r4 : bag_Bag) (r10 : List Str) (r13 : List Str) (t18 : Bool) : Option (api_Frame × Int) :=
 if t18 then (some (((⟨0,0⟩ : api_Frame),29))) else (if (decide (0 < (r10.length : Int))) then ((zcN (⟨r4,x_h.Minor⟩ : length_reader) r10).bind fun r23 =>
 some (r23.1,r23.2)) else (if (decide (0 < (r13.length : Int))) then ((zcl (⟨r4,x_h.Minor⟩ : length_reader) r13).bind fun r27 =>
 some (r27.1,r27.2)) else (some (((⟨x_none,0⟩ : api_Frame),0)))))

def zkq (x_h : api_Head) (x_none : Int) : Option (api_Frame × Int) :=
 (zoA x_h.Fields).bind fun r4 =>
 (zdH r4 [84,114,97,110,115,102,101,114,45,69,110,99,111,100,105,110,103]).bind fun r10 =>
 (zdH r4 [67,111,110,116,101,110,116,45,76,101,110,103,116,104]).bind fun r13 =>
 if (decide (0 < (r10.length : Int))) then (zfs x_h x_none r4 r10 r13 (decide (0 < (r13.length : Int)))) else (zfs x_h x_none r4 r10 r13 false)

def ziK (x_h : api_Head) : Option (api_Frame × Int) :=
 (zkq x_h 1).bind fun r4 =>
 some (r4.1,r4.2)

def zaE (t7 : Bool) : Option Bool :=
 some t7

def zfM (x_method : Str) (x_code : Int) : Option Bool :=
 if (x_method == [72,69,65,68]) then (zaE true) else (if (decide (x_code < 200)) then (zaE true) else (if (x_code == 204) then (zaE true) else (if (x_code == 304) then (zaE true) else (if (x_method == [67,79,78,78,69,67,84]) then (zaE (decide (x_code < 300))) else (zaE false)))))

def zhR (x_method : Str) (x_h : api_Head) : Option (api_Frame × Int) :=
 (zfM x_method x_h.Code).bind fun r4 =>
 if r4 then (some (((⟨1,0⟩ : api_Frame),0))) else ((zkq x_h 4).bind fun r9 =>
 some (r9.1,r9.2))

def zhD (x_method : Str) (x_h : api_Head) : Option (api_Frame × Int) :=
 if (x_h.Kind == 1) then ((ziK x_h).bind fun r6 =>
 some (r6.1,r6.2)) else ((zhR x_method x_h).bind fun r9 =>
 some (r9.1,r9.2))

def ziL (x_limit : Int) (t3 : Bool) : Option (Option dechunk_Decoder × Int) :=
 if t3 then (some (none,1)) else (some ((some (⟨x_limit,0,[],0,0,0,[]⟩ : dechunk_Decoder),0)))

def zjM (x_limit : Int) : Option (Option dechunk_Decoder × Int) :=
 if (decide (x_limit < 0)) then (ziL x_limit true) else (ziL x_limit (decide (65536 < x_limit)))

def zjN (x_a0 : api_Frame) (t26 : Bool) : Option (Option (Bool × body_Body) × Int) :=
 some ((some (false,(⟨default,x_a0,x_a0.N,t26,false⟩ : body_Body)),0))

def zlk (x_a0 : api_Frame) : Option (Option (Bool × body_Body) × Int) :=
 if (x_a0.Kind == 1) then (zjN x_a0 true) else (if (x_a0.Kind == 2) then (zjN x_a0 (x_a0.N == 0)) else (zjN x_a0 false))

def zgx (x_a0 : api_Frame) (t16 : Bool) : Option (Option (Bool × body_Body) × Int) :=
 if t16 then (some (none,1)) else (if (x_a0.Kind == 3) then (zlk x_a0) else (zlk x_a0))

def zn0 (x_a0 : api_Frame) (i11 : Int) : Option (Option (Bool × body_Body) × Int) :=
 if (!(i11 == 0)) then (zgx x_a0 true) else (if (decide (x_a0.Kind < 1)) then (zgx x_a0 true) else (if (decide (4 < x_a0.Kind)) then (zgx x_a0 true) else (if (decide (x_a0.N < 0)) then (zgx x_a0 true) else (zgx x_a0 (decide (1099511627776 < x_a0.N))))))

def zjO (x_a0 : api_Frame) (i30 : Int) (i31 : Int) (l34 : List UInt8) (i35 : Int) (i36 : Int) (i37 : Int) (l40 : List api_Field) (t55 : Bool) : Option (Option (Bool × body_Body) × Int) :=
 some ((some (true,(⟨(⟨i30,i31,l34,i35,i36,i37,l40⟩ : dechunk_Decoder),x_a0,x_a0.N,t55,false⟩ : body_Body)),0))

def zn1 (x_a0 : api_Frame) (i30 : Int) (i31 : Int) (l34 : List UInt8) (i35 : Int) (i36 : Int) (i37 : Int) (l40 : List api_Field) : Option (Option (Bool × body_Body) × Int) :=
 if (x_a0.Kind == 1) then (zjO x_a0 i30 i31 l34 i35 i36 i37 l40 true) else (if (x_a0.Kind == 2) then (zjO x_a0 i30 i31 l34 i35 i36 i37 l40 (x_a0.N == 0)) else (zjO x_a0 i30 i31 l34 i35 i36 i37 l40 false))

def ziM (x_a0 : api_Frame) (t59 : Bool) : Option (Option (Bool × body_Body) × Int) :=
 some ((some (false,(⟨default,x_a0,x_a0.N,t59,false⟩ : body_Body)),0))

def zn2 (x_a0 : api_Frame) : Option (Option (Bool × body_Body) × Int) :=
 if (x_a0.Kind == 1) then (ziM x_a0 true) else (if (x_a0.Kind == 2) then (ziM x_a0 (x_a0.N == 0)) else (ziM x_a0 false))

def zgy (x_a0 : api_Frame) (i30 : Int) (i31 : Int) (l34 : List UInt8) (i35 : Int) (i36 : Int) (i37 : Int) (l40 : List api_Field) (t45 : Bool) : Option (Option (Bool × body_Body) × Int) :=
 if t45 then (some (none,1)) else (if (x_a0.Kind == 3) then (zn1 x_a0 i30 i31 l34 i35 i36 i37 l40) else (zn2 x_a0))

def zjP (x_a0 : api_Frame) (i29 : Int) (i30 : Int) (i31 : Int) (l34 : List UInt8) (i35 : Int) (i36 : Int) (i37 : Int) (l40 : List api_Field) : Option (Option (Bool × body_Body) × Int) :=
 if (!(i29 == 0)) then (zgy x_a0 i30 i31 l34 i35 i36 i37 l40 true) else (if (decide (x_a0.Kind < 1)) then (zgy x_a0 i30 i31 l34 i35 i36 i37 l40 true) else (if (decide (4 < x_a0.Kind)) then (zgy x_a0 i30 i31 l34 i35 i36 i37 l40 true) else (if (decide (x_a0.N < 0)) then (zgy x_a0 i30 i31 l34 i35 i36 i37 l40 true) else (zgy x_a0 i30 i31 l34 i35 i36 i37 l40 (decide (1099511627776 < x_a0.N))))))

def zl9 (x_a0 : api_Frame) (x_a1 : Int) : Option (Option (Bool × body_Body) × Int) :=
 (zjM x_a1).bind fun r3 =>
 ztB r3.1 (zn0 x_a0 r3.2) (fun x5 => zjP x_a0 r3.2 x5.f_limit x5.f_at x5.f_line x5.f_left x5.f_sum x5.f_spent x5.f_trailers)

def zdJ (x_b : body_Body) : Option Bool :=
 some x_b.f_done

def zau (x_d : dechunk_Decoder) (x_s : Str) (i7 : Int) (i8 : Int) : Option (Str × dechunk_Decoder) :=
 (sTo x_s (min x_d.f_left (x_s.length : Int))).bind fun s9 =>
 some ((s9,(⟨x_d.f_limit,i7,x_d.f_line,i8,x_d.f_sum,x_d.f_spent,x_d.f_trailers⟩ : dechunk_Decoder)))

def zbL (x_d : dechunk_Decoder) (x_s : Str) : Option (Str × dechunk_Decoder) :=
 (zbc x_d.f_left (min x_d.f_left (x_s.length : Int))).bind fun i3 =>
 if (i3 == 0) then (zau x_d x_s 2 2) else (zau x_d x_s x_d.f_at i3)

def zcA (x_d : dechunk_Decoder) (i10 : Int) (i14 : Int) : Option (Int × dechunk_Decoder) :=
 some ((0,(⟨x_d.f_limit,i14,x_d.f_line,i10,x_d.f_sum,x_d.f_spent,x_d.f_trailers⟩ : dechunk_Decoder)))

def zaN (x_d : dechunk_Decoder) (x_b : UInt8) (b5 : UInt8) : Option (Int × dechunk_Decoder) :=
 if (!(x_b == b5)) then (some (31,x_d)) else ((zbc x_d.f_left 1).bind fun i10 =>
 if (i10 == 0) then (zcA x_d i10 0) else (zcA x_d i10 x_d.f_at))

def zcm (x_d : dechunk_Decoder) (x_b : UInt8) : Option (Int × dechunk_Decoder) :=
 if (x_d.f_left == 1) then (zaN x_d x_b 10) else (zaN x_d x_b 13)

def zjQ (x_s : Str) (x_most : Int) : Option (Int × Int) :=
 (zha x_s 16 x_most zaV).bind fun r2 =>
 some (r2.1,r2.2)

def zh8 (x_c : scan_Scanner) : Option (Str × Bool × scan_Scanner) :=
 (zaU x_c).bind fun r2 =>
 if r2.2.1 then (some (r2.1,true,r2.2.2)) else ((zh7 r2.2.2).bind fun r9 =>
 some (r9.1,r9.2.1,r9.2.2))

def zbM (r4 : Str × Bool × scan_Scanner) (t10 : Bool) (s11 : Str) (i12 : Int) : Option (api_Attr × Bool × scan_Scanner) :=
 if t10 then (some (((⟨r4.1,[],false⟩ : api_Attr),r4.2.1,(⟨s11,i12⟩ : scan_Scanner)))) else ((zh8 (⟨s11,i12⟩ : scan_Scanner)).bind fun r16 =>
 some (((⟨r4.1,r16.1,true⟩ : api_Attr),r16.2.1,r16.2.2)))

def zbN (x_r : chunkline_reader) : Option (api_Attr × Bool × scan_Scanner) :=
 (zaU x_r.Scanner).bind fun r4 =>
 if (!r4.2.1) then (zbM r4 true r4.2.2.f_s r4.2.2.f_at) else ((zj r4.2.2 61).bind fun r8 =>
 zbM r4 (!r8.1) r8.2.f_s r8.2.f_at)

def zcu (r9 : Int × Int) (l36 : List api_Attr) (t41 : Bool) : Option (Int × List api_Attr × Int) :=
 if t41 then (some (0,[],31)) else (if (!(r9.2 == 0)) then (some (0,[],r9.2)) else (some (r9.1,l36,0)))

def zft (r9 : Int × Int) (l36 : List api_Attr) (s37 : Str) (i38 : Int) : Option (Int × List api_Attr × Int) :=
 (zaM (⟨s37,i38⟩ : scan_Scanner)).bind fun r39 =>
 if (!r39) then (zcu r9 l36 true) else (zcu r9 l36 (r9.2 == 2))

def zcv (r9 : Int × Int) : Nat → (List api_Attr) → Str → Int → Option (Int × List api_Attr × Int)
 | 0,_,_,_ => none
 | n + 1,l14,s15,i16 =>
 (zj (⟨s15,i16⟩ : scan_Scanner) 59).bind fun r17 =>
 if r17.1 then ((zbN (⟨r17.2⟩ : chunkline_reader)).bind fun r22 =>
 if (!r22.2.1) then (some (0,[],31)) else (if zJ l14.length 1 40 then ((zcv r9 n) (l14 ++ [r22.1]) r22.2.2.f_s r22.2.2.f_at) else none)) else (zft r9 l14 r17.2.f_s r17.2.f_at)

def zfN (x_s : Str) : Option (Int × List api_Attr × Int) :=
 (ziE x_s).bind fun r2 =>
 (zai r2 zaV).bind fun r6 =>
 (zjQ r6.1 1099511627776).bind fun r9 =>
 zcv r9 fuel [] r6.2.f_s r6.2.f_at

def zaW (x_d : dechunk_Decoder) (x_s : Str) : Option (Int × dechunk_Decoder) :=
 (zfN x_s).bind fun r2 =>
 if (!(r2.2.2 == 0)) then (some (r2.2.2,x_d)) else ((zbc 1099511627776 x_d.f_sum).bind fun i9 =>
 if (decide (i9 < r2.1)) then (some (7,x_d)) else (if (r2.1 == 0) then (some ((0,(⟨x_d.f_limit,3,x_d.f_line,x_d.f_left,x_d.f_sum,x_d.f_spent,x_d.f_trailers⟩ : dechunk_Decoder)))) else ((zq x_d.f_sum r2.1).bind fun i19 =>
 some ((0,(⟨x_d.f_limit,1,x_d.f_line,r2.1,i19,x_d.f_spent,x_d.f_trailers⟩ : dechunk_Decoder))))))

def zav (x_d : dechunk_Decoder) (x_s : Str) : Option (Bool × Int × dechunk_Decoder) :=
 if (x_s == []) then (some (true,0,x_d)) else ((zcf x_s).bind fun r6 =>
 if (!(r6.2 == 0)) then (some (false,r6.2,x_d)) else (if (decide (100 ≤ (x_d.f_trailers.length : Int))) then (some (false,3,x_d)) else (if zJ x_d.f_trailers.length 1 32 then (some ((false,0,(⟨x_d.f_limit,x_d.f_at,x_d.f_line,x_d.f_left,x_d.f_sum,x_d.f_spent,x_d.f_trailers ++ [r6.1]⟩ : dechunk_Decoder)))) else none)))

def zak (x_a0 : dechunk_Decoder) (x_a1 : UInt8) (i5 : Int) (t12 : Bool) (t14 : Bool) : Option (Bool × Int × dechunk_Decoder) :=
 if t14 then (some ((false,3,(⟨x_a0.f_limit,x_a0.f_at,x_a0.f_line,x_a0.f_left,x_a0.f_sum,i5,x_a0.f_trailers⟩ : dechunk_Decoder)))) else (if (!((x_a1 == 10) == t12)) then (some ((false,24,(⟨x_a0.f_limit,x_a0.f_at,x_a0.f_line,x_a0.f_left,x_a0.f_sum,i5,x_a0.f_trailers⟩ : dechunk_Decoder)))) else (if (!(x_a1 == 10)) then (if zJ x_a0.f_line.length 1 1 then (some ((false,0,(⟨x_a0.f_limit,x_a0.f_at,x_a0.f_line ++ [x_a1],x_a0.f_left,x_a0.f_sum,i5,x_a0.f_trailers⟩ : dechunk_Decoder)))) else none) else ((zbc (x_a0.f_line.length : Int) 1).bind fun i29 =>
 (lTo x_a0.f_line i29).bind fun l31 =>
 if (x_a0.f_at == 0) then ((zaW (⟨x_a0.f_limit,x_a0.f_at,[],x_a0.f_left,x_a0.f_sum,i5,x_a0.f_trailers⟩ : dechunk_Decoder) l31).bind fun r38 =>
 some (false,r38.1,r38.2)) else ((zav (⟨x_a0.f_limit,x_a0.f_at,[],x_a0.f_left,x_a0.f_sum,i5,x_a0.f_trailers⟩ : dechunk_Decoder) l31).bind fun r46 =>
 some (r46.1,r46.2.1,r46.2.2)))))

def zU (x_a0 : dechunk_Decoder) (x_a1 : UInt8) (i5 : Int) (t12 : Bool) : Option (Bool × Int × dechunk_Decoder) :=
 if (decide (4098 ≤ (x_a0.f_line.length : Int))) then (zak x_a0 x_a1 i5 t12 true) else (zak x_a0 x_a1 i5 t12 (decide (x_a0.f_limit < i5)))

def zu (x_a0 : dechunk_Decoder) (x_a1 : UInt8) (i5 : Int) : Option (Bool × Int × dechunk_Decoder) :=
 if (decide (0 < (x_a0.f_line.length : Int))) then ((zbc (x_a0.f_line.length : Int) 1).bind fun i8 =>
 (lAt x_a0.f_line i8).bind fun x9 =>
 zU x_a0 x_a1 i5 (x9 == 13)) else (zU x_a0 x_a1 i5 false)

def zaq (x_a0 : dechunk_Decoder) (x_a1 : UInt8) : Option (Bool × Int × dechunk_Decoder) :=
 if (x_a0.f_at == 3) then ((zq x_a0.f_spent 1).bind fun i4 =>
 zu x_a0 x_a1 i4) else (zu x_a0 x_a1 x_a0.f_spent)

def zk (x_d : dechunk_Decoder) (x_s : Str) : Option (Int × Str × Bool × Int × dechunk_Decoder) :=
 if (x_d.f_at == 1) then ((zbL x_d x_s).bind fun r5 =>
 some (((r5.1.length : Int),r5.1,false,0,r5.2))) else (if (x_d.f_at == 2) then ((sAt x_s 0).bind fun b15 =>
 (zcm x_d b15).bind fun r16 =>
 some (1,[],false,r16.1,r16.2)) else ((sAt x_s 0).bind fun b24 =>
 (zaq x_d b24).bind fun r25 =>
 some (1,[],r25.1,r25.2.1,r25.2.2)))

def zc7 (i44 : Int) (t45 : Bool) (i46 : Int) (l49 : List UInt8) (i50 : Int) (i55 : Int) (i56 : Int) (i57 : Int) (l60 : List api_Field) (i64 : Int) (l67 : List UInt8) : Option (Int × Str × Bool × Int × dechunk_Decoder) :=
 some ((i44,l49,t45,i46,(⟨i50,i64,l67,i55,i56,i57,l60⟩ : dechunk_Decoder)))

def zbO (i44 : Int) (t45 : Bool) (i46 : Int) (l49 : List UInt8) (i50 : Int) (i51 : Int) (l54 : List UInt8) (i55 : Int) (i56 : Int) (i57 : Int) (l60 : List api_Field) (t62 : Bool) : Option (Int × Str × Bool × Int × dechunk_Decoder) :=
 if t62 then (zc7 i44 t45 i46 l49 i50 i55 i56 i57 l60 4 []) else (zc7 i44 t45 i46 l49 i50 i55 i56 i57 l60 i51 l54)

def zc8 (i44 : Int) (t45 : Bool) (i46 : Int) (l49 : List UInt8) (i50 : Int) (i51 : Int) (l54 : List UInt8) (i55 : Int) (i56 : Int) (i57 : Int) (l60 : List api_Field) : Option (Int × Str × Bool × Int × dechunk_Decoder) :=
 if t45 then (zbO i44 t45 i46 l49 i50 i51 l54 i55 i56 i57 l60 true) else (zbO i44 t45 i46 l49 i50 i51 l54 i55 i56 i57 l60 (!(i46 == 0)))

def zaw (rec1 : (List UInt8) → Int → Int → (List UInt8) → Int → Int → Int → (List api_Field) → Int → Bool → Int → Option (Int × Str × Bool × Int × dechunk_Decoder)) (x_s : Str) (l10 : List UInt8) (i11 : Int) (i12 : Int) (l15 : List UInt8) (i16 : Int) (i17 : Int) (i18 : Int) (l21 : List api_Field) (i22 : Int) (t23 : Bool) (i24 : Int) (t27 : Bool) : Option (Int × Str × Bool × Int × dechunk_Decoder) :=
 if t27 then ((zaG x_s i22).bind fun s31 =>
 (zk (⟨i11,i12,l15,i16,i17,i18,l21⟩ : dechunk_Decoder) s31).bind fun r32 =>
 if zJ l10.length r32.2.1.length 1 then ((zq i22 r32.1).bind fun i43 =>
 rec1 (l10 ++ r32.2.1) r32.2.2.2.2.f_limit r32.2.2.2.2.f_at r32.2.2.2.2.f_line r32.2.2.2.2.f_left r32.2.2.2.2.f_sum r32.2.2.2.2.f_spent r32.2.2.2.2.f_trailers i43 r32.2.2.1 r32.2.2.2.1) else none) else (zc8 i22 t23 i24 l10 i11 i12 l15 i16 i17 i18 l21)

def zz (x_s : Str) : Nat → (List UInt8) → Int → Int → (List UInt8) → Int → Int → Int → (List api_Field) → Int → Bool → Int → Option (Int × Str × Bool × Int × dechunk_Decoder)
 | 0,_,_,_,_,_,_,_,_,_,_,_ => none
 | n + 1,l10,i11,i12,l15,i16,i17,i18,l21,i22,t23,i24 =>
 if (decide (i22 < (x_s.length : Int))) then (if (!t23) then (zaw (zz x_s n) x_s l10 i11 i12 l15 i16 i17 i18 l21 i22 t23 i24 (i24 == 0)) else (zaw (zz x_s n) x_s l10 i11 i12 l15 i16 i17 i18 l21 i22 t23 i24 false)) else (zaw (zz x_s n) x_s l10 i11 i12 l15 i16 i17 i18 l21 i22 t23 i24 false)

def zaX (x_d : dechunk_Decoder) (x_s : Str) : Option (Int × Str × Bool × Int × dechunk_Decoder) :=
 if (x_d.f_at == 4) then (some (0,[],false,8,x_d)) else (zz x_s fuel [] x_d.f_limit x_d.f_at x_d.f_line x_d.f_left x_d.f_sum x_d.f_spent x_d.f_trailers 0 false 0)

def zgc (x_a0 : body_Body) (x_a1 : Str) (i26 : Int) (i27 : Int) (t28 : Bool) : Option (Int × Str × Bool × Int × body_Body) :=
 (sTo x_a1 i26).bind fun s29 =>
 some ((i26,s29,t28,0,(⟨x_a0.Decoder,x_a0.f_frame,i27,t28,x_a0.f_bad⟩ : body_Body)))

def zgd (x_a0 : body_Body) (x_a1 : Str) (t4 : Bool) : Option (Int × Str × Bool × Int × body_Body) :=
 if t4 then (some (0,[],false,8,x_a0)) else (if (x_a0.f_frame.Kind == 3) then ((zaX x_a0.Decoder x_a1).bind fun r12 =>
 some ((r12.1,r12.2.1,r12.2.2.1,r12.2.2.2.1,(⟨r12.2.2.2.2,x_a0.f_frame,x_a0.f_left,r12.2.2.1, !(r12.2.2.2.1 == 0)⟩ : body_Body)))) else (if (x_a0.f_frame.Kind == 2) then ((zbc x_a0.f_left (min (x_a1.length : Int) x_a0.f_left)).bind fun i24 =>
 zgc x_a0 x_a1 (min (x_a1.length : Int) x_a0.f_left) i24 (i24 == 0)) else (zgc x_a0 x_a1 (x_a1.length : Int) x_a0.f_left x_a0.f_done)))

def ziN (x_a0 : body_Body) (x_a1 : Str) : Option (Int × Str × Bool × Int × body_Body) :=
 if x_a0.f_done then (zgd x_a0 x_a1 true) else (zgd x_a0 x_a1 x_a0.f_bad)

def zhf (x_b : body_Body) (t8 : Bool) : Option (Bool × Int × body_Body) :=
 some ((true,0,(⟨x_b.Decoder,x_b.f_frame,x_b.f_left,t8,x_b.f_bad⟩ : body_Body)))

def zlL (x_b : body_Body) : Option (Bool × Int × body_Body) :=
 if (x_b.f_frame.Kind == 4) then (zhf x_b true) else (if (!x_b.f_done) then (some (false,6,x_b)) else (zhf x_b x_b.f_done))

def zcB (x_d : dechunk_Decoder) : Option (List api_Field) :=
 if zJ 0 x_d.f_trailers.length 32 then (some x_d.f_trailers) else none

def zfu (x_b : body_Body) : Option (List api_Field) :=
 (zcB x_b.Decoder).bind fun r4 =>
 some r4

def za8 (x_a0 : message_reader) (i17 : Int) (s34 : Str) (i44 : Int) (i45 : Int) (i46 : Int) (t47 : Bool) (t48 : Bool) (i49 : Int) (i50 : Int) (l53 : List UInt8) (i54 : Int) (i55 : Int) (i56 : Int) (l59 : List api_Field) : Option (Int × Int × message_reader) :=
 (zdJ ((⟨(⟨i49,i50,l53,i54,i55,i56,l59⟩ : dechunk_Decoder),(⟨i44,i45⟩ : api_Frame),i46,t47,t48⟩ : body_Body))).bind fun r60 =>
 if (!r60) then (some ((0,6,(⟨(⟨(⟨i49,i50,l53,i54,i55,i56,l59⟩ : dechunk_Decoder),(⟨i44,i45⟩ : api_Frame),i46,t47,t48⟩ : body_Body),(⟨x_a0.f_m.Head,x_a0.f_m.Frame,s34,x_a0.f_m.Trailers⟩ : api_Message)⟩ : message_reader)))) else ((zfu ((⟨(⟨i49,i50,l53,i54,i55,i56,l59⟩ : dechunk_Decoder),(⟨i44,i45⟩ : api_Frame),i46,t47,t48⟩ : body_Body))).bind fun r65 =>
 some ((i17,0,(⟨(⟨(⟨i49,i50,l53,i54,i55,i56,l59⟩ : dechunk_Decoder),(⟨i44,i45⟩ : api_Frame),i46,t47,t48⟩ : body_Body),(⟨x_a0.f_m.Head,x_a0.f_m.Frame,s34,r65⟩ : api_Message)⟩ : message_reader))))

def za9 (x_a0 : message_reader) (i17 : Int) (i18 : Int) (i19 : Int) (i20 : Int) (t21 : Bool) (t22 : Bool) (i23 : Int) (i24 : Int) (l27 : List UInt8) (i28 : Int) (i29 : Int) (i30 : Int) (l33 : List api_Field) (s34 : Str) (t36 : Bool) : Option (Int × Int × message_reader) :=
 if t36 then ((zlL ((⟨(⟨i23,i24,l27,i28,i29,i30,l33⟩ : dechunk_Decoder),(⟨i18,i19⟩ : api_Frame),i20,t21,t22⟩ : body_Body))).bind fun r38 =>
 za8 x_a0 i17 s34 r38.2.2.f_frame.Kind r38.2.2.f_frame.N r38.2.2.f_left r38.2.2.f_done r38.2.2.f_bad r38.2.2.Decoder.f_limit r38.2.2.Decoder.f_at r38.2.2.Decoder.f_line r38.2.2.Decoder.f_left r38.2.2.Decoder.f_sum r38.2.2.Decoder.f_spent r38.2.2.Decoder.f_trailers) else (za8 x_a0 i17 s34 i18 i19 i20 t21 t22 i23 i24 l27 i28 i29 i30 l33)

def zba (x_a0 : message_reader) (x_a2 : Bool) (i17 : Int) (i18 : Int) (i19 : Int) (i20 : Int) (t21 : Bool) (t22 : Bool) (i23 : Int) (i24 : Int) (l27 : List UInt8) (i28 : Int) (i29 : Int) (i30 : Int) (l33 : List api_Field) (s34 : Str) : Option (Int × Int × message_reader) :=
 if (x_a0.f_m.Frame.Kind == 4) then (za9 x_a0 i17 i18 i19 i20 t21 t22 i23 i24 l27 i28 i29 i30 l33 s34 x_a2) else (za9 x_a0 i17 i18 i19 i20 t21 t22 i23 i24 l27 i28 i29 i30 l33 s34 false)

def zb7 (x_a0 : message_reader) (x_a1 : Str) (x_a2 : Bool) : Option (Int × Int × message_reader) :=
 (zdJ x_a0.Body).bind fun r3 =>
 if (!r3) then ((ziN x_a0.Body x_a1).bind fun r6 =>
 if (!(r6.2.2.2.1 == 0)) then (some ((0,r6.2.2.2.1,(⟨r6.2.2.2.2,x_a0.f_m⟩ : message_reader)))) else (zba x_a0 x_a2 r6.1 r6.2.2.2.2.f_frame.Kind r6.2.2.2.2.f_frame.N r6.2.2.2.2.f_left r6.2.2.2.2.f_done r6.2.2.2.2.f_bad r6.2.2.2.2.Decoder.f_limit r6.2.2.2.2.Decoder.f_at r6.2.2.2.2.Decoder.f_line r6.2.2.2.2.Decoder.f_left r6.2.2.2.2.Decoder.f_sum r6.2.2.2.2.Decoder.f_spent r6.2.2.2.2.Decoder.f_trailers r6.2.1)) else (zba x_a0 x_a2 0 x_a0.Body.f_frame.Kind x_a0.Body.f_frame.N x_a0.Body.f_left x_a0.Body.f_done x_a0.Body.f_bad x_a0.Body.Decoder.f_limit x_a0.Body.Decoder.f_at x_a0.Body.Decoder.f_line x_a0.Body.Decoder.f_left x_a0.Body.Decoder.f_sum x_a0.Body.Decoder.f_spent x_a0.Body.Decoder.f_trailers x_a0.f_m.Body)

def zbf (x_b : body_Body) : Option Bool :=
 some x_b.f_done

def zeZ (x_s : Str) : Option (Int × Str × Bool × Int) :=
 some (0,[],false,5)

def zaf (x_a0 : body_Body) (x_a1 : Str) (i21 : Int) (i22 : Int) (t23 : Bool) : Option (Int × Str × Bool × Int × body_Body) :=
 (sTo x_a1 i21).bind fun s24 =>
 some ((i21,s24,t23,0,(⟨default,x_a0.f_frame,i22,t23,x_a0.f_bad⟩ : body_Body)))

def zbX (x_a0 : body_Body) (x_a1 : Str) (t4 : Bool) : Option (Int × Str × Bool × Int × body_Body) :=
 if t4 then (some ((0,[],false,8,(⟨default,x_a0.f_frame,x_a0.f_left,x_a0.f_done,x_a0.f_bad⟩ : body_Body)))) else (if (x_a0.f_frame.Kind == 3) then ((zeZ x_a1).bind fun r12 =>
 some ((r12.1,r12.2.1,r12.2.2.1,r12.2.2.2,(⟨default,x_a0.f_frame,x_a0.f_left,r12.2.2.1, !(r12.2.2.2 == 0)⟩ : body_Body)))) else (if (x_a0.f_frame.Kind == 2) then ((zbc x_a0.f_left (min (x_a1.length : Int) x_a0.f_left)).bind fun i19 =>
 zaf x_a0 x_a1 (min (x_a1.length : Int) x_a0.f_left) i19 (i19 == 0)) else (zaf x_a0 x_a1 (x_a1.length : Int) x_a0.f_left x_a0.f_done)))

def zdo (x_a0 : body_Body) (x_a1 : Str) : Option (Int × Str × Bool × Int × body_Body) :=
 if x_a0.f_done then (zbX x_a0 x_a1 true) else (zbX x_a0 x_a1 x_a0.f_bad)

def zdV (x_b : body_Body) (t8 : Bool) : Option (Bool × Int × body_Body) :=
 some ((true,0,(⟨default,x_b.f_frame,x_b.f_left,t8,x_b.f_bad⟩ : body_Body)))

def zhV (x_b : body_Body) : Option (Bool × Int × body_Body) :=
 if (x_b.f_frame.Kind == 4) then (zdV x_b true) else (if (!x_b.f_done) then (some ((false,6,(⟨default,x_b.f_frame,x_b.f_left,x_b.f_done,x_b.f_bad⟩ : body_Body)))) else (zdV x_b x_b.f_done))

def zdq : Option (List api_Field) :=
 some []

def ze0 (x_b : body_Body) : Option (List api_Field) :=
 (zdq).bind fun r4 =>
 some r4

def zbj (x_a0 : message_reader) (i13 : Int) (s19 : Str) (i25 : Int) (i26 : Int) (i27 : Int) (t28 : Bool) (t29 : Bool) : Option (Int × Int × message_reader) :=
 (zbf ((⟨default,(⟨i25,i26⟩ : api_Frame),i27,t28,t29⟩ : body_Body))).bind fun r30 =>
 if (!r30) then (some ((0,6,(⟨(⟨default,(⟨i25,i26⟩ : api_Frame),i27,t28,t29⟩ : body_Body),(⟨x_a0.f_m.Head,x_a0.f_m.Frame,s19,x_a0.f_m.Trailers⟩ : api_Message)⟩ : message_reader)))) else ((ze0 ((⟨default,(⟨i25,i26⟩ : api_Frame),i27,t28,t29⟩ : body_Body))).bind fun r35 =>
 some ((i13,0,(⟨(⟨default,(⟨i25,i26⟩ : api_Frame),i27,t28,t29⟩ : body_Body),(⟨x_a0.f_m.Head,x_a0.f_m.Frame,s19,r35⟩ : api_Message)⟩ : message_reader))))

def zbk (x_a0 : message_reader) (i13 : Int) (i14 : Int) (i15 : Int) (i16 : Int) (t17 : Bool) (t18 : Bool) (s19 : Str) (t21 : Bool) : Option (Int × Int × message_reader) :=
 if t21 then ((zhV ((⟨default,(⟨i14,i15⟩ : api_Frame),i16,t17,t18⟩ : body_Body))).bind fun r23 =>
 zbj x_a0 i13 s19 r23.2.2.f_frame.Kind r23.2.2.f_frame.N r23.2.2.f_left r23.2.2.f_done r23.2.2.f_bad) else (zbj x_a0 i13 s19 i14 i15 i16 t17 t18)

def zbl (x_a0 : message_reader) (x_a2 : Bool) (i13 : Int) (i14 : Int) (i15 : Int) (i16 : Int) (t17 : Bool) (t18 : Bool) (s19 : Str) : Option (Int × Int × message_reader) :=
 if (x_a0.f_m.Frame.Kind == 4) then (zbk x_a0 i13 i14 i15 i16 t17 t18 s19 x_a2) else (zbk x_a0 i13 i14 i15 i16 t17 t18 s19 false)

def zD (x_a0 : message_reader) (x_a1 : Str) (x_a2 : Bool) : Option (Int × Int × message_reader) :=
 (zbf (⟨default,x_a0.Body.f_frame,x_a0.Body.f_left,x_a0.Body.f_done,x_a0.Body.f_bad⟩ : body_Body)).bind fun r3 =>
 if (!r3) then ((zdo (⟨default,x_a0.Body.f_frame,x_a0.Body.f_left,x_a0.Body.f_done,x_a0.Body.f_bad⟩ : body_Body) x_a1).bind fun r6 =>
 if (!(r6.2.2.2.1 == 0)) then (some ((0,r6.2.2.2.1,(⟨(⟨default,r6.2.2.2.2.f_frame,r6.2.2.2.2.f_left,r6.2.2.2.2.f_done,r6.2.2.2.2.f_bad⟩ : body_Body),x_a0.f_m⟩ : message_reader)))) else (zbl x_a0 x_a2 r6.1 r6.2.2.2.2.f_frame.Kind r6.2.2.2.2.f_frame.N r6.2.2.2.2.f_left r6.2.2.2.2.f_done r6.2.2.2.2.f_bad r6.2.1)) else (zbl x_a0 x_a2 0 x_a0.Body.f_frame.Kind x_a0.Body.f_frame.N x_a0.Body.f_left x_a0.Body.f_done x_a0.Body.f_bad x_a0.f_m.Body)

def zjl (i11 : Int) : Option (api_Message × Int × Int) :=
 if (!(i11 == 0)) then (some (((⟨(⟨0,[],[],0,[],0,[]⟩ : api_Head),(⟨0,0⟩ : api_Frame),[],[]⟩ : api_Message),0,i11))) else (none)

def zhg (x_a2 : Str) (r40 : Int × Bool × Int × accum_Accum) : Option (api_Message × Int × Int) :=
 (zaG x_a2 r40.1).bind fun s78 =>
 none

def zdz (x_a2 : Str) (x_a4 : Bool) (r40 : Int × Bool × Int × accum_Accum) (r54 : api_Head × Bool) (r59 : api_Frame × Int) (i80 : Int) (i81 : Int) (i82 : Int) (t83 : Bool) (t84 : Bool) (i85 : Int) (i86 : Int) (l89 : List UInt8) (i90 : Int) (i91 : Int) (i92 : Int) (l95 : List api_Field) : Option (api_Message × Int × Int) :=
 (zaG x_a2 r40.1).bind fun s97 =>
 (zb7 ((⟨(⟨(⟨i85,i86,l89,i90,i91,i92,l95⟩ : dechunk_Decoder),(⟨i80,i81⟩ : api_Frame),i82,t83,t84⟩ : body_Body),(⟨r54.1,r59.1,[],[]⟩ : api_Message)⟩ : message_reader)) s97 x_a4).bind fun r98 =>
 if (!(r98.2.1 == 0)) then (some (((⟨(⟨0,[],[],0,[],0,[]⟩ : api_Head),(⟨0,0⟩ : api_Frame),[],[]⟩ : api_Message),0,r98.2.1))) else ((zq r40.1 r98.1).bind fun i113 =>
 some (r98.2.2.f_m,i113,0))

def zaO (x_a2 : Str) (x_a4 : Bool) (r40 : Int × Bool × Int × accum_Accum) (r54 : api_Head × Bool) (r59 : api_Frame × Int) (i115 : Int) (i116 : Int) (i117 : Int) (t118 : Bool) (t119 : Bool) : Option (api_Message × Int × Int) :=
 (zaG x_a2 r40.1).bind fun s121 =>
 (zD ((⟨(⟨default,(⟨i115,i116⟩ : api_Frame),i117,t118,t119⟩ : body_Body),(⟨r54.1,r59.1,[],[]⟩ : api_Message)⟩ : message_reader)) s121 x_a4).bind fun r122 =>
 if (!(r122.2.1 == 0)) then (some (((⟨(⟨0,[],[],0,[],0,[]⟩ : api_Head),(⟨0,0⟩ : api_Frame),[],[]⟩ : api_Message),0,r122.2.1))) else ((zq r40.1 r122.1).bind fun i133 =>
 some (r122.2.2.f_m,i133,0))

def ze1 (x_a1 : Str) (x_a2 : Str) (x_a3 : Int) (x_a4 : Bool) (i17 : Int) (i18 : Int) (i19 : Int) (l22 : List UInt8) (i23 : Int) (t24 : Bool) (i25 : Int) (t26 : Bool) (i27 : Int) (s28 : Str) (s29 : Str) (i30 : Int) (s31 : Str) (i32 : Int) (l35 : List api_Field) : Option (api_Message × Int × Int) :=
 if (!(i17 == 0)) then (some (((⟨(⟨0,[],[],0,[],0,[]⟩ : api_Head),(⟨0,0⟩ : api_Frame),[],[]⟩ : api_Message),0,i17))) else ((zdy ((⟨i18,i19,l22,i23,t24,i25,t26,(⟨i27,s28,s29,i30,s31,i32,l35⟩ : api_Head)⟩ : accum_Accum)) x_a2).bind fun r40 =>
 if (!(r40.2.2.1 == 0)) then (some (((⟨(⟨0,[],[],0,[],0,[]⟩ : api_Head),(⟨0,0⟩ : api_Frame),[],[]⟩ : api_Message),0,r40.2.2.1))) else (if (!r40.2.1) then (some (((⟨(⟨0,[],[],0,[],0,[]⟩ : api_Head),(⟨0,0⟩ : api_Frame),[],[]⟩ : api_Message),0,6))) else ((zeX r40.2.2.2).bind fun r54 =>
 (zhD x_a1 r54.1).bind fun r59 =>
 if (!(r59.2 == 0)) then (some (((⟨(⟨0,[],[],0,[],0,[]⟩ : api_Head),(⟨0,0⟩ : api_Frame),[],[]⟩ : api_Message),0,r59.2))) else ((zl9 r59.1 x_a3).bind fun r68 =>
 ztB r68.1 (zhg x_a2 r40) (fun x70 => bE x70.1 (zdz x_a2 x_a4 r40 r54 r59 x70.2.f_frame.Kind x70.2.f_frame.N x70.2.f_left x70.2.f_done x70.2.f_bad x70.2.Decoder.f_limit x70.2.Decoder.f_at x70.2.Decoder.f_line x70.2.Decoder.f_left x70.2.Decoder.f_sum x70.2.Decoder.f_spent x70.2.Decoder.f_trailers) (zaO x_a2 x_a4 r40 r54 r59 x70.2.f_frame.Kind x70.2.f_frame.N x70.2.f_left x70.2.f_done x70.2.f_bad))))))

def zeB (x_a0 : Int) (x_a1 : Str) (x_a2 : Str) (x_a3 : Int) (x_a4 : Bool) : Option (api_Message × Int × Int) :=
 (zko x_a0 x_a3).bind fun r3 =>
 ztB r3.1 (zjl r3.2) (fun x5 => ze1 x_a1 x_a2 x_a3 x_a4 r3.2 x5.f_kind x5.f_limit x5.f_buf x5.f_from x5.f_took x5.f_bad x5.f_whole x5.f_got.Kind x5.f_got.Method x5.f_got.Target x5.f_got.Code x5.f_got.Reason x5.f_got.Minor x5.f_got.Fields)

def zcO (x_r : stream_reader) (r4 : api_Message × Int × Int) (t15 : Bool) : Option (api_Message × Int × stream_reader) :=
 if t15 then (some (((⟨(⟨0,[],[],0,[],0,[]⟩ : api_Head),(⟨0,0⟩ : api_Frame),[],[]⟩ : api_Message),20,x_r))) else ((zq x_r.f_at r4.2.1).bind fun i19 =>
 some ((r4.1,0,(⟨x_r.f_s,i19,x_r.f_limit,x_r.f_ended⟩ : stream_reader))))

def zc9 (x_r : stream_reader) (x_kind : Int) (x_method : Str) : Option (api_Message × Int × stream_reader) :=
 (zaG x_r.f_s x_r.f_at).bind fun s3 =>
 (zeB x_kind x_method s3 x_r.f_limit x_r.f_ended).bind fun r4 =>
 if (!(r4.2.2 == 0)) then (some (r4.1,r4.2.2,x_r)) else (if (r4.1.Head.Method == [67,79,78,78,69,67,84]) then (zcO x_r r4 true) else (zcO x_r r4 (r4.1.Head.Code == 101)))

def zfv (l7 : List api_Message) (r13 : api_Message × Int × stream_reader) (i31 : Int) : Option (List api_Message × Int × Int) :=
 some (l7,r13.2.2.f_at,i31)

def zfw (rec1 : (List api_Message) → Str → Int → Int → Bool → Option (List api_Message × Int × Int)) (l7 : List api_Message) (r13 : api_Message × Int × stream_reader) (t22 : Bool) : Option (List api_Message × Int × Int) :=
 if t22 then (zfv l7 r13 0) else (if (r13.2.1 == 0) then (if zJ l7.length 1 152 then (rec1 (l7 ++ [r13.1]) r13.2.2.f_s r13.2.2.f_at r13.2.2.f_limit r13.2.2.f_ended) else none) else (zfv l7 r13 r13.2.1))

def zcw (x_s : Str) : Nat → (List api_Message) → Str → Int → Int → Bool → Option (List api_Message × Int × Int)
 | 0,_,_,_,_,_ => none
 | n + 1,l7,s9,i10,i11,t12 =>
 (zc9 (⟨s9,i10,i11,t12⟩ : stream_reader) 1 []).bind fun r13 =>
 if (r13.2.1 == 6) then (zfw (zcw x_s n) l7 r13 (r13.2.2.f_at == (x_s.length : Int))) else (zfw (zcw x_s n) l7 r13 false)

def zj8 (x_s : Str) (x_limit : Int) : Option (List api_Message × Int × Int) :=
 zcw x_s fuel [] x_s 0 x_limit false

def zge (x_l : List api_Message) : Nat → (List Str) → Int → Option (List Str)
 | 0,_,_ => none
 | n + 1,l6,i7 =>
 if (decide (i7 < (x_l.length : Int))) then ((lAt x_l i7).bind fun x11 =>
 if zJ l6.length 1 16 then ((zq i7 1).bind fun i25 =>
 (zge x_l n) (l6 ++ ([x11.Head.Method] : List Str)) i25) else none) else (some l6)

def zkU (x_l : List api_Message) : Option (List Str) :=
 zge x_l fuel [] 0

def ze2 (t17 : Bool) : Option Bool :=
 some t17

def zll : Option Bool :=
 (zlz [71,69,84,32,47,32,72,84,84,80,47,49,46,48,13,10,13,10] [71,69,84,32,47,32,72,84,84,80,47,49,46,48,13,10,13,10]).bind fun s3 =>
 (zlz s3 [71,69]).bind fun s4 =>
 (zj8 s4 99).bind fun r5 =>
 if ((r5.1.length : Int) == 2) then ((ztZ 2 ([71,69,84,32,47,32,72,84,84,80,47,49,46,48,13,10,13,10].length : Int)).bind fun i11 =>
 if (r5.2.1 == i11) then (if (r5.2.2 == 6) then ((zkU r5.1).bind fun r14 =>
 ze2 ((r14.length : Int) == 2)) else (ze2 false)) else (ze2 false)) else (ze2 false)

def zgz (rec1 : (List Str) → Int → Int → Option (List Str)) (i9 : Int) (l25 : List Str) (i26 : Int) : Option (List Str) :=
 (zq i9 1).bind fun i27 =>
 rec1 l25 i26 i27

def zcP (x_s : Str) (x_c : UInt8) : Nat → (List Str) → Int → Int → Option (List Str)
 | 0,_,_,_ => none
 | n + 1,l7,i8,i9 =>
 if (decide (i9 < (x_s.length : Int))) then ((sAt x_s i9).bind fun b13 =>
 if (b13 == x_c) then ((zd0 x_s i8 i9).bind fun s16 =>
 if zJ l7.length 1 16 then ((zq i9 1).bind fun i22 =>
 zgz (zcP x_s x_c n) i9 (l7 ++ ([s16] : List Str)) i22) else none) else (zgz (zcP x_s x_c n) i9 l7 i8)) else ((zaG x_s i8).bind fun s29 =>
 if zJ l7.length 1 16 then (some (l7 ++ ([s29] : List Str))) else none)

def zgA (x_s : Str) (x_c : UInt8) : Option (List Str) :=
 zcP x_s x_c fuel [] 0 0

def zgB (x_b : UInt8) (x_l : Str) : Nat → Int → Option Bool
 | 0,_ => none
 | n + 1,i3 =>
 if (decide (i3 < (x_l.length : Int))) then ((sAt x_l i3).bind fun b7 =>
 if (b7 == x_b) then (some true) else ((zq i3 1).bind fun i12 =>
 (zgB x_b x_l n) i12)) else (some false)

def zhE (x_b : UInt8) (x_l : Str) : Option Bool :=
 zgB x_b x_l fuel 0

def zfe (x_b : UInt8) : Option Bool :=
 (zhE x_b [48,49,50,51,52,53,54,55,56,57]).bind fun r2 =>
 some r2

def zbP (x_s : Str) (t12 : Bool) : Option Int :=
 if t12 then (some (-1)) else ((zaG x_s 5).bind fun s16 =>
 if (s16 == [49,46,48]) then (some 0) else ((zaG x_s 5).bind fun s21 =>
 if (s21 == [49,46,49]) then (some 1) else (some 2)))

def zdt (x_s : Str) : Option Int :=
 if (!((x_s.length : Int) == 8)) then (zbP x_s true) else ((sTo x_s 5).bind fun s3 =>
 if (!(s3 == [72,84,84,80,47])) then (zbP x_s true) else ((sAt x_s 5).bind fun b5 =>
 (zfe b5).bind fun r6 =>
 if (!r6) then (zbP x_s true) else ((sAt x_s 6).bind fun b8 =>
 if (!(b8 == 46)) then (zbP x_s true) else ((sAt x_s 7).bind fun b10 =>
 (zfe b10).bind fun r11 =>
 zbP x_s (!r11)))))

def zjm (x_b : UInt8) : Option Bool :=
 (zhE x_b [97,98,99,100,101,102,103,104,105,106,107,108,109,110,111,112,113,114,115,116,117,118,119,120,121,122,65,66,67,68,69,70,71,72,73,74,75,76,77,78,79,80,81,82,83,84,85,86,87,88,89,90,48,49,50,51,52,53,54,55,56,57,33,35,36,37,38,39,42,43,45,46,94,95,96,124,126]).bind fun r2 =>
 some r2

def zdK (x_s : Str) : Nat → Int → Option Bool
 | 0,_ => none
 | n + 1,i3 =>
 if (decide (i3 < (x_s.length : Int))) then ((sAt x_s i3).bind fun b7 =>
 (zjm b7).bind fun r8 =>
 if (!r8) then (some false) else ((zq i3 1).bind fun i13 =>
 (zdK x_s n) i13)) else (some (decide (0 < (x_s.length : Int))))

def zff (x_s : Str) : Option Bool :=
 zdK x_s fuel 0

def zgC (rec1 : Int → Option Int) (i5 : Int) (t12 : Bool) : Option Int :=
 if t12 then (some i5) else ((zq i5 1).bind fun i16 =>
 rec1 i16)

def zM (x_b : UInt8) (x_base : Int) : Nat → Int → Option Int
 | 0,_ => none
 | n + 1,i5 =>
 if (decide (i5 < x_base)) then ((sAt [48,49,50,51,52,53,54,55,56,57,97,98,99,100,101,102] i5).bind fun b9 =>
 if (b9 == x_b) then (zgC (zM x_b x_base n) i5 true) else ((sAt [48,49,50,51,52,53,54,55,56,57,65,66,67,68,69,70] i5).bind fun b11 =>
 zgC (zM x_b x_base n) i5 (b11 == x_b))) else (some (-1))

def zel (x_b : UInt8) (x_base : Int) : Option Int :=
 zM x_b x_base fuel 0

def zcQ : Nat → Int → Int → Option Str
 | 0,_,_ => none
 | n + 1,x_n,x_base =>
 if (decide (x_n < x_base)) then ((zq x_n 1).bind fun i5 =>
 (zd0 [48,49,50,51,52,53,54,55,56,57,97,98,99,100,101,102] x_n i5).bind fun s6 =>
 some s6) else ((zvq x_n x_base).bind fun i9 =>
 ((zcQ n) i9 x_base).bind fun r10 =>
 (zxI x_n x_base).bind fun i11 =>
 (zxI x_n x_base).bind fun i12 =>
 (zq i12 1).bind fun i13 =>
 (zd0 [48,49,50,51,52,53,54,55,56,57,97,98,99,100,101,102] i11 i13).bind fun s14 =>
 (zlz r10 s14).bind fun s15 =>
 some s15)

def zfx (x_n : Int) (x_base : Int) : Option Str := zcQ fuel x_n x_base

def zgD (rec1 : Str → Int → Option (Str × Bool)) (i5 : Int) (s21 : Str) : Option (Str × Bool) :=
 (zq i5 1).bind fun i22 =>
 rec1 s21 i22

def zgE (rec1 : Str → Int → Option (Str × Bool)) (x_base : Int) (s4 : Str) (i5 : Int) (r10 : Int) (t17 : Bool) : Option (Str × Bool) :=
 if t17 then ((zfx r10 x_base).bind fun r19 =>
 (zlz s4 r19).bind fun s20 =>
 zgD rec1 i5 s20) else (zgD rec1 i5 s4)

def zgF (x_s : Str) (s26 : Str) : Option (Str × Bool) :=
 some ((s26, !(x_s == [])))

def zbY (x_s : Str) (x_base : Int) : Nat → Str → Int → Option (Str × Bool)
 | 0,_,_ => none
 | n + 1,s4,i5 =>
 if (decide (i5 < (x_s.length : Int))) then ((sAt x_s i5).bind fun b9 =>
 (zel b9 x_base).bind fun r10 =>
 if (decide (r10 < 0)) then (some ([],false)) else (if (!(s4 == [])) then (zgE (zbY x_s x_base n) x_base s4 i5 r10 true) else (zgE (zbY x_s x_base n) x_base s4 i5 r10 (decide (0 < r10))))) else (if (s4 == []) then (zgF x_s [48]) else (zgF x_s s4))

def zjR (x_s : Str) (x_base : Int) : Option (Str × Bool) :=
 zbY x_s x_base fuel [] 0

def zdu (t4 : Bool) : Option Bool :=
 some t4

def zkV (x_a : Str) (x_b : Str) : Option Bool :=
 if (decide ((x_a.length : Int) < (x_b.length : Int))) then (zdu true) else (if ((x_a.length : Int) == (x_b.length : Int)) then (zdu (zsx x_a x_b)) else (zdu false))

def zeC (x_base : Int) (r2 : Str × Bool) : Nat → Int → Int → Option (Int × Int)
 | 0,_,_ => none
 | n + 1,i17,i18 =>
 if (decide (i18 < (r2.1.length : Int))) then ((ztZ i17 x_base).bind fun i22 =>
 (sAt r2.1 i18).bind fun b23 =>
 (zel b23 x_base).bind fun r24 =>
 (zq i22 r24).bind fun i25 =>
 (zq i18 1).bind fun i27 =>
 (zeC x_base r2 n) i25 i27) else (some (i17,0))

def zfX (x_base : Int) (r2 : Str × Bool) (t11 : Bool) : Option (Int × Int) :=
 if t11 then (some (0,7)) else (zeC x_base r2 fuel 0 0)

def zfy (x_s : Str) (x_base : Int) (x_most : Int) : Option (Int × Int) :=
 (zjR x_s x_base).bind fun r2 =>
 if (!r2.2) then (some (0,2)) else (if (decide (x_most < 0)) then (zfX x_base r2 true) else ((zfx x_most x_base).bind fun r9 =>
 (zkV r9 r2.1).bind fun r10 =>
 zfX x_base r2 r10))

def zkW (x_n : Int) (x_base : Int) : Option Str :=
 if (decide (x_n < 0)) then (some []) else ((zfx x_n x_base).bind fun r6 =>
 some r6)

def ze3 (r6 : Int × Int) (t10 : Bool) : Option Int :=
 if t10 then (some (-1)) else (some r6.1)

def zh9 (x_s : Str) (x_most : Int) : Option Int :=
 if (decide (5 < (x_s.length : Int))) then (some (-1)) else ((zfy x_s 10 x_most).bind fun r6 =>
 if (!(r6.2 == 0)) then (ze3 r6 true) else ((zkW r6.1 10).bind fun r9 =>
 ze3 r6 (!(r9 == x_s))))

def zeD (r2 : List Str) : Nat → Int → Option Bool
 | 0,_ => none
 | n + 1,i7 =>
 if (decide (i7 < (r2.length : Int))) then ((lAt r2 i7).bind fun x11 =>
 (zh9 x11 255).bind fun r14 =>
 if (decide (r14 < 0)) then (some false) else ((zq i7 1).bind fun i19 =>
 (zeD r2 n) i19)) else (some ((r2.length : Int) == 4))

def zjn (x_s : Str) : Option Bool :=
 (zgA x_s 46).bind fun r2 =>
 zeD r2 fuel 0

def zfY (x_b : UInt8) : Option Bool :=
 (zhE x_b [48,49,50,51,52,53,54,55,56,57,97,98,99,100,101,102,65,66,67,68,69,70]).bind fun r2 =>
 some r2

def ze4 (rec1 : Int → Int → Option Bool) (i9 : Int) (i55 : Int) : Option Bool :=
 (zq i9 1).bind fun i56 =>
 rec1 i55 i56

def zgG (rec1 : Int → Int → Option Bool) (i8 : Int) (i9 : Int) (t50 : Bool) : Option Bool :=
 if t50 then (some false) else ((zq i8 1).bind fun i54 =>
 ze4 rec1 i9 i54)

def zdL (rec1 : Int → Int → Option Bool) (r2 : List Str) (i8 : Int) (i9 : Int) : Nat → Int → Option Bool
 | 0,_ => none
 | n + 1,i25 =>
 (lAt r2 i9).bind fun x26 =>
 if (decide (i25 < (x26.length : Int))) then ((lAt r2 i9).bind fun x32 =>
 (sAt x32 i25).bind fun b35 =>
 (zfY b35).bind fun r36 =>
 if (!r36) then (some false) else ((zq i25 1).bind fun i41 =>
 (zdL rec1 r2 i8 i9 n) i41)) else ((lAt r2 i9).bind fun x43 =>
 if (decide ((x43.length : Int) < 1)) then (zgG rec1 i8 i9 true) else ((lAt r2 i9).bind fun x47 =>
 zgG rec1 i8 i9 (decide (4 < (x47.length : Int)))))

def ze5 (rec1 : Int → Int → Option Bool) (r2 : List Str) (i8 : Int) (i9 : Int) (t19 : Bool) : Option Bool :=
 if t19 then ((zq i8 2).bind fun i21 =>
 ze4 rec1 i9 i21) else (zdL rec1 r2 i8 i9 fuel 0)

def zaH (r2 : List Str) : Nat → Int → Int → Option Bool
 | 0,_,_ => none
 | n + 1,i8,i9 =>
 if (decide (i9 < (r2.length : Int))) then ((zbc (r2.length : Int) 1).bind fun i13 =>
 if (i9 == i13) then ((lAt r2 i9).bind fun x15 =>
 (zjn x15).bind fun r18 =>
 ze5 (zaH r2 n) r2 i8 i9 r18) else (ze5 (zaH r2 n) r2 i8 i9 false)) else (some (i8 == 8))

def zia (x_s : Str) : Option Bool :=
 (zgA x_s 58).bind fun r2 =>
 zaH r2 fuel 0 0

def ziO (rec4 : Str → Int → Option Bool) (i24 : Int) (s31 : Str) : Option Bool :=
 (zlz s31 [48]).bind fun s32 =>
 (zq i24 1).bind fun i34 =>
 rec4 s32 i34

def zhh (rec3 : Int → Option Bool) (i16 : Int) (s44 : Str) : Option Bool :=
 (zia s44).bind fun r45 =>
 if r45 then (some true) else ((zq i16 1).bind fun i50 =>
 rec3 i50)

def zem (rec3 : Int → Option Bool) (x_s : Str) (i3 : Int) (i16 : Int) : Nat → Str → Int → Option Bool
 | 0,_,_ => none
 | n + 1,s23,i24 =>
 if (decide (i24 < i16)) then (if (!(s23 == [])) then ((zlz s23 [58]).bind fun s30 =>
 ziO (zem rec3 x_s i3 i16 n) i24 s30) else (ziO (zem rec3 x_s i3 i16 n) i24 s23)) else ((zq i3 2).bind fun i36 =>
 (zaG x_s i36).bind fun s37 =>
 if (!(s37 == [])) then ((zlz s23 [58]).bind fun s40 =>
 (zq i3 2).bind fun i41 =>
 (zaG x_s i41).bind fun s42 =>
 (zlz s40 s42).bind fun s43 =>
 zhh rec3 i16 s43) else (zhh rec3 i16 s23))

def zbZ (x_s : Str) (i3 : Int) : Nat → Int → Option Bool
 | 0,_ => none
 | n + 1,i16 =>
 if (decide (i16 ≤ 8)) then ((sTo x_s i3).bind fun s20 =>
 zem (zbZ x_s i3 n) x_s i3 i16 fuel s20 0) else (some false)

def ziP (rec1 : Int → Option Bool) (x_s : Str) (i3 : Int) (t12 : Bool) : Option Bool :=
 if t12 then ((zq i3 1).bind fun i54 =>
 rec1 i54) else (zbZ x_s i3 fuel 1)

def zen (x_s : Str) : Nat → Int → Option Bool
 | 0,_ => none
 | n + 1,i3 =>
 (zq i3 1).bind fun i4 =>
 if (decide (i4 < (x_s.length : Int))) then ((sAt x_s i3).bind fun b8 =>
 if (!(b8 == 58)) then (ziP (zen x_s n) x_s i3 true) else ((zq i3 1).bind fun i10 =>
 (sAt x_s i10).bind fun b11 =>
 ziP (zen x_s n) x_s i3 (!(b11 == 58)))) else ((zia x_s).bind fun r56 =>
 some r56)

def zkr (x_s : Str) : Option Bool :=
 zen x_s fuel 0

def zdA (x_b : UInt8) : Option Bool :=
 (zhE x_b [97,98,99,100,101,102,103,104,105,106,107,108,109,110,111,112,113,114,115,116,117,118,119,120,121,122,65,66,67,68,69,70,71,72,73,74,75,76,77,78,79,80,81,82,83,84,85,86,87,88,89,90,48,49,50,51,52,53,54,55,56,57,45,46,95,126]).bind fun r2 =>
 some r2

def zks (x_b : UInt8) : Option Bool :=
 (zhE x_b [33,36,38,39,40,41,42,43,44,59,61]).bind fun r2 =>
 some r2

def zfZ (rec1 : Int → Option Bool) (i34 : Int) : Option Bool :=
 (zq i34 1).bind fun i35 =>
 rec1 i35

def zcC (rec1 : Int → Option Bool) (i3 : Int) (t19 : Bool) : Option Bool :=
 if t19 then (some false) else ((zq i3 2).bind fun i23 =>
 zfZ rec1 i23)

def zhF (rec1 : Int → Option Bool) (i3 : Int) (t31 : Bool) : Option Bool :=
 if t31 then (some false) else (zfZ rec1 i3)

def zay (x_s : Str) : Nat → Int → Option Bool
 | 0,_ => none
 | n + 1,i3 =>
 if (decide (i3 < (x_s.length : Int))) then ((sAt x_s i3).bind fun b7 =>
 if (b7 == 37) then ((zq i3 2).bind fun i10 =>
 if (decide ((x_s.length : Int) ≤ i10)) then (zcC (zay x_s n) i3 true) else ((zq i3 1).bind fun i12 =>
 (sAt x_s i12).bind fun b13 =>
 (zfY b13).bind fun r14 =>
 if (!r14) then (zcC (zay x_s n) i3 true) else ((zq i3 2).bind fun i16 =>
 (sAt x_s i16).bind fun b17 =>
 (zfY b17).bind fun r18 =>
 zcC (zay x_s n) i3 (!r18)))) else ((sAt x_s i3).bind fun b26 =>
 (zdA b26).bind fun r27 =>
 if (!r27) then ((sAt x_s i3).bind fun b29 =>
 (zks b29).bind fun r30 =>
 zhF (zay x_s n) i3 (!r30)) else (zhF (zay x_s n) i3 false))) else (some (decide (0 < (x_s.length : Int))))

def zkX (x_s : Str) : Option Bool :=
 zay x_s fuel 0

def zfg (x_s : Str) (t12 : Bool) : Option api_Host :=
 if t12 then ((zbc (x_s.length : Int) 1).bind fun i14 =>
 (zd0 x_s 1 i14).bind fun s15 =>
 some ((⟨3,s15,(-1)⟩ : api_Host))) else ((zjn x_s).bind fun r18 =>
 if r18 then (some ((⟨2,x_s,(-1)⟩ : api_Host))) else ((zkX x_s).bind fun r23 =>
 if r23 then (some ((⟨1,x_s,(-1)⟩ : api_Host))) else (some (⟨0,[],0⟩ : api_Host))))

def zma (x_s : Str) : Option api_Host :=
 if (decide (2 < (x_s.length : Int))) then ((sAt x_s 0).bind fun b4 =>
 if (b4 == 91) then ((zbc (x_s.length : Int) 1).bind fun i6 =>
 (sAt x_s i6).bind fun b7 =>
 if (b7 == 93) then ((zbc (x_s.length : Int) 1).bind fun i9 =>
 (zd0 x_s 1 i9).bind fun s10 =>
 (zkr s10).bind fun r11 =>
 zfg x_s r11) else (zfg x_s false)) else (zfg x_s false)) else (zfg x_s false)

def zgH (r21 : api_Host) (r25 : Int) (t28 : Bool) : Option (api_Host × Int) :=
 if t28 then (some (((⟨0,[],0⟩ : api_Host),27))) else (some (((⟨r21.Kind,r21.Name,r25⟩ : api_Host),0)))

def ze6 (x_s : Str) : Nat → Int → Option (api_Host × Int)
 | 0,_ => none
 | n + 1,i12 =>
 if (decide (0 ≤ i12)) then ((sAt x_s i12).bind fun b16 =>
 if (!(b16 == 58)) then ((zbc i12 1).bind fun i35 =>
 (ze6 x_s n) i35) else ((sTo x_s i12).bind fun s20 =>
 (zma s20).bind fun r21 =>
 (zq i12 1).bind fun i23 =>
 (zaG x_s i23).bind fun s24 =>
 (zh9 s24 65535).bind fun r25 =>
 if (r21.Kind == 0) then (zgH r21 r25 true) else (zgH r21 r25 (decide (r25 < 0))))) else (some (((⟨0,[],0⟩ : api_Host),27)))

def zfh (x_s : Str) : Option (api_Host × Int) :=
 (zma x_s).bind fun r3 =>
 if (!(r3.Kind == 0)) then (some (r3,0)) else ((zbc (x_s.length : Int) 1).bind fun i10 =>
 ze6 x_s fuel i10)

def zhG (rec1 : Int → Option Int) (i3 : Int) (t6 : Bool) : Option Int :=
 if t6 then ((zq i3 1).bind fun i9 =>
 rec1 i9) else (some i3)

def zdv (x_s : Str) : Nat → Int → Option Int
 | 0,_ => none
 | n + 1,i3 =>
 if (decide (i3 < (x_s.length : Int))) then ((sAt x_s i3).bind fun b5 =>
 zhG (zdv x_s n) i3 (!(b5 == 63))) else (zhG (zdv x_s n) i3 false)

def zkY (x_s : Str) : Option Int :=
 zdv x_s fuel 0

def zf0 (t7 : Bool) : Option Bool :=
 some t7

def zkZ (x_b : UInt8) : Option Bool :=
 (zdA x_b).bind fun r2 =>
 if r2 then (zf0 true) else ((zks x_b).bind fun r4 =>
 if r4 then (zf0 true) else (if (x_b == 58) then (zf0 true) else (zf0 (x_b == 64))))

def zeo (t18 : Bool) : Option Bool :=
 some t18

def zib (t30 : Bool) : Option Bool :=
 some t30

def zfz : Nat → Str → Str → Option Bool
 | 0,_,_ => none
 | n + 1,x_s,x_more =>
 if (x_s == []) then (some true) else ((sAt x_s 0).bind fun b6 =>
 if (b6 == 37) then (if (decide (2 < (x_s.length : Int))) then ((sAt x_s 1).bind fun b10 =>
 (zfY b10).bind fun r11 =>
 if r11 then ((sAt x_s 2).bind fun b13 =>
 (zfY b13).bind fun r14 =>
 if r14 then ((zaG x_s 3).bind fun s16 =>
 ((zfz n) s16 x_more).bind fun r17 =>
 zeo r17) else (zeo false)) else (zeo false)) else (zeo false)) else ((sAt x_s 0).bind fun b20 =>
 (zkZ b20).bind fun r21 =>
 if r21 then ((zaG x_s 1).bind fun s23 =>
 ((zfz n) s23 x_more).bind fun r24 =>
 zib r24) else ((sAt x_s 0).bind fun b25 =>
 (zhE b25 x_more).bind fun r26 =>
 if r26 then ((zaG x_s 1).bind fun s28 =>
 ((zfz n) s28 x_more).bind fun r29 =>
 zib r29) else (zib false))))

def zn3 (x_s : Str) (x_more : Str) : Option Bool := zfz fuel x_s x_more

def zf1 (t6 : Bool) : Option Bool :=
 some t6

def zk0 (x_s : Str) : Option Bool :=
 if (decide (0 < (x_s.length : Int))) then ((sAt x_s 0).bind fun b3 =>
 if (b3 == 47) then ((zn3 x_s [47]).bind fun r5 =>
 zf1 r5) else (zf1 false)) else (zf1 false)

def zic (x_s : Str) : Option Bool :=
 (zn3 x_s [47,63]).bind fun r2 =>
 some r2

def zfO (x_t : api_Target) (x_s : Str) (r4 : Int) (s6 : Str) (s13 : Str) (t17 : Bool) : Option (api_Target × Bool) :=
 some (((⟨x_t.Kind,x_t.Scheme,x_t.Host,s6,s13,decide (r4 < (x_s.length : Int))⟩ : api_Target),t17))

def zd5 (x_t : api_Target) (x_s : Str) (r4 : Int) (s6 : Str) (s13 : Str) : Option (api_Target × Bool) :=
 (zk0 s6).bind fun r14 =>
 if r14 then ((zic s13).bind fun r16 =>
 zfO x_t x_s r4 s6 s13 r16) else (zfO x_t x_s r4 s6 s13 false)

def zhi (x_t : api_Target) (x_s : Str) : Option (api_Target × Bool) :=
 (zkY x_s).bind fun r4 =>
 (sTo x_s r4).bind fun s6 =>
 if (decide (r4 < (x_s.length : Int))) then ((zq r4 1).bind fun i11 =>
 (zaG x_s i11).bind fun s12 =>
 zd5 x_t x_s r4 s6 s12) else (zd5 x_t x_s r4 s6 x_t.Query)

def zhH (rec2 : Str → Int → Option Str) (i14 : Int) (s24 : Str) : Option Str :=
 (zq i14 1).bind fun i25 =>
 rec2 s24 i25

def zcD (rec1 : Str → Int → Option Str) (x_s : Str) (s4 : Str) (i5 : Int) : Nat → Str → Int → Option Str
 | 0,_,_ => none
 | n + 1,s13,i14 =>
 if (decide (i14 < 26)) then ((sAt [65,66,67,68,69,70,71,72,73,74,75,76,77,78,79,80,81,82,83,84,85,86,87,88,89,90] i14).bind fun b18 =>
 (sAt x_s i5).bind fun b19 =>
 if (b18 == b19) then ((zq i14 1).bind fun i22 =>
 (zd0 [97,98,99,100,101,102,103,104,105,106,107,108,109,110,111,112,113,114,115,116,117,118,119,120,121,122] i14 i22).bind fun s23 =>
 zhH (zcD rec1 x_s s4 i5 n) i14 s23) else (zhH (zcD rec1 x_s s4 i5 n) i14 s13)) else ((zlz s4 s13).bind fun s27 =>
 (zq i5 1).bind fun i29 =>
 rec1 s27 i29)

def zcE (x_s : Str) : Nat → Str → Int → Option Str
 | 0,_,_ => none
 | n + 1,s4,i5 =>
 if (decide (i5 < (x_s.length : Int))) then ((zq i5 1).bind fun i9 =>
 (zd0 x_s i5 i9).bind fun s10 =>
 zcD (zcE x_s n) x_s s4 i5 fuel s10 0) else (some s4)

def zfA (x_s : Str) : Option Str :=
 zcE x_s fuel [] 0

def zgI (r5 : api_Host × Int) (t9 : Bool) : Option (api_Target × Int) :=
 if t9 then (some (((⟨0,[],(⟨0,[],0⟩ : api_Host),[],[],false⟩ : api_Target),20))) else (some (((⟨3,[],r5.1,[],[],false⟩ : api_Target),0)))

def zgJ (t84 : Bool) (i85 : Int) (s86 : Str) (i87 : Int) (s88 : Str) (i89 : Int) (s90 : Str) (s91 : Str) (t92 : Bool) : Option (api_Target × Int) :=
 if (!t84) then (some (((⟨0,[],(⟨0,[],0⟩ : api_Host),[],[],false⟩ : api_Target),20))) else (some (((⟨i85,s86,(⟨i87,s88,i89⟩ : api_Host),s90,s91,t92⟩ : api_Target),0)))

def zcR (rec5 : Int → Option (api_Target × Int)) (x34 : Str) (s47 : Str) (i50 : Int) (t55 : Bool) : Option (api_Target × Int) :=
 if t55 then ((zq i50 1).bind fun i58 =>
 rec5 i58) else ((sTo s47 i50).bind fun s60 =>
 (zfh s60).bind fun r61 =>
 if (!(r61.2 == 0)) then (some (((⟨0,[],(⟨0,[],0⟩ : api_Host),[],[],false⟩ : api_Target),20))) else (if (i50 == (s47.length : Int)) then (some (((⟨2,x34,r61.1,[],[],false⟩ : api_Target),0))) else ((sAt s47 i50).bind fun b74 =>
 if (b74 == 63) then ((zq i50 1).bind fun i78 =>
 (zaG s47 i78).bind fun s79 =>
 (zic s79).bind fun r81 =>
 zgJ r81 2 x34 r61.1.Kind r61.1.Name r61.1.Port [] s79 true) else ((zaG s47 i50).bind fun s82 =>
 (zhi (⟨2,x34,r61.1,[],[],false⟩ : api_Target) s82).bind fun r83 =>
 zgJ r83.2 r83.1.Kind r83.1.Scheme r83.1.Host.Kind r83.1.Host.Name r83.1.Host.Port r83.1.Path r83.1.Query r83.1.HasQuery))))

def zbq (x34 : Str) (s47 : Str) : Nat → Int → Option (api_Target × Int)
 | 0,_ => none
 | n + 1,i50 =>
 if (decide (i50 < (s47.length : Int))) then ((sAt s47 i50).bind fun b52 =>
 if (!(b52 == 47)) then ((sAt s47 i50).bind fun b54 =>
 zcR (zbq x34 s47 n) x34 s47 i50 (!(b54 == 63))) else (zcR (zbq x34 s47 n) x34 s47 i50 false)) else (zcR (zbq x34 s47 n) x34 s47 i50 false)

def zgK (rec3 : Str → Int → Option (api_Target × Int)) (s29 : Str) (i30 : Int) (x34 : Str) (i38 : Int) (t44 : Bool) : Option (api_Target × Int) :=
 if t44 then ((zq i30 1).bind fun i99 =>
 rec3 s29 i99) else ((zaG s29 i38).bind fun s47 =>
 zbq x34 s47 fuel 0)

def zaI : Nat → Str → Int → Option (api_Target × Int)
 | 0,_,_ => none
 | n + 1,s29,i30 =>
 if (decide (i30 < ((([[104,116,116,112],[104,116,116,112,115]] : List Str).length : Int)))) then ((lAt ([[104,116,116,112],[104,116,116,112,115]] : List Str) i30).bind fun x34 =>
 (zq (x34.length : Int) 3).bind fun i38 =>
 if (decide ((s29.length : Int) < i38)) then (zgK (zaI n) s29 i30 x34 i38 true) else ((sTo s29 i38).bind fun s41 =>
 (zfA s41).bind fun r42 =>
 (zlz x34 [58,47,47]).bind fun s43 =>
 zgK (zaI n) s29 i30 x34 i38 (!(r42 == s43)))) else (some (((⟨0,[],(⟨0,[],0⟩ : api_Host),[],[],false⟩ : api_Target),20)))

def zcS (x_a1 : Str) (t16 : Bool) : Option (api_Target × Int) :=
 if t16 then (some (((⟨4,[],(⟨0,[],0⟩ : api_Host),[],[],false⟩ : api_Target),0))) else ((zhi ((⟨1,[],(⟨0,[],0⟩ : api_Host),[],[],false⟩ : api_Target)) x_a1).bind fun r20 =>
 if r20.2 then (some (r20.1,0)) else (zaI fuel x_a1 0))

def zjS (x_a0 : Str) (x_a1 : Str) : Option (api_Target × Int) :=
 if (x_a0 == [67,79,78,78,69,67,84]) then ((zfh x_a1).bind fun r5 =>
 if (!(r5.2 == 0)) then (zgI r5 true) else (zgI r5 (decide (r5.1.Port < 0)))) else (if (x_a1 == [42]) then (zcS x_a1 (x_a0 == [79,80,84,73,79,78,83])) else (zcS x_a1 false))

def zgL (t4 : Bool) : Option Bool :=
 some t4

def zgM (x_b : UInt8) : Option Bool :=
 if (decide (32 ≤ x_b)) then (if (!(x_b == 127)) then (zgL true) else (zgL (x_b == 9))) else (zgL (x_b == 9))

def zgN (rec2 : Int → Option (api_Head × Int)) (i9 : Int) (t16 : Bool) : Option (api_Head × Int) :=
 if t16 then (some (((⟨0,[],[],0,[],0,[]⟩ : api_Head),24))) else ((zq i9 1).bind fun i20 =>
 rec2 i20)

def zaY (r22 : List Str) (r32 : Int) (t44 : Bool) : Option (api_Head × Int) :=
 if t44 then (some (((⟨0,[],[],0,[],0,[]⟩ : api_Head),20))) else ((lAt r22 0).bind fun x48 =>
 (lAt r22 1).bind fun x51 =>
 (zjS x48 x51).bind fun r54 =>
 if (!(r54.2 == 0)) then (some (((⟨0,[],[],0,[],0,[]⟩ : api_Head),20))) else ((lAt r22 0).bind fun x61 =>
 (lAt r22 1).bind fun x64 =>
 some (((⟨1,x61,x64,0,[],r32,[]⟩ : api_Head),0))))

def zgO (r72 : Int) (r90 : Int × Int) (s92 : Str) (t108 : Bool) : Option (api_Head × Int) :=
 if t108 then (some (((⟨0,[],[],0,[],0,[]⟩ : api_Head),20))) else (some (((⟨2,[],[],r90.1,s92,r72,[]⟩ : api_Head),0)))

def zdM (r72 : Int) (r90 : Int × Int) (s92 : Str) : Nat → Int → Option (api_Head × Int)
 | 0,_ => none
 | n + 1,i95 =>
 if (decide (i95 < (s92.length : Int))) then ((sAt s92 i95).bind fun b99 =>
 (zgM b99).bind fun r100 =>
 if (!r100) then (some (((⟨0,[],[],0,[],0,[]⟩ : api_Head),20))) else ((zq i95 1).bind fun i105 =>
 (zdM r72 r90 s92 n) i105)) else (if (!(r90.2 == 0)) then (zgO r72 r90 s92 true) else (zgO r72 r90 s92 (decide (r90.1 < 100))))

def zaZ (x_a1 : Str) (r22 : List Str) (r72 : Int) (t83 : Bool) : Option (api_Head × Int) :=
 if t83 then (some (((⟨0,[],[],0,[],0,[]⟩ : api_Head),20))) else ((lAt r22 1).bind fun x87 =>
 (zfy x87 10 599).bind fun r90 =>
 (zaG x_a1 13).bind fun s92 =>
 zdM r72 r90 s92 fuel 0)

def zb0 (x_a0 : Int) (x_a1 : Str) : Nat → Int → Option (api_Head × Int)
 | 0,_ => none
 | n + 1,i9 =>
 if (decide (i9 < (x_a1.length : Int))) then ((sAt x_a1 i9).bind fun b13 =>
 if (b13 == 13) then (zgN (zb0 x_a0 x_a1 n) i9 true) else ((sAt x_a1 i9).bind fun b15 =>
 zgN (zb0 x_a0 x_a1 n) i9 (b15 == 10))) else ((zgA x_a1 32).bind fun r22 =>
 if (x_a0 == 1) then ((zbc (r22.length : Int) 1).bind fun i28 =>
 (lAt r22 i28).bind fun x29 =>
 (zdt x29).bind fun r32 =>
 if (r32 == 2) then (some (((⟨0,[],[],0,[],0,[]⟩ : api_Head),26))) else (if (!((r22.length : Int) == 3)) then (zaY r22 r32 true) else (if (decide (r32 < 0)) then (zaY r22 r32 true) else ((lAt r22 0).bind fun x40 =>
 (zff x40).bind fun r43 =>
 zaY r22 r32 (!r43))))) else ((lAt r22 0).bind fun x69 =>
 (zdt x69).bind fun r72 =>
 if (r72 == 2) then (some (((⟨0,[],[],0,[],0,[]⟩ : api_Head),26))) else (if (decide ((r22.length : Int) < 3)) then (zaZ x_a1 r22 r72 true) else (if (decide (r72 < 0)) then (zaZ x_a1 r22 r72 true) else ((lAt r22 1).bind fun x80 =>
 zaZ x_a1 r22 r72 (!((x80.length : Int) == 3)))))))

def zgP (x_a0 : Int) (x_a1 : Str) (t4 : Bool) : Option (api_Head × Int) :=
 if t4 then (some (((⟨0,[],[],0,[],0,[]⟩ : api_Head),1))) else (zb0 x_a0 x_a1 fuel 0)

def zid (x_a0 : Int) (x_a1 : Str) : Option (api_Head × Int) :=
 if (!(x_a0 == 1)) then (zgP x_a0 x_a1 (!(x_a0 == 2))) else (zgP x_a0 x_a1 false)

def ziQ (t3 : Bool) : Option Bool :=
 some t3

def zgQ (x_b : UInt8) : Option Bool :=
 if (x_b == 32) then (ziQ true) else (ziQ (x_b == 9))

def zf2 (rec3 : Str → Option Str) (s11 : Str) (t16 : Bool) : Option Str :=
 if t16 then ((zbc (s11.length : Int) 1).bind fun i19 =>
 (sTo s11 i19).bind fun s20 =>
 rec3 s20) else (some s11)

def zcF : Nat → Str → Option Str
 | 0,_ => none
 | n + 1,s11 =>
 if (decide (0 < (s11.length : Int))) then ((zbc (s11.length : Int) 1).bind fun i13 =>
 (sAt s11 i13).bind fun b14 =>
 (zgQ b14).bind fun r15 =>
 zf2 (zcF n) s11 r15) else (zf2 (zcF n) s11 false)

def zf3 (rec1 : Str → Option Str) (s2 : Str) (t6 : Bool) : Option Str :=
 if t6 then ((zaG s2 1).bind fun s9 =>
 rec1 s9) else (zcF fuel s2)

def zcG : Nat → Str → Option Str
 | 0,_ => none
 | n + 1,s2 =>
 if (decide (0 < (s2.length : Int))) then ((sAt s2 0).bind fun b4 =>
 (zgQ b4).bind fun r5 =>
 zf3 (zcG n) s2 r5) else (zf3 (zcG n) s2 false)

def zgR (x_s : Str) : Option Str :=
 zcG fuel x_s

def zd6 (x_s : Str) : Nat → Int → Option Bool
 | 0,_ => none
 | n + 1,i3 =>
 if (decide (i3 < (x_s.length : Int))) then ((sAt x_s i3).bind fun b7 =>
 (zgM b7).bind fun r8 =>
 if (!r8) then (some false) else ((zq i3 1).bind fun i13 =>
 (zd6 x_s n) i13)) else (some true)

def ziR (x_s : Str) : Option Bool :=
 zd6 x_s fuel 0

def zgS (rec1 : Int → Option (api_Field × Int)) (i4 : Int) (t11 : Bool) : Option (api_Field × Int) :=
 if t11 then (some (((⟨[],[]⟩ : api_Field),24))) else ((zq i4 1).bind fun i15 =>
 rec1 i15)

def zgT (x_a0 : Str) (i25 : Int) (r34 : Str) (t38 : Bool) : Option (api_Field × Int) :=
 if t38 then (some (((⟨[],[]⟩ : api_Field),21))) else (if (decide ((r34.length : Int) < i25)) then (some (((⟨[],[]⟩ : api_Field),22))) else ((zq i25 1).bind fun i46 =>
 (zaG x_a0 i46).bind fun s47 =>
 (ziR s47).bind fun r48 =>
 if (!r48) then (some (((⟨[],[]⟩ : api_Field),25))) else ((zq i25 1).bind fun i53 =>
 (zaG x_a0 i53).bind fun s54 =>
 (zgR s54).bind fun r55 =>
 some (((⟨r34,r55⟩ : api_Field),0)))))

def zdN (rec4 : Int → Option (api_Field × Int)) (x_a0 : Str) (i25 : Int) (t28 : Bool) : Option (api_Field × Int) :=
 if t28 then ((zq i25 1).bind fun i31 =>
 rec4 i31) else ((sTo x_a0 i25).bind fun s33 =>
 (zgR s33).bind fun r34 =>
 if (i25 == (x_a0.length : Int)) then (zgT x_a0 i25 r34 true) else ((zff r34).bind fun r37 =>
 zgT x_a0 i25 r34 (!r37)))

def zbr (x_a0 : Str) : Nat → Int → Option (api_Field × Int)
 | 0,_ => none
 | n + 1,i25 =>
 if (decide (i25 < (x_a0.length : Int))) then ((sAt x_a0 i25).bind fun b27 =>
 zdN (zbr x_a0 n) x_a0 i25 (!(b27 == 58))) else (zdN (zbr x_a0 n) x_a0 i25 false)

def zdO (x_a0 : Str) (t20 : Bool) : Option (api_Field × Int) :=
 if t20 then (some (((⟨[],[]⟩ : api_Field),23))) else (zbr x_a0 fuel 0)

def zcT (x_a0 : Str) : Nat → Int → Option (api_Field × Int)
 | 0,_ => none
 | n + 1,i4 =>
 if (decide (i4 < (x_a0.length : Int))) then ((sAt x_a0 i4).bind fun b8 =>
 if (b8 == 13) then (zgS (zcT x_a0 n) i4 true) else ((sAt x_a0 i4).bind fun b10 =>
 zgS (zcT x_a0 n) i4 (b10 == 10))) else (if (decide (0 < (x_a0.length : Int))) then ((sAt x_a0 0).bind fun b18 =>
 (zgQ b18).bind fun r19 =>
 zdO x_a0 r19) else (zdO x_a0 false))

def zgU (x_a0 : Str) : Option (api_Field × Int) :=
 zcT x_a0 fuel 0

def zhj (x_b : Str) : Nat → Int → Option Int
 | 0,_ => none
 | n + 1,i3 =>
 (zq i3 4).bind fun i4 =>
 if (decide (i4 ≤ (x_b.length : Int))) then ((zq i3 4).bind fun i8 =>
 (zd0 x_b i3 i8).bind fun s9 =>
 if (s9 == [13,10,13,10]) then ((zq i3 4).bind fun i12 =>
 some i12) else ((zq i3 1).bind fun i15 =>
 (zhj x_b n) i15)) else (some (-1))

def zmb (x_b : Str) : Option Int :=
 zhj x_b fuel 0

def zn4 (x_f : api_Field) (x_name : Str) : Option Bool :=
 (zfA x_f.Name).bind fun r3 =>
 (zfA x_name).bind fun r4 =>
 some (r3 == r4)

def zfP (rec1 : (List Str) → Int → Option (List Str)) (i7 : Int) (l26 : List Str) : Option (List Str) :=
 (zq i7 1).bind fun i27 =>
 rec1 l26 i27

def zcg (x_l : List api_Field) (x_name : Str) : Nat → (List Str) → Int → Option (List Str)
 | 0,_,_ => none
 | n + 1,l6,i7 =>
 if (decide (i7 < (x_l.length : Int))) then ((lAt x_l i7).bind fun x11 =>
 (zn4 x11 x_name).bind fun r14 =>
 if r14 then ((lAt x_l i7).bind fun x17 =>
 if zJ l6.length 1 16 then (zfP (zcg x_l x_name n) i7 (l6 ++ ([x17.Value] : List Str))) else none) else (zfP (zcg x_l x_name n) i7 l6)) else (some l6)

def zep (x_l : List api_Field) (x_name : Str) : Option (List Str) :=
 zcg x_l x_name fuel [] 0

def zgV (r11 : List Str) (t25 : Bool) : Option Int :=
 if t25 then ((lAt r11 0).bind fun x27 =>
 (zfh x27).bind fun r30 =>
 some r30.2) else (some 0)

def zaJ (r11 : List Str) (t17 : Bool) : Option Int :=
 if t17 then (some 27) else (if ((r11.length : Int) == 1) then ((lAt r11 0).bind fun x22 =>
 zgV r11 (!(x22 == []))) else (zgV r11 false))

def zjT (x_h : api_Head) : Option Int :=
 if (decide (100 < (x_h.Fields.length : Int))) then (some 3) else (if (x_h.Kind == 2) then (some 0) else ((zep x_h.Fields [104,111,115,116]).bind fun r11 =>
 if (decide (1 < (r11.length : Int))) then (zaJ r11 true) else (if (x_h.Minor == 1) then (zaJ r11 ((r11.length : Int) == 0)) else (zaJ r11 false))))

def zdP (rec3 : (List api_Field) → Int → Str → Str → Int → Str → Int → Bool → Int → Int → Option (api_Head × Int)) (i34 : Int) (t73 : Bool) (i74 : Int) (i75 : Int) (s76 : Str) (s77 : Str) (i78 : Int) (s79 : Str) (i80 : Int) (l83 : List api_Field) : Option (api_Head × Int) :=
 (zq i34 1).bind fun i84 =>
 rec3 l83 i75 s76 s77 i78 s79 i80 t73 i74 i84

def zgW (i85 : Int) (s86 : Str) (s87 : Str) (i88 : Int) (s89 : Str) (i90 : Int) (l93 : List api_Field) : Option (api_Head × Int) :=
 (zjT (⟨i85,s86,s87,i88,s89,i90,l93⟩ : api_Head)).bind fun r94 =>
 if (!(r94 == 0)) then (some (((⟨0,[],[],0,[],0,[]⟩ : api_Head),r94))) else (some (((⟨i85,s86,s87,i88,s89,i90,l93⟩ : api_Head),0)))

def zI (x_a0 : Int) (x_a1 : Str) : Nat → (List api_Field) → Int → Str → Str → Int → Str → Int → Bool → Int → Int → Option (api_Head × Int)
 | 0,_,_,_,_,_,_,_,_,_,_ => none
 | n + 1,l25,i26,s27,s28,i29,s30,i31,t32,i33,i34 =>
 (zq i34 3).bind fun i35 =>
 if (decide (i35 < (x_a1.length : Int))) then ((zq i34 2).bind fun i39 =>
 (zd0 x_a1 i34 i39).bind fun s40 =>
 if (!(s40 == [13,10])) then (zdP (zI x_a0 x_a1 n) i34 t32 i33 i26 s27 s28 i29 s30 i31 l25) else ((zd0 x_a1 i33 i34).bind fun s44 =>
 (zq i34 2).bind fun i46 =>
 if t32 then ((zid x_a0 s44).bind fun r50 =>
 if (!(r50.2 == 0)) then (some (((⟨0,[],[],0,[],0,[]⟩ : api_Head),r50.2))) else (zdP (zI x_a0 x_a1 n) i34 false i46 r50.1.Kind r50.1.Method r50.1.Target r50.1.Code r50.1.Reason r50.1.Minor r50.1.Fields)) else ((zgU s44).bind fun r62 =>
 if (!(r62.2 == 0)) then (some (((⟨0,[],[],0,[],0,[]⟩ : api_Head),r62.2))) else (if zJ l25.length 1 32 then (zdP (zI x_a0 x_a1 n) i34 t32 i46 i26 s27 s28 i29 s30 i31 (l25 ++ [r62.1])) else none)))) else (zgW i26 s27 s28 i29 s30 i31 l25)

def ze7 (x_a0 : Int) (x_a1 : Str) (t14 : Bool) : Option (api_Head × Int) :=
 if t14 then (some (((⟨0,[],[],0,[],0,[]⟩ : api_Head),6))) else (zI x_a0 x_a1 fuel [] 0 [] [] 0 [] 0 true 0 0)

def ze8 (x_a0 : Int) (x_a1 : Str) (x_a2 : Int) (t4 : Bool) : Option (api_Head × Int) :=
 if t4 then (some (((⟨0,[],[],0,[],0,[]⟩ : api_Head),1))) else (if (decide (x_a2 < (x_a1.length : Int))) then (some (((⟨0,[],[],0,[],0,[]⟩ : api_Head),3))) else (if (decide ((x_a1.length : Int) < 4)) then (ze7 x_a0 x_a1 true) else ((zmb x_a1).bind fun r13 =>
 ze7 x_a0 x_a1 (!(r13 == (x_a1.length : Int))))))

def zjU (x_a0 : Int) (x_a1 : Str) (x_a2 : Int) : Option (api_Head × Int) :=
 if (!(x_a0 == 1)) then (ze8 x_a0 x_a1 x_a2 (!(x_a0 == 2))) else (ze8 x_a0 x_a1 x_a2 false)

def zie (rec1 : Int → Int → Option ref16_Fate) (i6 : Int) (i67 : Int) : Option ref16_Fate :=
 (zq i6 1).bind fun i68 =>
 rec1 i67 i68

def zif (rec1 : Int → Int → Option ref16_Fate) (i6 : Int) (i60 : Int) : Option ref16_Fate :=
 if (!(i60 == 0)) then ((zq i6 1).bind fun i63 =>
 some ((⟨i63,i60,(⟨0,[],[],0,[],0,[]⟩ : api_Head)⟩ : ref16_Fate))) else ((zq i6 1).bind fun i66 =>
 zie rec1 i6 i66)

def zeq (rec1 : Int → Int → Option ref16_Fate) (x_a0 : Int) (x_a1 : Int) (x_a2 : Str) (i5 : Int) (i6 : Int) (t26 : Bool) : Option ref16_Fate :=
 if t26 then ((zq i6 1).bind fun i28 =>
 some ((⟨i28,24,(⟨0,[],[],0,[],0,[]⟩ : api_Head)⟩ : ref16_Fate))) else ((sAt x_a2 i6).bind fun b31 =>
 if (!(b31 == 10)) then (zie rec1 i6 i5) else ((zbc i6 1).bind fun i35 =>
 (zd0 x_a2 i5 i35).bind fun s36 =>
 if (i5 == 0) then ((zid x_a0 s36).bind fun r41 =>
 zif rec1 i6 r41.2) else (if (!(s36 == [])) then ((zgU s36).bind fun r48 =>
 zif rec1 i6 r48.2) else ((zq i6 1).bind fun i51 =>
 (sTo x_a2 i51).bind fun s52 =>
 (zjU x_a0 s52 x_a1).bind fun r53 =>
 (zq i6 1).bind fun i58 =>
 some (⟨i58,r53.2,r53.1⟩ : ref16_Fate)))))

def zgX (rec1 : Int → Int → Option ref16_Fate) (x_a0 : Int) (x_a1 : Int) (x_a2 : Str) (i5 : Int) (i6 : Int) (t18 : Bool) : Option ref16_Fate :=
 (sAt x_a2 i6).bind fun b19 =>
 if (b19 == 10) then (if (!t18) then (zeq rec1 x_a0 x_a1 x_a2 i5 i6 true) else ((sAt x_a2 i6).bind fun b22 =>
 if (!(b22 == 10)) then (zeq rec1 x_a0 x_a1 x_a2 i5 i6 t18) else (zeq rec1 x_a0 x_a1 x_a2 i5 i6 false))) else ((sAt x_a2 i6).bind fun b24 =>
 if (!(b24 == 10)) then (zeq rec1 x_a0 x_a1 x_a2 i5 i6 t18) else (zeq rec1 x_a0 x_a1 x_a2 i5 i6 false))

def zbm (x_a0 : Int) (x_a1 : Int) (x_a2 : Str) : Nat → Int → Int → Option ref16_Fate
 | 0,_,_ => none
 | n + 1,i5,i6 =>
 if (decide (i6 < (x_a2.length : Int))) then (if (decide (x_a1 ≤ i6)) then ((zq i6 1).bind fun i12 =>
 some ((⟨i12,3,(⟨0,[],[],0,[],0,[]⟩ : api_Head)⟩ : ref16_Fate))) else (if (decide (0 < i6)) then ((zbc i6 1).bind fun i16 =>
 (sAt x_a2 i16).bind fun b17 =>
 zgX (zbm x_a0 x_a1 x_a2 n) x_a0 x_a1 x_a2 i5 i6 (b17 == 13)) else (zgX (zbm x_a0 x_a1 x_a2 n) x_a0 x_a1 x_a2 i5 i6 false))) else (some ((⟨0,0,(⟨0,[],[],0,[],0,[]⟩ : api_Head)⟩ : ref16_Fate)))

def zqm (x_a0 : Int) (x_a1 : Int) (x_a2 : Str) : Option ref16_Fate :=
 zbm x_a0 x_a1 x_a2 fuel 0 0

def zdQ (rec2 : Str → Int → Option (Str × Int)) (x_s : Str) (s10 : Str) (i25 : Int) (t29 : Bool) : Option (Str × Int) :=
 if t29 then (some ([],0)) else ((zq i25 1).bind fun i33 =>
 (zd0 x_s i25 i33).bind fun s34 =>
 (zlz s10 s34).bind fun s35 =>
 (zq i25 1).bind fun i37 =>
 rec2 s35 i37)

def zgY (rec2 : Str → Int → Option (Str × Int)) (x_s : Str) (s10 : Str) (i25 : Int) : Option (Str × Int) :=
 if (i25 == (x_s.length : Int)) then (zdQ rec2 x_s s10 i25 true) else ((sAt x_s i25).bind fun b27 =>
 (zgM b27).bind fun r28 =>
 zdQ rec2 x_s s10 i25 (!r28))

def zbs (x_s : Str) : Nat → Str → Int → Option (Str × Int)
 | 0,_,_ => none
 | n + 1,s10,i11 =>
 if (decide (i11 < (x_s.length : Int))) then ((sAt x_s i11).bind fun b15 =>
 if (b15 == 34) then ((zq i11 1).bind fun i18 =>
 some (s10,i18)) else ((sAt x_s i11).bind fun b21 =>
 if (b21 == 92) then ((zq i11 1).bind fun i24 =>
 zgY (zbs x_s n) x_s s10 i24) else (zgY (zbs x_s n) x_s s10 i11))) else (some ([],0))

def ze9 (x_s : Str) (t4 : Bool) : Option (Str × Int) :=
 if t4 then (some ([],0)) else (zbs x_s fuel [] 1)

def zfi (x_s : Str) : Option (Str × Int) :=
 if ((x_s.length : Int) == 0) then (ze9 x_s true) else ((sAt x_s 0).bind fun b3 =>
 ze9 x_s (!(b3 == 34)))

def zbt (rec1 : Int → Int → Option Int) (i27 : Int) (i28 : Int) : Option Int :=
 if (i27 == 0) then ((zq i28 1).bind fun i31 =>
 some i31) else ((zq i28 1).bind fun i34 =>
 rec1 i27 i34)

def zag (x_s : Str) : Nat → Int → Int → Option Int
 | 0,_,_ => none
 | n + 1,i11,i12 =>
 if (decide (i12 < (x_s.length : Int))) then ((sAt x_s i12).bind fun b16 =>
 if (b16 == 40) then ((zq i11 1).bind fun i20 =>
 zbt (zag x_s n) i20 i12) else (if (b16 == 41) then ((zbc i11 1).bind fun i23 =>
 zbt (zag x_s n) i23 i12) else (if (b16 == 92) then ((zq i12 1).bind fun i26 =>
 zbt (zag x_s n) i11 i26) else (zbt (zag x_s n) i11 i12)))) else (some 0)

def zjV (x_s : Str) : Option Int :=
 (sAt x_s 0).bind fun b2 =>
 if (b2 == 34) then ((zfi x_s).bind fun r5 =>
 some r5.2) else (zag x_s fuel 0 0)

def zgZ (rec1 : (List Str) → Int → Int → Option (List Str × Int)) (i9 : Int) (l41 : List Str) (i42 : Int) : Option (List Str × Int) :=
 (zq i9 1).bind fun i43 =>
 rec1 l41 i42 i43

def zcU (rec1 : (List Str) → Int → Int → Option (List Str × Int)) (x_a0 : Str) (l7 : List Str) (i8 : Int) (i9 : Int) (t16 : Bool) : Option (List Str × Int) :=
 if t16 then ((zaG x_a0 i9).bind fun s18 =>
 (zjV s18).bind fun r19 =>
 if (r19 == 0) then (some ([],2)) else ((zq i9 r19).bind fun i25 =>
 rec1 l7 i8 i25)) else ((sAt x_a0 i9).bind fun b28 =>
 if (b28 == 44) then ((zd0 x_a0 i8 i9).bind fun s31 =>
 (zgR s31).bind fun r32 =>
 if zJ l7.length 1 16 then ((zq i9 1).bind fun i38 =>
 zgZ rec1 i9 (l7 ++ ([r32] : List Str)) i38) else none) else (zgZ rec1 i9 l7 i8))

def zg0 (rec4 : (List Str) → Int → Option (List Str × Int)) (i57 : Int) (l75 : List Str) : Option (List Str × Int) :=
 (zq i57 1).bind fun i76 =>
 rec4 l75 i76

def zb1 (l7 : List Str) (r46 : Str) : Nat → (List Str) → Int → Option (List Str × Int)
 | 0,_,_ => none
 | n + 1,l56,i57 =>
 if (decide (i57 < (((l7 ++ ([r46] : List Str)).length : Int)))) then ((lAt (l7 ++ ([r46] : List Str)) i57).bind fun x61 =>
 if (!(x61 == [])) then ((lAt (l7 ++ ([r46] : List Str)) i57).bind fun x66 =>
 if zJ l56.length 1 16 then (zg0 (zb1 l7 r46 n) i57 (l56 ++ ([x66] : List Str))) else none) else (zg0 (zb1 l7 r46 n) i57 l56)) else (some (l56,0))

def zaK (x_a0 : Str) : Nat → (List Str) → Int → Int → Option (List Str × Int)
 | 0,_,_,_ => none
 | n + 1,l7,i8,i9 =>
 if (decide (i9 < (x_a0.length : Int))) then ((sAt x_a0 i9).bind fun b13 =>
 if (b13 == 34) then (zcU (zaK x_a0 n) x_a0 l7 i8 i9 true) else ((sAt x_a0 i9).bind fun b15 =>
 zcU (zaK x_a0 n) x_a0 l7 i8 i9 (b15 == 40))) else ((zaG x_a0 i8).bind fun s45 =>
 (zgR s45).bind fun r46 =>
 if zJ l7.length 1 16 then (zb1 l7 r46 fuel [] 0) else none)

def zig (x_a0 : Str) : Option (List Str × Int) :=
 zaK x_a0 fuel [] 0 0

def zde (rec1 : (List Str) → Int → Option (List Str × Int)) (i7 : Int) (r14 : List Str × Int) : Nat → (List Str) → Int → Option (List Str × Int)
 | 0,_,_ => none
 | n + 1,l25,i26 =>
 if (decide (i26 < (r14.1.length : Int))) then ((lAt r14.1 i26).bind fun x30 =>
 (zff x30).bind fun r33 =>
 if (!r33) then (some ([],2)) else ((lAt r14.1 i26).bind fun x38 =>
 if zJ l25.length 1 16 then ((zq i26 1).bind fun i46 =>
 (zde rec1 i7 r14 n) (l25 ++ ([x38] : List Str)) i46) else none)) else ((zq i7 1).bind fun i48 =>
 rec1 l25 i48)

def zdf (x_l : List Str) : Nat → (List Str) → Int → Option (List Str × Int)
 | 0,_,_ => none
 | n + 1,l6,i7 =>
 if (decide (i7 < (x_l.length : Int))) then ((lAt x_l i7).bind fun x11 =>
 (zig x11).bind fun r14 =>
 if (!(r14.2 == 0)) then (some ([],r14.2)) else (zde (zdf x_l n) i7 r14 fuel l6 0)) else (some (l6,0))

def zhk (x_l : List Str) : Option (List Str × Int) :=
 zdf x_l fuel [] 0

def zcV (t30 : Bool) : Option (api_Frame × Int) :=
 if t30 then (some (((⟨0,0⟩ : api_Frame),30))) else (some (((⟨3,0⟩ : api_Frame),0)))

def zg1 (rec3 : (List Int) → Int → Option (api_Frame × Int)) (i45 : Int) (r52 : List Str × Int) : Nat → (List Int) → Int → Option (api_Frame × Int)
 | 0,_,_ => none
 | n + 1,l63,i64 =>
 if (decide (i64 < (r52.1.length : Int))) then ((lAt r52.1 i64).bind fun x68 =>
 (zfy x68 10 1099511627776).bind fun r71 =>
 if (!(r71.2 == 0)) then (some (((⟨0,0⟩ : api_Frame),28))) else (if zJ l63.length 1 8 then ((zq i64 1).bind fun i82 =>
 (zg1 rec3 i45 r52 n) (l63 ++ [r71.1]) i82) else none)) else ((zq i45 1).bind fun i84 =>
 rec3 l63 i84)

def zg2 (l44 : List Int) : Nat → Int → Option (api_Frame × Int)
 | 0,_ => none
 | n + 1,i87 =>
 if (decide (i87 < (l44.length : Int))) then ((lAt l44 i87).bind fun x91 =>
 (lAt l44 0).bind fun x94 =>
 if (!(x91 == x94)) then (some (((⟨0,0⟩ : api_Frame),28))) else ((zq i87 1).bind fun i101 =>
 (zg2 l44 n) i101)) else (if ((l44.length : Int) == 0) then (some (((⟨0,0⟩ : api_Frame),28))) else ((lAt l44 0).bind fun x107 =>
 some (((⟨2,x107⟩ : api_Frame),0))))

def zfj (r8 : List Str) : Nat → (List Int) → Int → Option (api_Frame × Int)
 | 0,_,_ => none
 | n + 1,l44,i45 =>
 if (decide (i45 < (r8.length : Int))) then ((lAt r8 i45).bind fun x49 =>
 (zig x49).bind fun r52 =>
 if (!(r52.2 == 0)) then (some (((⟨0,0⟩ : api_Frame),28))) else (zg1 (zfj r8 n) i45 r52 fuel l44 0)) else (zg2 l44 fuel 0)

def zg3 (x_a0 : api_Head) (x_a1 : Int) (r4 : List Str) (r8 : List Str) (t13 : Bool) : Option (api_Frame × Int) :=
 if t13 then (some (((⟨0,0⟩ : api_Frame),29))) else (if (decide (0 < (r4.length : Int))) then ((zhk r4).bind fun r19 =>
 if (!(r19.2 == 0)) then (zcV true) else (if (x_a0.Minor == 0) then (zcV true) else (if (!((r19.1.length : Int) == 1)) then (zcV true) else ((lAt r19.1 0).bind fun x26 =>
 (zfA x26).bind fun r29 =>
 zcV (!(r29 == [99,104,117,110,107,101,100])))))) else (if ((r8.length : Int) == 0) then (some (((⟨x_a1,0⟩ : api_Frame),0))) else (zfj r8 fuel [] 0)))

def zmc (x_a0 : api_Head) (x_a1 : Int) : Option (api_Frame × Int) :=
 (zep x_a0.Fields [116,114,97,110,115,102,101,114,45,101,110,99,111,100,105,110,103]).bind fun r4 =>
 (zep x_a0.Fields [99,111,110,116,101,110,116,45,108,101,110,103,116,104]).bind fun r8 =>
 if (decide (0 < (r4.length : Int))) then (zg3 x_a0 x_a1 r4 r8 (decide (0 < (r8.length : Int)))) else (zg3 x_a0 x_a1 r4 r8 false)

def zda (x_h : api_Head) (t10 : Bool) : Option (api_Frame × Int) :=
 if t10 then (some (((⟨1,0⟩ : api_Frame),0))) else ((zmc x_h 4).bind fun r14 =>
 some (r14.1,r14.2))

def zb2 (x_method : Str) (x_h : api_Head) (t7 : Bool) : Option (api_Frame × Int) :=
 if t7 then (zda x_h true) else (if (x_method == [67,79,78,78,69,67,84]) then (zda x_h (decide (x_h.Code ≤ 299))) else (zda x_h false))

def zg4 (x_method : Str) (x_h : api_Head) : Option (api_Frame × Int) :=
 if (x_method == [72,69,65,68]) then (zb2 x_method x_h true) else (if (decide (x_h.Code < 200)) then (zb2 x_method x_h true) else (if (x_h.Code == 204) then (zb2 x_method x_h true) else (zb2 x_method x_h (x_h.Code == 304))))

def zjW (x_method : Str) (x_h : api_Head) : Option (api_Frame × Int) :=
 if (x_h.Kind == 1) then ((zmc x_h 1).bind fun r6 =>
 some (r6.1,r6.2)) else ((zg4 x_method x_h).bind fun r9 =>
 some (r9.1,r9.2))

def zcH (rec1 : Int → Option ref19_line) (x_a0 : Str) (i4 : Int) (i8 : Int) (t30 : Bool) : Option ref19_line :=
 if t30 then ((zq i8 1).bind fun i32 =>
 some (⟨0,i32,24⟩ : ref19_line)) else ((sAt x_a0 i4).bind fun b35 =>
 if (b35 == 10) then ((zq i8 1).bind fun i38 =>
 some (⟨i38,0,0⟩ : ref19_line)) else ((zq i4 1).bind fun i41 =>
 rec1 i41))

def zf4 (rec1 : Int → Option ref19_line) (x_a0 : Str) (i4 : Int) (i8 : Int) (t22 : Bool) : Option ref19_line :=
 (sAt x_a0 i4).bind fun b23 =>
 if (b23 == 10) then (if (!t22) then (zcH rec1 x_a0 i4 i8 true) else ((sAt x_a0 i4).bind fun b26 =>
 if (!(b26 == 10)) then (zcH rec1 x_a0 i4 i8 t22) else (zcH rec1 x_a0 i4 i8 false))) else ((sAt x_a0 i4).bind fun b28 =>
 if (!(b28 == 10)) then (zcH rec1 x_a0 i4 i8 t22) else (zcH rec1 x_a0 i4 i8 false))

def zeE (rec1 : Int → Option ref19_line) (x_a0 : Str) (i4 : Int) (i8 : Int) (t14 : Bool) : Option ref19_line :=
 if t14 then ((zq i8 1).bind fun i16 =>
 some (⟨0,i16,3⟩ : ref19_line)) else (if (decide (0 < i8)) then ((zbc i4 1).bind fun i20 =>
 (sAt x_a0 i20).bind fun b21 =>
 zf4 rec1 x_a0 i4 i8 (b21 == 13)) else (zf4 rec1 x_a0 i4 i8 false))

def zal (x_a0 : Str) (x_a1 : Int) (x_a2 : Int) (x_a3 : Int) : Nat → Int → Option ref19_line
 | 0,_ => none
 | n + 1,i4 =>
 if (decide (i4 < (x_a0.length : Int))) then ((zbc i4 x_a1).bind fun i8 =>
 if (decide (4098 ≤ i8)) then (zeE (zal x_a0 x_a1 x_a2 x_a3 n) x_a0 i4 i8 true) else (if (decide (0 ≤ x_a3)) then ((zq x_a2 i8).bind fun i12 =>
 (zq i12 1).bind fun i13 =>
 zeE (zal x_a0 x_a1 x_a2 x_a3 n) x_a0 i4 i8 (decide (x_a3 < i13))) else (zeE (zal x_a0 x_a1 x_a2 x_a3 n) x_a0 i4 i8 false))) else (some (⟨0,0,0⟩ : ref19_line))

def zjo (x_a0 : Str) (x_a1 : Int) (x_a2 : Int) (x_a3 : Int) : Option ref19_line :=
 zal x_a0 x_a1 x_a2 x_a3 fuel x_a1

def zhI (rec1 : Int → Option (Str × Int)) (x_s : Str) (i3 : Int) (t7 : Bool) : Option (Str × Int) :=
 if t7 then ((zq i3 1).bind fun i10 =>
 rec1 i10) else (if (decide (0 < i3)) then ((sTo x_s i3).bind fun s14 =>
 some (s14,i3)) else ((zfi x_s).bind fun r17 =>
 some (r17.1,r17.2)))

def zdw (x_s : Str) : Nat → Int → Option (Str × Int)
 | 0,_ => none
 | n + 1,i3 =>
 if (decide (i3 < (x_s.length : Int))) then ((sAt x_s i3).bind fun b5 =>
 (zjm b5).bind fun r6 =>
 zhI (zdw x_s n) x_s i3 r6) else (zhI (zdw x_s n) x_s i3 false)

def zk1 (x_s : Str) : Option (Str × Int) :=
 zdw x_s fuel 0

def zfa (rec3 : Str → (List api_Attr) → Option (Int × List api_Attr × Int)) (l25 : List api_Attr) (s48 : Str) (s68 : Str) (s69 : Str) (t70 : Bool) : Option (Int × List api_Attr × Int) :=
 if zJ l25.length 1 40 then (rec3 s68 (l25 ++ [(⟨s48,s69,t70⟩ : api_Attr)])) else none

def zdR (rec3 : Str → (List api_Attr) → Option (Int × List api_Attr × Int)) (l25 : List api_Attr) (s48 : Str) (s51 : Str) (t55 : Bool) : Option (Int × List api_Attr × Int) :=
 if t55 then ((zaG s51 1).bind fun s57 =>
 (zk1 s57).bind fun r58 =>
 if (r58.2 == 0) then (some (0,[],31)) else ((zq 1 r58.2).bind fun i66 =>
 (zaG s51 i66).bind fun s67 =>
 zfa rec3 l25 s48 s67 r58.1 true)) else (zfa rec3 l25 s48 s51 [] false)

def zdS (rec3 : Str → (List api_Attr) → Option (Int × List api_Attr × Int)) (rec4 : Int → Option (Int × List api_Attr × Int)) (s22 : Str) (l25 : List api_Attr) (i35 : Int) (t39 : Bool) : Option (Int × List api_Attr × Int) :=
 if t39 then ((zq i35 1).bind fun i42 =>
 rec4 i42) else (if (i35 == 1) then (some (0,[],31)) else ((zd0 s22 1 i35).bind fun s48 =>
 (zaG s22 i35).bind fun s51 =>
 if (!(s51 == [])) then ((sAt s51 0).bind fun b54 =>
 zdR rec3 l25 s48 s51 (b54 == 61)) else (zdR rec3 l25 s48 s51 false)))

def zcW (rec3 : Str → (List api_Attr) → Option (Int × List api_Attr × Int)) (s22 : Str) (l25 : List api_Attr) : Nat → Int → Option (Int × List api_Attr × Int)
 | 0,_ => none
 | n + 1,i35 =>
 if (decide (i35 < (s22.length : Int))) then ((sAt s22 i35).bind fun b37 =>
 (zjm b37).bind fun r38 =>
 zdS rec3 (zcW rec3 s22 l25 n) s22 l25 i35 r38) else (zdS rec3 (zcW rec3 s22 l25 n) s22 l25 i35 false)

def zZ (r13 : Int × Int) : Nat → Str → (List api_Attr) → Option (Int × List api_Attr × Int)
 | 0,_,_ => none
 | n + 1,s22,l25 =>
 if (!(s22 == [])) then ((sAt s22 0).bind fun b29 =>
 if (!(b29 == 59)) then (some (0,[],31)) else (zcW (zZ r13 n) s22 l25 fuel 1)) else (if (!(r13.2 == 0)) then (some (0,[],r13.2)) else (some (r13.1,l25,0)))

def zdT (rec1 : Int → Option (Int × List api_Attr × Int)) (x_a0 : Str) (i3 : Int) (t7 : Bool) : Option (Int × List api_Attr × Int) :=
 if t7 then ((zq i3 1).bind fun i10 =>
 rec1 i10) else ((sTo x_a0 i3).bind fun s12 =>
 (zfy s12 16 1099511627776).bind fun r13 =>
 if (r13.2 == 2) then (some (0,[],31)) else ((zaG x_a0 i3).bind fun s20 =>
 zZ r13 fuel s20 []))

def zcX (x_a0 : Str) : Nat → Int → Option (Int × List api_Attr × Int)
 | 0,_ => none
 | n + 1,i3 =>
 if (decide (i3 < (x_a0.length : Int))) then ((sAt x_a0 i3).bind fun b5 =>
 (zfY b5).bind fun r6 =>
 zdT (zcX x_a0 n) x_a0 i3 r6) else (zdT (zcX x_a0 n) x_a0 i3 false)

def zlm (x_a0 : Str) : Option (Int × List api_Attr × Int) :=
 zcX x_a0 fuel 0

def zeF (rec1 : Int → Int → Str → (List api_Field) → Int → Int → Int → Option ref19_Fate) (i5 : Int) (i6 : Int) (s7 : Str) (l10 : List api_Field) (i11 : Int) (i34 : Int) (i36 : Int) (r43 : api_Field × Int) (i49 : Int) : Option ref19_Fate :=
 if (!(i49 == 0)) then (some (⟨i34,i49,s7,l10,i11⟩ : ref19_Fate)) else (if zJ l10.length 1 32 then (rec1 i5 i6 s7 (l10 ++ [r43.1]) i11 i34 i36) else none)

def zhJ (rec1 : Int → Int → Str → (List api_Field) → Int → Int → Int → Option ref19_Fate) (i5 : Int) (i6 : Int) (s7 : Str) (l10 : List api_Field) (i11 : Int) (i34 : Int) (i36 : Int) (r43 : api_Field × Int) (t47 : Bool) : Option ref19_Fate :=
 if t47 then (zeF rec1 i5 i6 s7 l10 i11 i34 i36 r43 3) else (zeF rec1 i5 i6 s7 l10 i11 i34 i36 r43 r43.2)

def zbS (x_a1 : Str) (x_a3 : Int) : Nat → Int → Int → Str → (List api_Field) → Int → Int → Int → Option ref19_Fate
 | 0,_,_,_,_,_,_,_ => none
 | n + 1,i5,i6,s7,l10,i11,i12,i13 =>
 (zjo x_a1 i12 i13 x_a3).bind fun r14 =>
 if (decide (0 < r14.Bad)) then ((zq i12 r14.Bad).bind fun i19 =>
 some (⟨i19,r14.Err,s7,l10,i11⟩ : ref19_Fate)) else (if (r14.N == 0) then ((zbc (x_a1.length : Int) i12).bind fun i26 =>
 some (⟨i5,i6,s7,l10,i26⟩ : ref19_Fate)) else ((zq i12 r14.N).bind fun i30 =>
 (zbc i30 2).bind fun i31 =>
 (zd0 x_a1 i12 i31).bind fun s32 =>
 (zq i12 r14.N).bind fun i34 =>
 (zq i13 r14.N).bind fun i36 =>
 if (s32 == []) then (some (⟨i34,i6,s7,l10,i11⟩ : ref19_Fate)) else ((zgU s32).bind fun r43 =>
 if (r43.2 == 0) then (zhJ (zbS x_a1 x_a3 n) i5 i6 s7 l10 i11 i34 i36 r43 ((l10.length : Int) == 100)) else (zhJ (zbS x_a1 x_a3 n) i5 i6 s7 l10 i11 i34 i36 r43 false))))

def zpH (x_a0 : ref19_Fate) (x_a1 : Str) (x_a2 : Int) (x_a3 : Int) : Option ref19_Fate :=
 zbS x_a1 x_a3 fuel x_a0.At x_a0.Err x_a0.Body x_a0.Trailers x_a0.Line x_a2 0

def zcY (rec1 : Int → Int → Str → (List api_Field) → Int → Int → Int → Option ref19_Fate) (x_a1 : Str) (i7 : Int) (i8 : Int) (l12 : List api_Field) (i13 : Int) (i60 : Int) (s66 : Str) : Nat → Int → Int → Option ref19_Fate
 | 0,_,_ => none
 | n + 1,i76,i77 =>
 if (decide (i77 < ([13,10].length : Int))) then ((lAt [13,10] i77).bind fun x81 =>
 if (i76 == (x_a1.length : Int)) then (some (⟨i7,i8,s66,l12,i13⟩ : ref19_Fate)) else ((zq i76 1).bind fun i89 =>
 (zbc i89 1).bind fun i91 =>
 (sAt x_a1 i91).bind fun b92 =>
 if (!(b92 == x81)) then (some (⟨i89,31,s66,l12,i13⟩ : ref19_Fate)) else ((zq i77 1).bind fun i99 =>
 (zcY rec1 x_a1 i7 i8 l12 i13 i60 s66 n) i89 i99))) else (rec1 i7 i8 s66 l12 i13 i76 i60)

def zg5 (rec1 : Int → Int → Str → (List api_Field) → Int → Int → Int → Option ref19_Fate) (x_a0 : Int) (x_a1 : Str) (i7 : Int) (i8 : Int) (s9 : Str) (l12 : List api_Field) (i13 : Int) (i15 : Int) (r35 : Int × List api_Attr × Int) (i39 : Int) (i45 : Int) : Option ref19_Fate :=
 if (!(i45 == 0)) then (some (⟨i39,i45,s9,l12,i13⟩ : ref19_Fate)) else (if (r35.1 == 0) then ((zpH (⟨i7,i8,s9,l12,i13⟩ : ref19_Fate) x_a1 i39 x_a0).bind fun r54 =>
 some r54) else ((zq i15 r35.1).bind fun i60 =>
 (zbc (x_a1.length : Int) i39).bind fun i62 =>
 (zq i39 (min r35.1 i62)).bind fun i64 =>
 (zd0 x_a1 i39 i64).bind fun s65 =>
 (zlz s9 s65).bind fun s66 =>
 (zq i39 (min r35.1 i62)).bind fun i68 =>
 if (decide ((min r35.1 i62) < r35.1)) then (some (⟨i7,i8,s66,l12,i13⟩ : ref19_Fate)) else (zcY rec1 x_a1 i7 i8 l12 i13 i60 s66 fuel i68 0)))

def zjX (rec1 : Int → Int → Str → (List api_Field) → Int → Int → Int → Option ref19_Fate) (x_a0 : Int) (x_a1 : Str) (i7 : Int) (i8 : Int) (s9 : Str) (l12 : List api_Field) (i13 : Int) (i15 : Int) (r35 : Int × List api_Attr × Int) (i39 : Int) (t43 : Bool) : Option ref19_Fate :=
 if t43 then (zg5 rec1 x_a0 x_a1 i7 i8 s9 l12 i13 i15 r35 i39 7) else (zg5 rec1 x_a0 x_a1 i7 i8 s9 l12 i13 i15 r35 i39 r35.2.2)

def zcZ (x_a0 : Int) (x_a1 : Str) : Nat → Int → Int → Str → (List api_Field) → Int → Int → Int → Option ref19_Fate
 | 0,_,_,_,_,_,_,_ => none
 | n + 1,i7,i8,s9,l12,i13,i14,i15 =>
 (zjo x_a1 i14 0 (-1)).bind fun r16 =>
 if (decide (0 < r16.Bad)) then ((zq i14 r16.Bad).bind fun i21 =>
 some (⟨i21,r16.Err,s9,l12,i13⟩ : ref19_Fate)) else (if (r16.N == 0) then ((zbc (x_a1.length : Int) i14).bind fun i28 =>
 some (⟨i7,i8,s9,l12,i28⟩ : ref19_Fate)) else ((zq i14 r16.N).bind fun i32 =>
 (zbc i32 2).bind fun i33 =>
 (zd0 x_a1 i14 i33).bind fun s34 =>
 (zlm s34).bind fun r35 =>
 (zq i14 r16.N).bind fun i39 =>
 if (r35.2.2 == 0) then ((zbc 1099511627776 i15).bind fun i42 =>
 zjX (zcZ x_a0 x_a1 n) x_a0 x_a1 i7 i8 s9 l12 i13 i15 r35 i39 (decide (i42 < r35.1))) else (zjX (zcZ x_a0 x_a1 n) x_a0 x_a1 i7 i8 s9 l12 i13 i15 r35 i39 false)))

def zn5 (x_a0 : Int) (x_a1 : Str) : Option ref19_Fate :=
 zcZ x_a0 x_a1 fuel 0 0 [] [] 0 0 0

def zn6 (x_f : api_Frame) (x_limit : Int) (x_b : Str) : Option ref21_Fate :=
 if (x_f.Kind == 1) then (some (⟨0,0,[],[],0⟩ : ref21_Fate)) else (if (x_f.Kind == 2) then (if (decide ((x_b.length : Int) < x_f.N)) then (some ((⟨(-1),0,x_b,[],0⟩ : ref21_Fate))) else ((sTo x_b x_f.N).bind fun s14 =>
 some (⟨x_f.N,0,s14,[],0⟩ : ref21_Fate))) else (if (x_f.Kind == 4) then (some ((⟨(-1),0,x_b,[],0⟩ : ref21_Fate))) else ((zn5 x_limit x_b).bind fun r20 =>
 if (r20.At == 0) then (some ((⟨(-1),0,r20.Body,r20.Trailers,r20.Line⟩ : ref21_Fate))) else (some (⟨r20.At,r20.Err,r20.Body,r20.Trailers,0⟩ : ref21_Fate)))))

def zax (x_a2 : Str) (r11 : ref16_Fate) (r24 : api_Frame × Int) (r32 : ref21_Fate) (t40 : Bool) : Option ref22_Read :=
 if t40 then (some ((⟨(⟨r11.Head,r24.1,r32.Body,r32.Trailers⟩ : api_Message),(x_a2.length : Int),0⟩ : ref22_Read))) else (if (decide (r32.At < 0)) then (some ((⟨(⟨(⟨0,[],[],0,[],0,[]⟩ : api_Head),(⟨0,0⟩ : api_Frame),[],[]⟩ : api_Message),0,6⟩ : ref22_Read))) else (if (!(r32.Err == 0)) then (some ((⟨(⟨(⟨0,[],[],0,[],0,[]⟩ : api_Head),(⟨0,0⟩ : api_Frame),[],[]⟩ : api_Message),0,r32.Err⟩ : ref22_Read))) else ((zq r11.At r32.At).bind fun i52 =>
 some ((⟨(⟨r11.Head,r24.1,r32.Body,r32.Trailers⟩ : api_Message),i52,0⟩ : ref22_Read)))))

def zb3 (x_a0 : Int) (x_a1 : Str) (x_a2 : Str) (x_a3 : Int) (x_a4 : Bool) (t7 : Bool) : Option ref22_Read :=
 if t7 then (some ((⟨(⟨(⟨0,[],[],0,[],0,[]⟩ : api_Head),(⟨0,0⟩ : api_Frame),[],[]⟩ : api_Message),0,1⟩ : ref22_Read))) else ((zqm x_a0 x_a3 x_a2).bind fun r11 =>
 if (r11.At == 0) then (some ((⟨(⟨(⟨0,[],[],0,[],0,[]⟩ : api_Head),(⟨0,0⟩ : api_Frame),[],[]⟩ : api_Message),0,6⟩ : ref22_Read))) else (if (!(r11.Err == 0)) then (some ((⟨(⟨(⟨0,[],[],0,[],0,[]⟩ : api_Head),(⟨0,0⟩ : api_Frame),[],[]⟩ : api_Message),0,r11.Err⟩ : ref22_Read))) else ((zjW x_a1 r11.Head).bind fun r24 =>
 if (!(r24.2 == 0)) then (some ((⟨(⟨(⟨0,[],[],0,[],0,[]⟩ : api_Head),(⟨0,0⟩ : api_Frame),[],[]⟩ : api_Message),0,r24.2⟩ : ref22_Read))) else ((zaG x_a2 r11.At).bind fun s31 =>
 (zn6 r24.1 x_a3 s31).bind fun r32 =>
 if (r24.1.Kind == 4) then (zax x_a2 r11 r24 r32 x_a4) else (zax x_a2 r11 r24 r32 false)))))

def zih (x_a0 : Int) (x_a1 : Str) (x_a2 : Str) (x_a3 : Int) (x_a4 : Bool) : Option ref22_Read :=
 if (!(x_a0 == 1)) then (if (!(x_a0 == 2)) then (zb3 x_a0 x_a1 x_a2 x_a3 x_a4 true) else (if (decide (x_a3 < 0)) then (zb3 x_a0 x_a1 x_a2 x_a3 x_a4 true) else (zb3 x_a0 x_a1 x_a2 x_a3 x_a4 (decide (65536 < x_a3))))) else (if (decide (x_a3 < 0)) then (zb3 x_a0 x_a1 x_a2 x_a3 x_a4 true) else (zb3 x_a0 x_a1 x_a2 x_a3 x_a4 (decide (65536 < x_a3))))

def zcI (t9 : Bool) : Option Bool :=
 some t9

def zmL (x_a : api_Head) (x_b : api_Head) : Option Bool :=
 if (x_a.Kind == x_b.Kind) then (if (x_a.Method == x_b.Method) then (if (x_a.Target == x_b.Target) then (if (x_a.Minor == x_b.Minor) then (if (x_a.Code == x_b.Code) then (zcI (x_a.Reason == x_b.Reason)) else (zcI false)) else (zcI false)) else (zcI false)) else (zcI false)) else (zcI false)

def zeG (x_a : List api_Field) (x_b : List api_Field) : Nat → Int → Option Bool
 | 0,_ => none
 | n + 1,i7 =>
 if (decide (i7 < (x_a.length : Int))) then ((lAt x_a i7).bind fun x11 =>
 (lAt x_b i7).bind fun x14 =>
 if (!(x11 == x14)) then (some false) else ((zq i7 1).bind fun i21 =>
 (zeG x_a x_b n) i21)) else (some true)

def zjp (x_a : List api_Field) (x_b : List api_Field) : Option Bool :=
 if (!((x_a.length : Int) == (x_b.length : Int))) then (some false) else (zeG x_a x_b fuel 0)

def zhK (t7 : Bool) : Option Bool :=
 some t7

def zk2 (x_a : api_Head) (x_b : api_Head) : Option Bool :=
 (zmL x_a x_b).bind fun r4 =>
 if r4 then ((zjp x_a.Fields x_b.Fields).bind fun r6 =>
 zhK r6) else (zhK false)

def zf5 (t9 : Bool) : Option Bool :=
 some t9

def zk3 (x_a : api_Message) (x_b : api_Message) : Option Bool :=
 (zk2 x_a.Head x_b.Head).bind fun r4 =>
 if r4 then (if (x_a.Frame == x_b.Frame) then (if (x_a.Body == x_b.Body) then ((zjp x_a.Trailers x_b.Trailers).bind fun r8 =>
 zf5 r8) else (zf5 false)) else (zf5 false)) else (zf5 false)

def zf6 (x_a : List api_Message) (x_b : List api_Message) : Nat → Int → Option Bool
 | 0,_ => none
 | n + 1,i7 =>
 if (decide (i7 < (x_a.length : Int))) then ((lAt x_a i7).bind fun x11 =>
 (lAt x_b i7).bind fun x18 =>
 (zk3 x11 x18).bind fun r25 =>
 if (!r25) then (some false) else ((zq i7 1).bind fun i30 =>
 (zf6 x_a x_b n) i30)) else (some true)

def zk4 (x_a : List api_Message) (x_b : List api_Message) : Option Bool :=
 if (!((x_a.length : Int) == (x_b.length : Int))) then (some false) else (zf6 x_a x_b fuel 0)

def za0 (x_method : Str) : Nat → (List api_Message) → Str → Int → Int → Bool → Option (List api_Message × Int × stream_reader)
 | 0,_,_,_,_,_ => none
 | n + 1,l5,s7,i8,i9,t10 =>
 (zc9 (⟨s7,i8,i9,t10⟩ : stream_reader) 2 x_method).bind fun r11 =>
 if (!(r11.2.1 == 0)) then (some ([],r11.2.1,r11.2.2)) else (if zJ l5.length 1 152 then (if (decide (200 ≤ r11.1.Head.Code)) then (some (l5 ++ [r11.1],0,r11.2.2)) else ((za0 x_method n) (l5 ++ [r11.1]) r11.2.2.f_s r11.2.2.f_at r11.2.2.f_limit r11.2.2.f_ended)) else none)

def zer (x_r : stream_reader) (x_method : Str) : Option (List api_Message × Int × stream_reader) :=
 za0 x_method fuel [] x_r.f_s x_r.f_at x_r.f_limit x_r.f_ended

def zhp (l41 : List (List api_Message)) (s43 : Str) (i44 : Int) (i45 : Int) (t46 : Bool) : Option (List (List api_Message) × Int × Int) :=
 some (l41,i44,0)

def zb8 (x_methods : List Str) : Nat → (List (List api_Message)) → Str → Int → Int → Bool → Int → Option (List (List api_Message) × Int × Int)
 | 0,_,_,_,_,_,_ => none
 | n + 1,l8,s10,i11,i12,t13,i14 =>
 if (decide (i14 < (x_methods.length : Int))) then ((lAt x_methods i14).bind fun x18 =>
 (zer (⟨s10,i11,i12,t13⟩ : stream_reader) x18).bind fun r23 =>
 if (!(r23.2.1 == 0)) then (some (l8,i11,r23.2.1)) else (if zJ l8.length 1 24 then ((zq i14 1).bind fun i38 =>
 (zb8 x_methods n) (l8 ++ [r23.1]) r23.2.2.f_s r23.2.2.f_at r23.2.2.f_limit r23.2.2.f_ended i38) else none)) else (zhp l8 s10 i11 i12 t13)

def zhl (x_methods : List Str) (x_s : Str) (x_limit : Int) (x_ended : Bool) : Option (List (List api_Message) × Int × Int) :=
 zb8 x_methods fuel [] x_s 0 x_limit x_ended 0

def zd7 (rec1 : (List api_Message) → Int → Int → Option ref23_Row) (l7 : List api_Message) (i9 : Int) (i10 : Int) (r12 : ref22_Read) (i22 : Int) : Option ref23_Row :=
 if (!(i22 == 0)) then (some (⟨[],0,i22⟩ : ref23_Row)) else (if zJ l7.length 1 152 then ((zq i9 r12.N).bind fun i32 =>
 if (decide (200 ≤ r12.M.Head.Code)) then (some (⟨l7 ++ [r12.M],i32,i10⟩ : ref23_Row)) else (rec1 (l7 ++ [r12.M]) i32 i10)) else none)

def zd8 (rec1 : (List api_Message) → Int → Int → Option ref23_Row) (l7 : List api_Message) (i9 : Int) (i10 : Int) (r12 : ref22_Read) (t20 : Bool) : Option ref23_Row :=
 if t20 then (zd7 rec1 l7 i9 i10 r12 20) else (zd7 rec1 l7 i9 i10 r12 r12.Err)

def za1 (x_method : Str) (x_s : Str) (x_limit : Int) (x_ended : Bool) : Nat → (List api_Message) → Int → Int → Option ref23_Row
 | 0,_,_,_ => none
 | n + 1,l7,i9,i10 =>
 (zaG x_s i9).bind fun s11 =>
 (zih 2 x_method s11 x_limit x_ended).bind fun r12 =>
 if (r12.Err == 0) then (zd8 (za1 x_method x_s x_limit x_ended n) l7 i9 i10 r12 (r12.M.Head.Code == 101)) else (zd8 (za1 x_method x_s x_limit x_ended n) l7 i9 i10 r12 false)

def zhm (x_method : Str) (x_s : Str) (x_limit : Int) (x_ended : Bool) : Option ref23_Row :=
 za1 x_method x_s x_limit x_ended fuel [] 0 0

def zbu (t38 : Bool) : Option Bool :=
 some t38

def zbv (rec1 : Int → Int → Option Bool) (i19 : Int) (i20 : Int) (r28 : ref23_Row) (t48 : Bool) : Option Bool :=
 if t48 then (some false) else ((zq i19 r28.N).bind fun i52 =>
 (zq i20 1).bind fun i54 =>
 rec1 i52 i54)

def zbw (t58 : Bool) : Option Bool :=
 some t58

def zV (x_a2 : Bool) (s7 : Str) (l8 : List Str) (r12 : List (List api_Message) × Int × Int) : Nat → Int → Int → Option Bool
 | 0,_,_ => none
 | n + 1,i19,i20 =>
 if (decide (i20 < (l8.length : Int))) then ((lAt l8 i20).bind fun x24 =>
 (zaG s7 i19).bind fun s27 =>
 (zhm x24 s27 2000 x_a2).bind fun r28 =>
 if (!(r28.Err == 0)) then (if ((r12.1.length : Int) == i20) then (if (r12.2.1 == i19) then (zbu (r12.2.2 == r28.Err)) else (zbu false)) else (zbu false)) else (if (decide ((r12.1.length : Int) ≤ i20)) then (zbv (zV x_a2 s7 l8 r12 n) i19 i20 r28 true) else ((lAt r12.1 i20).bind fun x41 =>
 (zk4 x41 r28.L).bind fun r47 =>
 zbv (zV x_a2 s7 l8 r12 n) i19 i20 r28 (!r47)))) else (if ((r12.1.length : Int) == (l8.length : Int)) then (if (r12.2.1 == i19) then (zbw (r12.2.2 == 0)) else (zbw false)) else (zbw false))

def zdW (x_a0 : List Str) (x_a1 : Str) (x_a2 : Bool) : Option Bool :=
 (zll).bind fun r2 =>
 if (!r2) then (some false) else ((sTo x_a1 (min (x_a1.length : Int) 4000)).bind fun s7 =>
 (lTo x_a0 (min (x_a0.length : Int) 8)).bind fun l8 =>
 (zhl l8 s7 2000 x_a2).bind fun r12 =>
 zV x_a2 s7 l8 r12 fuel 0 0)

end Go.Dm
end
section
namespace Go.Dm
theorem zsV (b : Bool) (v : Int) (k : Nat) (h : -1 ≤ v) : (if b = true then (k : Int) else if v = -1 then -1 else v + ((k + 1 : Nat) : Int)) =
  if (if b = true then 0 else if (v == -1) = true then -1 else v + 1) = -1 then -1 else (if b = true then 0 else if (v == -1) = true then -1 else v + 1) + (k : Int) := by
 cases b with
 | true => simp
 | false =>
  by_cases hm : v = -1
  ·subst hm; simp
  ·have h2 : ¬ (v + 1 = -1) := by omega
   have h3 : (v == -1) = false := beq_eq_false_iff_ne.2 hm;rw [h3];simp only [Bool.false_eq_true,if_false,if_neg hm,if_neg h2];omega
theorem zrA : ∀ (l : Str) (c : UInt8) (k : Nat),zkk l c k = if Go.Lib.indexByte l c = -1 then -1 else Go.Lib.indexByte l c + k
 | [],_,_ => rfl
 | x :: l,c,k => by
  rw [zkk,Go.Lib.indexByte,zrA l c (k + 1)];exact zsV _ _ k (Go.Lib.indexByte_ge l c)
theorem zsW (x y : UInt8) : (x == y) = (y == x) := by
 by_cases h : x = y
 ·subst h; rfl
 ·rw [beq_eq_false_iff_ne.2 h,beq_eq_false_iff_ne.2 (Ne.symm h)]
theorem zsX : ∀ (s t : Str),zpG s t = t.isPrefixOf s
 | s,[] => by cases s <;> rfl
 | [],y :: t => rfl
 | x :: s,y :: t => by
  rw [zpG,List.isPrefixOf,zsX s t,zsW x y]
theorem zsY : ∀ (l t : Str) (k : Nat),zkP l t k = if Go.Lib.index l t = -1 then -1 else Go.Lib.index l t + k
 | [],t,k => by
  rw [zkP,Go.Lib.index];cases t <;> simp [zpG]
 | x :: l,t,k => by
  rw [zkP,Go.Lib.index,zsX];simp only [zsY l t (k + 1)];exact zsV _ _ k (Go.Lib.index_ge l t)
theorem zsZ : ∀ (l cs : Str) (k : Nat),znZ l cs k = if Go.Lib.indexAny l cs = -1 then -1 else Go.Lib.indexAny l cs + k
 | [],_,_ => rfl
 | x :: l,cs,k => by
  rw [znZ,Go.Lib.indexAny,zsZ l cs (k + 1)];exact zsV _ _ k (Go.Lib.indexAny_ge cs l)
theorem zwJ (l : Str) (c : UInt8) : zkk l c 0 = Go.Lib.indexByte l c := by
 rw [zrA]; have := Go.Lib.indexByte_ge l c; split <;> omega
theorem zs0 (l t : Str) : zkP l t 0 = Go.Lib.index l t := by
 rw [zsY]; have := Go.Lib.index_ge l t; split <;> omega
theorem zx0 (l cs : Str) : znZ l cs 0 = Go.Lib.indexAny l cs := by
 rw [zsZ]; have := Go.Lib.indexAny_ge cs l; split <;> omega
end Go.Dm
end
section
namespace Go.Dm
@[simp] theorem zA (l : Str) (i : Nat) : sAt l (i : Int) = l[i]? := by simp [sAt]
@[simp] theorem zg7 (l : Str) : sAt l 0 = l[0]? := by simp [sAt]
@[simp] theorem sAt_one (l : Str) : sAt l 1 = l[1]? := by simp [sAt]
@[simp] theorem sAt_two (l : Str) : sAt l 2 = l[2]? := by simp [sAt]
@[simp] theorem zaF {α : Type} (l : List α) (i : Nat) : lAt l (i : Int) = l[i]? := by simp [lAt]
@[simp] theorem zoc {α : Type} (l : List α) : lAt l 0 = l[0]? := by simp [lAt]
theorem zan {m n : Int} (h1 : -9223372036854775808 ≤ m + n) (h2 : m + n ≤ 9223372036854775807) : zq m n = some (m + n) := by simp [zq,inI,h1,h2]
theorem z8 {m n : Int} (h1 : -9223372036854775808 ≤ m - n) (h2 : m - n ≤ 9223372036854775807) : zbc m n = some (m - n) := by simp [zbc,inI,h1,h2]
theorem zy4 {m n : Int} (h1 : -9223372036854775808 ≤ m * n) (h2 : m * n ≤ 9223372036854775807) : ztZ m n = some (m * n) := by simp [ztZ,inI,h1,h2]
theorem zf {i : Nat} (h : i < 4611686018427387904) : zq (i : Int) 1 = some ((i + 1 : Nat) : Int) := by
 rw [zan (by omega) (by omega)]; simp
theorem zfc {i k : Nat} (h : i + k < 4611686018427387904) : zq (i : Int) (k : Int) = some ((i + k : Nat) : Int) := by
 rw [zan (by omega) (by omega)]; simp
theorem zbR {l : Str} {h : Nat} (hh : h ≤ l.length) : sTo l (h : Int) = some (l.take h) := by simp [sTo,hh]
theorem zB {l : Str} {i : Nat} (hh : i ≤ l.length) : zaG l (i : Int) = some (l.drop i) := by simp [zaG,hh]
theorem zbx {l : Str} {i h : Nat} (h1 : i ≤ h) (h2 : h ≤ l.length) : zd0 l (i : Int) (h : Int) = some ((l.take h).drop i) := by simp [zd0,h1,h2]
theorem zhn {l m : Str} (h : l.length + m.length ≤ 9223372036854775807) : zlz l m = some (l ++ m) := by simp [zlz,h]
theorem zeN {n : Nat} (h : n < 1000000000000000000) : n < fuel := h

theorem zva {α β : Type} (l : List α) (L : Nat → Int → Option β) (F : α → Option β → Option β) (E : Option β)
  (hE : ∀ n,L (n + 1) (l.length : Int) = E) (hL : ∀ n (i : Nat) x,i < l.length → l[i]? = some x → L (n + 1) (i : Int) = F x (L n ((i + 1 : Nat) : Int))) :
  ∀ (n i : Nat),i ≤ l.length → l.length - i < n → L n (i : Int) = (l.drop i).foldr F E
 | 0,_,_,h => by omega
 | n + 1,i,hi,h => by
  by_cases hlt : i < l.length
  ·rw [hL n i _ hlt (List.getElem?_eq_getElem hlt),zva l L F E hE hL n (i + 1) (by omega) (by omega),List.drop_eq_getElem_cons hlt];rfl
  ·have : i = l.length := by omega
   subst this;rw [hE,List.drop_length];rfl
theorem zk5 {α β : Type} (l : List α) (L : Nat → Int → Option β) (F : α → Option β → Option β) (E : Option β) (hl : l.length < 1000000000000000000)
  (hE : ∀ n,L (n + 1) (l.length : Int) = E) (hL : ∀ n (i : Nat) x,i < l.length → l[i]? = some x → L (n + 1) (i : Int) = F x (L n ((i + 1 : Nat) : Int))) : L fuel 0 = l.foldr F E := by
 have := zva l L F E hE hL fuel 0 (Nat.zero_le _) (zeN (by omega));simpa using this
theorem zbb {n m b : Nat} (h : (n + m) * b ≤ 140737488355328) (h2 : n + m ≤ 140737488355328) : zJ n m b = true := by
 simp only [zJ,Bool.and_eq_true,decide_eq_true_eq]; exact ⟨by omega,h⟩

theorem zP (p : UInt8 → Bool) (h : (List.range 256).all (fun n => p (UInt8.ofNat n)) = true) (b : UInt8) : p b = true := by
 have := List.all_eq_true.1 h b.toNat (by simpa using b.toNat_lt);simpa using this
theorem zAb {α : Type} (p : α → Bool) (l : List α) : l.foldr (fun x r => if p x = true then r else some false) (some true) = some (l.all p) := by
 induction l with
 | nil => rfl
 | cons x l ih => simp only [List.foldr_cons,ih,List.all_cons]; cases p x <;> simp
theorem zCM {α : Type} (p : α → Bool) (l : List α) : l.foldr (fun x r => if p x = true then some true else r) (some false) = some (l.any p) := by
 induction l with
 | nil => rfl
 | cons x l ih => simp only [List.foldr_cons,ih,List.any_cons]; cases p x <;> simp
theorem zDW (s : Str) (k : Nat) : sTo s (min (s.length : Int) (k : Int)) = some (s.take k) := by
 have e : min (s.length : Int) (k : Int) = ((min s.length k : Nat) : Int) := by omega
 rw [e,zbR (Nat.min_le_left _ _)]
 congr 1
 rcases Nat.le_total s.length k with h | h
 ·rw [Nat.min_eq_left h,List.take_length,List.take_of_length_le h]
 ·rw [Nat.min_eq_right h]
end Go.Dm
end
section
namespace Go.Dm
def zR (b : UInt8) : Bool := decide (48 ≤ b) && decide (b ≤ 57)
def zfo (b : UInt8) : UInt8 := if 65 ≤ b ∧ b ≤ 90 then b + 32 else b
def zB8 (b : UInt8) : Bool := decide (97 ≤ zfo b) && decide (zfo b ≤ 122)
def zcy (b : UInt8) : Bool := zR b || decide (97 ≤ zfo b) && decide (zfo b ≤ 102)
def zlD (b : UInt8) : Bool := zB8 b || zR b || ([45,46,95,126] : Str).contains b
def zt3 (b : UInt8) : Bool := ([33,36,38,39,40,41,42,43,44,59,61] : Str).contains b
def zp0 (b : UInt8) : Bool := zlD b || zt3 b || b == 58 || b == 64

theorem zxW (l : Str) (c : UInt8) (k : Nat) : decide (0 ≤ zkk l c k) = l.contains c := by
 induction l generalizing k with
 | nil => simp [zkk]
 | cons x l ih =>
  simp only [zkk,List.contains_cons]
  by_cases h : x = c
  ·simp [h]
  ·have h' : (c == x) = false := by simp; exact fun e => h e.symm
   simp [h,h',ih]
theorem zsL (b : UInt8) : zbh b = some (zfo b) :=
 of_decide_eq_true (zP (fun b => decide (zbh b = some (zfo b))) (by decide +kernel) b)
theorem zjc (b : UInt8) : zah b = some (zR b) :=
 of_decide_eq_true (zP (fun b => decide (zah b = some (zR b))) (by decide +kernel) b)
theorem zgn (b : UInt8) : zaV b = some (zcy b) :=
 of_decide_eq_true (zP (fun b => decide (zaV b = some (zcy b))) (by decide +kernel) b)
theorem zr0 (b : UInt8) : ziH b = some (zp0 b) :=
 of_decide_eq_true (zP (fun b => decide (ziH b = some (zp0 b))) (by decide +kernel) b)
theorem zsM (b : UInt8) : zfe b = some (zR b) :=
 of_decide_eq_true (zP (fun b => decide (zfe b = some (zR b))) (by decide +kernel) b)
theorem ziv (b : UInt8) : zfY b = some (zcy b) :=
 of_decide_eq_true (zP (fun b => decide (zfY b = some (zcy b))) (by decide +kernel) b)
theorem zt4 (b : UInt8) : zkZ b = some (zp0 b) :=
 of_decide_eq_true (zP (fun b => decide (zkZ b = some (zp0 b))) (by decide +kernel) b)

theorem zvw (b : UInt8) (l : Str) : l.any (fun x => x == b) = l.contains b := by
 induction l with
 | nil => rfl
 | cons x l ih =>
  simp only [List.any_cons,List.contains_cons,ih]
  congr 1
  rw [Bool.eq_iff_iff,beq_iff_eq,beq_iff_eq]; exact eq_comm
theorem zwF (b : UInt8) (l : Str) (hl : l.length < 1000000000) : zhE b l = some (l.contains b) := by
 unfold zhE;rw [zk5 l (zgB b l) (fun x r => if (x == b) = true then some true else r) (some false) (by omega)]
 ·rw [zCM,zvw]
 ·intro n; rw [zgB]; simp only [Int.lt_irrefl,decide_false,Bool.false_eq_true,if_false]
 ·intro n i x hi hx;rw [zgB];simp only [Int.ofNat_lt,hi,decide_true,if_true,zA,hx,yob,zf (show i < 4611686018427387904 by omega)]

theorem zey {p : UInt8 → Bool} {f : UInt8 → Option Bool} (hf : ∀ b,f b = some (p b)) (s : Str) (hs : s.length < 1000000000) : zeS f [s] = some (s.all p) := by
 unfold zeS
 have h2 : ∀ (rec1 : Int → Option Bool) (i : Int),zef rec1 f i s fuel 0 = s.foldr (fun x r => if p x = true then r else some false) ((zq i 1).bind rec1) := by
  intro rec1 i;refine zk5 s (zef rec1 f i s) _ _ (by omega) ?_ ?_
  ·intro n; rw [zef]; simp only [Int.lt_irrefl,decide_false,Bool.false_eq_true,if_false]
  ·intro n k x hk hx;rw [zef];simp only [Int.ofNat_lt,hk,decide_true,if_true,zA,hx,yob,hf,zf (show k < 4611686018427387904 by omega)];cases p x <;> rfl
 rw [zk5 [s] (zeg f [s]) (fun x r => x.foldr (fun x r => if p x = true then r else some false) r) (some true) (by simp)]
 ·simp only [List.foldr_cons,List.foldr_nil];exact zAb p s
 ·intro n; rw [zeg]; simp only [Int.lt_irrefl,decide_false,Bool.false_eq_true,if_false]
 ·intro n i x hi hx
  have hi0 : i = 0 := by simp at hi; exact hi
  subst hi0;simp at hx; subst hx;rw [zeg];simp [h2,zan]
def zF (b : UInt8) : Bool := zB8 b || zR b || ([33,35,36,37,38,39,42,43,45,46,94,95,96,124,126] : Str).contains b
def zfG (b : UInt8) : Bool := decide (32 ≤ b) && !(b == 127) || b == 9
theorem zlV (b : UInt8) : zdr b = some (zF b) :=
 of_decide_eq_true (zP (fun b => decide (zdr b = some (zF b))) (by decide +kernel) b)
theorem zjd (b : UInt8) : zcz b = some (zfG b) :=
 of_decide_eq_true (zP (fun b => decide (zcz b = some (zfG b))) (by decide +kernel) b)
theorem zni (b : UInt8) : zcp b = some (zlD b) :=
 of_decide_eq_true (zP (fun b => decide (zcp b = some (zlD b))) (by decide +kernel) b)
theorem zsN (b : UInt8) : zh3 b = some (zt3 b) :=
 of_decide_eq_true (zP (fun b => decide (zh3 b = some (zt3 b))) (by decide +kernel) b)
theorem ziw (b : UInt8) : zjm b = some (zF b) :=
 of_decide_eq_true (zP (fun b => decide (zjm b = some (zF b))) (by decide +kernel) b)
theorem zix (b : UInt8) : zgM b = some (zfG b) :=
 of_decide_eq_true (zP (fun b => decide (zgM b = some (zfG b))) (by decide +kernel) b)
theorem zoK (b : UInt8) : zdA b = some (zlD b) :=
 of_decide_eq_true (zP (fun b => decide (zdA b = some (zlD b))) (by decide +kernel) b)
theorem zvx (b : UInt8) : zks b = some (zt3 b) :=
 of_decide_eq_true (zP (fun b => decide (zks b = some (zt3 b))) (by decide +kernel) b)
theorem zo0 {α : Type} (p : α → Bool) (l : List α) (e : Bool) : l.foldr (fun x r => if p x = true then r else some false) (some e) = some (l.all p && e) := by
 induction l with
 | nil => simp
 | cons x l ih => simp only [List.foldr_cons,ih,List.all_cons]; cases p x <;> simp
def zeK (s : Str) : Bool := s.all zF && !(s == [])
theorem zkD (s : Str) (hs : s.length < 1000000000) : zff s = some (zeK s) := by
 unfold zff;rw [zk5 s (zdK s) (fun x r => if zF x = true then r else some false) (some (!(s == []))) (by omega)]
 ·rw [zo0]; rfl
 ·intro n; rw [zdK]; simp only [Int.lt_irrefl,decide_false,Bool.false_eq_true,if_false];cases s <;> simp
 ·intro n i x hi hx;rw [zdK];simp only [Int.ofNat_lt,hi,decide_true,if_true,zA,hx,yob,ziw,zf (show i < 4611686018427387904 by omega)];cases zF x <;> rfl
theorem zsO (s : Str) (hs : s.length < 1000000000) : zjL s = some (zeK s) := by
 unfold zjL zeK;rw [zey zlV s hs];cases s <;> simp [zgw]
end Go.Dm
end
section
namespace Go.Dm
def zbz (b : Nat) (l : List Nat) : Nat := l.foldl (fun n d => n * b + d) 0
theorem zuB (b : Nat) (l : List Nat) : ∀ n,l.foldl (fun n d => n * b + d) n = n * b ^ l.length + zbz b l := by
 unfold zbz
 induction l with
 | nil => intro n; simp
 | cons x l ih =>
  intro n;rw [List.foldl_cons,ih,List.foldl_cons,ih (0 * b + x),ylc,Nat.pow_succ,Nat.add_mul,Nat.zero_mul,Nat.zero_add,Nat.mul_assoc,Nat.mul_comm b,Nat.add_assoc]
theorem zAk (b : Nat) : zbz b [] = 0 := rfl
theorem zkn (b x : Nat) (l : List Nat) : zbz b (x :: l) = x * b ^ l.length + zbz b l := by
 have := zuB b l (0 * b + x);rw [Nat.zero_mul,Nat.zero_add] at this;rw [← this]; unfold zbz; rw [List.foldl_cons,Nat.zero_mul,Nat.zero_add]
theorem zqN (b x : Nat) (l : List Nat) : zbz b (l ++ [x]) = zbz b l * b + x := by
 unfold zbz; rw [List.foldl_append]; rfl
theorem zse {b : Nat} (hb : 0 < b) : ∀ {l : List Nat},(∀ d ∈ l,d < b) → zbz b l < b ^ l.length
 | [],_ => by simp [zbz]
 | x :: l,h => by
  have h1 := h x (List.mem_cons_self ..);have h2 := zse hb (l := l) fun d hd => h d (List.mem_cons_of_mem _ hd);rw [zkn,ylc,Nat.pow_succ];have : (x + 1) * b ^ l.length ≤ b * b ^ l.length := Nat.mul_le_mul_right _ h1;rw [Nat.add_mul,Nat.one_mul] at this;rw [Nat.mul_comm (b ^ l.length) b]; omega
def zlf (b : Nat) : Nat → Nat → List Nat
 | 0,n => [n % b]
 | k + 1,n => if n < b then [n] else zlf b k (n / b) ++ [n % b]
def zil (b n : Nat) : List Nat := zlf b 70 n
theorem zpk {b n k : Nat} (hb : 2 ≤ b) (h : n < 2 ^ (k + 1)) : n / b < 2 ^ k := by
 rw [Nat.div_lt_iff_lt_mul (by omega)]
 calc n < 2 ^ (k + 1) := h
  _ = 2 ^ k * 2 := Nat.pow_succ ..
  _ ≤ 2 ^ k * b := Nat.mul_le_mul_left _ hb
theorem zpl {b : Nat} (hb : 2 ≤ b) : ∀ (k m n : Nat),k ≤ m → n < 2 ^ (k + 1) → zlf b m n = zlf b k n
  | 0,0,n,_,_ => rfl
  | 0,m + 1,n,_,h => by
    have hn : n < b := by have : n < 2 := by simpa using h
                          omega
    show zlf b (m + 1) n = [n % b];rw [zlf,if_pos hn,Nat.mod_eq_of_lt hn]
  | k + 1,0,n,h,_ => by omega
  | k + 1,m + 1,n,hm,h => by
    rw [zlf,zlf]
    split
    · rfl
    · rw [zpl hb k m (n / b) (by omega) (zpk hb h)]
theorem zlN {b n : Nat} (hb : 2 ≤ b) (hn : b ≤ n) (h : n < 2 ^ 64) : zil b n = zil b (n / b) ++ [n % b] := by
 have h1 := zpl hb 64 70 n (by decide) (Nat.lt_of_lt_of_le h (Nat.pow_le_pow_right (by decide) (by decide)));have h2 := zpl hb 63 70 (n / b) (by decide) (zpk hb (Nat.lt_of_lt_of_le h (Nat.pow_le_pow_right (by decide) (by decide))));unfold zil;rw [h1,h2,zlf,if_neg (by omega)]
theorem zfl {b n : Nat} (hn : n < b) : zil b n = [n] := by unfold zil; rw [zlf,if_pos hn]
theorem zpQ {b : Nat} (hb : 2 ≤ b) {P : Nat → Prop} (h0 : ∀ n,n < b → P n) (h1 : ∀ n,b ≤ n → n < 2 ^ 64 → P (n / b) → P n) : ∀ n,n < 2 ^ 64 → P n := by
 intro n
 induction n using Nat.strongRecOn with
 | _ n ih =>
  intro hn
  by_cases h : n < b
  ·exact h0 n h
  ·have : n / b < n := Nat.div_lt_self (by omega) (by omega);exact h1 n (by omega) hn (ih _ this (by omega))
theorem zwi {b : Nat} (hb : 2 ≤ b) : ∀ n,n < 2 ^ 64 → zbz b (zil b n) = n :=
 zpQ hb (fun n h => by rw [zfl h]; simp [zbz]) fun n h hn ih => by
  rw [zlN hb h hn,zqN,ih,Nat.mul_comm]; exact Nat.div_add_mod n b
theorem zCX {b : Nat} (hb : 2 ≤ b) : ∀ n,n < 2 ^ 64 → ∀ d ∈ zil b n,d < b :=
 zpQ hb (fun n h d hd => by rw [zfl h] at hd; simp at hd; omega) fun n h hn ih d hd => by
  rw [zlN hb h hn] at hd
  rcases List.mem_append.1 hd with hd | hd
  ·exact ih d hd
  ·simp at hd; subst hd; exact Nat.mod_lt _ (by omega)
theorem zvk {b n : Nat} : zil b n ≠ [] := by
 unfold zil; rw [zlf]; split <;> simp
theorem zuC {b : Nat} (hb : 2 ≤ b) : ∀ n,n < 2 ^ 64 → n = 0 ∨ (zil b n).head? ≠ some 0 :=
 zpQ hb (fun n h => by
  rw [zfl h]; by_cases e : n = 0
  ·exact .inl e
  ·exact .inr (by simpa using e)) fun n h hn ih => by
  right
  rw [zlN hb h hn]
  rcases ih with h0 | h0
  ·have : b ≤ n := h;have : 0 < n / b := Nat.div_pos h (by omega);omega
  ·cases hd : zil b (n / b) with
   | nil => exact absurd hd zvk
   | cons x l => rw [hd] at h0; simpa using h0
theorem zAl {b : Nat} (hb : 2 ≤ b) : ∀ n,n < 2 ^ 64 → (zil b n).length ≤ 71 := by
  have : ∀ k n,(zlf b k n).length ≤ k + 1 := by
    intro k
    induction k with
    | zero => intro n; simp [zlf]
    | succ k ih => intro n; rw [zlf]; split
                   · simp
                   · simp; exact ih _
  intro n _; exact this 70 n
def zsn : List Nat → List Nat → Bool
 | _,[] => false
 | [],_ :: _ => true
 | x :: l,y :: m => decide (x < y) || (x == y && zsn l m)
theorem zyx {b : Nat} (hb : 0 < b) : ∀ (l m : List Nat),l.length = m.length → (∀ d ∈ l,d < b) → (∀ d ∈ m,d < b) → zsn l m = decide (zbz b l < zbz b m)
 | [],[],_,_,_ => by simp [zsn]
 | [],_ :: _,h,_,_ => by simp at h
 | _ :: _,[],h,_,_ => by simp at h
 | x :: l,y :: m,h,hl,hm => by
  have e : l.length = m.length := by simpa using h
  have h1 := zse hb (l := l) fun d hd => hl d (List.mem_cons_of_mem _ hd);have h2 := zse hb (l := m) fun d hd => hm d (List.mem_cons_of_mem _ hd);rw [zsn,zyx hb l m e (fun d hd => hl d (List.mem_cons_of_mem _ hd)) (fun d hd => hm d (List.mem_cons_of_mem _ hd)),zkn,zkn,e];rw [e] at h1
  rcases Nat.lt_trichotomy x y with hxy | hxy | hxy
  ·have : (x + 1) * b ^ m.length ≤ y * b ^ m.length := Nat.mul_le_mul_right _ hxy;rw [Nat.add_mul,Nat.one_mul] at this
   have h3 : x * b ^ m.length + zbz b l < y * b ^ m.length + zbz b m := by omega
   simp [hxy,h3]
  ·subst hxy; simp
  ·have : (y + 1) * b ^ m.length ≤ x * b ^ m.length := Nat.mul_le_mul_right _ hxy;rw [Nat.add_mul,Nat.one_mul] at this
   have h3 : ¬ x * b ^ m.length + zbz b l < y * b ^ m.length + zbz b m := by omega
   have h4 : ¬ x < y := by omega
   have h5 : (x == y) = false := beq_eq_false_iff_ne.2 (by omega);simp [h3,h4,h5]
def dch (d : Nat) : UInt8 := if d < 10 then UInt8.ofNat (48 + d) else UInt8.ofNat (87 + d)
def zw (l : List Nat) : Str := l.map dch
def wor (c : UInt8) : Nat := if zR c then (c - 48).toNat else (zfo c - 97).toNat + 10
def zlg (b : Nat) (c : UInt8) : Bool := if b = 10 then zR c else zcy c
theorem zzd : ∀ d : Nat,d < 16 → (wor (dch d) = d ∧ zcy (dch d) = true ∧ (d < 10 → zR (dch d) = true)) := by decide
theorem dch_lt : ∀ d : Nat,d < 16 → ∀ e : Nat,e < 16 → (decide (dch d < dch e) = decide (d < e) ∧ (dch d == dch e) = (d == e)) := by decide
theorem zrt : ∀ (l m : List Nat),(∀ d ∈ l,d < 16) → (∀ d ∈ m,d < 16) → zsx (zw l) (zw m) = zsn l m
 | [],[],_,_ => rfl
 | [],_ :: _,_,_ => rfl
 | _ :: _,[],_,_ => rfl
 | x :: l,y :: m,hl,hm => by
  have ih := zrt l m (fun d hd => hl d (List.mem_cons_of_mem _ hd)) (fun d hd => hm d (List.mem_cons_of_mem _ hd));obtain ⟨h1,h2⟩ := dch_lt x (hl x (List.mem_cons_self ..)) y (hm y (List.mem_cons_self ..));show (decide (dch x < dch y) || (dch x == dch y && zsx (zw l) (zw m))) = _;rw [h1,h2,ih,zsn]
theorem zqO (b : UInt8) : zhx b = some (wor b : Int) :=
 of_decide_eq_true (zP (fun b => decide (zhx b = some (wor b : Int))) (by decide +kernel) b)
theorem zAm (c : UInt8) : (zR c = true → wor c < 10) ∧ (zcy c = true → wor c < 16) :=
 of_decide_eq_true (zP (fun c => decide ((zR c = true → wor c < 10) ∧ (zcy c = true → wor c < 16))) (by decide +kernel) c)
theorem zso (c : UInt8) (b : Int) (n : Nat) {i : Int} (hn : n ≤ fuel) (h : (zM c b n i).isSome = true) : zM c b fuel i = zM c b n i := by
 obtain ⟨k,hk⟩ : ∃ k,fuel = n + k := ⟨fuel - n,by omega⟩;rw [hk]
 clear hk hn
 induction n generalizing i with
 | zero => simp [zM] at h
 | succ n ih =>
  rw [Nat.add_right_comm,zM,zM];rw [zM] at h
  split
  ·rename_i hlt
   rw [if_pos hlt] at h
   cases hs : sAt [48,49,50,51,52,53,54,55,56,57,97,98,99,100,101,102] i with
   | none => rfl
   | some x =>
    rw [hs] at h;simp only [yob] at h ⊢
    split
    ·rfl
    ·rename_i hne
     rw [if_neg hne] at h
     cases hs2 : sAt [48,49,50,51,52,53,54,55,56,57,65,66,67,68,69,70] i with
     | none => rfl
     | some y =>
      rw [hs2] at h;simp only [yob,zgC] at h ⊢
      split
      ·rfl
      ·rename_i hne2
       rw [if_neg hne2] at h
       cases hi : zq i 1 with
       | none => rfl
       | some j => rw [hi] at h; exact ih h
  ·rfl
theorem zsp (c : UInt8) : zel c 10 = some (if zR c then (wor c : Int) else -1) := by
 have h1 : zM c 10 20 0 = some (if zR c then (wor c : Int) else -1) := of_decide_eq_true (zP (fun c => decide (zM c 10 20 0 = some (if zR c then (wor c : Int) else -1))) (by decide +kernel) c);unfold zel;rw [← h1];exact zso c 10 20 (by decide) (by rw [h1]; rfl)
theorem zsq (c : UInt8) : zel c 16 = some (if zcy c then (wor c : Int) else -1) := by
 have h1 : zM c 16 20 0 = some (if zcy c then (wor c : Int) else -1) := of_decide_eq_true (zP (fun c => decide (zM c 16 20 0 = some (if zcy c then (wor c : Int) else -1))) (by decide +kernel) c);unfold zel;rw [← h1];exact zso c 16 20 (by decide) (by rw [h1]; rfl)
def zim (b : Nat) : Prop := b = 10 ∨ b = 16
theorem zim.two {b : Nat} (h : zim b) : 2 ≤ b ∧ b ≤ 16 := by rcases h with rfl | rfl <;> omega
theorem zno {b : Nat} (hb : zim b) (c : UInt8) : zel c (b : Int) = some (if zlg b c then (wor c : Int) else -1) := by
 rcases hb with rfl | rfl
 ·exact zsp c
 ·exact zsq c
theorem zsr {b : Nat} (hb : zim b) {c : UInt8} (h : zlg b c = true) : wor c < b := by
 rcases hb with rfl | rfl
 ·exact (zAm c).1 h
 ·exact (zAm c).2 h
theorem zss : ∀ d : Nat,d < 16 → zd0 [48,49,50,51,52,53,54,55,56,57,97,98,99,100,101,102] (d : Int) ((d + 1 : Nat) : Int) = some [dch d] := by decide
theorem zwj {b : Nat} (hb : zim b) : ∀ (k m n : Nat),k ≤ m → n < 2 ^ (k + 1) → k < 63 → zcQ (m + 1) (n : Int) (b : Int) = some (zw (zil b n)) := by
  obtain ⟨h2,h16⟩ := hb.two;intro k
  induction k with
  | zero =>
    intro m n _ h _
    have hn : n < b := by have : n < 2 := by simpa using h
                          omega
    rw [zcQ,zfl hn];simp only [Int.ofNat_lt,hn,decide_true,if_true,zf (show n < 4611686018427387904 by omega),yob,zss n (by omega)];rfl
  | succ k ih =>
    intro m n hm h hk;obtain ⟨m,rfl⟩ : ∃ j,m = j + 1 := ⟨m - 1,by omega⟩;have hbig : n < 2 ^ 64 := Nat.lt_of_lt_of_le h (Nat.pow_le_pow_right (by decide) (by omega))
    have hq : ∀ q : Nat,q ≤ n → inI (q : Int) = true := fun q hq => zlh.2 (by
      have : n < 2 ^ 63 := Nat.lt_of_lt_of_le h (Nat.pow_le_pow_right (by decide) (by omega))
      omega)
    rw [zcQ]
    by_cases hn : n < b
    · rw [zfl hn]
      simp only [Int.ofNat_lt,hn,decide_true,if_true,zf (show n < 4611686018427387904 by omega),yob,zss n (by omega)];rfl
    · have e1 : zvq (n : Int) (b : Int) = some ((n / b : Nat) : Int) := by
        unfold zvq;rw [if_pos ⟨by omega,by omega,by rw [← Int.natCast_ediv]; exact hq _ (Nat.div_le_self n b)⟩,Int.natCast_ediv]
      have e2 : zxI (n : Int) (b : Int) = some ((n % b : Nat) : Int) := by
        unfold zxI;rw [if_pos ⟨by omega,by omega,by rw [← Int.natCast_emod]; exact hq _ (Nat.mod_le n b)⟩,Int.natCast_emod]
      have hlt : n % b < b := Nat.mod_lt _ (by omega);have hlen := zAl h2 (n / b) (by have := Nat.div_le_self n b; omega)
      have hn' : ¬ decide ((n : Int) < (b : Int)) = true := by simp; omega
      have e3 := ih m (n / b) (by omega) (zpk h2 h) (by omega);have e4 := zss (n % b) (by omega);have e5 := zf (i := n % b) (by omega);have e6 := zlN h2 (show b ≤ n by omega) hbig
      generalize n / b = q at *
      generalize n % b = r at *
      have e7 : zlz (zw (zil b q)) [dch r] = some (zw (zil b q) ++ [dch r]) := zhn (by simp [zw]; omega);rw [if_neg hn',e1,yob,e3,yob,e2,yob,yob,e5,yob,e4,yob,e7,yob,e6];simp [zw]
theorem zj3 {b : Nat} (hb : zim b) (n : Nat) (hn : n < 2 ^ 63) : zfx (n : Int) (b : Int) = some (zw (zil b n)) := by
 unfold zfx;obtain ⟨m,hm⟩ : ∃ m,fuel = m + 1 := ⟨999999999999999999,rfl⟩;rw [hm];exact zwj hb 62 m n (by unfold fuel at hm; omega) (by omega) (by omega)
def zmY (b : Nat) (n : Int) : Str := if n < 0 then [] else zw (zil b n.toNat)
theorem ztV {b : Nat} (hb : zim b) (n : Int) (hn : inI n = true) : zkW n (b : Int) = some (zmY b n) := by
 obtain ⟨h1,h2⟩ := zlh.1 hn;unfold zkW zmY
 by_cases h : n < 0
 ·simp [h]
 ·obtain ⟨k,rfl⟩ : ∃ k : Nat,n = k := ⟨n.toNat,by omega⟩;simp [h,zj3 hb k (by omega)]
theorem dec_eq : ∀ n,n < 2 ^ 64 → Go.Lib.decDigits n = zw (zil 10 n) :=
 zpQ (b := 10) (by decide) (fun n h => by rw [Go.Lib.decDigits,dif_pos h,zfl h]; simp [zw,dch,h]) fun n h hn ih => by
  rw [Go.Lib.decDigits,dif_neg (by omega),ih,zlN (by decide) h hn];have : n % 10 < 10 := Nat.mod_lt _ (by decide);simp [zw,dch,this]
theorem zrY (n : Int) (hn : inI n = true) : ziG n = some (zmY 10 n) := by
 obtain ⟨h1,h2⟩ := zlh.1 hn;unfold ziG zkl zmY
 by_cases h : n < 0
 ·simp [h]
 ·obtain ⟨k,rfl⟩ : ∃ k : Nat,n = k := ⟨n.toNat,by omega⟩
  have hk : ¬ ((k : Int) < 0) := by omega
  simp [hk,zgb,hn,Go.Lib.itoa,dec_eq k (by omega)]
def vals (s : Str) : List Nat := s.map wor
def zL (b : Nat) (s : Str) (most : Int) : Int × Int :=
 if (s == [] || !s.all (zlg b)) = true then (0,2) else if most < (zbz b (vals s) : Int) then (0,7) else (((zbz b (vals s) : Nat) : Int),0)
theorem zCY {b : Nat} (hb : zim b) {s : Str} (h : s.all (zlg b) = true) : ∀ d ∈ vals s,d < b := by
 intro d hd;obtain ⟨c,hc,rfl⟩ := List.mem_map.1 hd;exact zsr hb (List.all_eq_true.1 h c hc)
theorem zuD {b : Nat} (hb : 1 ≤ b) (l m : List Nat) : zbz b l ≤ zbz b (l ++ m) := by
 unfold zbz;rw [List.foldl_append];generalize l.foldl (fun n d => n * b + d) 0 = n;rw [zuB];have : 1 ≤ b ^ m.length := Nat.one_le_pow _ _ hb;have := Nat.le_mul_of_pos_right n this;omega
theorem zxC {b : Nat} (hb : zim b) (s : Str) (most : Int) (hs : s.length < 1000000000) (hd : s.all (zlg b) = true) (hm : most < 4611686018427387904) (hm0 : -4611686018427387904 < most) (hne : s ≠ []) :
  zbA s (b : Int) most fuel 0 0 = some (if most < (zbz b (vals s) : Int) then (0,7) else (((zbz b (vals s) : Nat) : Int),0)) := by
 obtain ⟨h2,h16⟩ := hb.two
 have key : ∀ (n i v : Nat),i ≤ s.length → s.length - i < n → v = zbz b (vals (s.take i)) → (i = 0 ∨ (v : Int) ≤ most) → (i < s.length ∨ (v : Int) ≤ most) →
   zbA s (b : Int) most n (v : Int) (i : Int) = some (if most < (zbz b (vals s) : Int) then (0,7) else (((zbz b (vals s) : Nat) : Int),0)) := by
  intro n
  induction n with
  | zero => intro i v _ h; omega
  | succ n ih =>
   intro i v hi h hv h0 h1;rw [zbA]
   by_cases hlt : i < s.length
   ·have hx : s[i]? = some s[i] := ygg hlt;have hw : wor s[i] < b := zsr hb (List.all_eq_true.1 hd _ (ygm hlt))
    have htk : vals (s.take (i + 1)) = vals (s.take i) ++ [wor s[i]] := by
     unfold vals;rw [List.take_succ_eq_append_getElem hlt,List.map_append]; rfl
    have hv' : zbz b (vals (s.take (i + 1))) = v * b + wor s[i] := by rw [htk,zqN, ← hv]
    have hle : zbz b (vals (s.take (i + 1))) ≤ zbz b (vals s) := by
     have := zuD (b := b) (by omega) (vals (s.take (i + 1))) (vals (s.drop (i + 1)));unfold vals at this ⊢
     rwa [← List.map_append,List.take_append_drop] at this
    simp only [Int.ofNat_lt,hlt,decide_true,if_true,zA,hx,yob,zqO]
    by_cases hov : most < (wor s[i] : Int)
    ·have : most < (zbz b (vals s) : Int) := by
      have := yz (v * b); omega
     simp [hov,zd3,this]
    ·have hsub : zbc most (wor s[i] : Int) = some (most - (wor s[i] : Int)) := z8 (by omega) (by omega)
     have hdv : zvq (most - (wor s[i] : Int)) (b : Int) = some ((most - (wor s[i] : Int)) / (b : Int)) := by
      unfold zvq;have h5 : 0 ≤ (most - (wor s[i] : Int)) / (b : Int) := Int.ediv_nonneg (by omega) (by omega);have h6 : (most - (wor s[i] : Int)) / (b : Int) ≤ most - (wor s[i] : Int) := Int.ediv_le_self _ (by omega);rw [if_pos ⟨by omega,by omega,by rw [zlh]; omega⟩]
     have hiff : (most - (wor s[i] : Int)) / (b : Int) < (v : Int) ↔ most < ((v * b + wor s[i] : Nat) : Int) := by
      rw [Int.ediv_lt_iff_lt_mul (by omega)]
      push_cast
      omega
     simp only [hov,decide_false,Bool.false_eq_true,if_false,hsub,hdv,yob,zd3]
     by_cases hov2 : (most - (wor s[i] : Int)) / (b : Int) < (v : Int)
     ·have h7 : most < (zbz b (vals s) : Int) := by have := hiff.1 hov2; omega
      simp [hov2,h7]
     ·have h7 : ((v * b + wor s[i] : Nat) : Int) ≤ most := by have := (not_congr hiff).1 hov2; omega
      have hmul : ztZ (v : Int) (b : Int) = some ((v * b : Nat) : Int) := by
       rw [zy4 (by rw [← Int.natCast_mul]; omega) (by rw [← Int.natCast_mul]; omega),Int.natCast_mul]
      have hadd : zq ((v * b : Nat) : Int) (wor s[i] : Int) = some ((v * b + wor s[i] : Nat) : Int) := by
       rw [zan (by omega) (by omega)]; simp
      simp only [hov2,decide_false,Bool.false_eq_true,if_false,hmul,hadd,yob,zf (show i < 4611686018427387904 by omega)];exact ih (i + 1) (v * b + wor s[i]) (by omega) (by omega) hv'.symm (.inr h7) (.inr h7)
   ·have : i = s.length := by omega
    subst this;rw [List.take_length] at hv
    have h8 : ¬ most < (zbz b (vals s) : Int) := by rw [← hv]; rcases h1 with h1 | h1 <;> omega
    simp [h8,hv]
 have := key fuel 0 0 (yz _) (by unfold fuel; omega) (by simp [vals,zbz]) (.inl rfl) (.inl (by cases s with | nil => exact absurd rfl hne | cons _ _ => simp));simpa using this
theorem zmZ {b : Nat} (hb : zim b) (s : Str) (most : Int) (hs : s.length < 1000000000) (hm : most < 4611686018427387904) (hm0 : -4611686018427387904 < most) {f : UInt8 → Option Bool} (hf : ∀ c,f c = some (zlg b c)) :
  zha s (b : Int) most f = some (zL b s most) := by
 unfold zha zL
 rcases zdX (s == []) with h | h
 ·rw [h]; simp [zd4]
 ·rw [h];rw [zey hf s hs];simp only [Bool.false_eq_true,if_false,yob,zd4,Bool.false_or]
  rcases zdX (s.all (zlg b)) with h2 | h2
  ·rw [h2];simp only [ynt,Bool.false_eq_true,if_false];exact zxC hb s most hs h2 hm hm0 (by simpa using h)
  ·rw [h2]; simp
theorem zfm (s : Str) (most : Int) (hs : s.length < 1000000000) (hm : most < 4611686018427387904) (hm0 : -4611686018427387904 < most) : zcc s most = some (zL 10 s most) := by
 unfold zcc;have := zmZ (.inl rfl) s most hs hm hm0 (f := zah) zjc;rw [show ((10 : Nat) : Int) = 10 from rfl] at this;rw [this]; rfl
theorem zst (s : Str) (most : Int) (hs : s.length < 1000000000) (hm : most < 4611686018427387904) (hm0 : -4611686018427387904 < most) : zjQ s most = some (zL 16 s most) := by
 unfold zjQ;have := zmZ (.inr rfl) s most hs hm hm0 (f := zaV) zgn;rw [show ((16 : Nat) : Int) = 16 from rfl] at this;rw [this]; rfl
def zjz : List Nat → List Nat
 | 0 :: l => zjz l
 | l => l
theorem zqP (b : Nat) : ∀ l,zbz b (zjz l) = zbz b l
 | [] => rfl
 | 0 :: l => by rw [zjz,zqP b l,zkn,Nat.zero_mul,Nat.zero_add]
 | (n + 1) :: l => rfl
theorem zsu : ∀ l,(zjz l).head? ≠ some 0
 | [] => by simp [zjz]
 | 0 :: l => by rw [zjz]; exact zsu l
 | (n + 1) :: l => by simp [zjz]
theorem zuE : ∀ {l : List Nat} {d : Nat},d ∈ zjz l → d ∈ l
 | [],_,h => h
 | 0 :: l,d,h => by rw [zjz] at h; exact List.mem_cons_of_mem _ (zuE h)
 | (n + 1) :: l,_,h => h
theorem zuF : ∀ l,(zjz l).length ≤ l.length
 | [] => Nat.le_refl _
 | 0 :: l => by rw [zjz]; have := zuF l; simp; omega
 | (n + 1) :: l => Nat.le_refl _
def zjA (l : List Nat) : List Nat := if zjz l = [] then [0] else zjz l
theorem zAn {b : Nat} (hb : zim b) (s : Str) (hs : s.length < 1000000000) :
  zjR s (b : Int) = some (if s.all (zlg b) then (zw (zjA (vals s)), !(s == [])) else ([],false)) := by
 obtain ⟨h2,h16⟩ := hb.two;unfold zjR
 have key : ∀ (n i : Nat) (acc : List Nat),i ≤ s.length → s.length - i < n → acc.length ≤ i → (acc = [] ∨ acc.head? ≠ some 0) →
   zbY s (b : Int) n (zw acc) (i : Int) = some (if (s.drop i).all (zlg b) then (zw (if acc = [] then zjA (vals (s.drop i)) else acc ++ vals (s.drop i)), !(s == [])) else ([],false)) := by
  intro n
  induction n with
  | zero => intro i acc _ h; omega
  | succ n ih =>
   intro i acc hi h ha h0;rw [zbY]
   by_cases hlt : i < s.length
   ·have hx : s[i]? = some s[i] := ygg hlt;rw [ydg hlt];generalize hc : s[i] = c at hx ⊢;simp only [Int.ofNat_lt,hlt,decide_true,if_true,zA,hx,yob,zno hb,List.all_cons]
    rcases zdX (zlg b c) with hdg | hdg
    ·have hw := zsr hb hdg
     have hw0 : ¬ ((wor c : Int) < 0) := by omega
     have hdig : zfx (wor c : Int) (b : Int) = some [dch (wor c)] := by
      rw [zj3 hb _ (by omega),zfl hw]; rfl
     have hcat : zlz (zw acc) [dch (wor c)] = some (zw (acc ++ [wor c])) := by
      rw [zhn (by simp [zw]; omega)]; simp [zw]
     simp only [hdg,if_true,hw0,decide_false,Bool.false_eq_true,if_false,zgE,zgD,hdig,hcat,yob,zf (show i < 4611686018427387904 by omega),Bool.true_and];have hvc : vals (c :: s.drop (i + 1)) = wor c :: vals (s.drop (i + 1)) := rfl
     cases acc with
     | nil =>
      by_cases hz : wor c = 0
      ·have hz' : ¬ (0 < (wor c : Int)) := by omega
       simp only [show (zw [] == ([] : Str)) = true from rfl,ynt,Bool.false_eq_true,if_false,hz',decide_false];have := ih (i + 1) [] (by omega) (by omega) (by simp) (.inl rfl);rw [show zw [] = ([] : Str) from rfl] at this ⊢;rw [this];simp only [if_true,hvc,hz,zjA,zjz]
      ·have hz' : 0 < (wor c : Int) := by omega
       simp only [show (zw [] == ([] : Str)) = true from rfl,ynt,Bool.false_eq_true,if_false,hz',decide_true,if_true];rw [ih (i + 1) ([] ++ [wor c]) (by omega) (by omega) (by simp) (.inr (by simpa using hz))];obtain ⟨m,hm⟩ : ∃ m,wor c = m + 1 := ⟨wor c - 1,by omega⟩;simp [hvc,zjA,hm,zjz]
     | cons y acc =>
      simp only [show (zw (y :: acc) == ([] : Str)) = false from rfl,ynf,if_true]
      have hy : (y :: acc ++ [wor c]) = [] ∨ (y :: acc ++ [wor c]).head? ≠ some 0 := by
       right
       rcases h0 with h0 | h0
       ·cases h0
       ·simpa using h0
      rw [ih (i + 1) (y :: acc ++ [wor c]) (by omega) (by omega) (by simp at ha ⊢; omega) hy];simp [hvc]
    ·simp [hdg]
   ·have : i = s.length := by omega
    subst this;simp only [Int.lt_irrefl,decide_false,Bool.false_eq_true,if_false,ydl,List.all_nil,if_true,zgF]
    cases acc with
    | nil => simp [zw,zjA,vals,zjz,dch]
    | cons y acc => simp [zw,vals]
 have := key fuel 0 [] (yz _) (by unfold fuel; omega) (by simp) (.inl rfl);simpa [zw] using this
theorem zwk {b : Nat} (hb : 0 < b) {l : List Nat} (h : ∀ d ∈ l,d < b) : zjA l ≠ [] ∧ (∀ d ∈ zjA l,d < b) ∧ (zjA l = [0] ∨ (zjA l).head? ≠ some 0) ∧ zbz b (zjA l) = zbz b l ∧ (zjA l).length ≤ l.length + 1 := by
 unfold zjA
 by_cases e : zjz l = []
 ·rw [if_pos e];have := zqP b l;rw [e,zAk] at this;refine ⟨by simp,fun d hd => by simp at hd; omega, .inl rfl,by simp [zbz] at this ⊢; exact this,by simp⟩
 ·rw [if_neg e];exact ⟨e,fun d hd => h d (zuE hd), .inr (zsu l),zqP b l,by have := zuF l; omega⟩
theorem zAo {b : Nat} (hb : 2 ≤ b) (l m : List Nat) (hl0 : l ≠ []) (hm0 : m ≠ []) (hl : ∀ d ∈ l,d < b) (hm : ∀ d ∈ m,d < b) (zl : l = [0] ∨ l.head? ≠ some 0) (zm : m = [0] ∨ m.head? ≠ some 0) :
  (decide (l.length < m.length) || (l.length == m.length && zsn l m)) = decide (zbz b l < zbz b m) := by
 have low : ∀ x : List Nat,x ≠ [] → x.head? ≠ some 0 → b ^ (x.length - 1) ≤ zbz b x := by
  intro x hx h0
  cases x with
  | nil => exact absurd rfl hx
  | cons y t =>
   have hy : 1 ≤ y := by
    rcases Nat.eq_zero_or_pos y with e | e
    ·subst e; simp at h0
    ·exact e
   rw [zkn,ylc,Nat.add_sub_cancel];have := Nat.mul_le_mul_right (b ^ t.length) hy;rw [Nat.one_mul] at this; omega
 have cmp : ∀ x y : List Nat,x ≠ [] → y ≠ [] → (∀ d ∈ x,d < b) → (y = [0] ∨ y.head? ≠ some 0) → x.length < y.length → zbz b x < zbz b y := by
  intro x y hx hy hxd zy h
  have hyh : y.head? ≠ some 0 := by
   rcases zy with e | e
   ·have : 1 ≤ x.length := by cases x with | nil => exact absurd rfl hx | cons _ _ => simp
    rw [e] at h;have h' : x.length < 1 := h;omega
   ·exact e
  have h1 := zse (b := b) (by omega) hxd;have h2 := low y hy hyh;have h3 : b ^ x.length ≤ b ^ (y.length - 1) := Nat.pow_le_pow_right (by omega) (by omega);omega
 rcases Nat.lt_trichotomy l.length m.length with h | h | h
 ·have := cmp l m hl0 hm0 hl zm h;simp [h,this]
 ·rw [h,zyx (b := b) (by omega) l m h hl hm]; simp
 ·have h1 := cmp m l hm0 hl0 hm zl h
  have h2 : ¬ l.length < m.length := by omega
  have h3 : (l.length == m.length) = false := beq_eq_false_iff_ne.2 (by omega)
  have h4 : ¬ zbz b l < zbz b m := by omega
  simp [h2,h3,h4]
theorem zlO (l : List Nat) : (zw l).length = l.length := by simp [zw]
theorem zqQ {b : Nat} (hb : zim b) (l : List Nat) (q : Bool) (hl : ∀ d ∈ l,d < b) (hlen : l.length < 2000000000) (hv : zbz b l < 4611686018427387904) :
  zeC (b : Int) (zw l,q) fuel 0 0 = some (((zbz b l : Nat) : Int),0) := by
 obtain ⟨h2,h16⟩ := hb.two
 have key : ∀ (n i v : Nat),i ≤ l.length → l.length - i < n → v = zbz b (l.take i) → zeC (b : Int) (zw l,q) n (v : Int) (i : Int) = some (((zbz b l : Nat) : Int),0) := by
  intro n
  induction n with
  | zero => intro i v _ h; omega
  | succ n ih =>
   intro i v hi h hvv;rw [zeC]
   by_cases hlt : i < l.length
   ·have hx : (zw l)[i]? = some (dch l[i]) := by simp [zw,hlt]
    have hd : l[i] < b := hl _ (ygm hlt);obtain ⟨w1,w2,w3⟩ := zzd l[i] (by omega)
    have hdg : zlg b (dch l[i]) = true := by
     rcases hb with rfl | rfl
     ·exact w3 hd
     ·exact w2
    have hv' : zbz b (l.take (i + 1)) = v * b + l[i] := by
     rw [List.take_succ_eq_append_getElem hlt,zqN, ← hvv]
    have hle : zbz b (l.take (i + 1)) ≤ zbz b l := by
     have := zuD (b := b) (by omega) (l.take (i + 1)) (l.drop (i + 1))
     rwa [List.take_append_drop] at this
    have hmul : ztZ (v : Int) (b : Int) = some ((v * b : Nat) : Int) := by
     rw [zy4 (by rw [← Int.natCast_mul]; omega) (by rw [← Int.natCast_mul]; omega),Int.natCast_mul]
    have hadd : zq ((v * b : Nat) : Int) (l[i] : Int) = some ((v * b + l[i] : Nat) : Int) := by
     rw [zan (by omega) (by omega)]; simp
    simp only [zlO,Int.ofNat_lt,hlt,decide_true,if_true,hmul,yob,zA,hx,zno hb,hdg,w1,hadd,zf (show i < 4611686018427387904 by omega)];exact ih (i + 1) _ (by omega) (by omega) hv'.symm
   ·have : i = l.length := by omega
    subst this;rw [List.take_length] at hvv;simp [zlO,hvv]
 have := key fuel 0 0 (yz _) (by unfold fuel; omega) (by simp [zbz]);simpa using this
theorem zjt {b : Nat} (hb : zim b) (s : Str) (most : Int) (hs : s.length < 1000000000) (hm : most < 4611686018427387904) (hm0 : -4611686018427387904 < most) : zfy s (b : Int) most = some (zL b s most) := by
 obtain ⟨h2,h16⟩ := hb.two;unfold zfy zL;rw [zAn hb s hs,yob]
 rcases zdX (s.all (zlg b)) with hd | hd
 ·rw [hd];simp only [if_true,ynt,Bool.or_false]
  rcases zdX (s == []) with he | he
  ·rw [he]; simp
  ·rw [he];have hv := zCY hb hd;obtain ⟨c1,c2,c3,c4,c5⟩ := zwk (b := b) (by omega) hv
   have hlen : (vals s).length = s.length := by simp [vals]
   simp only [ynf,ynt,Bool.false_eq_true,if_false]
   by_cases hneg : most < 0
   ·have h7 : most < (zbz b (vals s) : Int) := by omega
    simp [hneg,h7,zfX]
   ·obtain ⟨k,rfl⟩ : ∃ k : Nat,most = k := ⟨most.toNat,by omega⟩
    have hk : k < 2 ^ 64 := by omega
    have hless : zkV (zw (zil b k)) (zw (zjA (vals s))) = some (decide (k < zbz b (vals s))) := by
     unfold zkV;have d1 := zCX h2 k hk
     have d3 : zil b k = [0] ∨ (zil b k).head? ≠ some 0 := by
      rcases zuC h2 k hk with e | e
      ·left; subst e; exact zfl (by omega)
      ·exact .inr e
     have := zAo h2 (zil b k) (zjA (vals s)) zvk c1 d1 c2 d3 c3;rw [zwi h2 k hk,c4] at this;rw [← this,zlO,zlO,zrt _ _ (fun d hd => by have := d1 d hd; omega) (fun d hd => by have := c2 d hd; omega)]
     by_cases h1 : (zil b k).length < (zjA (vals s)).length
     ·simp [h1,zdu]
     ·by_cases h3 : (zil b k).length = (zjA (vals s)).length
      ·simp [h3,zdu]
      ·have h4 : (((zil b k).length : Int) == ((zjA (vals s)).length : Int)) = false := beq_eq_false_iff_ne.2 (by omega);simp [h1,h3,h4,zdu]
    simp only [hneg,decide_false,Bool.false_eq_true,if_false,zj3 hb k (by omega),yob,hless,zfX]
    by_cases h7 : k < zbz b (vals s)
    ·have h8 : (k : Int) < (zbz b (vals s) : Int) := by omega
     simp [h7,h8]
    ·have h8 : ¬ ((k : Int) < (zbz b (vals s) : Int)) := by omega
     simp only [h7,decide_false,Bool.false_eq_true,if_false,h8];rw [zqQ hb _ _ c2 (by omega) (by rw [c4]; omega),c4]
 ·rw [hd]; simp
end Go.Dm
end
section
namespace Go.Dm
def low (s : Str) : Str := s.map zfo
theorem zju (s : Str) (hs : s.length < 1000000000) : zhU s = some (low s) := by
 unfold zhU;rw [if_pos (by omega)];unfold low
 clear hs
 induction s with
 | nil => rfl
 | cons x s ih => simp [List.mapM_cons,zsL,ih]
theorem upAt : ∀ j : Nat,j < 26 → (([65,66,67,68,69,70,71,72,73,74,75,76,77,78,79,80,81,82,83,84,85,86,87,88,89,90] : Str)[j]? = some (UInt8.ofNat (65 + j)) ∧
  zd0 [97,98,99,100,101,102,103,104,105,106,107,108,109,110,111,112,113,114,115,116,117,118,119,120,121,122] (j : Int) ((j + 1 : Nat) : Int) = some [UInt8.ofNat (97 + j)]) := by decide
theorem zqT (rec1 : Str → Int → Option Str) (t : Str) (s4 : Str) (i : Nat) (x : UInt8) (hx : t[i]? = some x) : ∀ (k j n : Nat) (s : Str),j + k = 26 → k < n →
  zcD rec1 t s4 (i : Int) n s (j : Int) = (zlz s4 (if 65 + j ≤ x.toNat ∧ x.toNat < 91 then [x + 32] else s)).bind fun s27 => (zq (i : Int) 1).bind fun i29 => rec1 s27 i29 := by
 intro k
 induction k with
 | zero =>
  intro j n s hj hn;obtain ⟨n,rfl⟩ : ∃ m,n = m + 1 := ⟨n - 1,by omega⟩
  obtain rfl : j = 26 := by omega
  have h0 : ¬ (65 + 26 ≤ x.toNat ∧ x.toNat < 91) := by omega
  rw [zcD,if_neg h0];rfl
 | succ k ih =>
  intro j n s hj hn;obtain ⟨n,rfl⟩ : ∃ m,n = m + 1 := ⟨n - 1,by omega⟩;obtain ⟨h1,h2⟩ := upAt j (by omega)
  have hj26 : (j : Int) < 26 := by omega
  rw [zcD];simp only [hj26,decide_true,if_true,zA,h1,hx,yob,zf (show j < 4611686018427387904 by omega),h2,zhH];rw [ih (j + 1) n _ (by omega) (by omega),ih (j + 1) n _ (by omega) (by omega)]
  by_cases he : UInt8.ofNat (65 + j) = x
  ·subst he
   have e1 : (UInt8.ofNat (65 + j)).toNat = 65 + j := by simp; omega
   have e2 : UInt8.ofNat (97 + j) = UInt8.ofNat (65 + j) + 32 := by
    apply UInt8.toNat_inj.1; simp; omega
   simp only [ybs,if_true,e1];rw [if_neg (by omega),if_pos (by omega),e2]
  ·have hb : (UInt8.ofNat (65 + j) == x) = false := beq_eq_false_iff_ne.2 he;have hne : x.toNat ≠ 65 + j := fun e => he (by apply UInt8.toNat_inj.1; simp; omega);simp only [hb,Bool.false_eq_true,if_false]
   have : (65 + (j + 1) ≤ x.toNat ∧ x.toNat < 91) ↔ (65 + j ≤ x.toNat ∧ x.toNat < 91) := by omega
   simp only [this]
theorem zzm (x : UInt8) : (if 65 ≤ x.toNat ∧ x.toNat < 91 then [x + 32] else [x]) = [zfo x] := by
 have hi : (65 ≤ x ∧ x ≤ 90) ↔ (65 ≤ x.toNat ∧ x.toNat < 91) := by
  have h1 : (65 ≤ x) ↔ (65 ≤ x.toNat) := Iff.rfl;have h2 : (x ≤ 90) ↔ (x.toNat ≤ 90) := Iff.rfl;rw [h1,h2]; omega
 unfold zfo
 by_cases h : 65 ≤ x.toNat ∧ x.toNat < 91
 ·rw [if_pos h,if_pos (hi.2 h)]
 ·rw [if_neg h,if_neg (fun e => h (hi.1 e))]
theorem zjv (s : Str) (hs : s.length < 1000000000) : zfA s = some (low s) := by
 unfold zfA
 have key : ∀ (n i : Nat) (acc : Str),acc.length = i → i ≤ s.length → s.length - i < n → zcE s n acc (i : Int) = some (acc ++ low (s.drop i)) := by
  intro n
  induction n with
  | zero => intro i acc _ _ h; omega
  | succ n ih =>
   intro i acc ha hi h;rw [zcE]
   by_cases hlt : i < s.length
   ·have hx : s[i]? = some s[i] := ygg hlt
    have e1 : (s.take (i + 1)).drop i = [s[i]] := by
     rw [List.drop_take,ydg hlt,show i + 1 - i = 1 by omega];rfl
    have h2 := zqT (zcE s n) s acc i s[i] hx 26 0 fuel [s[i]] rfl (by unfold fuel; omega);simp only [Int.natCast_zero,Nat.add_zero,zzm] at h2;simp only [Int.ofNat_lt,hlt,decide_true,if_true,zf (show i < 4611686018427387904 by omega),yob,zbx (show i ≤ i + 1 by omega) (show i + 1 ≤ s.length by omega),e1,h2,zhn (show acc.length + [zfo s[i]].length ≤ 9223372036854775807 by simp; omega)];rw [ih (i + 1) _ (by simp [ha]) (by omega) (by omega),ydg hlt];show some ((acc ++ [zfo s[i]]) ++ low (s.drop (i + 1))) = some (acc ++ (zfo s[i] :: low (s.drop (i + 1))));rw [yaa];rfl
   ·have : i = s.length := by omega
    subst this;simp [low]
 have := key fuel 0 [] rfl (yz _) (by unfold fuel; omega);simpa using this
theorem zoW (a b : Str) (ha : a.length < 1000000000) (hb : b.length < 1000000000) : zjk a b = some (low a == low b) := by
 unfold zjk;rw [zju a ha,zju b hb]; rfl
end Go.Dm
end
section
namespace Go.Dm
def upto (cs s : Str) : Str := s.takeWhile (fun c => !cs.contains c)
def zap (cs s : Str) : Str := s.dropWhile (fun c => !cs.contains c)
theorem zcn (cs s : Str) : upto cs s ++ zap cs s = s := List.takeWhile_append_dropWhile
theorem zmx (cs s : Str) : (upto cs s).length ≤ s.length := by
 have := congrArg List.length (zcn cs s); simp at this; omega
theorem zlY (cs s : Str) : s.take (upto cs s).length = upto cs s := by
 have h := zcn cs s
 conv => lhs; arg 2; rw [← h]
 exact List.take_left
theorem zjf (cs s : Str) : s.drop (upto cs s).length = zap cs s := by
 have h := zcn cs s
 conv => lhs; arg 2; rw [← h]
 exact List.drop_left
theorem zec (cs s : Str) : zap cs s = [] ↔ (upto cs s).length = s.length := by
 have h := congrArg List.length (zcn cs s);simp only [yla] at h;rw [← List.length_eq_zero_iff]; omega
theorem zoz {cs s : Str} {c : UInt8} {r : Str} (h : zap cs s = c :: r) : cs.contains c = true := by
 have := List.head?_dropWhile_not (fun c => !cs.contains c) s;unfold zap at h;rw [h] at this;simpa using this
theorem ztd {cs s : Str} : ∀ c ∈ upto cs s,cs.contains c = false := by
 intro c hc;have h : (upto cs s).all (fun c => !cs.contains c) = true := List.all_takeWhile;have := List.all_eq_true.1 h c hc;simpa using this
theorem zjE {cs s : Str} {x : UInt8} (h : cs.contains x = true) : upto cs (x :: s) = [] := by
 unfold upto; rw [List.takeWhile_cons_of_neg (by rw [h]; simp)]
theorem zjF {cs s : Str} {x : UInt8} (h : cs.contains x = true) : zap cs (x :: s) = x :: s := by
 unfold zap; rw [List.dropWhile_cons_of_neg (by rw [h]; simp)]
theorem zjG {cs s : Str} {x : UInt8} (h : cs.contains x = false) : upto cs (x :: s) = x :: upto cs s := by
 unfold upto; rw [List.takeWhile_cons_of_pos (by rw [h]; rfl)]
theorem zjH {cs s : Str} {x : UInt8} (h : cs.contains x = false) : zap cs (x :: s) = zap cs s := by
 unfold zap; rw [List.dropWhile_cons_of_pos (by rw [h]; rfl)]

theorem zu1 (cs : Str) : ∀ (s : Str) (k : Nat),znZ s cs k = if zap cs s = [] then -1 else ((k + (upto cs s).length : Nat) : Int)
 | [],k => by simp [znZ,zap]
 | x :: s,k => by
  simp only [znZ]
  by_cases h : cs.contains x = true
  ·rw [if_pos h,zjE h,zjF h]; simp
  ·have h' : cs.contains x = false := by simpa using h
   rw [if_neg h,zu1 cs s (k + 1)];rw [zjH h',zjG h',ylc]
   split
   ·rfl
   ·congr 1; omega
theorem zvI (s p : Str) (hs : s.length < 1000000000) : stringslite_HasPrefix s p = some (p.isPrefixOf s) := by
 unfold stringslite_HasPrefix
 by_cases h : p.length ≤ s.length
 ·have h' : (p.length : Int) ≤ (s.length : Int) := by omega
  simp only [h',decide_true,if_true,zbR h,yob,zaL]
  congr 1
  rw [Bool.eq_iff_iff,beq_iff_eq,List.isPrefixOf_iff_prefix,List.prefix_iff_eq_take];exact eq_comm
 ·have h' : ¬ (p.length : Int) ≤ (s.length : Int) := by omega
  simp only [h',decide_false,Bool.false_eq_true,if_false,zaL]
  congr 1
  rw [eq_comm,Bool.eq_false_iff];intro hp;rw [List.isPrefixOf_iff_prefix] at hp;exact h hp.length_le
theorem zgr (s p : Str) (hs : s.length < 1000000000) : strings_HasPrefix s p = some (p.isPrefixOf s) := by
 unfold strings_HasPrefix;rw [zvI s p hs]; rfl
theorem zkd (s cs : Str) (hs : s.length < 1000000000) (hc : cs.length < 1000000000) (ha : cs.all (fun c => c.toNat < 128) = true) :
  strings_IndexAny s cs = some (if zap cs s = [] then -1 else ((upto cs s).length : Int)) := by
 unfold strings_IndexAny;rw [if_pos ⟨by omega,by omega,ha⟩,zu1,Nat.zero_add]
theorem zwY (cs s : Str) : zap cs s = [] ↔ s.any cs.contains = false := by
 induction s with
 | nil => simp [zap]
 | cons x s ih =>
  rcases zdX (cs.contains x) with h | h
  ·rw [zjF h,List.any_cons,h]; simp
  ·rw [zjH h,ih,List.any_cons,h,Bool.false_or]
theorem ziz (s cs : Str) (hs : s.length < 1000000000) (hc : cs.length < 1000000000) (ha : cs.all (fun c => c.toNat < 128) = true) : strings_ContainsAny s cs = some (s.any cs.contains) := by
 unfold strings_ContainsAny;rw [zkd s cs hs hc ha,yob]
 rcases zdX (s.any cs.contains) with h | h
 ·have e : ¬ zap cs s = [] := fun e => by rw [(zwY cs s).1 e] at h; cases h
  rw [if_neg e,h]; simp
 ·rw [if_pos ((zwY cs s).2 h),h]; rfl

end Go.Dm
end
section
namespace Go.Dm
def scn (s : Str) (k : Nat) : scan_Scanner := ⟨s,(k : Int)⟩
theorem zh0 (s : Str) : ziE s = some (scn s 0) := rfl
theorem zmm (s : Str) (k : Nat) : zcb (scn s k) = some (k : Int) := rfl
theorem zpV {s : Str} {k : Nat} (h : k ≤ s.length) : zX (scn s k) = some (s.drop k) := by
 unfold zX scn;rw [zB h]; rfl
theorem znt {s : Str} {k : Nat} (h : k ≤ s.length) : zaM (scn s k) = some (s.drop k == []) := by
 unfold zaM;rw [zpV h]; rfl
theorem zly {s : Str} {k : Nat} (h : k ≤ s.length) (hd : s.drop k = []) : zE (scn s k) = some (0,false) := by
 unfold zE;rw [znt h,hd]; rfl
theorem zkA {s : Str} {k : Nat} {x : UInt8} {r : Str} (h : k ≤ s.length) (hd : s.drop k = x :: r) : zE (scn s k) = some (x,true) := by
 unfold zE;rw [znt h,hd]
 have hx : s[k]? = some x := by
  have := congrArg (·[0]?) hd;simpa using this
 simp [scn,hx]
theorem ztX {s : Str} {k : Nat} (b : UInt8) (h : k ≤ s.length) (hd : s.drop k = []) : zj (scn s k) b = some (false,scn s k) := by
 unfold zj;rw [zly h hd]; rfl
theorem ziq {s : Str} {k : Nat} {x : UInt8} {r : Str} (b : UInt8) (h : k ≤ s.length) (hs : s.length < 1000000000) (hd : s.drop k = x :: r) : zj (scn s k) b = some (x == b,if x == b then scn s (k + 1) else scn s k) := by
 unfold zj;rw [zkA h hd];simp only [yob,ynt,Bool.false_eq_true,if_false,zcK]
 rcases zdX (x == b) with hb | hb
 ·rw [hb]; simp [scn,zf (show k < 4611686018427387904 by omega)]
 ·rw [hb]; simp
theorem zfn {s : Str} {k : Nat} {x : UInt8} {r : Str} (hd : s.drop k = x :: r) : k < s.length ∧ s.drop (k + 1) = r := by
 have hl : k < s.length := by
  rcases Nat.lt_or_ge k s.length with h | h
  ·exact h
  ·rw [List.drop_eq_nil_of_le h] at hd; cases hd
 refine ⟨hl,?_⟩;rw [ydg hl] at hd;exact (List.cons.inj hd).2
theorem ztY {f : UInt8 → Option Bool} {p : UInt8 → Bool} (hf : ∀ b,f b = some (p b)) {s : Str} {k : Nat} (hs : s.length < 1000000000) (hk : k ≤ s.length) :
  zai (scn s k) f = some ((s.drop k).takeWhile p,scn s (k + ((s.drop k).takeWhile p).length)) := by
 unfold zai;rw [zmm,yob];show z7 f k fuel s k = _
 have key : ∀ (n i : Nat),k ≤ i → i ≤ s.length → s.length - i < n → z7 f k n s i = some ((s.take (i + ((s.drop i).takeWhile p).length)).drop k,scn s (i + ((s.drop i).takeWhile p).length)) := by
  intro n
  induction n with
  | zero => intro i _ _ h; omega
  | succ n ih =>
   intro i hki hi h;rw [z7];have e : (⟨s,(i : Int)⟩ : scan_Scanner) = scn s i := rfl;rw [e]
   cases hd : s.drop i with
   | nil =>
    rw [zly hi hd];simp [zbo,zci,zbx hki hi,scn]
   | cons x r =>
    obtain ⟨hlt,hr⟩ := zfn hd;rw [zkA hi hd];simp only [yob,ynt,Bool.false_eq_true,if_false,hf,zbo,zf (show i < 4611686018427387904 by omega),ih (i + 1) (by omega) (by omega) (by omega),hr,List.takeWhile_cons]
    rcases zdX (p x) with hp | hp
    ·rw [hp]; simp [Nat.add_assoc,Nat.add_comm 1]
    ·rw [hp]; simp [zci,zbx hki hi,scn]
 rw [key fuel k (Nat.le_refl _) hk (by unfold fuel; omega)]
 congr 2
 rw [List.drop_take,Nat.add_sub_cancel_left];have := List.takeWhile_prefix (l := s.drop k) p;exact (List.prefix_iff_eq_take.1 this).symm
theorem zmn (p : UInt8 → Bool) (s : Str) : (s.takeWhile p).length ≤ s.length := (List.takeWhile_prefix p).length_le
theorem zzl (p : UInt8 → Bool) (s : Str) (k : Nat) (hk : k ≤ s.length) : s.drop (k + ((s.drop k).takeWhile p).length) = (s.drop k).dropWhile p ∧ k + ((s.drop k).takeWhile p).length ≤ s.length := by
 refine ⟨?_,?_⟩
 ·rw [← List.drop_drop];generalize s.drop k = t;have h := List.takeWhile_append_dropWhile (p := p) (l := t)
  conv => lhs; arg 2; rw [← h]
  exact List.drop_left
 ·have := zmn p (s.drop k);rw [yld] at this; omega
end Go.Dm
end
section
namespace Go.Dm
structure At (s : Str) (k : Nat) (r : Str) : Prop where
 le : k ≤ s.length
 drop : s.drop k = r
theorem At.zero (s : Str) : At s 0 s := ⟨yz _,rfl⟩
theorem At.len {s : Str} {k : Nat} {r : Str} (h : At s k r) : k + r.length = s.length := by
 have := congrArg List.length h.drop;rw [yld] at this;have := h.le;omega
theorem At.le_len {s : Str} {k : Nat} {r : Str} (h : At s k r) : r.length ≤ s.length := by have := h.len; omega
theorem At.next {s : Str} {k : Nat} {r : Str} (h : At s k r) (n : Nat) (hn : n ≤ r.length) : At s (k + n) (r.drop n) :=
 ⟨by have := h.len; omega,by rw [← List.drop_drop,h.drop]⟩
def zy6 : Str → UInt8 × Bool
 | [] => (0,false)
 | x :: _ => (x,true)
def zev (b : UInt8) (r : Str) : Bool := r.head? == some b
def zaa (b : UInt8) (r : Str) : Str := if zev b r then r.drop 1 else r
theorem zaS (b x : UInt8) (r : Str) : zev b (x :: r) = (x == b) := Option.some_beq_some ..
theorem zam (b : UInt8) (r : Str) : zaa b (b :: r) = r := by unfold zaa; rw [zaS,ybs,if_pos rfl]; rfl
theorem zk8 {b : UInt8} {r : Str} (h : zev b r = false) : zaa b r = r := by unfold zaa; rw [h]; rfl
theorem zeI {b : UInt8} {r : Str} (h : zev b r = true) : r = b :: zaa b r := by
 cases r with
 | nil => cases h
 | cons x r =>
  rw [zaS] at h
  have : x = b := by simpa using h
  subst this;rw [zam]
section
variable {s r : Str} {k : Nat}
theorem zv9 (h : At s k r) : zaM (scn s k) = some (r == []) := by rw [znt h.le,h.drop]
theorem zsj (h : At s k r) : zX (scn s k) = some r := by rw [zpV h.le,h.drop]
theorem zqt (h : At s k r) : zE (scn s k) = some (zy6 r) := by
 cases r with
 | nil => exact zly h.le h.drop
 | cons x r => exact zkA h.le h.drop
theorem zfD (hs : s.length < 1000000000) (b : UInt8) (h : At s k r) : ∃ k',At s k' (zaa b r) ∧ zj (scn s k) b = some (zev b r,scn s k') := by
 cases r with
 | nil => exact ⟨k,h,ztX b h.le h.drop⟩
 | cons x r =>
  rw [ziq b h.le hs h.drop,zaS];unfold zaa;rw [zaS]
  cases x == b with
  | true => exact ⟨k + 1,h.next 1 (by simp),rfl⟩
  | false => exact ⟨k,h,rfl⟩
theorem zmi {f : UInt8 → Option Bool} {p : UInt8 → Bool} (hf : ∀ b,f b = some (p b)) (hs : s.length < 1000000000) (h : At s k r) : ∃ k',At s k' (r.dropWhile p) ∧ zai (scn s k) f = some (r.takeWhile p,scn s k') := by
 have e := ztY hf hs h.le;rw [h.drop] at e;have hd := zzl p s k h.le;rw [h.drop] at hd;exact ⟨_,⟨hd.2,hd.1⟩,e⟩
theorem zqu (hs : s.length < 1000000000) (h : At s k r) : ∃ k',At s k' (r.dropWhile zF) ∧ zaU (scn s k) = some (r.takeWhile zF, !(r.takeWhile zF == []),scn s k') := by
 obtain ⟨k',h1,h2⟩ := zmi zlV hs h;refine ⟨k',h1,?_⟩;unfold zaU;rw [h2]; rfl
theorem zDX (hs : s.length < 1000000000) (t : Str) (ht : t.length < 1000000000) (h : At s k r) : ∃ k',At s k' (if t.isPrefixOf r then r.drop t.length else r) ∧ zc4 (scn s k) t = some (t.isPrefixOf r,scn s k') := by
 unfold zc4;have := h.le_len;rw [zsj h,yob,zgr r t (by omega),yob]
 cases hp : t.isPrefixOf r with
 | false => exact ⟨k,h,rfl⟩
 | true =>
  have hl := (List.isPrefixOf_iff_prefix.1 hp).length_le;have hk := h.len;rw [if_pos rfl];show ∃ k',At s k' (r.drop t.length) ∧ ((zq (k : Int) (t.length : Int)).bind fun i9 => some (true,(⟨s,i9⟩ : scan_Scanner))) = _;rw [zan (by omega) (by omega),yob];exact ⟨k + t.length,h.next _ hl,by unfold scn; simp⟩
end
end Go.Dm
end
section
namespace Go.Dm
theorem zbT (c : UInt8) (s : Str) : ze c s ≠ [] := by
 cases s with
 | nil => simp [ze]
 | cons x s =>
  unfold ze
  split
  ·simp
  ·split <;> simp
theorem zoS {b c : UInt8} {l : Str} (h : b ≠ c) : Go.Lib.index (b :: l) [c] = if Go.Lib.index l [c] = -1 then -1 else Go.Lib.index l [c] + 1 := by
 have hp : ([c] : List UInt8).isPrefixOf (b :: l) = false := by simp [List.isPrefixOf,Ne.symm h]
 rw [Go.Lib.index,hp]; simp
theorem zoT (c : UInt8) (l : Str) : Go.Lib.index (c :: l) [c] = 0 := by
 rw [Go.Lib.index]; simp [List.isPrefixOf]
theorem zpn (c : UInt8) : ∀ (s : Str) (k : Nat),Go.Lib.count s [c] = k → Go.Lib.splitK [c] 0 k s = ze c s
 | [],k,h => by
  rw [Go.Lib.count_one] at h;simp at h; subst h; rfl
 | b :: l,k,h => by
  by_cases hb : b = c
  ·subst hb;rw [Go.Lib.count_cons_eq] at h;obtain ⟨m,rfl⟩ : ∃ m,k = m + 1 := ⟨k - 1,by omega⟩;have ih := zpn b l m (by omega);unfold Go.Lib.splitK;rw [zoT];simp [ze,ih]
  ·rw [Go.Lib.count_cons_ne b c l hb] at h;have ih := zpn c l k h;unfold ze;rw [if_neg hb, ← ih]
   cases k with
   | zero => simp [Go.Lib.splitK]
   | succ k =>
    unfold Go.Lib.splitK;rw [zoS hb];have hge := Go.Lib.index_ge l [c]
    by_cases hm : Go.Lib.index l [c] = -1
    ·rw [Go.Lib.count_miss hm] at h; omega
    ·obtain ⟨j,hj⟩ : ∃ j : Nat,Go.Lib.index l [c] = j := ⟨(Go.Lib.index l [c]).toNat,by omega⟩
     have e1 : ¬ ((j : Int) + 1 = -1) := by omega
     have e2 : ¬ ((j : Int) = -1) := by omega
     have e3 : ((j : Int) + 1).toNat = j + 1 := by omega
     rw [hj];simp [e1,e2,e3,Nat.add_right_comm j 1 1]
theorem zqS (s : Str) (c : UInt8) (hs : s.length < 1000000000) : strings_Split s [c] = some (ze c s) := by
 unfold strings_Split;rw [if_pos ⟨by omega,by simp⟩];rw [zpn c s _ rfl]
def zew (p : Str) : List Str → List Str
 | [] => [p]
 | h :: t => (p ++ h) :: t
theorem za4 (c x : UInt8) (s : Str) : ze c (x :: s) = if x = c then [] :: ze c s else zew [x] (ze c s) := by
 rw [ze]
 split
 ·rfl
 ·cases h : ze c s <;> rfl
theorem zkx (l : List Str) (h : l ≠ []) : zew [] l = l := by
 cases l with
 | nil => exact absurd rfl h
 | cons a t => rfl
theorem zlx (p q : Str) (l : List Str) (h : l ≠ []) : zew p (zew q l) = zew (p ++ q) l := by
 cases l with
 | nil => exact absurd rfl h
 | cons a t => simp [zew]
theorem znp (c : UInt8) : ∀ (a s : Str),c ∉ a → ze c (a ++ s) = zew a (ze c s)
 | [],s,_ => (zkx _ (zbT c s)).symm
 | x :: a,s,h => by
  have hx : ¬ x = c := fun e => h (by simp [e]);rw [List.cons_append,za4,if_neg hx,znp c a s (fun e => h (List.mem_cons_of_mem _ e)),zlx _ _ _ (zbT c s)];rfl
theorem zio {c : UInt8} {a : Str} (h : c ∉ a) : ze c a = [a] := by
 have := znp c a [] h;simpa [ze,zew] using this
theorem zgk {c : UInt8} {a : Str} (s : Str) (h : c ∉ a) : ze c (a ++ c :: s) = a :: ze c s := by
 rw [znp c a _ h,za4,if_pos rfl];simp [zew]
theorem zea {c : UInt8} : ∀ {s p : Str},p ∈ ze c s → c ∉ p ∧ p.length ≤ s.length ∧ ∀ x ∈ p,x ∈ s
 | [],p,h => by
  simp [ze] at h; subst h; simp
 | x :: s,p,h => by
  rw [za4] at h
  split at h
  ·rcases List.mem_cons.1 h with rfl | h
   ·simp
   ·obtain ⟨h1,h2,h3⟩ := zea h;exact ⟨h1,by simp; omega,fun y hy => List.mem_cons_of_mem _ (h3 y hy)⟩
  ·rename_i hx
   cases hl : ze c s with
   | nil => exact absurd hl (zbT c s)
   | cons a t =>
    rw [hl] at h
    rcases List.mem_cons.1 h with rfl | h
    ·obtain ⟨h1,h2,h3⟩ := zea (c := c) (s := s) (p := a) (by rw [hl]; simp);refine ⟨?_,by simp; omega,?_⟩
     ·simp only [List.singleton_append,ymc,not_or]; exact ⟨fun e => hx e.symm,h1⟩
     ·intro y hy;simp only [List.singleton_append,ymc] at hy ⊢
      rcases hy with hy | hy
      ·exact .inl hy
      ·exact .inr (h3 y hy)
    ·obtain ⟨h1,h2,h3⟩ := zea (c := c) (s := s) (p := p) (by rw [hl]; exact List.mem_cons_of_mem _ h);exact ⟨h1,by simp; omega,fun y hy => List.mem_cons_of_mem _ (h3 y hy)⟩
theorem zgl (c : UInt8) : ∀ s : Str,(ze c s).length ≤ s.length + 1
 | [] => by simp [ze]
 | x :: s => by
  have ih := zgl c s;rw [za4]
  split
  ·simp; omega
  ·cases hl : ze c s with
   | nil => exact absurd hl (zbT c s)
   | cons a t => rw [hl] at ih; simp [zew] at ih ⊢; omega
theorem zky (s : Str) (c : UInt8) (hs : s.length < 1000000000) : zgA s c = some (ze c s) := by
 unfold zgA
 have key : ∀ (n i k : Nat) (acc : List Str),k ≤ i → i ≤ s.length → acc.length ≤ i → s.length - i < n → zcP s c n acc (k : Int) (i : Int) = some (acc ++ zew ((s.take i).drop k) (ze c (s.drop i))) := by
  intro n
  induction n with
  | zero => intro i k acc _ _ _ h; omega
  | succ n ih =>
   intro i k acc hk hi ha h;rw [zcP]
   by_cases hlt : i < s.length
   ·have hx : s[i]? = some s[i] := ygg hlt
    have ht : (s.take (i + 1)).drop k = (s.take i).drop k ++ [s[i]] := by
     rw [List.take_succ_eq_append_getElem hlt,List.drop_append_of_le_length (by simp; omega)]
    simp only [Int.ofNat_lt,hlt,decide_true,if_true,zA,hx,yob,zgz,zf (show i < 4611686018427387904 by omega),zbx hk hi];rw [ydg hlt,za4]
    by_cases he : s[i] = c
    ·simp only [he,ybs,if_true,zbb (n := acc.length) (m := 1) (b := 16) (by omega) (by omega)];rw [ih (i + 1) (i + 1) _ (by omega) (by omega) (by simp; omega) (by omega)]
     have e0 : (s.take (i + 1)).drop (i + 1) = [] := by simp
     rw [e0,zkx _ (zbT _ _)];simp [zew]
    ·have hb : (s[i] == c) = false := beq_eq_false_iff_ne.2 he;simp only [hb,Bool.false_eq_true,if_false,he];rw [ih (i + 1) k _ (by omega) (by omega) (by omega) (by omega),ht,zlx _ _ _ (zbT _ _)]
   ·have : i = s.length := by omega
    subst this;simp only [Int.lt_irrefl,decide_false,Bool.false_eq_true,if_false,zB hk,yob,zbb (n := acc.length) (m := 1) (b := 16) (by omega) (by omega),if_true];simp [ze,zew]
 have := key fuel 0 0 [] (Nat.le_refl _) (yz _) (Nat.le_refl _) (by unfold fuel; omega);simp only [Int.natCast_zero,yna,List.take_zero,List.drop_nil,List.drop_zero] at this;rw [this,zkx _ (zbT _ _)]
end Go.Dm
end
section
namespace Go.Dm
theorem zCG {b : Nat} : ∀ {x : List Nat},x ≠ [] → x.head? ≠ some 0 → b ^ (x.length - 1) ≤ zbz b x
 | [],h,_ => absurd rfl h
 | y :: t,_,h0 => by
  have hy : 1 ≤ y := by
   rcases Nat.eq_zero_or_pos y with e | e
   ·subst e; simp at h0
   ·exact e
  rw [zkn,ylc,Nat.add_sub_cancel];have := Nat.mul_le_mul_right (b ^ t.length) hy;rw [Nat.one_mul] at this; omega
theorem zyk {k n : Nat} (hk : 1 ≤ k) (h64 : n < 2 ^ 64) (hn : n < 10 ^ k) : (zil 10 n).length ≤ k := by
 rcases zuC (b := 10) (by decide) n h64 with e | e
 ·subst e; rw [zfl (by decide)]; exact hk
 ·have h1 := zCG (b := 10) zvk e;rw [zwi (by decide) n h64] at h1
  rcases Nat.lt_or_ge k (zil 10 n).length with h | h
  ·have : 10 ^ k ≤ 10 ^ ((zil 10 n).length - 1) := Nat.pow_le_pow_right (by decide) (by omega);omega
  ·exact h
def zeL (s : Str) (most : Int) : Bool := (zL 10 s most).2 == 0 && zmY 10 (zL 10 s most).1 == s
theorem zkO {b : Nat} {s : Str} {most : Int} (h : (zL b s most).2 = 0) (hm : most < 4611686018427387904) : 0 ≤ (zL b s most).1 ∧ (zL b s most).1 ≤ most ∧ inI (zL b s most).1 = true := by
 unfold zL at *
 split at h
 ·cases h
 ·rename_i h1
  rw [if_neg h1]
  split at h
  ·cases h
  ·rename_i h2
   rw [if_neg h2];refine ⟨by simp only; omega,by simp only; omega,by rw [zlh]; simp only; omega⟩
theorem zlj (s : Str) (most : Int) (hs : s.length < 1000000000) (hm : most < 4611686018427387904) (hm0 : -4611686018427387904 < most) : zdC s most = some (zeL s most) := by
 unfold zdC zeL;rw [zfm s most hs hm hm0,yob]
 by_cases h : (zL 10 s most).2 = 0
 ·have hi := (zkO h hm).2.2;simp [h,zrY _ hi,zc5]
 ·simp [h,zc5]
theorem znW (s : Str) (most : Int) (hs : s.length < 1000000000) (hm : most < 100000) (hm0 : -4611686018427387904 < most) : zh9 s most = some (if zeL s most then (zL 10 s most).1 else -1) := by
 unfold zh9;have hR := zjt (b := 10) (.inl rfl) s most hs (by omega) hm0;rw [show ((10 : Nat) : Int) = 10 from rfl] at hR
 by_cases hl : 5 < (s.length : Int)
 ·have : zeL s most = false := by
   rw [Bool.eq_false_iff];intro h;unfold zeL at h;simp only [Bool.and_eq_true,beq_iff_eq] at h;obtain ⟨h1,h2⟩ := h;obtain ⟨g1,g2,g3⟩ := zkO (b := 10) h1 (by omega);have hlen := congrArg List.length h2;unfold zmY at hlen;rw [if_neg (by omega),zlO] at hlen;have := zyk (k := 5) (n := (zL 10 s most).1.toNat) (by decide) (by omega) (by omega);omega
  simp [hl,this]
 ·simp only [hl,decide_false,Bool.false_eq_true,if_false,hR,yob];unfold zeL
  by_cases h : (zL 10 s most).2 = 0
  ·have hi := (zkO h (by omega)).2.2;have hT := ztV (b := 10) (.inl rfl) _ hi;rw [show ((10 : Nat) : Int) = 10 from rfl] at hT;simp only [h,ybs,ynt,Bool.false_eq_true,if_false,hT,yob,ze3,Bool.true_and]
   rcases zdX (zmY 10 (zL 10 s most).1 == s) with h2 | h2 <;> rw [h2] <;> simp
  ·have h' : ((zL 10 s most).2 == 0) = false := beq_eq_false_iff_ne.2 h;simp [h',ze3]
def zhT (s : Str) : Bool := (ze 46 s).all (fun x => zeL x 255) && decide (((ze 46 s).length : Int) = 4)
theorem zu6 {α β : Type} {f : α → Option β} {g : α → β} : ∀ {l : List α},(∀ x ∈ l,f x = some (g x)) → l.mapM f = some (l.map g)
 | [],_ => rfl
 | x :: l,h => by
  rw [List.mapM_cons,h x (List.mem_cons_self ..),zu6 fun y hy => h y (List.mem_cons_of_mem _ hy)]; rfl
theorem zl4 (s : Str) (hs : s.length < 1000000000) : zfU s = some (zhT s) := by
 unfold zfU zhT;rw [if_pos hs,zu6 (g := fun x => zeL x 255) fun x hx => zlj x 255 (by have := (zea hx).2.1; omega) (by decide) (by decide)];simp only [yob,List.length_map,List.all_map];rfl
theorem zpd (s : Str) (hs : s.length < 1000000000) : zjn s = some (zhT s) := by
 unfold zjn zhT;rw [zky s 46 hs,yob];have hlen := zgl 46 s;have hm := fun x (h : x ∈ ze 46 s) => (zea h).2.1
 generalize ze 46 s = l at *
 rw [zk5 l (zeD l) (fun x r => if zeL x 255 = true then r else some false) (some (decide ((l.length : Int) = 4))) (by omega)]
 ·exact zo0 _ _ _
 ·intro n; rw [zeD]; simp only [Int.lt_irrefl,decide_false,Bool.false_eq_true,if_false];rw [show ((l.length : Int) == 4) = decide ((l.length : Int) = 4) from rfl]
 ·intro n i x hi hx;have hxl := hm x (List.mem_of_getElem? hx);rw [zeD];simp only [Int.ofNat_lt,hi,decide_true,if_true,zaF,hx,yob,znW x 255 (by omega) (by decide) (by decide),zf (show i < 4611686018427387904 by omega)]
  rcases zdX (zeL x 255) with h | h
  ·have h2 : (zL 10 x 255).2 = 0 := by unfold zeL at h; simp at h; exact h.1
   have h3 := (zkO h2 (by decide)).1
   have h4 : ¬ (zL 10 x 255).1 < 0 := by omega
   rw [h]; simp [h4]
  ·rw [h]; simp
def zl5 : Str → Bool
 | [] => true
 | c :: s => if c == 37 then (match s with
  | a :: b :: r => zcy a && zcy b && zl5 r
  | _ => false) else (zlD c || zt3 c) && zl5 s
theorem zu7 (s : Str) : zl5 (37 :: s) = (match s with | a :: b :: r => zcy a && zcy b && zl5 r | _ => false) := by
 rw [zl5.eq_def]
 match s with
 | [] => rfl
 | [_] => rfl
 | _ :: _ :: _ => rfl
theorem zu8 (c : UInt8) (s : Str) (h : (c == 37) = false) : zl5 (c :: s) = ((zlD c || zt3 c) && zl5 s) := by
 rw [zl5.eq_def]; simp only [h,Bool.false_eq_true,if_false]
def zmK (s : Str) : Bool := !(s == []) && zl5 s
theorem zrc (s : Str) (hs : s.length < 1000000000) : zhy s = some (zmK s) := by
 unfold zhy zmK
 rcases zdX (s == []) with h0 | h0
 ·rw [h0]; simp
 rw [h0];simp only [Bool.false_eq_true,if_false,ynf,Bool.true_and]
 have key : ∀ (n : Nat) (s : Str),s.length < n → s.length < 1000000000 → za7 n s = some (zl5 s) := by
  intro n
  induction n with
  | zero => intro s h; omega
  | succ n ih =>
   intro s h hs;rw [za7]
   cases s with
   | nil => simp [zl5]
   | cons c s =>
    have h1 : ((c :: s == ([] : Str))) = false := rfl
    have e1 : zaG (c :: s) 1 = some s := by
     have := zB (l := c :: s) (i := 1) (by simp);simpa using this
    simp only [ylc] at h hs;simp only [h1,ynf,if_true,zhc,zg7,List.getElem?_cons_zero,yob,zni,zsN,zeT,e1,ih s (by omega) (by omega),Bool.false_eq_true,if_false]
    rcases zdX (c == 37) with hc | hc
    ·have : c = 37 := by simpa using hc
     subst this
     have hu : zlD 37 = false := by decide
     have hb : zt3 37 = false := by decide
     rw [zu7]
     match s,h,hs with
     | [],_,_ => simp [hu,hb,zar]
     | [a],_,_ => simp [hu,hb,zar]
     | a :: b :: r,h,hs =>
      have h2 : (3 : Int) ≤ ((37 :: a :: b :: r : Str).length : Int) := by simp only [ylc]; omega
      have e3 : zaG (37 :: a :: b :: r) 3 = some r := by
       have := zB (l := 37 :: a :: b :: r) (i := 3) (by simp);simpa using this
      have e2 : zd0 (37 :: a :: b :: r) 1 3 = some [a,b] := by
       have := zbx (l := 37 :: a :: b :: r) (i := 1) (h := 3) (by decide) (by simp);simpa using this
      simp only [ylc] at h hs;simp only [h2,decide_true,if_true,ybs,e2,yob,zey zgn [a,b] (by simp),zar,e3,ih r (by omega) (by omega),hu,hb,Bool.false_eq_true,if_false];cases ha : zcy a <;> cases hb : zcy b <;> simp [ha,hb]
    ·rw [zu8 c s hc,hc];simp only [Bool.false_eq_true,if_false,zar]
     have : (if (decide ((3 : Int) ≤ ((c :: s).length : Int))) = true then some false else some false) = some false := by split <;> rfl
     rw [this];simp only [yob,Bool.false_eq_true,if_false];cases hp : zlD c <;> cases hq : zt3 c <;> simp
 exact key fuel s (zeN (by omega)) hs
theorem zrd (rec1 : Int → Option Bool) (i : Nat) (t : Bool) (hi : i < 4000000000) : zcC rec1 (i : Int) t = if t = true then some false else rec1 ((i + 3 : Nat) : Int) := by
 unfold zcC zfZ
 have i2 : zq (i : Int) 2 = some ((i + 2 : Nat) : Int) := by rw [zan (by omega) (by omega)]; simp
 have i3 : zq ((i + 2 : Nat) : Int) 1 = some ((i + 3 : Nat) : Int) := zf (i := i + 2) (by omega);rw [i2,yob,i3,yob]
theorem zul (s : Str) (hs : s.length < 1000000000) : zkX s = some (zmK s) := by
 unfold zkX zmK
 have key : ∀ (n i : Nat),i ≤ s.length → s.length - i < n → zay s n (i : Int) = some (zl5 (s.drop i) && !(s == [])) := by
  intro n
  induction n with
  | zero => intro i _ h; omega
  | succ n ih =>
   intro i hi h;rw [zay]
   cases hd : s.drop i with
   | nil =>
    have : i = s.length := by have := congrArg List.length hd; simp at this; omega
    subst this;simp only [Int.lt_irrefl,decide_false,Bool.false_eq_true,if_false,zl5,Bool.true_and];cases s <;> simp
   | cons c t =>
    have hlt : i < s.length := by have := congrArg List.length hd; simp at this; omega
    have hx : s[i]? = some c := by have := congrArg (·[0]?) hd; simpa using this
    have ht : s.drop (i + 1) = t := by rw [← List.drop_drop,hd]; rfl
    have htl : t.length = s.length - (i + 1) := by rw [← ht]; simp
    have i2 : zq (i : Int) 2 = some ((i + 2 : Nat) : Int) := by rw [zan (by omega) (by omega)]; simp
    simp only [Int.ofNat_lt,hlt,decide_true,if_true,zA,hx,yob,zf (show i < 4611686018427387904 by omega),i2]
    rcases zdX (c == 37) with hc | hc
    ·have : c = 37 := by simpa using hc
     subst this;rw [zu7]
     match t,ht,htl with
     | [],ht,htl =>
      have : (s.length : Int) ≤ ((i + 2 : Nat) : Int) := by simp at htl; omega
      simp only [ybs,if_true,this,decide_true,zcC,Bool.false_and]
     | [a],ht,htl =>
      have : (s.length : Int) ≤ ((i + 2 : Nat) : Int) := by simp at htl; omega
      simp only [ybs,if_true,this,decide_true,zcC,Bool.false_and]
     | a :: b :: r,ht,htl =>
      have hlt2 : ¬ (s.length : Int) ≤ ((i + 2 : Nat) : Int) := by simp at htl; omega
      have ha : s[i + 1]? = some a := by have := congrArg (·[0]?) ht; simpa using this
      have hb : s[i + 2]? = some b := by have := congrArg (·[1]?) ht; simpa using this
      have hr : s.drop (i + 3) = r := by
       have : (s.drop (i + 1)).drop 2 = r := by rw [ht]; rfl
       rwa [List.drop_drop] at this
      have hi3 : i + 3 ≤ s.length := by simp at htl; omega
      have hih := ih (i + 3) hi3 (by omega);rw [hr] at hih;have hj := zrd (zay s n) i;simp only [ybs,if_true,hlt2,decide_false,Bool.false_eq_true,if_false,zA,ha,hb,yob,ziv,hj _ (by omega),hih];cases zcy a <;> cases zcy b <;> simp
    ·rw [zu8 c t hc,hc];have hih := ih (i + 1) (by omega) (by omega);rw [ht] at hih;simp only [Bool.false_eq_true,if_false,zoK,zvx,yob,zhF,zfZ,zf (show i < 4611686018427387904 by omega),hih];cases zlD c <;> cases zt3 c <;> simp
 have := key fuel 0 (yz _) (by unfold fuel; omega);simp only [Int.natCast_zero,List.drop_zero] at this;rw [this,Bool.and_comm]
def under (a b : Str) : Bool := zmK a && zmK b && !zhT a && !zhT b && (low a == low b || ((46 :: low b) : Str).isSuffixOf (low a))
end Go.Dm
end
section
namespace Go.Dm
def zaA (t : Str) : Str → Option (Str × Str)
 | [] => none
 | x :: s => if t.isPrefixOf (x :: s) then some ([],(x :: s).drop t.length) else (zaA t s).map fun p => (x :: p.1,p.2)
theorem zbF {t : Str} : ∀ {s a b : Str},zaA t s = some (a,b) → s = a ++ t ++ b
 | [],_,_,h => by cases h
 | x :: s,a,b,h => by
  rw [zaA] at h
  split at h
  ·rename_i hp
   obtain ⟨r,hr⟩ := List.isPrefixOf_iff_prefix.1 hp;simp only [Option.some.injEq,Prod.mk.injEq] at h;obtain ⟨rfl,rfl⟩ := h;rw [← hr]; simp
  ·cases hc : zaA t s with
   | none => rw [hc] at h; cases h
   | some p =>
    rw [hc] at h;simp only [Option.map_some,Option.some.injEq,Prod.mk.injEq] at h;obtain ⟨rfl,rfl⟩ := h;have := zbF (a := p.1) (b := p.2) hc;rw [List.cons_append,List.cons_append, ← this]
theorem zoE {t : Str} (ht : t ≠ []) : ∀ s : Str,Go.Lib.index s t = match zaA t s with | none => -1 | some p => (p.1.length : Int)
 | [] => by
  cases t with
  | nil => exact absurd rfl ht
  | cons y t => rfl
 | x :: s => by
  rw [Go.Lib.index,zaA,zoE ht s]
  cases t.isPrefixOf (x :: s) with
  | true => rfl
  | false =>
   cases zaA t s with
   | none => rfl
   | some p =>
    simp only [Bool.false_eq_true,if_false,Option.map_some,ylc];have : ((p.1.length : Int) == -1) = false := beq_eq_false_iff_ne.2 (by omega);rw [this];simp
theorem zoi (s t : Str) (hs : s.length < 1000000000) (ht : t ≠ []) : strings_Cut s t = some (match zaA t s with | none => (s,[],false) | some p => (p.1,p.2,true)) := by
 unfold strings_Cut Go.Lib.cut;rw [if_pos (by omega),zoE ht]
 congr 1
 cases hc : zaA t s with
 | none => rfl
 | some p =>
  have e := zbF (a := p.1) (b := p.2) hc
  have h0 : (0 : Int) ≤ (p.1.length : Int) := by omega
  simp only [h0,if_true,Int.toNat_natCast]
  have e1 : s.take p.1.length = p.1 := by rw [e,yaa,List.take_left']; rfl
  have e2 : s.drop (p.1.length + t.length) = p.2 := by rw [e,List.drop_left']; simp
  rw [e1,e2]
def grp (x : Str) : Bool := decide (1 ≤ x.length) && decide (x.length ≤ 4) && x.all zcy
def zN (last : Bool) : List Str → Option Nat
 | [] => some 0
 | [x] => if last && zhT x then some 2 else if grp x then some 1 else none
 | x :: y :: l => if grp x then (zN last (y :: l)).map (· + 1) else none
theorem zpL (last : Bool) : ∀ (l m : List Str),m ≠ [] → zN last (l ++ m) = (zN false l).bind fun a => (zN last m).map (· + a)
 | [],m,_ => by simp [zN]
 | [x],m,hm => by
  cases m with
  | nil => exact absurd rfl hm
  | cons y m =>
   show zN last (x :: y :: m) = _;rw [zN,zN];cases grp x <;> simp
 | x :: y :: l,m,hm => by
  show zN last (x :: y :: (l ++ m)) = _;have ih := zpL last (y :: l) m hm;rw [zN,zN];rw [List.cons_append] at ih;rw [ih]
  cases grp x with
  | false => rfl
  | true =>
   simp only [if_true]
   cases zN false (y :: l) with
   | none => rfl
   | some a =>
    cases zN last m with
    | none => rfl
    | some b => simp; omega
def ztM (a : Nat) : Option Nat → Int
 | none => -1
 | some k => ((a + k : Nat) : Int)
theorem zqy (rec1 : Int → Int → Option Int) (a i : Nat) (hi : i < 4000000000) : zco rec1 (i : Int) (a : Int) = rec1 (a : Int) ((i + 1 : Nat) : Int) := by
 unfold zco; rw [zf (by omega),yob]
theorem zqz (rec1 : Int → Int → Option Int) (a i : Nat) (t : Bool) (hi : i < 4000000000) (ha : a < 4000000000) : zbD rec1 (a : Int) (i : Int) t = if t = true then rec1 ((a + 1 : Nat) : Int) ((i + 1 : Nat) : Int) else some (-1) := by
 unfold zbD;rw [zf (by omega),yob,zqy rec1 (a + 1) i hi]
theorem zwb (rec1 : Int → Int → Option Int) (a i : Nat) (x : Str) (t : Bool) (hi : i < 4000000000) (ha : a < 4000000000) (hx : x.length < 1000000000) :
  zbE rec1 (a : Int) (i : Int) x t = if t = true then rec1 ((a + 2 : Nat) : Int) ((i + 1 : Nat) : Int) else if grp x = true then rec1 ((a + 1 : Nat) : Int) ((i + 1 : Nat) : Int) else some (-1) := by
 unfold zbE grp
 have i2 : zq (a : Int) 2 = some ((a + 2 : Nat) : Int) := by rw [zan (by omega) (by omega)]; simp
 have e1 : decide ((1 : Int) ≤ (x.length : Int)) = decide (1 ≤ x.length) := decide_eq_decide.2 (by omega);have e2 : decide ((x.length : Int) ≤ 4) = decide (x.length ≤ 4) := decide_eq_decide.2 (by omega);rw [i2,yob,zqy rec1 (a + 2) i hi,zey zgn x hx,yob,zqz rec1 a i _ hi ha,zqz rec1 a i _ hi ha,e1,e2];generalize rec1 _ _ = r1;generalize rec1 _ _ = r2;generalize decide (1 ≤ x.length) = d1;generalize decide (x.length ≤ 4) = d2;generalize x.all zcy = d3;cases t <;> cases d1 <;> cases d2 <;> cases d3 <;> rfl
theorem zmR (last : Bool) (x : Str) : zN last [x] = if last && zhT x then some 2 else if grp x then some 1 else none := rfl
theorem zlw (last : Bool) (x y : Str) (l : List Str) : zN last (x :: y :: l) = if grp x then (zN last (y :: l)).map (· + 1) else none := rfl
theorem zAf (a : Nat) (o : Option Nat) : ztM a (o.map (· + 1)) = ztM (a + 1) o := by
 cases o with
 | none => rfl
 | some k => simp only [Option.map_some,ztM]; congr 1; omega
theorem zmS (last : Bool) (l : List Str) (hl : l.length < 1000000000) (hx : ∀ x ∈ l,x.length < 1000000000) : ∀ (n i a : Nat),i ≤ l.length → l.length - i < n → a ≤ 2 * i → zS last l n (a : Int) (i : Int) = some (ztM a (zN last (l.drop i)))
 | 0,_,_,_,h,_ => by omega
 | n + 1,i,a,hi,h,ha => by
  rw [zS]
  cases hd : l.drop i with
  | nil =>
   have : i = l.length := by have := congrArg List.length hd; simp at this; omega
   subst this;simp [zN,ztM]
  | cons x t =>
   have hlt : i < l.length := by have := congrArg List.length hd; simp at this; omega
   have hxx : l[i]? = some x := by have := congrArg (·[0]?) hd; simpa using this
   have ht : l.drop (i + 1) = t := by rw [← List.drop_drop,hd]; rfl
   have htl : t.length = l.length - (i + 1) := by rw [← ht]; simp
   have hxl := hx x (List.mem_of_getElem? hxx)
   have hsub : zbc (l.length : Int) 1 = some ((l.length - 1 : Nat) : Int) := by rw [z8 (by omega) (by omega)]; congr 1; omega
   have ih1 := zmS last l hl hx n (i + 1) (a + 1) (by omega) (by omega) (by omega);have ih2 := zmS last l hl hx n (i + 1) (a + 2) (by omega) (by omega) (by omega);rw [ht] at ih1 ih2;have j2 := fun t => zwb (zS last l n) a i x t (by omega) (by omega) hxl;simp only [Int.ofNat_lt,hlt,decide_true,if_true,zaF,hxx,yob,hsub,zl4 x hxl,j2,ih1,ih2]
   cases t with
   | nil =>
    have hei : ((i : Int) == ((l.length - 1 : Nat) : Int)) = true := by simp at htl; simp; omega
    rw [hei,zmR];have en : ∀ b,zN b [] = some 0 := fun _ => rfl;rw [en];cases last <;> cases zhT x <;> cases grp x <;> rfl
   | cons y t =>
    have hei : ((i : Int) == ((l.length - 1 : Nat) : Int)) = false := by simp at htl; simp; omega
    rw [hei,zlw];have := zAf a (zN last (y :: t));have hn : ztM a none = -1 := rfl;cases last <;> cases grp x <;> simp only [if_true,Bool.false_eq_true,if_false,this,hn]
def zby (s : Str) : List Str := if s = [] then [] else ze 58 s
theorem zrn (s : Str) (last : Bool) (hs : s.length < 900000000) : zdb s last = some (ztM 0 (zN last (zby s))) := by
 unfold zdb zby
 by_cases h0 : s = []
 ·subst h0; rfl
 ·have h1 : (s == []) = false := beq_eq_false_iff_ne.2 h0;rw [h1,if_neg h0];have hl := zgl 58 s;simp only [Bool.false_eq_true,if_false,zqS s 58 (by omega),yob];have := zmS last (ze 58 s) (by omega) (fun x hx => by have := (zea hx).2.1; omega) fuel 0 0 (by omega) (by unfold fuel; omega) (by omega);simpa using this
theorem zvd (last : Bool) : ∀ (l : List Str) (k : Nat),zN last l = some k → k ≤ l.length + 1
 | [],k,h => by cases h; omega
 | [x],k,h => by
  rw [zmR] at h
  split at h
  ·cases h; simp
  ·split at h
   ·cases h; simp
   ·cases h
 | x :: y :: l,k,h => by
  rw [zlw] at h
  split at h
  ·obtain ⟨j,hj,rfl⟩ := Option.map_eq_some_iff.1 h;have := zvd last (y :: l) j hj;simp only [ylc] at this ⊢;omega
  ·cases h
theorem zqA (s : Str) (last : Bool) (hs : s.length < 900000000) (k : Nat) (h : zN last (zby s) = some k) : k < 1000000000 := by
 have h1 := zvd last _ k h;have h2 := zgl 58 s;unfold zby at h1
 split at h1
 ·simp at h1; omega
 ·omega
def ziW (s : Str) : Bool := zN true (ze 58 s) == some 8
def zve (s : Str) : Bool := match zaA [58,58] s with
 | none => ziW s
 | some p => match zN false (zby p.1),zN true (zby p.2) with
  | some a,some b => decide (a + b ≤ 7)
  | _,_ => false
theorem Six_eq (s : Str) (hs : s.length < 900000000) : zhb s = some (zve s) := by
 unfold zhb zve;rw [zoi s [58,58] (by omega) (by simp),yob]
 cases hc : zaA [58,58] s with
 | none =>
  simp only [ynf,if_true,zrn s true hs,yob,ziW];unfold zby
  split
  ·rename_i h; subst h; rfl
  ·cases zN true (ze 58 s) with
   | none => rfl
   | some k =>
    simp only [ztM,Nat.zero_add,Option.some.injEq]
    by_cases h : k = 8
    ·subst h; rfl
    ·have h1 : ((k : Int) == 8) = false := beq_eq_false_iff_ne.2 (by omega);rw [h1]; simp [h]
 | some p =>
  have e := congrArg List.length (zbF (a := p.1) (b := p.2) hc);simp only [yla] at e;simp only [ynt,Bool.false_eq_true,if_false,zrn p.1 false (by omega),zrn p.2 true (by omega),yob]
  cases ha : zN false (zby p.1) with
  | none => simp [ztM,zcd]
  | some a =>
   cases hb : zN true (zby p.2) with
   | none => simp [ztM,zcd]
   | some b =>
    have hb' := (zqA p.1 false (by omega) a ha);have hb2 := (zqA p.2 true (by omega) b hb);simp only [ztM,Nat.zero_add]
    have e0 : decide ((0 : Int) ≤ (a : Int)) = true := by simp
    have e1 : decide ((0 : Int) ≤ (b : Int)) = true := by simp
    rw [e0,e1,if_pos rfl,if_pos rfl,zfc (by omega),yob];unfold zcd
    congr 1
    exact decide_eq_decide.2 (by omega)
theorem zxw (rec1 : Int → Int → Option Bool) (l : List Str) (a i : Nat) (x : Str) (hx : l[i]? = some x) (hxl : x.length < 1000000000) (hi : i < 2000000000) (ha : a < 4000000000) :
  zdL rec1 l (a : Int) (i : Int) fuel 0 = if grp x = true then rec1 ((a + 1 : Nat) : Int) ((i + 1 : Nat) : Int) else some false := by
 have key : ∀ (n j : Nat),j ≤ x.length → x.length - j < n → zdL rec1 l (a : Int) (i : Int) n (j : Int) = if (x.drop j).all zcy = true then (if (decide (1 ≤ x.length) && decide (x.length ≤ 4)) = true then rec1 ((a + 1 : Nat) : Int) ((i + 1 : Nat) : Int) else some false) else some false := by
  intro n
  induction n with
  | zero => intro j _ h; omega
  | succ n ih =>
   intro j hj h;rw [zdL];rw [zaF,hx];simp only [yob]
   by_cases hlt : j < x.length
   ·have e : decide ((j : Int) < (x.length : Int)) = true := ydt (by omega);have hc : x[j]? = some x[j] := ygg hlt;rw [e,if_pos rfl,zA,hc,yob,ziv,yob,zf (by omega),yob,ih (j + 1) (by omega) (by omega),ydg hlt,List.all_cons];cases zcy x[j] <;> rfl
   ·have hjl : j = x.length := by omega
    subst hjl;have e : decide ((x.length : Int) < (x.length : Int)) = false := ydf (by omega)
    have e1 : decide ((x.length : Int) < 1) = !decide (1 ≤ x.length) := by rw [← decide_not]; exact decide_eq_decide.2 (by omega)
    have e2 : decide (4 < (x.length : Int)) = !decide (x.length ≤ 4) := by rw [← decide_not]; exact decide_eq_decide.2 (by omega)
    rw [e,if_neg (by decide),ydl,e1,e2];unfold zgG ze4;rw [zf (by omega),yob,zf (by omega),yob];generalize rec1 _ _ = r1;generalize decide (1 ≤ x.length) = d1;generalize decide (x.length ≤ 4) = d2;cases d1 <;> cases d2 <;> rfl
 have := key fuel 0 (yz _) (by unfold fuel; omega);rw [show (0 : Int) = ((0 : Nat) : Int) from rfl,this,List.drop_zero];unfold grp;generalize rec1 _ _ = r1;generalize decide (1 ≤ x.length) = d1;generalize decide (x.length ≤ 4) = d2;generalize x.all zcy = d3;cases d1 <;> cases d2 <;> cases d3 <;> rfl
def isW (a : Nat) : Option Nat → Bool
 | none => false
 | some k => a + k == 8
theorem zCP (a : Nat) (o : Option Nat) : isW a (o.map (· + 1)) = isW (a + 1) o := by
 cases o with
 | none => rfl
 | some k => simp only [Option.map_some,isW]; congr 1; omega
theorem zoj (l : List Str) (hl : l.length < 1000000000) (hx : ∀ x ∈ l,x.length < 1000000000) : ∀ (n i a : Nat),i ≤ l.length → l.length - i < n → a ≤ 2 * i → zaH l n (a : Int) (i : Int) = some (isW a (zN true (l.drop i)))
 | 0,_,_,_,h,_ => by omega
 | n + 1,i,a,hi,h,ha => by
  rw [zaH]
  cases hd : l.drop i with
  | nil =>
   have : i = l.length := by have := congrArg List.length hd; simp at this; omega
   subst this;have e : decide ((l.length : Int) < (l.length : Int)) = false := ydf (by omega);rw [e,if_neg (by decide)];show some ((a : Int) == 8) = some (a + 0 == 8)
   congr 1
   by_cases h8 : a = 8
   ·subst h8; rfl
   ·rw [beq_eq_false_iff_ne.2 (show (a : Int) ≠ 8 by omega),beq_eq_false_iff_ne.2 (show a + 0 ≠ 8 by omega)]
  | cons x t =>
   have hlt : i < l.length := by have := congrArg List.length hd; simp at this; omega
   have hxx : l[i]? = some x := by have := congrArg (·[0]?) hd; simpa using this
   have ht : l.drop (i + 1) = t := by rw [← List.drop_drop,hd]; rfl
   have htl : t.length = l.length - (i + 1) := by rw [← ht]; simp
   have hxl := hx x (List.mem_of_getElem? hxx)
   have hsub : zbc (l.length : Int) 1 = some ((l.length - 1 : Nat) : Int) := by rw [z8 (by omega) (by omega)]; congr 1; omega
   have ih1 := zoj l hl hx n (i + 1) (a + 1) (by omega) (by omega) (by omega);have ih2 := zoj l hl hx n (i + 1) (a + 2) (by omega) (by omega) (by omega);rw [ht] at ih1 ih2;have e : decide ((i : Int) < (l.length : Int)) = true := ydt (by omega)
   have i2 : zq (a : Int) 2 = some ((a + 2 : Nat) : Int) := by rw [zan (by omega) (by omega)]; simp
   have j2 : ∀ t,ze5 (zaH l n) l (a : Int) (i : Int) t = if t = true then some (isW (a + 2) (zN true (l.drop (i + 1)))) else if grp x = true then some (isW (a + 1) (zN true (l.drop (i + 1)))) else some false := by
    intro t;unfold ze5 ze4;rw [i2,yob,zf (by omega),yob,zxw _ l a i x hxx hxl (by omega) (by omega),ht,ih1,ih2]
   rw [e,if_pos rfl,hsub,yob,zaF,hxx,yob,zpd x hxl,yob,j2,j2,ht]
   cases t with
   | nil =>
    have hei : ((i : Int) == ((l.length - 1 : Nat) : Int)) = true := by simp at htl; simp; omega
    rw [hei,zmR];have en : ∀ b,zN b [] = some 0 := fun _ => rfl;rw [en];cases zhT x <;> cases grp x <;> rfl
   | cons y t =>
    have hei : ((i : Int) == ((l.length - 1 : Nat) : Int)) = false := by simp at htl; simp; omega
    rw [hei,zlw];have := zCP a (zN true (y :: t));have hn : isW a none = false := rfl;cases grp x <;> simp only [if_true,Bool.false_eq_true,if_false,this,hn]
theorem zxx (s : Str) (hs : s.length < 900000000) : zia s = some (ziW s) := by
 unfold zia ziW;have hl := zgl 58 s;rw [zky s 58 (by omega),yob];have := zoj (ze 58 s) (by omega) (fun x hx => by have := (zea hx).2.1; omega) fuel 0 0 (by omega) (by unfold fuel; omega) (by omega);rw [List.drop_zero] at this;rw [show (0 : Int) = ((0 : Nat) : Int) from rfl,this]
 congr 1
 cases zN true (ze 58 s) with
 | none => rfl
 | some k => simp only [isW,Nat.zero_add]; exact (Option.some_beq_some ..).symm
def ztN : Nat → Str → Str
 | 0,s => s
 | k + 1,s => ztN k (if s = [] then [48] else s ++ [58,48])
def zxy (s b : Str) : Str := if b = [] then s else s ++ 58 :: b
theorem zyu (p : Str) (l m : List Str) (h : l ≠ []) : zew p (l ++ m) = zew p l ++ m := by
 cases l with
 | nil => exact absurd rfl h
 | cons x l => rfl
theorem zok (c : UInt8) : ∀ x y : Str,ze c (x ++ c :: y) = ze c x ++ ze c y
 | [],y => by rw [yna,za4,if_pos rfl]; rfl
 | z :: x,y => by
  rw [List.cons_append,za4,za4,zok c x y]
  split
  ·rfl
  ·rw [zyu _ _ _ (zbT c x)]
theorem zmT : ∀ (k : Nat) (s : Str),s ≠ [] → ze 58 (ztN k s) = ze 58 s ++ List.replicate k [48]
 | 0,s,_ => by simp [ztN]
 | k + 1,s,h => by
  rw [ztN,if_neg h,zmT k _ (by simp),show s ++ [58,48] = s ++ (58 : UInt8) :: [48] from rfl,zok,yaa];rfl
theorem ztO (k : Nat) (s : Str) : ze 58 (ztN (k + 1) s) = zby s ++ List.replicate (k + 1) [48] := by
 unfold zby
 split
 ·rename_i h
  subst h;rw [ztN,if_pos rfl,zmT k _ (by simp)];rfl
 ·rename_i h
  rw [zmT _ _ h]
theorem zAg : zhT [48] = false := by simp [zhT,ze]
theorem zxz : grp [48] = true := by decide
theorem zol (last : Bool) : ∀ k : Nat,zN last (List.replicate (k + 1) [48]) = some (k + 1)
 | 0 => by rw [show List.replicate (0 + 1) ([48] : Str) = [[48]] from rfl,zmR,zAg,zxz]; cases last <;> rfl
 | k + 1 => by
  have ih := zol last k;rw [List.replicate_succ] at ih;rw [List.replicate_succ,List.replicate_succ,zlw,zxz,ih];rfl
def zqB (k : Nat) (a b : Str) : Bool := match zN false (zby a),zN true (zby b) with
 | some x,some y => decide (x + y + k ≤ 8)
 | _,_ => false
def sixE (k : Nat) (a b : Str) : Bool := match zN false (zby a),zN true (zby b) with
 | some x,some y => x + y + k == 8
 | _,_ => false
theorem zyv (k : Nat) (a b : Str) : ziW (zxy (ztN (k + 1) a) b) = sixE (k + 1) a b := by
 unfold ziW sixE
 have e : ze 58 (zxy (ztN (k + 1) a) b) = zby a ++ (List.replicate (k + 1) [48] ++ zby b) := by
  unfold zxy
  split
  ·rename_i h; subst h; rw [ztO]; simp [zby]
  ·rename_i h
   rw [zok,ztO,yaa]
   congr 2
   unfold zby; rw [if_neg h]
 rw [e,zpL _ _ _ (by simp [List.replicate_succ])]
 have e2 : zN true (List.replicate (k + 1) [48] ++ zby b) = (zN true (zby b)).map (· + (k + 1)) := by
  by_cases hb : zby b = []
  ·rw [hb,yan,zol];simp [zN]
  ·rw [zpL _ _ _ hb,zol]; rfl
 rw [e2]
 cases zN false (zby a) with
 | none => rfl
 | some x =>
  cases zN true (zby b) with
  | none => rfl
  | some y =>
   simp only [yob,Option.map_some]
   have : y + (k + 1) + x = x + y + (k + 1) := by omega
   rw [this];exact Option.some_beq_some ..
theorem zvf (rec3 : Int → Option Bool) (k : Nat) (t : Str) (ht : t.length < 900000000) (hk : k < 100) : zhh rec3 (k : Int) t = if ziW t = true then some true else rec3 ((k + 1 : Nat) : Int) := by
 unfold zhh;rw [zxx t ht,yob,zf (by omega),yob]
theorem zro (rec3 : Int → Option Bool) (s b : Str) (i k : Nat) (hi : i + 2 ≤ s.length) (hs : s.length < 400000000) (hb : s.drop (i + 2) = b) (hk : k < 100) : ∀ (n j : Nat) (t : Str),j ≤ k → k - j < n → t.length ≤ s.length + 2 * j →
  zem rec3 s (i : Int) (k : Int) n t (j : Int) = if ziW (zxy (ztN (k - j) t) b) = true then some true else rec3 ((k + 1 : Nat) : Int)
 | 0,_,_,_,h,_ => by omega
 | n + 1,j,t,hj,h,ht => by
  rw [zem]
  by_cases hlt : j < k
  ·have e : decide ((j : Int) < (k : Int)) = true := ydt (by omega)
   have hkj : k - j = (k - (j + 1)) + 1 := by omega
   rw [e,if_pos rfl,hkj,ztN];unfold ziO;rw [zf (by omega)];simp only [yob]
   by_cases h0 : t = []
   ·subst h0;have hn : (!(([] : Str) == [])) = false := rfl;have := zro rec3 s b i k hi hs hb hk n (j + 1) [48] (by omega) (by omega) (by simp; omega);rw [hn,if_neg (by decide),zhn (by simp),yob,if_pos rfl];exact this
   ·have hn : (!(t == [])) = true := by simp [h0]
    have := zro rec3 s b i k hi hs hb hk n (j + 1) (t ++ [58,48]) (by omega) (by omega) (by simp; omega);rw [hn,if_pos rfl,zhn (by simp; omega),yob,zhn (by simp; omega),yob,if_neg h0,yaa];exact this
  ·have hjk : j = k := by omega
   subst hjk;have e : decide ((j : Int) < (j : Int)) = false := ydf (by omega)
   have i2 : zq (i : Int) 2 = some ((i + 2 : Nat) : Int) := by rw [zan (by omega) (by omega)]; simp
   have hbl : b.length ≤ s.length := by rw [← hb]; simp
   rw [e,if_neg (by decide),Nat.sub_self,ztN,i2,yob,zB hi,yob,hb];unfold zxy
   by_cases h0 : b = []
   ·subst h0;have hn : (!(([] : Str) == [])) = false := rfl;rw [hn,if_neg (by decide),if_pos rfl,zvf rec3 j t (by omega) hk]
   ·have hn : (!(b == [])) = true := by simp [h0]
    rw [hn,if_pos rfl,zhn (by simp; omega),yob,yob,zB hi,yob,hb,zhn (by simp; omega),yob,if_neg h0,yaa];exact zvf rec3 j (t ++ 58 :: b) (by simp; omega) hk
theorem zCR (k : Nat) (a b : Str) : zqB k a b = (sixE k a b || zqB (k + 1) a b) := by
 unfold zqB sixE
 cases zN false (zby a) with
 | none => rfl
 | some x =>
  cases zN true (zby b) with
  | none => rfl
  | some y =>
   show decide (x + y + k ≤ 8) = (x + y + k == 8 || decide (x + y + (k + 1) ≤ 8));rw [Bool.eq_iff_iff];simp only [decide_eq_true_eq,Bool.or_eq_true,beq_iff_eq];omega
theorem zvg (s b : Str) (i : Nat) (hi : i + 2 ≤ s.length) (hs : s.length < 400000000) (hb : s.drop (i + 2) = b) : ∀ (n k : Nat),k ≤ 8 → 8 - k + 1 < n → zbZ s (i : Int) n ((k + 1 : Nat) : Int) = some (zqB (k + 1) (s.take i) b)
 | 0,_,_,h => by omega
 | n + 1,k,hk,h => by
  rw [zbZ]
  by_cases hlt : k < 8
  ·have e : decide (((k + 1 : Nat) : Int) ≤ 8) = true := ydt (by omega);have ih := zvg s b i hi hs hb n (k + 1) (by omega) (by omega);rw [e,if_pos rfl,zbR (by omega),yob];have := zro (zbZ s (i : Int) n) s b i (k + 1) hi hs hb (by omega) fuel 0 (s.take i) (by omega) (by unfold fuel; omega) (by simp; omega);rw [Nat.sub_zero] at this;rw [show (0 : Int) = ((0 : Nat) : Int) from rfl,this,ih,zyv,zCR (k + 1)];cases sixE (k + 1) (s.take i) b <;> rfl
  ·have : k = 8 := by omega
   subst this
   have e : decide (((8 + 1 : Nat) : Int) ≤ 8) = false := by decide
   rw [e,if_neg (by decide)]
   congr 1
   unfold zqB
   cases zN false (zby (s.take i)) with
   | none => rfl
   | some x =>
    cases zN true (zby b) with
    | none => rfl
    | some y => exact (ydf (by omega)).symm
theorem zD0 (a b : Str) : zqB 1 a b = (match zN false (zby a),zN true (zby b) with | some a,some b => decide (a + b ≤ 7) | _,_ => false) := by
 unfold zqB
 cases zN false (zby a) with
 | none => rfl
 | some x =>
  cases zN true (zby b) with
  | none => rfl
  | some y => exact decide_eq_decide.2 (by omega)
theorem zwc (s : Str) (hs : s.length < 400000000) : zkr s = some (zve s) := by
 unfold zkr
 have key : ∀ (n i : Nat),i ≤ s.length → s.length - i < n → zen s n (i : Int) = some (match zaA [58,58] (s.drop i) with | none => ziW s | some p => zqB 1 (s.take (i + p.1.length)) p.2) := by
  intro n
  induction n with
  | zero => intro i _ h; omega
  | succ n ih =>
   intro i hi h;rw [zen,zf (by omega),yob]
   by_cases hlt : i + 1 < s.length
   ·have e : decide (((i + 1 : Nat) : Int) < (s.length : Int)) = true := ydt (by omega)
    have hd : s.drop i = s[i] :: s[i + 1] :: s.drop (i + 2) := by rw [ydg (by omega),ydg hlt]
    have hd1 : s.drop (i + 1) = s[i + 1] :: s.drop (i + 2) := ydg hlt;have g0 : s[i]? = some s[i] := ygg (by omega);have g1 : s[i + 1]? = some s[i + 1] := ygg hlt;have ih1 := ih (i + 1) (by omega) (by omega);have hL3 := zvg s (s.drop (i + 2)) i (by omega) hs rfl fuel 0 (by omega) (by unfold fuel; omega)
    have next : (match zaA [58,58] (s[i] :: s.drop (i + 1)) with | none => ziW s | some p => zqB 1 (s.take (i + p.1.length)) p.2) = if ([58,58] : Str).isPrefixOf (s[i] :: s.drop (i + 1)) = true then zqB 1 (s.take i) (s.drop (i + 2)) else (match zaA [58,58] (s.drop (i + 1)) with | none => ziW s | some p => zqB 1 (s.take (i + 1 + p.1.length)) p.2) := by
     rw [zaA]
     cases ([58,58] : Str).isPrefixOf (s[i] :: s.drop (i + 1)) with
     | true =>
      rw [if_pos rfl,if_pos rfl];show zqB 1 (s.take (i + 0)) (List.drop (1 + 1) (s[i] :: s.drop (i + 1))) = _;rw [hd1]; rfl
     | false =>
      rw [if_neg (by decide),if_neg (by decide)]
      cases zaA [58,58] (s.drop (i + 1)) with
      | none => rfl
      | some p =>
       show zqB 1 (s.take (i + (p.1.length + 1))) p.2 = _;rw [show i + (p.1.length + 1) = i + 1 + p.1.length from by omega]
    rw [e,if_pos rfl,zA,g0,yob,yob,zA,g1,yob,ydg (show i < s.length by omega),next];unfold ziP;rw [zf (by omega),yob,ih1]
    have hp : ([58,58] : Str).isPrefixOf (s[i] :: s.drop (i + 1)) = (s[i] == 58 && s[i + 1] == 58) := by
     rw [hd1];simp only [List.isPrefixOf_cons_cons,List.isPrefixOf_nil_left,Bool.and_true];rw [zsW 58,zsW 58]
    rw [hp];have hL3' : zbZ s (i : Int) fuel 1 = some (zqB 1 (s.take i) (s.drop (i + 2))) := hL3;rw [hL3'];cases s[i] == 58 <;> cases s[i + 1] == 58 <;> rfl
   ·have e : decide (((i + 1 : Nat) : Int) < (s.length : Int)) = false := ydf (by omega);rw [e,if_neg (by decide),zxx s (by omega),yob]
    have : zaA [58,58] (s.drop i) = none := by
     cases hd : s.drop i with
     | nil => rfl
     | cons x t =>
      have : t = [] := by have := congrArg List.length hd; simp at this; exact List.eq_nil_of_length_eq_zero (by omega)
      subst this;rw [zaA];simp [List.isPrefixOf,zaA]
    rw [this]
 have := key fuel 0 (yz _) (by unfold fuel; omega);rw [List.drop_zero] at this;rw [show (0 : Int) = ((0 : Nat) : Int) from rfl,this];unfold zve
 congr 1
 cases hc : zaA [58,58] s with
 | none => rfl
 | some p =>
  have e := zbF (a := p.1) (b := p.2) hc
  have e1 : s.take (0 + p.1.length) = p.1 := by rw [Nat.zero_add,e,yaa,List.take_left']; rfl
  simp only [e1];exact zD0 p.1 p.2
end Go.Dm
end
section
namespace Go.Dm
def zsJ (s : Str) : Str := (s.take (s.length - 1)).drop 1
def zmq (s : Str) : Bool := decide (2 < s.length) && s[0]? == some 91 && s[s.length - 1]? == some 93 && zve (zsJ s)
def zhs (s : Str) : Int × Str := if zmq s then (3,zsJ s) else if zhT s then (2,s) else if zmK s then (1,s) else (0,s)
theorem zsK (x y : UInt8) : ((some x : Option UInt8) == some y) = (x == y) := Option.some_beq_some ..
theorem zzr (s : Str) : (zsJ s).length ≤ s.length := by unfold zsJ; simp; omega
theorem zoY {β : Type} (s : Str) (hs : s.length < 400000000) (f : Str → Option Bool) (hf : ∀ t,t.length < 400000000 → f t = some (zve t)) (J : Bool → Option β) :
  (if (decide (2 < (s.length : Int))) then ((sAt s 0).bind fun b6 => if (b6 == 91) then ((zbc (s.length : Int) 1).bind fun i8 => (sAt s i8).bind fun b9 => if (b9 == 93) then ((zbc (s.length : Int) 1).bind fun i11 => (zd0 s 1 i11).bind fun s12 => (f s12).bind fun r13 => J r13) else J false) else J false) else J false) = J (zmq s) := by
 unfold zmq
 by_cases h : 2 < s.length
 ·have e : decide (2 < (s.length : Int)) = true := ydt (by omega);have e' : decide (2 < s.length) = true := ydt h;have g0 : s[0]? = some s[0] := ygg (by omega);have g1 : s[s.length - 1]? = some s[s.length - 1] := ygg (by omega)
  have i1 : zbc (s.length : Int) 1 = some ((s.length - 1 : Nat) : Int) := by rw [z8 (by omega) (by omega)]; congr 1; omega
  have s1 : zd0 s 1 ((s.length - 1 : Nat) : Int) = some (zsJ s) := zbx (i := 1) (by omega) (by omega);have := zzr s;rw [e,e',if_pos rfl,show (0 : Int) = ((0 : Nat) : Int) from rfl,zA,g0,yob,i1,yob,zA,g1,yob,yob,s1,yob,hf _ (by omega),yob,zsK,zsK];cases s[0] == 91 <;> cases s[s.length - 1] == 93 <;> rfl
 ·rw [ydf (show ¬ (2 < (s.length : Int)) by omega),ydf h]; rfl
theorem znA (s : Str) (hs : s.length < 400000000) : zh4 s = some (⟨(zhs s).1,(zhs s).2, -1⟩, !((zhs s).1 == 0)) := by
 unfold zh4;rw [zoY s hs zhb (fun t ht => Six_eq t (by omega)) (zcL s)];unfold zcL zdD zhs
 cases hb : zmq s with
 | true =>
  have h : 2 < s.length := by unfold zmq at hb; simp at hb; exact hb.1.1.1
  have i1 : zbc (s.length : Int) 1 = some ((s.length - 1 : Nat) : Int) := by rw [z8 (by omega) (by omega)]; congr 1; omega
  have s1 : zd0 s 1 ((s.length - 1 : Nat) : Int) = some (zsJ s) := zbx (i := 1) (by omega) (by omega);rw [if_pos rfl,i1,yob,s1,yob,if_pos rfl]
 | false =>
  rw [if_neg (by decide),zl4 s (by omega),yob,zrc s (by omega),yob];cases zhT s <;> cases zmK s <;> rfl
theorem zrx (s : Str) (hs : s.length < 400000000) : zma s = some (if (zhs s).1 == 0 then ⟨0,[],0⟩ else ⟨(zhs s).1,(zhs s).2, -1⟩) := by
 unfold zma;rw [zoY s hs zkr zwc (zfg s)];unfold zfg zhs
 cases hb : zmq s with
 | true =>
  have h : 2 < s.length := by unfold zmq at hb; simp at hb; exact hb.1.1.1
  have i1 : zbc (s.length : Int) 1 = some ((s.length - 1 : Nat) : Int) := by rw [z8 (by omega) (by omega)]; congr 1; omega
  have s1 : zd0 s 1 ((s.length - 1 : Nat) : Int) = some (zsJ s) := zbx (i := 1) (by omega) (by omega);rw [if_pos rfl,i1,yob,s1,yob,if_pos rfl];rfl
 | false =>
  rw [if_neg (by decide),zpd s (by omega),yob,zul s (by omega),yob];cases zhT s <;> cases zmK s <;> rfl
def zjC (s : Str) (c : UInt8) : Nat → Option Nat
 | 0 => none
 | k + 1 => if s[k]? = some c then some k else zjC s c k
theorem znB {s : Str} {c : UInt8} : ∀ {k i : Nat},zjC s c k = some i → i < k ∧ s[i]? = some c
 | 0,_,h => by cases h
 | k + 1,i,h => by
  rw [zjC] at h
  split at h
  ·rename_i h2; cases h; exact ⟨by omega,h2⟩
  ·have := znB h; exact ⟨by omega,this.2⟩
theorem zlU (s : Str) (c : UInt8) (hs : s.length < 1000000000) : zaR s c = some (match zjC s c s.length with | none => -1 | some k => (k : Int)) := by
 unfold zaR zbQ
 have key : ∀ (n k : Nat),k ≤ s.length → k < n → zW s c n ((k : Int) - 1) = some (match zjC s c k with | none => -1 | some j => (j : Int)) := by
  intro n
  induction n with
  | zero => intro k _ h; omega
  | succ n ih =>
   intro k hk h;rw [zW]
   cases k with
   | zero => rw [ydf (by omega)]; rfl
   | succ k =>
    have e1 : ((k + 1 : Nat) : Int) - 1 = (k : Int) := by omega
    have g : s[k]? = some s[k] := ygg (by omega);rw [e1,ydt (show (0 : Int) ≤ (k : Int) by omega),if_pos rfl,zA,g,yob,z8 (by omega) (by omega),yob,ih k (by omega) (by omega),zjC,g]
    by_cases hc : s[k] = c
    ·have : (s[k] == c) = true := by simp [hc]
     rw [this,if_pos rfl,if_pos (by rw [hc])]
    ·have : (s[k] == c) = false := beq_eq_false_iff_ne.2 hc;rw [this,if_neg (by decide),if_neg (by simpa using hc)]
 rw [z8 (by omega) (by omega),yob,key fuel s.length (Nat.le_refl _) (by unfold fuel; omega),yob]
def zc3 (s : Str) : api_Host × Int :=
 if !((zhs s).1 == 0) then (⟨(zhs s).1,(zhs s).2, -1⟩,0) else match zjC s 58 s.length with
 | none => (⟨0,[],0⟩,27)
 | some k => if !((zhs (s.take k)).1 == 0) && zeL (s.drop (k + 1)) 65535 then (⟨(zhs (s.take k)).1,(zhs (s.take k)).2,(zL 10 (s.drop (k + 1)) 65535).1⟩,0) else (⟨0,[],0⟩,27)
theorem ziu (s : Str) (hs : s.length < 400000000) : zdE s = some (zc3 s) := by
 unfold zdE zc3;rw [znA s hs,yob]
 cases !((zhs s).1 == 0) with
 | true => rfl
 | false =>
  show (if false = true then _ else _) = some (if false = true then _ else _);rw [if_neg (by decide),if_neg (by decide),zlU s 58 (by omega),yob]
  cases hl : zjC s 58 s.length with
  | none => rfl
  | some k =>
   have hk := (znB hl).1;show (if decide ((k : Int) < 0) = true then _ else _) = _;rw [ydf (show ¬ ((k : Int) < 0) by omega),if_neg (by decide),zbR (by omega),yob,znA _ (by simp; omega),yob];unfold zeh;rw [zf (by omega),yob,zB (by omega),yob,yob,zB (by omega),yob,zlj _ _ (by simp; omega) (by decide) (by decide),yob,zfm _ _ (by simp; omega) (by decide) (by decide),yob];dsimp only;cases (zhs (s.take k)).1 == 0 <;> cases zeL (s.drop (k + 1)) 65535 <;> rfl
theorem zkC (s : Str) (hs : s.length < 400000000) : zfh s = some (zc3 s) := by
 unfold zfh zc3
 have key : ∀ (n k : Nat),k ≤ s.length → k < n → ze6 s n ((k : Int) - 1) = some (match zjC s 58 k with
   | none => (⟨0,[],0⟩,27)
   | some k => if !((zhs (s.take k)).1 == 0) && zeL (s.drop (k + 1)) 65535 then (⟨(zhs (s.take k)).1,(zhs (s.take k)).2,(zL 10 (s.drop (k + 1)) 65535).1⟩,0) else (⟨0,[],0⟩,27)) := by
  intro n
  induction n with
  | zero => intro k _ h; omega
  | succ n ih =>
   intro k hk h;rw [ze6]
   cases k with
   | zero => rw [ydf (by omega)]; rfl
   | succ k =>
    have e1 : ((k + 1 : Nat) : Int) - 1 = (k : Int) := by omega
    have g : s[k]? = some s[k] := ygg (by omega);rw [e1,ydt (show (0 : Int) ≤ (k : Int) by omega),if_pos rfl,zA,g,yob,z8 (by omega) (by omega),yob,ih k (by omega) (by omega),zjC,g]
    by_cases hc : s[k] = 58
    ·have : (s[k] == 58) = true := by simp [hc]
     rw [this,if_neg (by decide),if_pos (by rw [hc]),zbR (by omega),yob,zrx _ (by simp; omega),yob,zf (by omega),yob,zB (by omega),yob,znW _ _ (by simp; omega) (by decide) (by decide),yob];unfold zgH;dsimp only
     cases h0 : (zhs (s.take k)).1 == 0 with
     | true => rfl
     | false =>
      simp only [Bool.false_eq_true,if_false,h0,ynf,Bool.true_and]
      cases hsm : zeL (s.drop (k + 1)) 65535 with
      | false => rfl
      | true =>
       have h2 : (zL 10 (s.drop (k + 1)) 65535).2 = 0 := by unfold zeL at hsm; simp at hsm; exact hsm.1
       have h3 := (zkO h2 (by decide)).1;simp only [if_true];rw [ydf (by omega)]; rfl
    ·have : (s[k] == 58) = false := beq_eq_false_iff_ne.2 hc;rw [this,ynf,if_pos rfl,if_neg (by simpa using hc)]
 rw [zrx s hs,yob]
 cases h0 : (zhs s).1 == 0 with
 | true =>
  simp only [if_true,ybs,ynt,Bool.false_eq_true,if_false];rw [z8 (by omega) (by omega),yob,key fuel s.length (Nat.le_refl _) (by unfold fuel; omega)]
 | false =>
  simp only [Bool.false_eq_true,if_false,h0,ynf,if_true]
end Go.Dm
end
