/-
  The models' words: partial operations as functions into Option. No program in sight.
  The models of the functions: written by a program (wip/gen) off the translation. No program in sight.
  The library's functions as the models say them, and as the library's contracts say them. No program in sight.
  Plain tools for the laws: the partial operations at natural numbers, loops over lists. No program in sight.
  Splitting a text at one byte. No program in sight.
-/
import Derived.Lib.ItoaNum
import Derived.Lib.SplitLaws
import Derived.Lib.SlTrimSet
import Derived.Lib.Join
import Derived.Lib.IndexMore
import Derived.Lib.Bytealg
import Derived.Lib.Index
import Derived.Lib.IndexAny
section
namespace Go.Dm
abbrev Str := List UInt8

def inI (n : Int) : Bool := decide (-9223372036854775808 ≤ n) && decide (n ≤ 9223372036854775807)
theorem inI_iff {n : Int} : inI n = true ↔ -9223372036854775808 ≤ n ∧ n ≤ 9223372036854775807 := by simp [inI]

def iAdd (m n : Int) : Option Int := if inI (m + n) then some (m + n) else none
def iSub (m n : Int) : Option Int := if inI (m - n) then some (m - n) else none
def iMul (m n : Int) : Option Int := if inI (m * n) then some (m * n) else none
def iDiv (m n : Int) : Option Int := if 0 ≤ m ∧ 1 ≤ n ∧ inI (m / n) = true then some (m / n) else none
def iMod (m n : Int) : Option Int := if 0 ≤ m ∧ 1 ≤ n ∧ inI (m % n) = true then some (m % n) else none
def sAt (l : Str) (i : Int) : Option UInt8 := if 0 ≤ i then l[i.toNat]? else none
def sTo (l : Str) (h : Int) : Option Str := if 0 ≤ h ∧ h ≤ l.length then some (l.take h.toNat) else none
def sFrom (l : Str) (i : Int) : Option Str := if 0 ≤ i ∧ i ≤ l.length then some (l.drop i.toNat) else none
def sSub (l : Str) (i h : Int) : Option Str := if 0 ≤ i ∧ i ≤ h ∧ h ≤ l.length then some ((l.take h.toNat).drop i.toNat) else none
def sCat (l m : Str) : Option Str := if l.length + m.length ≤ 9223372036854775807 then some (l ++ m) else none
def lAt {α : Type} (l : List α) (i : Int) : Option α := if 0 ≤ i then l[i.toNat]? else none
def lTo {α : Type} (l : List α) (h : Int) : Option (List α) := if 0 ≤ h ∧ h ≤ l.length then some (l.take h.toNat) else none
def lFrom {α : Type} (l : List α) (i : Int) : Option (List α) := if 0 ≤ i ∧ i ≤ l.length then some (l.drop i.toNat) else none
def lSub {α : Type} (l : List α) (i h : Int) : Option (List α) := if 0 ≤ i ∧ i ≤ h ∧ h ≤ l.length then some ((l.take h.toNat).drop i.toNat) else none
def lSet {α : Type} (l : List α) (i : Int) (x : α) : Option (List α) := if 0 ≤ i ∧ i < l.length then some (l.set i.toNat x) else none

def fitsApp (n m bytes : Nat) : Bool := decide (n + m ≤ 9223372036854775807) && decide ((n + m) * bytes ≤ 140737488355328)
def iConv (n : Int) : Option Int := if inI n then some n else none
def iByte (n : Int) : UInt8 := UInt8.ofNat (n % 256).toNat
theorem og {α : Type} {b : Bool} {x : Option α} {r : α} (h : (if b = true then x else none) = some r) : b = true ∧ x = some r := by
  cases b with
  | false => cases h
  | true => exact ⟨rfl, h⟩
theorem bcase (b : Bool) : b = true ∨ b = false := by cases b <;> simp
theorem ob {α β : Type} {m : Option α} {f : α → Option β} {r : β} (h : m.bind f = some r) : ∃ x, m = some x ∧ f x = some r := by
  cases m with
  | none => cases h
  | some x => exact ⟨x, rfl, h⟩
theorem it {α : Type} {b : Bool} {x y : Option α} {r : α} (hb : b = true) (h : (if b = true then x else y) = some r) : x = some r := by rwa [if_pos hb] at h
theorem ie {α : Type} {b : Bool} {x y : Option α} {r : α} (hb : b = false) (h : (if b = true then x else y) = some r) : y = some r := by rwa [if_neg (by simp [hb])] at h

def sLess : Str → Str → Bool
  | _, [] => false
  | [], _ :: _ => true
  | a :: x, b :: y => a < b || (a == b && sLess x y)
def fuel : Nat := 1000000000000000000
end Go.Dm
end
section
set_option linter.unusedVariables false
set_option maxRecDepth 10000
namespace Go.Dm
structure api_Event where
  Kind : Int
  N : Int
deriving DecidableEq, Inhabited
structure api_Swap where
  From : Str
  To : Str
deriving DecidableEq, Inhabited
structure api_Part where
  Kind : Int
  Text : Str
deriving DecidableEq, Inhabited
structure api_Field where
  Name : Str
  Value : Str
deriving DecidableEq, Inhabited
def idxByte : Str → UInt8 → Nat → Int
  | [], _, _ => -1
  | x :: l, c, k => if x == c then (k : Int) else idxByte l c (k + 1)
def strings_IndexByte (s : Str) (c : UInt8) : Option Int := some (idxByte s c 0)
def begins : Str → Str → Bool
  | _, [] => true
  | [], _ :: _ => false
  | x :: s, y :: t => x == y && begins s t
def idxStr : Str → Str → Nat → Int
  | s, t, k => if begins s t then (k : Int) else match s with
    | [] => -1
    | _ :: s => idxStr s t (k + 1)
def strings_Index (s t : Str) : Option Int := if s.length < 4294967281 then some (idxStr s t 0) else none
def strings_Cut (s t : Str) : Option (Str × Str × Bool) := if s.length < 4294967281 then some (Go.Lib.cut s t) else none
def strings_Contains (s t : Str) : Option Bool := if s.length < 4294967281 then some (decide (0 ≤ idxStr s t 0)) else none
def idxAny : Str → Str → Nat → Int
  | [], _, _ => -1
  | x :: l, cs, k => if cs.contains x then (k : Int) else idxAny l cs (k + 1)
def strings_IndexAny (s cs : Str) : Option Int := if s.length < 4294967281 ∧ cs.length < 4294967281 ∧ cs.all (fun c => c.toNat < 128) then some (idxAny s cs 0) else none
def strings_Split (s sep : Str) : Option (List Str) := if s.length < 4294967281 ∧ 1 ≤ sep.length then some (Go.Lib.splitK sep 0 (Go.Lib.countB ⟨s.toArray⟩ ⟨sep.toArray⟩) s) else none
def splitOn (c : UInt8) : Str → List Str
  | [] => [[]]
  | x :: s => if x = c then [] :: splitOn c s else match splitOn c s with
    | [] => [[x]]
    | h :: t => (x :: h) :: t
def strconv_FormatInt (n b : Int) : Option Str := if inI n = true ∧ b = 10 then some (Go.Lib.itoa n) else none
def strings_Trim (s cs : Str) : Option Str := if s.length < 4294967281 ∧ cs.length < 4294967281 ∧ cs.all (fun c => c.toNat < 128) then some (Go.Lib.trimS s cs) else none
def strings_TrimRight (s cs : Str) : Option Str := if s.length < 4294967281 ∧ cs.length < 4294967281 ∧ cs.all (fun c => c.toNat < 128) then some (Go.Lib.trimRightS s cs) else none
def strings_Join (l : List Str) (sep : Str) : Option Str := if l.length ≤ 140737488355328 ∧ (Go.Lib.join l sep).length ≤ 140737488355328 then some (Go.Lib.join l sep) else none
def octet_Lower_j1 (x_b : UInt8) (t3 : Bool) : Option UInt8 :=
  if t3 then (some (x_b + 32)) else (some x_b)

def octet_Lower (x_b : UInt8) : Option UInt8 :=
  if (decide (65 ≤ x_b)) then (octet_Lower_j1 x_b (decide (x_b ≤ 90))) else (octet_Lower_j1 x_b false)

def octet_Fold (s : Str) : Option Str := if s.length < 4294967281 then s.mapM octet_Lower else none

def octet_All_L2 (rec1 : Int → Option Bool) (x_is : UInt8 → Option Bool) (i3 : Int) (x7 : Str) : Nat → Int → Option Bool
  | 0, _ => none
  | n + 1, i12 =>
  if (decide (i12 < (x7.length : Int))) then ((sAt x7 i12).bind fun b17 =>
  (x_is b17).bind fun r18 =>
  if (!r18) then (some false) else ((iAdd i12 1).bind fun i23 =>
  (octet_All_L2 rec1 x_is i3 x7 n) i23)) else ((iAdd i3 1).bind fun i25 =>
  rec1 i25)

def octet_All_L1 (x_is : UInt8 → Option Bool) (x_l : List Str) : Nat → Int → Option Bool
  | 0, _ => none
  | n + 1, i3 =>
  if (decide (i3 < (x_l.length : Int))) then ((lAt x_l i3).bind fun x7 =>
  octet_All_L2 (octet_All_L1 x_is x_l n) x_is i3 x7 fuel 0) else (some true)

def octet_All (x_is : UInt8 → Option Bool) (x_l : List Str) : Option Bool :=
  octet_All_L1 x_is x_l fuel 0

def octet_IsDigit_j1 (t3 : Bool) : Option Bool :=
  some t3

def octet_IsDigit (x_b : UInt8) : Option Bool :=
  if (decide (48 ≤ x_b)) then (octet_IsDigit_j1 (decide (x_b ≤ 57))) else (octet_IsDigit_j1 false)

def numeral_worth (x_b : UInt8) : Option Int :=
  (octet_IsDigit x_b).bind fun r2 =>
  if r2 then (some (((x_b - 48).toNat : Int))) else ((octet_Lower x_b).bind fun r7 =>
  (iAdd (((r7 - 97).toNat : Int)) 10).bind fun i8 =>
  some i8)

def numeral_read_j3 (rec2 : Int → Int → Option (Int × Int)) (x_base : Int) (i11 : Int) (i12 : Int) (r18 : Int) (t23 : Bool) : Option (Int × Int) :=
  if t23 then (some (0, 7)) else ((iMul i11 x_base).bind fun i27 =>
  (iAdd i27 r18).bind fun i28 =>
  (iAdd i12 1).bind fun i30 =>
  rec2 i28 i30)

def numeral_read_L2 (x_s : Str) (x_base : Int) (x_most : Int) : Nat → Int → Int → Option (Int × Int)
  | 0, _, _ => none
  | n + 1, i11, i12 =>
  if (decide (i12 < (x_s.length : Int))) then ((sAt x_s i12).bind fun b17 =>
  (numeral_worth b17).bind fun r18 =>
  if (decide (x_most < r18)) then (numeral_read_j3 (numeral_read_L2 x_s x_base x_most n) x_base i11 i12 r18 true) else ((iSub x_most r18).bind fun i21 =>
  (iDiv i21 x_base).bind fun i22 =>
  numeral_read_j3 (numeral_read_L2 x_s x_base x_most n) x_base i11 i12 r18 (decide (i22 < i11)))) else (some (i11, 0))

def numeral_read_j1 (x_s : Str) (x_base : Int) (x_most : Int) (t5 : Bool) : Option (Int × Int) :=
  if t5 then (some (0, 2)) else (numeral_read_L2 x_s x_base x_most fuel 0 0)

def numeral_read (x_s : Str) (x_base : Int) (x_most : Int) (x_is : UInt8 → Option Bool) : Option (Int × Int) :=
  if (x_s == []) then (numeral_read_j1 x_s x_base x_most true) else ((octet_All x_is ([x_s] : List Str)).bind fun r4 =>
  numeral_read_j1 x_s x_base x_most (!r4))

def numeral_Decimal (x_s : Str) (x_most : Int) : Option (Int × Int) :=
  (numeral_read x_s 10 x_most octet_IsDigit).bind fun r2 =>
  some (r2.1, r2.2)

def numeral_text (x_n : Int) (x_base : Int) : Option Str :=
  if (decide (x_n < 0)) then (some []) else ((strconv_FormatInt x_n x_base).bind fun r6 =>
  some r6)

def numeral_Text (x_n : Int) : Option Str :=
  (numeral_text x_n 10).bind fun r2 =>
  some r2

def hostport_small_j1 (t6 : Bool) : Option Bool :=
  some t6

def hostport_small (x_s : Str) (x_most : Int) : Option Bool :=
  (numeral_Decimal x_s x_most).bind fun r2 =>
  if (r2.2 == 0) then ((numeral_Text r2.1).bind fun r5 =>
  hostport_small_j1 (r5 == x_s)) else (hostport_small_j1 false)

def hostport_Four (s : Str) : Option Bool := if s.length < 1000000000 then ((splitOn 46 s).mapM (fun x => hostport_small x 255)).bind fun bs => some (bs.all id && decide ((bs.length : Int) = 4)) else none

def slices_Clone_gapi_Event_api_Event_ (x_s : List api_Event) : Option (List api_Event) :=
  if fitsApp 0 x_s.length 16 then (some x_s) else none

def slices_Clone_gapi_Swap_api_Swap_ (x_s : List api_Swap) : Option (List api_Swap) :=
  if fitsApp 0 x_s.length 32 then (some x_s) else none

def slices_Clone_gapi_Part_api_Part_ (x_s : List api_Part) : Option (List api_Part) :=
  if fitsApp 0 x_s.length 24 then (some x_s) else none

def slices_Clone_gapi_Field_api_Field_ (x_s : List api_Field) : Option (List api_Field) :=
  if fitsApp 0 x_s.length 32 then (some x_s) else none

end Go.Dm
end
section
namespace Go.Dm
theorem idx_step (b : Bool) (v : Int) (k : Nat) (h : -1 ≤ v) : (if b = true then (k : Int) else if v = -1 then -1 else v + ((k + 1 : Nat) : Int)) =
    if (if b = true then 0 else if (v == -1) = true then -1 else v + 1) = -1 then -1 else (if b = true then 0 else if (v == -1) = true then -1 else v + 1) + (k : Int) := by
  cases b with
  | true => simp
  | false =>
    by_cases hm : v = -1
    · subst hm; simp
    · have h2 : ¬ (v + 1 = -1) := by omega
      have h3 : (v == -1) = false := beq_eq_false_iff_ne.2 hm
      rw [h3]
      simp only [Bool.false_eq_true, if_false, if_neg hm, if_neg h2]
      omega
theorem idxByte_lib : ∀ (l : Str) (c : UInt8) (k : Nat), idxByte l c k = if Go.Lib.indexByte l c = -1 then -1 else Go.Lib.indexByte l c + k
  | [], _, _ => rfl
  | x :: l, c, k => by
    rw [idxByte, Go.Lib.indexByte, idxByte_lib l c (k + 1)]
    exact idx_step _ _ k (Go.Lib.indexByte_ge l c)
theorem beq_swap (x y : UInt8) : (x == y) = (y == x) := by
  by_cases h : x = y
  · subst h; rfl
  · rw [beq_eq_false_iff_ne.2 h, beq_eq_false_iff_ne.2 (Ne.symm h)]
theorem begins_lib : ∀ (s t : Str), begins s t = t.isPrefixOf s
  | s, [] => by cases s <;> rfl
  | [], y :: t => rfl
  | x :: s, y :: t => by
    rw [begins, List.isPrefixOf, begins_lib s t, beq_swap x y]
theorem idxStr_lib : ∀ (l t : Str) (k : Nat), idxStr l t k = if Go.Lib.index l t = -1 then -1 else Go.Lib.index l t + k
  | [], t, k => by
    rw [idxStr, Go.Lib.index]
    cases t <;> simp [begins]
  | x :: l, t, k => by
    rw [idxStr, Go.Lib.index, begins_lib]
    simp only [idxStr_lib l t (k + 1)]
    exact idx_step _ _ k (Go.Lib.index_ge l t)
theorem idxAny_lib : ∀ (l cs : Str) (k : Nat), idxAny l cs k = if Go.Lib.indexAny l cs = -1 then -1 else Go.Lib.indexAny l cs + k
  | [], _, _ => rfl
  | x :: l, cs, k => by
    rw [idxAny, Go.Lib.indexAny, idxAny_lib l cs (k + 1)]
    exact idx_step _ _ k (Go.Lib.indexAny_ge cs l)
theorem idxByte_eqL (l : Str) (c : UInt8) : idxByte l c 0 = Go.Lib.indexByte l c := by
  rw [idxByte_lib]; have := Go.Lib.indexByte_ge l c; split <;> omega
theorem idxStr_eqL (l t : Str) : idxStr l t 0 = Go.Lib.index l t := by
  rw [idxStr_lib]; have := Go.Lib.index_ge l t; split <;> omega
theorem idxAny_eqL (l cs : Str) : idxAny l cs 0 = Go.Lib.indexAny l cs := by
  rw [idxAny_lib]; have := Go.Lib.indexAny_ge cs l; split <;> omega
end Go.Dm
end
section
namespace Go.Dm
@[simp] theorem sAt_nat (l : Str) (i : Nat) : sAt l (i : Int) = l[i]? := by simp [sAt]
@[simp] theorem sAt_zero (l : Str) : sAt l 0 = l[0]? := by simp [sAt]
@[simp] theorem sAt_one (l : Str) : sAt l 1 = l[1]? := by simp [sAt]
@[simp] theorem sAt_two (l : Str) : sAt l 2 = l[2]? := by simp [sAt]
@[simp] theorem lAt_nat {α : Type} (l : List α) (i : Nat) : lAt l (i : Int) = l[i]? := by simp [lAt]
@[simp] theorem lAt_zero {α : Type} (l : List α) : lAt l 0 = l[0]? := by simp [lAt]
theorem iAdd_ok {m n : Int} (h1 : -9223372036854775808 ≤ m + n) (h2 : m + n ≤ 9223372036854775807) : iAdd m n = some (m + n) := by simp [iAdd, inI, h1, h2]
end Go.Dm
end
section
namespace Go.Dm
theorem splitOn_ne (c : UInt8) (s : Str) : splitOn c s ≠ [] := by
  cases s with
  | nil => simp [splitOn]
  | cons x s =>
    unfold splitOn
    split
    · simp
    · split <;> simp
def headed (p : Str) : List Str → List Str
  | [] => [p]
  | h :: t => (p ++ h) :: t
theorem splitOn_cons (c x : UInt8) (s : Str) : splitOn c (x :: s) = if x = c then [] :: splitOn c s else headed [x] (splitOn c s) := by
  rw [splitOn]
  split
  · rfl
  · cases h : splitOn c s <;> rfl
theorem headed_nil (l : List Str) (h : l ≠ []) : headed [] l = l := by
  cases l with
  | nil => exact absurd rfl h
  | cons a t => rfl
theorem headed_headed (p q : Str) (l : List Str) (h : l ≠ []) : headed p (headed q l) = headed (p ++ q) l := by
  cases l with
  | nil => exact absurd rfl h
  | cons a t => simp [headed]
theorem splitOn_app (c : UInt8) : ∀ (a s : Str), c ∉ a → splitOn c (a ++ s) = headed a (splitOn c s)
  | [], s, _ => (headed_nil _ (splitOn_ne c s)).symm
  | x :: a, s, h => by
    have hx : ¬ x = c := fun e => h (by simp [e])
    rw [List.cons_append, splitOn_cons, if_neg hx, splitOn_app c a s (fun e => h (List.mem_cons_of_mem _ e)), headed_headed _ _ _ (splitOn_ne c s)]
    rfl
theorem splitOn_none {c : UInt8} {a : Str} (h : c ∉ a) : splitOn c a = [a] := by
  have := splitOn_app c a [] h
  simpa [splitOn, headed] using this
theorem splitOn_at {c : UInt8} {a : Str} (s : Str) (h : c ∉ a) : splitOn c (a ++ c :: s) = a :: splitOn c s := by
  rw [splitOn_app c a _ h, splitOn_cons, if_pos rfl]
  simp [headed]
theorem splitOn_len (c : UInt8) : ∀ s : Str, (splitOn c s).length ≤ s.length + 1
  | [] => by simp [splitOn]
  | x :: s => by
    have ih := splitOn_len c s
    rw [splitOn_cons]
    split
    · simp; omega
    · cases hl : splitOn c s with
      | nil => exact absurd hl (splitOn_ne c s)
      | cons a t => rw [hl] at ih; simp [headed] at ih ⊢; omega

end Go.Dm
end
