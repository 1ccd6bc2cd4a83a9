/-
 The models' words: partial operations as functions into Option. No program in sight.
 The models of the functions: written by a program (wip/gen) off the translation. No program in sight.
 The library's functions as the models say them, and as the library's contracts say them. No program in sight.
 Plain tools for the laws: the partial operations at natural numbers, loops over lists. No program in sight.
 Splitting a text at one byte. No program in sight.
-/
import Derived.Lib.Replace
import Derived.Lib.ItoaNum
import Derived.Lib.SplitLaws
import Derived.Lib.SlTrimSet
import Derived.Lib.Join
import Derived.Lib.IndexMore
import Derived.Lib.Bytealg
import Derived.Lib.Index
import Derived.Lib.IndexAny
set_option linter.unusedVariables false
set_option linter.unusedSimpArgs false
section
namespace Go.Dm
abbrev Str := List UInt8

def inI (n : Int) : Bool := decide (-9223372036854775808 ≤ n) && decide (n ≤ 9223372036854775807)
theorem zzw {n : Int} : inI n = true ↔ -9223372036854775808 ≤ n ∧ n ≤ 9223372036854775807 := by simp [inI]

def zj (m n : Int) : Option Int := if inI (m + n) then some (m + n) else none
def zey (m n : Int) : Option Int := if inI (m - n) then some (m - n) else none
def iMul (m n : Int) : Option Int := if inI (m * n) then some (m * n) else none
def iDiv (m n : Int) : Option Int := if 0 ≤ m ∧ 1 ≤ n ∧ inI (m / n) = true then some (m / n) else none
def iMod (m n : Int) : Option Int := if 0 ≤ m ∧ 1 ≤ n ∧ inI (m % n) = true then some (m % n) else none
def sAt (l : Str) (i : Int) : Option UInt8 := if 0 ≤ i then l[i.toNat]? else none
def sTo (l : Str) (h : Int) : Option Str := if 0 ≤ h ∧ h ≤ l.length then some (l.take h.toNat) else none
def zY (l : Str) (i : Int) : Option Str := if 0 ≤ i ∧ i ≤ l.length then some (l.drop i.toNat) else none
def zuJ (l : Str) (i h : Int) : Option Str := if 0 ≤ i ∧ i ≤ h ∧ h ≤ l.length then some ((l.take h.toNat).drop i.toNat) else none
def zhP (l m : Str) : Option Str := if l.length + m.length ≤ 9223372036854775807 then some (l ++ m) else none
def lAt {α : Type} (l : List α) (i : Int) : Option α := if 0 ≤ i then l[i.toNat]? else none
def lTo {α : Type} (l : List α) (h : Int) : Option (List α) := if 0 ≤ h ∧ h ≤ l.length then some (l.take h.toNat) else none
def znM {α : Type} (l : List α) (i : Int) : Option (List α) := if 0 ≤ i ∧ i ≤ l.length then some (l.drop i.toNat) else none
def zzx {α : Type} (l : List α) (i h : Int) : Option (List α) := if 0 ≤ i ∧ i ≤ h ∧ h ≤ l.length then some ((l.take h.toNat).drop i.toNat) else none
def zv1 {α : Type} (l : List α) (i : Int) (x : α) : Option (List α) := if 0 ≤ i ∧ i < l.length then some (l.set i.toNat x) else none

def zl (n m bytes : Nat) : Bool := decide (n + m ≤ 9223372036854775807) && decide ((n + m) * bytes ≤ 140737488355328)
def zDw (n : Int) : Option Int := if inI n then some n else none
def zDx (n : Int) : UInt8 := UInt8.ofNat (n % 256).toNat
theorem og {α : Type} {b : Bool} {x : Option α} {r : α} (h : (if b = true then x else none) = some r) : b = true ∧ x = some r := by
 cases b with
 | false => cases h
 | true => exact ⟨rfl,h⟩
theorem zDy (b : Bool) : b = true ∨ b = false := by cases b <;> simp
theorem ob {α β : Type} {m : Option α} {f : α → Option β} {r : β} (h : m.bind f = some r) : ∃ x,m = some x ∧ f x = some r := by
 cases m with
 | none => cases h
 | some x => exact ⟨x,rfl,h⟩
theorem it {α : Type} {b : Bool} {x y : Option α} {r : α} (hb : b = true) (h : (if b = true then x else y) = some r) : x = some r := by rwa [if_pos hb] at h
theorem ie {α : Type} {b : Bool} {x y : Option α} {r : α} (hb : b = false) (h : (if b = true then x else y) = some r) : y = some r := by rwa [if_neg (by simp [hb])] at h

def zqo : Str → Str → Bool
 | _,[] => false
 | [],_ :: _ => true
 | a :: x,b :: y => a < b || (a == b && zqo x y)
def fuel : Nat := 1000000000000000000
def zlo (l : List (Int × Str)) (k : Int) : Str × Bool := match l.find? fun q => q.1 == k with
 | some q => (q.2,true)
 | none => ([],false)
end Go.Dm
end
section
set_option linter.unusedVariables false
set_option maxRecDepth 10000
namespace Go.Dm
structure zLK where
 From : Str
 To : Str
deriving DecidableEq,Inhabited
structure zLo where
 Name : Str
 Value : Str
deriving DecidableEq,Inhabited
structure zLD where
 Kind : Int
 Text : Str
deriving DecidableEq,Inhabited
def zjG : Str → UInt8 → Nat → Int
 | [],_,_ => -1
 | x :: l,c,k => if x == c then (k : Int) else zjG l c (k + 1)
def strings_IndexByte (s : Str) (c : UInt8) : Option Int := some (zjG s c 0)
def znu : Str → Str → Bool
 | _,[] => true
 | [],_ :: _ => false
 | x :: s,y :: t => x == y && znu s t
def zf5 : Str → Str → Nat → Int
 | s,t,k => if znu s t then (k : Int) else match s with
  | [] => -1
  | _ :: s => zf5 s t (k + 1)
def strings_Index (s t : Str) : Option Int := if s.length < 4294967281 then some (zf5 s t 0) else none
def strings_Cut (s t : Str) : Option (Str × Str × Bool) := if s.length < 4294967281 then some (Go.Lib.cut s t) else none
def strings_Contains (s t : Str) : Option Bool := if s.length < 4294967281 then some (decide (0 ≤ zf5 s t 0)) else none
def zlt : Str → Str → Nat → Int
 | [],_,_ => -1
 | x :: l,cs,k => if cs.contains x then (k : Int) else zlt l cs (k + 1)
def strings_IndexAny (s cs : Str) : Option Int := if s.length < 4294967281 ∧ cs.length < 4294967281 ∧ cs.all (fun c => c.toNat < 128) then some (zlt s cs 0) else none
def strings_Split (s sep : Str) : Option (List Str) := if s.length < 4294967281 ∧ 1 ≤ sep.length then some (Go.Lib.splitK sep 0 (Go.Lib.countB ⟨s.toArray⟩ ⟨sep.toArray⟩) s) else none
def zS (c : UInt8) : Str → List Str
 | [] => [[]]
 | x :: s => if x = c then [] :: zS c s else match zS c s with
  | [] => [[x]]
  | h :: t => (x :: h) :: t
def zpY (k : Nat) : UInt8 := if k < 10 then UInt8.ofNat (48 + k) else UInt8.ofNat (87 + k)
def zoV : Nat → Nat → Str
 | 0,u => [zpY u]
 | g + 1,u => if u < 16 then [zpY u] else zoV g (u / 16) ++ [zpY (u % 16)]
def zb0 (n b : Int) : Option Str := if inI n = true ∧ b = 10 then some (Go.Lib.itoa n) else if b = 16 ∧ 0 ≤ n ∧ n < 1048576 then some (zoV 4 n.toNat) else none
def zbu (s cs : Str) : Option Str := if s.length < 4294967281 ∧ cs.length < 4294967281 ∧ cs.all (fun c => c.toNat < 128) then some (Go.Lib.trimS s cs) else none
def zde (s cs : Str) : Option Str := if s.length < 4294967281 ∧ cs.length < 4294967281 ∧ cs.all (fun c => c.toNat < 128) then some (Go.Lib.trimRightS s cs) else none
def strings_ReplaceAll (s old new : Str) : Option Str := if s.length < 4294967281 ∧ 1 ≤ old.length ∧ s.length + Go.Lib.countB ⟨s.toArray⟩ ⟨old.toArray⟩ * new.length ≤ 140737488355328 then some (Go.Lib.replaceAll s old new) else none
def strings_Join (l : List Str) (sep : Str) : Option Str := if l.length ≤ 140737488355328 ∧ (Go.Lib.join l sep).length ≤ 140737488355328 then some (Go.Lib.join l sep) else none
def zeP (x_s : List zLK) : Option (List zLK) :=
 if zl 0 x_s.length 32 then (some x_s) else none

def zd6 (x_s : List zLo) : Option (List zLo) :=
 if zl 0 x_s.length 32 then (some x_s) else none

def zeQ (x_s : List zLD) : Option (List zLD) :=
 if zl 0 x_s.length 24 then (some x_s) else none

def zb1 (s : List zLo) (i : Int) (v : List zLo) : Option (List zLo) := if v.length = 1 ∧ 0 ≤ i ∧ i ≤ s.length ∧ zl s.length v.length 32 = true then some (s.take i.toNat ++ v ++ s.drop i.toNat) else none

end Go.Dm
end
section
namespace Go.Dm
theorem zwU (b : Bool) (v : Int) (k : Nat) (h : -1 ≤ v) : (if b = true then (k : Int) else if v = -1 then -1 else v + ((k + 1 : Nat) : Int)) =
  if (if b = true then 0 else if (v == -1) = true then -1 else v + 1) = -1 then -1 else (if b = true then 0 else if (v == -1) = true then -1 else v + 1) + (k : Int) := by
 cases b with
 | true => simp
 | false =>
  by_cases hm : v = -1
  ·subst hm; simp
  ·have h2 : ¬ (v + 1 = -1) := by omega
   have h3 : (v == -1) = false := beq_eq_false_iff_ne.2 hm
   rw [h3]
   simp only [Bool.false_eq_true,if_false,if_neg hm,if_neg h2]
   omega
theorem zvA : ∀ (l : Str) (c : UInt8) (k : Nat),zjG l c k = if Go.Lib.indexByte l c = -1 then -1 else Go.Lib.indexByte l c + k
 | [],_,_ => rfl
 | x :: l,c,k => by
  rw [zjG,Go.Lib.indexByte,zvA l c (k + 1)]
  exact zwU _ _ k (Go.Lib.indexByte_ge l c)
theorem zFb (x y : UInt8) : (x == y) = (y == x) := by
 by_cases h : x = y
 ·subst h; rfl
 ·rw [beq_eq_false_iff_ne.2 h,beq_eq_false_iff_ne.2 (Ne.symm h)]
theorem zwV : ∀ (s t : Str),znu s t = t.isPrefixOf s
 | s,[] => by cases s <;> rfl
 | [],y :: t => rfl
 | x :: s,y :: t => by
  rw [znu,List.isPrefixOf,zwV s t,zFb x y]
theorem zwW : ∀ (l t : Str) (k : Nat),zf5 l t k = if Go.Lib.index l t = -1 then -1 else Go.Lib.index l t + k
 | [],t,k => by
  rw [zf5,Go.Lib.index]
  cases t <;> simp [znu]
 | x :: l,t,k => by
  rw [zf5,Go.Lib.index,zwV]
  simp only [zwW l t (k + 1)]
  exact zwU _ _ k (Go.Lib.index_ge l t)
theorem zwX : ∀ (l cs : Str) (k : Nat),zlt l cs k = if Go.Lib.indexAny l cs = -1 then -1 else Go.Lib.indexAny l cs + k
 | [],_,_ => rfl
 | x :: l,cs,k => by
  rw [zlt,Go.Lib.indexAny,zwX l cs (k + 1)]
  exact zwU _ _ k (Go.Lib.indexAny_ge cs l)
theorem zvB (l : Str) (c : UInt8) : zjG l c 0 = Go.Lib.indexByte l c := by
 rw [zvA]; have := Go.Lib.indexByte_ge l c; split <;> omega
theorem zwY (l t : Str) : zf5 l t 0 = Go.Lib.index l t := by
 rw [zwW]; have := Go.Lib.index_ge l t; split <;> omega
theorem zCg (l cs : Str) : zlt l cs 0 = Go.Lib.indexAny l cs := by
 rw [zwX]; have := Go.Lib.indexAny_ge cs l; split <;> omega
end Go.Dm
end
section
namespace Go.Dm
@[simp] theorem sAt_nat (l : Str) (i : Nat) : sAt l (i : Int) = l[i]? := by simp [sAt]
@[simp] theorem sAt_zero (l : Str) : sAt l 0 = l[0]? := by simp [sAt]
@[simp] theorem sAt_one (l : Str) : sAt l 1 = l[1]? := by simp [sAt]
@[simp] theorem sAt_two (l : Str) : sAt l 2 = l[2]? := by simp [sAt]
@[simp] theorem lAt_nat {α : Type} (l : List α) (i : Nat) : lAt l (i : Int) = l[i]? := by simp [lAt]
@[simp] theorem lAt_zero {α : Type} (l : List α) : lAt l 0 = l[0]? := by simp [lAt]
theorem iAdd_ok {m n : Int} (h1 : -9223372036854775808 ≤ m + n) (h2 : m + n ≤ 9223372036854775807) : zj m n = some (m + n) := by simp [zj,inI,h1,h2]
end Go.Dm
end
section
namespace Go.Dm
theorem zsO (c : UInt8) (s : Str) : zS c s ≠ [] := by
 cases s with
 | nil => simp [zS]
 | cons x s =>
  unfold zS
  split
  ·simp
  ·split <;> simp
def znt (p : Str) : List Str → List Str
 | [] => [p]
 | h :: t => (p ++ h) :: t
theorem zow (c x : UInt8) (s : Str) : zS c (x :: s) = if x = c then [] :: zS c s else znt [x] (zS c s) := by
 rw [zS]
 split
 ·rfl
 ·cases h : zS c s <;> rfl
theorem zCe (l : List Str) (h : l ≠ []) : znt [] l = l := by
 cases l with
 | nil => exact absurd rfl h
 | cons a t => rfl
theorem zyo (p q : Str) (l : List Str) (h : l ≠ []) : znt p (znt q l) = znt (p ++ q) l := by
 cases l with
 | nil => exact absurd rfl h
 | cons a t => simp [znt]
theorem zqn (c : UInt8) : ∀ (a s : Str),c ∉ a → zS c (a ++ s) = znt a (zS c s)
 | [],s,_ => (zCe _ (zsO c s)).symm
 | x :: a,s,h => by
  have hx : ¬ x = c := fun e => h (by simp [e])
  rw [List.cons_append,zow,if_neg hx,zqn c a s (fun e => h (List.mem_cons_of_mem _ e)),zyo _ _ _ (zsO c s)]
  rfl
theorem zzu {c : UInt8} {a : Str} (h : c ∉ a) : zS c a = [a] := by
 have := zqn c a [] h
 simpa [zS,znt] using this
theorem zCf {c : UInt8} {a : Str} (s : Str) (h : c ∉ a) : zS c (a ++ c :: s) = a :: zS c s := by
 rw [zqn c a _ h,zow,if_pos rfl]
 simp [znt]
theorem zvz (c : UInt8) : ∀ s : Str,(zS c s).length ≤ s.length + 1
 | [] => by simp [zS]
 | x :: s => by
  have ih := zvz c s
  rw [zow]
  split
  ·simp; omega
  ·cases hl : zS c s with
   | nil => exact absurd hl (zsO c s)
   | cons a t => rw [hl] at ih; simp [znt] at ih ⊢; omega

end Go.Dm
end
