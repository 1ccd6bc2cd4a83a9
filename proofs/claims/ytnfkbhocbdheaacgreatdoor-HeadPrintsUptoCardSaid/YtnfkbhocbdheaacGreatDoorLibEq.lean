/-
  The library's functions as the models say them, and as the library's contracts say them. No program in sight.
-/
import Derived.Test.YtnfkbhocbdheaacGreatDoorMdl
import Derived.Lib.Bytealg
import Derived.Lib.Index
import Derived.Lib.IndexMore
import Derived.Lib.IndexAny
namespace Go.Dm
theorem idx_step (b : Bool) (v : Int) (k : Nat) (h : -1 ≤ v) : (if b = true then (k : Int) else if v = -1 then -1 else v + ((k + 1 : Nat) : Int)) =
    if (if b = true then 0 else if (v == -1) = true then -1 else v + 1) = -1 then -1 else (if b = true then 0 else if (v == -1) = true then -1 else v + 1) + (k : Int) := by
  cases b with
  | true => simp
  | false =>
    by_cases hm : v = -1
    · subst hm; simp
    · have h2 : ¬ (v + 1 = -1) := by omega
      have h3 : (v == -1) = false := beq_eq_false_iff_ne.2 hm
      rw [h3]
      simp only [Bool.false_eq_true, if_false, if_neg hm, if_neg h2]
      omega
theorem idxByte_lib : ∀ (l : Str) (c : UInt8) (k : Nat), idxByte l c k = if Go.Lib.indexByte l c = -1 then -1 else Go.Lib.indexByte l c + k
  | [], _, _ => rfl
  | x :: l, c, k => by
    rw [idxByte, Go.Lib.indexByte, idxByte_lib l c (k + 1)]
    exact idx_step _ _ k (Go.Lib.indexByte_ge l c)
theorem beq_swap (x y : UInt8) : (x == y) = (y == x) := by
  by_cases h : x = y
  · subst h; rfl
  · rw [beq_eq_false_iff_ne.2 h, beq_eq_false_iff_ne.2 (Ne.symm h)]
theorem begins_lib : ∀ (s t : Str), begins s t = t.isPrefixOf s
  | s, [] => by cases s <;> rfl
  | [], y :: t => rfl
  | x :: s, y :: t => by
    rw [begins, List.isPrefixOf, begins_lib s t, beq_swap x y]
theorem idxStr_lib : ∀ (l t : Str) (k : Nat), idxStr l t k = if Go.Lib.index l t = -1 then -1 else Go.Lib.index l t + k
  | [], t, k => by
    rw [idxStr, Go.Lib.index]
    cases t <;> simp [begins]
  | x :: l, t, k => by
    rw [idxStr, Go.Lib.index, begins_lib]
    simp only [idxStr_lib l t (k + 1)]
    exact idx_step _ _ k (Go.Lib.index_ge l t)
theorem idxAny_lib : ∀ (l cs : Str) (k : Nat), idxAny l cs k = if Go.Lib.indexAny l cs = -1 then -1 else Go.Lib.indexAny l cs + k
  | [], _, _ => rfl
  | x :: l, cs, k => by
    rw [idxAny, Go.Lib.indexAny, idxAny_lib l cs (k + 1)]
    exact idx_step _ _ k (Go.Lib.indexAny_ge cs l)
theorem idxByte_eqL (l : Str) (c : UInt8) : idxByte l c 0 = Go.Lib.indexByte l c := by
  rw [idxByte_lib]; have := Go.Lib.indexByte_ge l c; split <;> omega
theorem idxStr_eqL (l t : Str) : idxStr l t 0 = Go.Lib.index l t := by
  rw [idxStr_lib]; have := Go.Lib.index_ge l t; split <;> omega
theorem idxAny_eqL (l cs : Str) : idxAny l cs 0 = Go.Lib.indexAny l cs := by
  rw [idxAny_lib]; have := Go.Lib.indexAny_ge cs l; split <;> omega
end Go.Dm
