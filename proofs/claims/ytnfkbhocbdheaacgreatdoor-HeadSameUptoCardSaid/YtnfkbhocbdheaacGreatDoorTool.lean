/-
  Plain tools for the laws: the partial operations at natural numbers, loops over lists. No program in sight.
-/
import Derived.Test.YtnfkbhocbdheaacGreatDoorPrim
namespace Go.Dm
@[simp] theorem sAt_nat (l : Str) (i : Nat) : sAt l (i : Int) = l[i]? := by simp [sAt]
@[simp] theorem sAt_zero (l : Str) : sAt l 0 = l[0]? := by simp [sAt]
@[simp] theorem sAt_one (l : Str) : sAt l 1 = l[1]? := by simp [sAt]
@[simp] theorem sAt_two (l : Str) : sAt l 2 = l[2]? := by simp [sAt]
@[simp] theorem lAt_nat {α : Type} (l : List α) (i : Nat) : lAt l (i : Int) = l[i]? := by simp [lAt]
@[simp] theorem lAt_zero {α : Type} (l : List α) : lAt l 0 = l[0]? := by simp [lAt]
theorem iAdd_ok {m n : Int} (h1 : -9223372036854775808 ≤ m + n) (h2 : m + n ≤ 9223372036854775807) : iAdd m n = some (m + n) := by simp [iAdd, inI, h1, h2]
theorem iAdd_one {i : Nat} (h : i < 4611686018427387904) : iAdd (i : Int) 1 = some ((i + 1 : Nat) : Int) := by
  rw [iAdd_ok (by omega) (by omega)]; simp
theorem sTo_nat {l : Str} {h : Nat} (hh : h ≤ l.length) : sTo l (h : Int) = some (l.take h) := by simp [sTo, hh]
theorem fits_ok {n m b : Nat} (h : (n + m) * b ≤ 140737488355328) (h2 : n + m ≤ 140737488355328) : fitsApp n m b = true := by
  simp only [fitsApp, Bool.and_eq_true, decide_eq_true_eq]; exact ⟨by omega, h⟩

theorem sTo_min (s : Str) (k : Nat) : sTo s (min (s.length : Int) (k : Int)) = some (s.take k) := by
  have e : min (s.length : Int) (k : Int) = ((min s.length k : Nat) : Int) := by omega
  rw [e, sTo_nat (Nat.min_le_left _ _)]
  congr 1
  rcases Nat.le_total s.length k with h | h
  · rw [Nat.min_eq_left h, List.take_length, List.take_of_length_le h]
  · rw [Nat.min_eq_right h]
end Go.Dm
