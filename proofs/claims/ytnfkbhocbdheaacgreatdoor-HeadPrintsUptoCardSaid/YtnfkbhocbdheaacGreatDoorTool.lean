/-
  Plain tools for the laws: the partial operations at natural numbers, loops over lists. No program in sight.
-/
import Derived.Test.YtnfkbhocbdheaacGreatDoorPrim
namespace Go.Dm
@[simp] theorem sAt_nat (l : Str) (i : Nat) : sAt l (i : Int) = l[i]? := by simp [sAt]
@[simp] theorem sAt_zero (l : Str) : sAt l 0 = l[0]? := by simp [sAt]
@[simp] theorem sAt_one (l : Str) : sAt l 1 = l[1]? := by simp [sAt]
@[simp] theorem sAt_two (l : Str) : sAt l 2 = l[2]? := by simp [sAt]
@[simp] theorem lAt_nat {α : Type} (l : List α) (i : Nat) : lAt l (i : Int) = l[i]? := by simp [lAt]
@[simp] theorem lAt_zero {α : Type} (l : List α) : lAt l 0 = l[0]? := by simp [lAt]
theorem iAdd_ok {m n : Int} (h1 : -9223372036854775808 ≤ m + n) (h2 : m + n ≤ 9223372036854775807) : iAdd m n = some (m + n) := by simp [iAdd, inI, h1, h2]
theorem iSub_ok {m n : Int} (h1 : -9223372036854775808 ≤ m - n) (h2 : m - n ≤ 9223372036854775807) : iSub m n = some (m - n) := by simp [iSub, inI, h1, h2]
theorem iMul_ok {m n : Int} (h1 : -9223372036854775808 ≤ m * n) (h2 : m * n ≤ 9223372036854775807) : iMul m n = some (m * n) := by simp [iMul, inI, h1, h2]
theorem iAdd_one {i : Nat} (h : i < 4611686018427387904) : iAdd (i : Int) 1 = some ((i + 1 : Nat) : Int) := by
  rw [iAdd_ok (by omega) (by omega)]; simp
theorem iAdd_nat {i k : Nat} (h : i + k < 4611686018427387904) : iAdd (i : Int) (k : Int) = some ((i + k : Nat) : Int) := by
  rw [iAdd_ok (by omega) (by omega)]; simp
theorem sTo_nat {l : Str} {h : Nat} (hh : h ≤ l.length) : sTo l (h : Int) = some (l.take h) := by simp [sTo, hh]
theorem sFrom_nat {l : Str} {i : Nat} (hh : i ≤ l.length) : sFrom l (i : Int) = some (l.drop i) := by simp [sFrom, hh]
theorem sSub_nat {l : Str} {i h : Nat} (h1 : i ≤ h) (h2 : h ≤ l.length) : sSub l (i : Int) (h : Int) = some ((l.take h).drop i) := by simp [sSub, h1, h2]
theorem sCat_ok {l m : Str} (h : l.length + m.length ≤ 9223372036854775807) : sCat l m = some (l ++ m) := by simp [sCat, h]
theorem fuel_gt {n : Nat} (h : n < 1000000000000000000) : n < fuel := h

/-- A loop over a list by an index, from the left. -/
theorem loop_list {α β : Type} (l : List α) (L : Nat → Int → Option β) (F : α → Option β → Option β) (E : Option β)
    (hE : ∀ n, L (n + 1) (l.length : Int) = E) (hL : ∀ n (i : Nat) x, i < l.length → l[i]? = some x → L (n + 1) (i : Int) = F x (L n ((i + 1 : Nat) : Int))) :
    ∀ (n i : Nat), i ≤ l.length → l.length - i < n → L n (i : Int) = (l.drop i).foldr F E
  | 0, _, _, h => by omega
  | n + 1, i, hi, h => by
    by_cases hlt : i < l.length
    · rw [hL n i _ hlt (List.getElem?_eq_getElem hlt), loop_list l L F E hE hL n (i + 1) (by omega) (by omega), List.drop_eq_getElem_cons hlt]
      rfl
    · have : i = l.length := by omega
      subst this
      rw [hE, List.drop_length]
      rfl
theorem loop_start {α β : Type} (l : List α) (L : Nat → Int → Option β) (F : α → Option β → Option β) (E : Option β) (hl : l.length < 1000000000000000000)
    (hE : ∀ n, L (n + 1) (l.length : Int) = E) (hL : ∀ n (i : Nat) x, i < l.length → l[i]? = some x → L (n + 1) (i : Int) = F x (L n ((i + 1 : Nat) : Int))) : L fuel 0 = l.foldr F E := by
  have := loop_list l L F E hE hL fuel 0 (Nat.zero_le _) (fuel_gt (by omega))
  simpa using this
theorem fits_ok {n m b : Nat} (h : (n + m) * b ≤ 140737488355328) (h2 : n + m ≤ 140737488355328) : fitsApp n m b = true := by
  simp only [fitsApp, Bool.and_eq_true, decide_eq_true_eq]; exact ⟨by omega, h⟩

/-- All bytes, by evaluation. -/
theorem all_bytes (p : UInt8 → Bool) (h : (List.range 256).all (fun n => p (UInt8.ofNat n)) = true) (b : UInt8) : p b = true := by
  have := List.all_eq_true.1 h b.toNat (by simpa using b.toNat_lt)
  simpa using this
theorem foldr_and {α : Type} (p : α → Bool) (l : List α) : l.foldr (fun x r => if p x = true then r else some false) (some true) = some (l.all p) := by
  induction l with
  | nil => rfl
  | cons x l ih => simp only [List.foldr_cons, ih, List.all_cons]; cases p x <;> simp
theorem sTo_min (s : Str) (k : Nat) : sTo s (min (s.length : Int) (k : Int)) = some (s.take k) := by
  have e : min (s.length : Int) (k : Int) = ((min s.length k : Nat) : Int) := by omega
  rw [e, sTo_nat (Nat.min_le_left _ _)]
  congr 1
  rcases Nat.le_total s.length k with h | h
  · rw [Nat.min_eq_left h, List.take_length, List.take_of_length_le h]
  · rw [Nat.min_eq_right h]
end Go.Dm
