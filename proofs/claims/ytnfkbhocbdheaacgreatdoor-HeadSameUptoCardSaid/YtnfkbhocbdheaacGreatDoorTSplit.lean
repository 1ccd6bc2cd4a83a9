/-
  Splitting a text at one byte. No program in sight.
-/
import Derived.Test.YtnfkbhocbdheaacGreatDoorTool
import Derived.Test.YtnfkbhocbdheaacGreatDoorMdl
namespace Go.Dm
theorem splitOn_ne (c : UInt8) (s : Str) : splitOn c s ≠ [] := by
  cases s with
  | nil => simp [splitOn]
  | cons x s =>
    unfold splitOn
    split
    · simp
    · split <;> simp
def headed (p : Str) : List Str → List Str
  | [] => [p]
  | h :: t => (p ++ h) :: t
theorem splitOn_cons (c x : UInt8) (s : Str) : splitOn c (x :: s) = if x = c then [] :: splitOn c s else headed [x] (splitOn c s) := by
  rw [splitOn]
  split
  · rfl
  · cases h : splitOn c s <;> rfl
theorem headed_nil (l : List Str) (h : l ≠ []) : headed [] l = l := by
  cases l with
  | nil => exact absurd rfl h
  | cons a t => rfl
theorem headed_headed (p q : Str) (l : List Str) (h : l ≠ []) : headed p (headed q l) = headed (p ++ q) l := by
  cases l with
  | nil => exact absurd rfl h
  | cons a t => simp [headed]
theorem splitOn_app (c : UInt8) : ∀ (a s : Str), c ∉ a → splitOn c (a ++ s) = headed a (splitOn c s)
  | [], s, _ => (headed_nil _ (splitOn_ne c s)).symm
  | x :: a, s, h => by
    have hx : ¬ x = c := fun e => h (by simp [e])
    rw [List.cons_append, splitOn_cons, if_neg hx, splitOn_app c a s (fun e => h (List.mem_cons_of_mem _ e)), headed_headed _ _ _ (splitOn_ne c s)]
    rfl
theorem splitOn_none {c : UInt8} {a : Str} (h : c ∉ a) : splitOn c a = [a] := by
  have := splitOn_app c a [] h
  simpa [splitOn, headed] using this
theorem splitOn_at {c : UInt8} {a : Str} (s : Str) (h : c ∉ a) : splitOn c (a ++ c :: s) = a :: splitOn c s := by
  rw [splitOn_app c a _ h, splitOn_cons, if_pos rfl]
  simp [headed]
theorem splitOn_len (c : UInt8) : ∀ s : Str, (splitOn c s).length ≤ s.length + 1
  | [] => by simp [splitOn]
  | x :: s => by
    have ih := splitOn_len c s
    rw [splitOn_cons]
    split
    · simp; omega
    · cases hl : splitOn c s with
      | nil => exact absurd hl (splitOn_ne c s)
      | cons a t => rw [hl] at ih; simp [headed] at ih ⊢; omega
end Go.Dm
