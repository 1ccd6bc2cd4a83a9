/-
  Splitting a text at one byte. No program in sight.
-/
import Derived.Test.YtnfkbhocbdheaacGreatDoorTool
import Derived.Test.YtnfkbhocbdheaacGreatDoorMdl
namespace Go.Dm
theorem splitOn_ne (c : UInt8) (s : Str) : splitOn c s ≠ [] := by
  cases s with
  | nil => simp [splitOn]
  | cons x s =>
    unfold splitOn
    split
    · simp
    · split <;> simp
theorem index_cons_ne {b c : UInt8} {l : Str} (h : b ≠ c) : Go.Lib.index (b :: l) [c] = if Go.Lib.index l [c] = -1 then -1 else Go.Lib.index l [c] + 1 := by
  have hp : ([c] : List UInt8).isPrefixOf (b :: l) = false := by simp [List.isPrefixOf, Ne.symm h]
  rw [Go.Lib.index, hp]; simp
theorem index_cons_eq (c : UInt8) (l : Str) : Go.Lib.index (c :: l) [c] = 0 := by
  rw [Go.Lib.index]; simp [List.isPrefixOf]
theorem splitK_one (c : UInt8) : ∀ (s : Str) (k : Nat), Go.Lib.count s [c] = k → Go.Lib.splitK [c] 0 k s = splitOn c s
  | [], k, h => by
    rw [Go.Lib.count_one] at h
    simp at h; subst h; rfl
  | b :: l, k, h => by
    by_cases hb : b = c
    · subst hb
      rw [Go.Lib.count_cons_eq] at h
      obtain ⟨m, rfl⟩ : ∃ m, k = m + 1 := ⟨k - 1, by omega⟩
      have ih := splitK_one b l m (by omega)
      unfold Go.Lib.splitK
      rw [index_cons_eq]
      simp [splitOn, ih]
    · rw [Go.Lib.count_cons_ne b c l hb] at h
      have ih := splitK_one c l k h
      unfold splitOn
      rw [if_neg hb, ← ih]
      cases k with
      | zero => simp [Go.Lib.splitK]
      | succ k =>
        unfold Go.Lib.splitK
        rw [index_cons_ne hb]
        have hge := Go.Lib.index_ge l [c]
        by_cases hm : Go.Lib.index l [c] = -1
        · rw [Go.Lib.count_miss hm] at h; omega
        · obtain ⟨j, hj⟩ : ∃ j : Nat, Go.Lib.index l [c] = j := ⟨(Go.Lib.index l [c]).toNat, by omega⟩
          have e1 : ¬ ((j : Int) + 1 = -1) := by omega
          have e2 : ¬ ((j : Int) = -1) := by omega
          have e3 : ((j : Int) + 1).toNat = j + 1 := by omega
          rw [hj]
          simp [e1, e2, e3, Nat.add_right_comm j 1 1]
theorem strings_Split_eq (s : Str) (c : UInt8) (hs : s.length < 1000000000) : strings_Split s [c] = some (splitOn c s) := by
  unfold strings_Split
  rw [if_pos ⟨by omega, by simp⟩]
  rw [splitK_one c s _ rfl]
def headed (p : Str) : List Str → List Str
  | [] => [p]
  | h :: t => (p ++ h) :: t
theorem splitOn_cons (c x : UInt8) (s : Str) : splitOn c (x :: s) = if x = c then [] :: splitOn c s else headed [x] (splitOn c s) := by
  rw [splitOn]
  split
  · rfl
  · cases h : splitOn c s <;> rfl
theorem headed_nil (l : List Str) (h : l ≠ []) : headed [] l = l := by
  cases l with
  | nil => exact absurd rfl h
  | cons a t => rfl
theorem headed_headed (p q : Str) (l : List Str) (h : l ≠ []) : headed p (headed q l) = headed (p ++ q) l := by
  cases l with
  | nil => exact absurd rfl h
  | cons a t => simp [headed]
theorem splitOn_app (c : UInt8) : ∀ (a s : Str), c ∉ a → splitOn c (a ++ s) = headed a (splitOn c s)
  | [], s, _ => (headed_nil _ (splitOn_ne c s)).symm
  | x :: a, s, h => by
    have hx : ¬ x = c := fun e => h (by simp [e])
    rw [List.cons_append, splitOn_cons, if_neg hx, splitOn_app c a s (fun e => h (List.mem_cons_of_mem _ e)), headed_headed _ _ _ (splitOn_ne c s)]
    rfl
theorem splitOn_none {c : UInt8} {a : Str} (h : c ∉ a) : splitOn c a = [a] := by
  have := splitOn_app c a [] h
  simpa [splitOn, headed] using this
theorem splitOn_at {c : UInt8} {a : Str} (s : Str) (h : c ∉ a) : splitOn c (a ++ c :: s) = a :: splitOn c s := by
  rw [splitOn_app c a _ h, splitOn_cons, if_pos rfl]
  simp [headed]
theorem splitOn_mem {c : UInt8} : ∀ {s p : Str}, p ∈ splitOn c s → c ∉ p ∧ p.length ≤ s.length ∧ ∀ x ∈ p, x ∈ s
  | [], p, h => by
    simp [splitOn] at h; subst h; simp
  | x :: s, p, h => by
    rw [splitOn_cons] at h
    split at h
    · rcases List.mem_cons.1 h with rfl | h
      · simp
      · obtain ⟨h1, h2, h3⟩ := splitOn_mem h
        exact ⟨h1, by simp; omega, fun y hy => List.mem_cons_of_mem _ (h3 y hy)⟩
    · rename_i hx
      cases hl : splitOn c s with
      | nil => exact absurd hl (splitOn_ne c s)
      | cons a t =>
        rw [hl] at h
        rcases List.mem_cons.1 h with rfl | h
        · obtain ⟨h1, h2, h3⟩ := splitOn_mem (c := c) (s := s) (p := a) (by rw [hl]; simp)
          refine ⟨?_, by simp; omega, ?_⟩
          · simp only [List.singleton_append, List.mem_cons, not_or]; exact ⟨fun e => hx e.symm, h1⟩
          · intro y hy
            simp only [List.singleton_append, List.mem_cons] at hy ⊢
            rcases hy with hy | hy
            · exact .inl hy
            · exact .inr (h3 y hy)
        · obtain ⟨h1, h2, h3⟩ := splitOn_mem (c := c) (s := s) (p := p) (by rw [hl]; exact List.mem_cons_of_mem _ h)
          exact ⟨h1, by simp; omega, fun y hy => List.mem_cons_of_mem _ (h3 y hy)⟩
theorem splitOn_len (c : UInt8) : ∀ s : Str, (splitOn c s).length ≤ s.length + 1
  | [] => by simp [splitOn]
  | x :: s => by
    have ih := splitOn_len c s
    rw [splitOn_cons]
    split
    · simp; omega
    · cases hl : splitOn c s with
      | nil => exact absurd hl (splitOn_ne c s)
      | cons a t => rw [hl] at ih; simp [headed] at ih ⊢; omega
end Go.Dm
