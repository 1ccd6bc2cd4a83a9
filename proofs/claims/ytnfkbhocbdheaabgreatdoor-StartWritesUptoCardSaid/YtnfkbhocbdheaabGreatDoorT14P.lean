/-
  A request's line: its parts come out as they went in.
-/
import Derived.Test.YtnfkbhocbdheaabGreatDoorT14
namespace Go.Dm
theorem no32_ver {v : Str} (h : 0 ≤ verK v) (h2 : (verK v == 2) = false) : (32 : UInt8) ∉ v := by
  rcases verK_taken h h2 with ⟨h, _⟩ | ⟨h, _⟩ <;> rw [h] <;> decide
theorem split_parts {m t v : Str} (h1 : (32 : UInt8) ∉ m) (h2 : (32 : UInt8) ∉ t) (h3 : (32 : UInt8) ∉ v) : splitOn 32 (m ++ 32 :: (t ++ 32 :: v)) = [m, t, v] := by
  rw [splitOn_at _ h1, splitOn_at _ h2, splitOn_none h3]
theorem splitOn_join (c : UInt8) : ∀ (x y : Str), splitOn c (x ++ c :: y) = splitOn c x ++ splitOn c y
  | [], y => by rw [List.nil_append, splitOn_cons, if_pos rfl]; rfl
  | z :: x, y => by
    rw [List.cons_append, splitOn_cons, splitOn_cons, splitOn_join c x y]
    split
    · rfl
    · cases h : splitOn c x with
      | nil => exact absurd h (splitOn_ne c x)
      | cons a l => rfl
theorem splitOn_single {c : UInt8} : ∀ {s x : Str}, splitOn c s = [x] → x = s
  | [], x, h => by rw [splitOn] at h; cases h; rfl
  | y :: s, x, h => by
    rw [splitOn_cons] at h
    split at h
    · injection h with h1 h2
      exact absurd h2 (splitOn_ne c s)
    · cases h3 : splitOn c s with
      | nil => exact absurd h3 (splitOn_ne c s)
      | cons a l =>
        rw [h3] at h
        injection h with h1 h2
        subst h2
        have := splitOn_single h3
        rw [← h1, this]; rfl
theorem reqP_cases (s : Str) : (reqP s = (zeroH, 26) ∨ reqP s = (zeroH, 20)) ∨ reqF s = true ∧ reqP s = (⟨1, reqM s, reqT s, 0, [], (minR (byteR 32 (reqR3 s))).1, []⟩, 0) := by
  unfold reqP
  split
  · exact .inl (.inl rfl)
  · cases h : reqF s with
    | true => exact .inr ⟨rfl, rfl⟩
    | false => exact .inl (.inr rfl)
end Go.Dm
