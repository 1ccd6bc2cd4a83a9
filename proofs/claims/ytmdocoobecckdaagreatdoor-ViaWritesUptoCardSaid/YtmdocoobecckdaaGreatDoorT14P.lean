/-
  A request's line: its parts come out as they went in.
-/
import Derived.Test.YtmdocoobecckdaaGreatDoorT14
namespace Go.Dm
theorem splitOn_single {c : UInt8} : ∀ {s x : Str}, splitOn c s = [x] → x = s
  | [], x, h => by rw [splitOn] at h; cases h; rfl
  | y :: s, x, h => by
    rw [splitOn_cons] at h
    split at h
    · injection h with h1 h2
      exact absurd h2 (splitOn_ne c s)
    · cases h3 : splitOn c s with
      | nil => exact absurd h3 (splitOn_ne c s)
      | cons a l =>
        rw [h3] at h
        injection h with h1 h2
        subst h2
        have := splitOn_single h3
        rw [← h1, this]; rfl
end Go.Dm
