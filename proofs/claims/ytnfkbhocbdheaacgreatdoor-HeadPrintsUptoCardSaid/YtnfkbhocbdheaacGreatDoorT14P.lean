/-
  A request's line: its parts come out as they went in.
-/
import Derived.Test.YtnfkbhocbdheaacGreatDoorT14
namespace Go.Dm
theorem reqP_cases (s : Str) : (reqP s = (zeroH, 26) ∨ reqP s = (zeroH, 20)) ∨ reqF s = true ∧ reqP s = (⟨1, reqM s, reqT s, 0, [], (minR (byteR 32 (reqR3 s))).1, []⟩, 0) := by
  unfold reqP
  split
  · exact .inl (.inl rfl)
  · cases h : reqF s with
    | true => exact .inr ⟨rfl, rfl⟩
    | false => exact .inl (.inr rfl)
end Go.Dm
