/-
  First lines: the program's.
-/
import Derived.Test.YtmdocoobecckdaaGreatDoorTAt
import Derived.Test.YtmdocoobecckdaaGreatDoorT09
import Derived.Test.YtmdocoobecckdaaGreatDoorT08P
import Derived.Test.YtmdocoobecckdaaGreatDoorTFold
namespace Go.Dm
section
variable {s r : Str} {k : Nat}
end
theorem takeWhile_all {p : UInt8 → Bool} {s : Str} {x : UInt8} (h : x ∈ s.takeWhile p) : p x = true := by
  induction s with
  | nil => cases h
  | cons c s ih =>
    rw [List.takeWhile_cons] at h
    split at h
    · rename_i hc
      rcases List.mem_cons.1 h with rfl | h
      · exact hc
      · exact ih h
    · cases h
end Go.Dm
