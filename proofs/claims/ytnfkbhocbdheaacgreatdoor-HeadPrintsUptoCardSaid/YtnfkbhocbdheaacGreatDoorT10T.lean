/-
  Targets written, and read again: both laws.
-/
import Derived.Test.YtnfkbhocbdheaacGreatDoorT10
namespace Go.Dm
theorem textN_len (n : Int) (hn : inI n = true) : (textN 10 n).length ≤ 71 := by
  unfold textN
  split
  · simp
  · rw [chars_len]
    have := inI_iff.1 hn
    exact digs_len (by decide) _ (by omega)
end Go.Dm
