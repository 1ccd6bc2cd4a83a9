/-
  Hosts and ports: read and written: the program's, and the document's.
-/
import Derived.Test.YtnfkbhocbdheaabGreatDoorT08H
namespace Go.Dm
def inner (s : Str) : Str := (s.take (s.length - 1)).drop 1
theorem beq_some (x y : UInt8) : ((some x : Option UInt8) == some y) = (x == y) := Option.some_beq_some ..
theorem inner_len (s : Str) : (inner s).length ≤ s.length := by unfold inner; simp; omega
end Go.Dm
