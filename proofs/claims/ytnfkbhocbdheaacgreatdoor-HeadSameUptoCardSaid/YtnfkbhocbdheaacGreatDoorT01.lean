/-
  Layer 1 (bytes): what the program's and the reference's models come to.
-/
import Derived.Test.YtnfkbhocbdheaacGreatDoorTool
import Derived.Test.YtnfkbhocbdheaacGreatDoorMdl
namespace Go.Dm
def cLower (b : UInt8) : UInt8 := if 65 ≤ b ∧ b ≤ 90 then b + 32 else b
end Go.Dm
