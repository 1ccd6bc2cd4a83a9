/-
  The library's functions that the models name: what they come to, in plain words on lists.
-/
import Derived.Test.YtnfkbhocbdheaacGreatDoorT01
namespace Go.Dm
/-- Up to the first byte that is one of some; from it on. -/
def upto (cs s : Str) : Str := s.takeWhile (fun c => !cs.contains c)
end Go.Dm
