/-
  Folding a text: the program's and the document's come to the same. No program in sight.
-/
import Derived.Test.YtmdocoobecckdaaGreatDoorT01
namespace Go.Dm
def low (s : Str) : Str := s.map cLower
end Go.Dm
