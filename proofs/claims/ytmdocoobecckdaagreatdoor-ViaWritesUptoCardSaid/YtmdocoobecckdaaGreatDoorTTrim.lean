/-
  Blanks at a text's ends. No program in sight.
-/
import Derived.Test.YtmdocoobecckdaaGreatDoorT01
namespace Go.Dm
def isBl (b : UInt8) : Bool := b == 32 || b == 9
def triml (s : Str) : Str := s.dropWhile isBl
def trimr (s : Str) : Str := (s.reverse.dropWhile isBl).reverse
def trim (s : Str) : Str := triml (trimr s)
end Go.Dm
