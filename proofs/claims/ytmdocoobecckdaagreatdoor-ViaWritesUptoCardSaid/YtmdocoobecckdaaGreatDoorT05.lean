/-
  Quoted texts, and lists between commas: what they come to. No program in sight.
-/
import Derived.Test.YtmdocoobecckdaaGreatDoorTTrim
import Derived.Test.YtmdocoobecckdaaGreatDoorTLib
namespace Go.Dm
/-- A list's elements. -/
def elems (l : List Str) : List Str := (l.map trim).filter (fun x => !(x == []))
end Go.Dm
