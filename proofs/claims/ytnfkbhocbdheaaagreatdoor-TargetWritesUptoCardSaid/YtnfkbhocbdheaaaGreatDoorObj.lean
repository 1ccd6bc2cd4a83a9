/-
  Objects: a call that is lent what its caller owns, and hands it back. Over any program.
-/
import Derived.Test.YtnfkbhocbdheaaaGreatDoorDraw
namespace Go.Dk
open Go.RowKit Go.Dm

/-- Views of what stays with the caller. -/
def Lent (w : World) (K : List Res) : List Res → Prop
  | [] => True
  | s :: S => (s.shared = true ∧ s.holds w 0 ∧ ∀ b, s.fp = some b → ∃ r ∈ K, r.fp = some b) ∧ Lent w K S
theorem Lent.all {w : World} {K : List Res} : ∀ {S : List Res}, Lent w K S → ∀ s ∈ S, s.shared = true ∧ s.holds w 0 ∧ ∀ b, s.fp = some b → ∃ r ∈ K, r.fp = some b
  | [], _, s, hs => by cases hs
  | x :: S, h, s, hs => by
    rcases List.mem_cons.1 hs with rfl | hs
    · exact h.1
    · exact Lent.all h.2 s hs
section
variable {w0 w w' : World} {F : List Nat} {U K S L : List Res}
end
end Go.Dk
