/-
  Quoted texts, and lists between commas: what they come to. No program in sight.
-/
import Derived.Test.YtnfkbhocbdheaacGreatDoorTTrim
import Derived.Test.YtnfkbhocbdheaacGreatDoorTLib
namespace Go.Dm
theorem trim_snoc_bl {a b : Str} (hb : b.all isBl = true) : trim (a ++ b) = trim a := by
  have : trimr (a ++ b) = trimr a := by
    rw [← List.reverse_reverse b] at *
    generalize b.reverse = r at *
    induction r with
    | nil => simp
    | cons x r ih =>
      rw [List.reverse_cons, List.all_append] at hb
      simp only [Bool.and_eq_true, List.all_cons, List.all_nil, Bool.and_true] at hb
      rw [List.reverse_cons, ← List.append_assoc, trimr_snoc, hb.2, if_pos rfl]
      exact ih hb.1
  unfold trim; rw [this]
/-- A list's elements. -/
def elems (l : List Str) : List Str := (l.map trim).filter (fun x => !(x == []))
end Go.Dm
