/-
  Folding a text: the program's and the document's come to the same. No program in sight.
-/
import Derived.Test.YtnfkbhocbdheaacGreatDoorT01
namespace Go.Dm
def low (s : Str) : Str := s.map cLower
theorem octet_Fold_eq (s : Str) (hs : s.length < 1000000000) : octet_Fold s = some (low s) := by
  unfold octet_Fold
  rw [if_pos (by omega)]
  unfold low
  clear hs
  induction s with
  | nil => rfl
  | cons x s ih => simp [List.mapM_cons, octet_Lower_eq, ih]
theorem octet_Same_eq (a b : Str) (ha : a.length < 1000000000) (hb : b.length < 1000000000) : octet_Same a b = some (low a == low b) := by
  unfold octet_Same
  rw [octet_Fold_eq a ha, octet_Fold_eq b hb]; rfl
end Go.Dm
