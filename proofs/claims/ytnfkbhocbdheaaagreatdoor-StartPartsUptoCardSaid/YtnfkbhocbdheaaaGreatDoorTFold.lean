/-
  Folding a text: the program's and the document's come to the same. No program in sight.
-/
import Derived.Test.YtnfkbhocbdheaaaGreatDoorT01
namespace Go.Dm
def low (s : Str) : Str := s.map cLower
theorem octet_Fold_eq (s : Str) (hs : s.length < 1000000000) : octet_Fold s = some (low s) := by
  unfold octet_Fold
  rw [if_pos (by omega)]
  unfold low
  clear hs
  induction s with
  | nil => rfl
  | cons x s ih => simp [List.mapM_cons, octet_Lower_eq, ih]
end Go.Dm
