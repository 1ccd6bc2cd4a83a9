/-
  Paths and queries: the program's, and the document's.
-/
import Derived.Test.YtmdocoobecckdaaGreatDoorT01
import Derived.Test.YtmdocoobecckdaaGreatDoorTLib
import Derived.Test.YtmdocoobecckdaaGreatDoorTSplit
namespace Go.Dm
def cutOn (c : UInt8) (s : Str) : Str × Str × Bool := (upto [c] s, (from_ [c] s).drop 1, !(from_ [c] s == []))
theorem cutOn_join (c : UInt8) (s : Str) (h : (cutOn c s).2.2 = true) : (cutOn c s).1 ++ c :: (cutOn c s).2.1 = s := by
  have e := upto_from [c] s
  unfold cutOn at h ⊢
  simp only [Bool.not_eq_true', beq_eq_false_iff_ne] at h
  cases hf : from_ [c] s with
  | nil => exact absurd hf h
  | cons x r =>
    have := from_head hf
    have hx : x = c := by simpa using this
    subst hx
    rw [hf] at e
    simpa [hf] using e
theorem cutOn_none (c : UInt8) (s : Str) (h : (cutOn c s).2.2 = false) : cutOn c s = (s, [], false) := by
  have e := upto_from [c] s
  unfold cutOn at h ⊢
  simp only [Bool.not_eq_false', beq_iff_eq] at h
  rw [h, List.append_nil] at e
  rw [h, e]; rfl
end Go.Dm
