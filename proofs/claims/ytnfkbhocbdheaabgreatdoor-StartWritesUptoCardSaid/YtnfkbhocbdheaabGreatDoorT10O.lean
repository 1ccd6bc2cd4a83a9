/-
  What is sent on of a target: without the document.
-/
import Derived.Test.YtnfkbhocbdheaabGreatDoorT10
namespace Go.Dm
theorem cutOn_text (c : UInt8) (s : Str) : (cutOn c s).1 ++ (if (cutOn c s).2.2 = true then c :: (cutOn c s).2.1 else []) = s := by
  rcases bcase (cutOn c s).2.2 with h | h
  · rw [if_pos h]; exact cutOn_join c s h
  · rw [if_neg (by rw [h]; decide), cutOn_none c s h, List.append_nil]
theorem pathOk_slash {s : Str} (h : pathOk s = true) : ∃ r, s = 47 :: r := by
  unfold pathOk at h
  simp only [Bool.and_eq_true] at h
  obtain ⟨r, hr⟩ := List.isPrefixOf_iff_prefix.1 h.1
  exact ⟨r, hr.symm⟩
def plainT : api_Target := ⟨1, [], ⟨0, [], 0⟩, [], [], false⟩
end Go.Dm
