/-
  Blanks at a text's ends. No program in sight.
-/
import Derived.Test.YtgdhdeemlhllpabGreatDoorT01
namespace Go.Dm
def isBl (b : UInt8) : Bool := b == 32 || b == 9
def triml (s : Str) : Str := s.dropWhile isBl
def trimr (s : Str) : Str := (s.reverse.dropWhile isBl).reverse
def trim (s : Str) : Str := triml (trimr s)
theorem contains_bl (b : UInt8) : ([32, 9] : Str).contains b = isBl b := by
  simp only [isBl, List.contains_cons, List.contains_nil, Bool.or_false]
theorem trimr_le (s : Str) : (trimr s).length ≤ s.length := by
  unfold trimr
  rw [List.length_reverse]
  have := (List.dropWhile_suffix (l := s.reverse) isBl).length_le
  simpa using this
theorem triml_le (s : Str) : (triml s).length ≤ s.length := (List.dropWhile_suffix isBl).length_le
theorem trim_le (s : Str) : (trim s).length ≤ s.length := Nat.le_trans (triml_le _) (trimr_le _)
theorem trimS_eq (s : Str) : Go.Lib.trimS s [32, 9] = trim s := by
  unfold Go.Lib.trimS Go.Lib.trimLeftS Go.Lib.trimRightS trim triml trimr
  have : (fun x => ([32, 9] : List UInt8).contains x) = isBl := by funext b; exact contains_bl b
  rw [this]
theorem strings_Trim_eq (s : Str) (hs : s.length < 1000000000) : strings_Trim s [32, 9] = some (trim s) := by
  unfold strings_Trim
  rw [if_pos ⟨by omega, by simp, by decide⟩, trimS_eq]
end Go.Dm
