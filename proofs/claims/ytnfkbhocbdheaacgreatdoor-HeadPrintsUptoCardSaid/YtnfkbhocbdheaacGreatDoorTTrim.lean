/-
  Blanks at a text's ends. No program in sight.
-/
import Derived.Test.YtnfkbhocbdheaacGreatDoorT01
namespace Go.Dm
def isBl (b : UInt8) : Bool := b == 32 || b == 9
def triml (s : Str) : Str := s.dropWhile isBl
def trimr (s : Str) : Str := (s.reverse.dropWhile isBl).reverse
def trim (s : Str) : Str := triml (trimr s)
theorem contains_bl (b : UInt8) : ([32, 9] : Str).contains b = isBl b := by
  simp only [isBl, List.contains_cons, List.contains_nil, Bool.or_false]
theorem trimr_snoc (s : Str) (c : UInt8) : trimr (s ++ [c]) = if isBl c then trimr s else s ++ [c] := by
  unfold trimr
  rw [List.reverse_append]
  simp only [List.reverse_cons, List.reverse_nil, List.nil_append, List.singleton_append, List.dropWhile_cons]
  split <;> simp
theorem trimr_le (s : Str) : (trimr s).length ≤ s.length := by
  unfold trimr
  rw [List.length_reverse]
  have := (List.dropWhile_suffix (l := s.reverse) isBl).length_le
  simpa using this
theorem triml_le (s : Str) : (triml s).length ≤ s.length := (List.dropWhile_suffix isBl).length_le
theorem trim_le (s : Str) : (trim s).length ≤ s.length := Nat.le_trans (triml_le _) (trimr_le _)
/-- Nothing but blanks, or a text that ends without one, and blanks. -/
theorem trimr_cases (s : Str) : (s.all isBl = true ∧ trimr s = []) ∨ ∃ a c b, s = a ++ c :: b ∧ isBl c = false ∧ b.all isBl = true ∧ trimr s = a ++ [c] := by
  rw [← List.reverse_reverse s]
  generalize s.reverse = r
  induction r with
  | nil => left; exact ⟨rfl, rfl⟩
  | cons x r ih =>
    rw [List.reverse_cons, trimr_snoc]
    rcases bcase (isBl x) with h | h
    · rw [h]
      rcases ih with ⟨h1, h2⟩ | ⟨a, c, b, h1, h2, h3, h4⟩
      · left; refine ⟨?_, by simpa using h2⟩
        rw [List.all_append, h1]; simp [h]
      · right; refine ⟨a, c, b ++ [x], by rw [h1]; simp, h2, by rw [List.all_append, h3]; simp [h], by simpa using h4⟩
    · right; exact ⟨r.reverse, x, [], rfl, h, rfl, by simp [h]⟩
theorem triml_all {s : Str} (h : s.all isBl = true) : triml s = [] := by
  unfold triml
  induction s with
  | nil => rfl
  | cons x s ih =>
    simp only [List.all_cons, Bool.and_eq_true] at h
    rw [List.dropWhile_cons, h.1]
    exact ih h.2
theorem triml_app {a : Str} {c : UInt8} {b : Str} (hc : isBl c = false) : triml (a ++ c :: b) = triml (a ++ [c]) ++ b := by
  unfold triml
  induction a with
  | nil => simp [List.dropWhile_cons, hc]
  | cons x a ih =>
    simp only [List.cons_append, List.dropWhile_cons]
    split
    · exact ih
    · simp
theorem triml_ne {a : Str} {c : UInt8} (hc : isBl c = false) : ∃ d, triml (a ++ [c]) = d ++ [c] := by
  unfold triml
  induction a with
  | nil => exact ⟨[], by simp [List.dropWhile_cons, hc]⟩
  | cons x a ih =>
    simp only [List.cons_append, List.dropWhile_cons]
    split
    · exact ih
    · exact ⟨x :: a, rfl⟩
theorem trimr_app {d : Str} {c : UInt8} {b : Str} (hc : isBl c = false) (hb : b.all isBl = true) : trimr (d ++ c :: b) = d ++ [c] := by
  rw [← List.reverse_reverse b] at *
  generalize b.reverse = r at *
  induction r with
  | nil => rw [List.reverse_nil, trimr_snoc, hc]; rfl
  | cons x r ih =>
    rw [List.reverse_cons, List.all_append] at hb
    simp only [Bool.and_eq_true, List.all_cons, List.all_nil, Bool.and_true] at hb
    rw [List.reverse_cons, ← List.cons_append, ← List.append_assoc, trimr_snoc, hb.2]
    exact ih hb.1
theorem trim_comm (s : Str) : trimr (triml s) = trim s := by
  unfold trim
  rcases trimr_cases s with ⟨h1, h2⟩ | ⟨a, c, b, h1, h2, h3, h4⟩
  · rw [h2, triml_all h1]; rfl
  · rw [h4, h1, triml_app h2]
    obtain ⟨d, hd⟩ := triml_ne (a := a) h2
    rw [hd, List.append_assoc]
    exact trimr_app h2 h3
theorem triml_idem (s : Str) : triml (triml s) = triml s := by
  unfold triml
  induction s with
  | nil => rfl
  | cons x s ih =>
    rcases bcase (isBl x) with h | h
    · simp only [List.dropWhile_cons, h, if_true]; exact ih
    · simp [List.dropWhile_cons, h]
theorem trimr_idem (s : Str) : trimr (trimr s) = trimr s := by
  rcases trimr_cases s with ⟨_, h2⟩ | ⟨a, c, b, _, h2, _, h4⟩
  · rw [h2]; rfl
  · rw [h4, trimr_snoc, h2]; rfl
theorem trim_idem (s : Str) : trim (trim s) = trim s := by
  rw [← trim_comm (trim s), ← trim_comm s]
  have : triml (trimr (triml s)) = trimr (triml s) := by
    have e : trimr (triml s) = triml (trimr s) := trim_comm s
    rw [e, triml_idem]
  rw [this, trimr_idem]
theorem trim_bl {c : UInt8} (h : isBl c = true) (s : Str) : trim (c :: s) = trim s := by
  rw [← trim_comm, ← trim_comm]
  unfold triml
  rw [List.dropWhile_cons, h]; rfl
theorem trim_mem {s : Str} {x : UInt8} (h : x ∈ trim s) : x ∈ s := by
  have h1 : x ∈ trimr s := (List.dropWhile_suffix isBl).mem h
  unfold trimr at h1
  have := (List.dropWhile_suffix (l := s.reverse) isBl).mem (List.mem_reverse.1 h1)
  exact List.mem_reverse.1 this
theorem trimS_eq (s : Str) : Go.Lib.trimS s [32, 9] = trim s := by
  unfold Go.Lib.trimS Go.Lib.trimLeftS Go.Lib.trimRightS trim triml trimr
  have : (fun x => ([32, 9] : List UInt8).contains x) = isBl := by funext b; exact contains_bl b
  rw [this]
theorem strings_Trim_eq (s : Str) (hs : s.length < 1000000000) : strings_Trim s [32, 9] = some (trim s) := by
  unfold strings_Trim
  rw [if_pos ⟨by omega, by simp, by decide⟩, trimS_eq]
end Go.Dm
