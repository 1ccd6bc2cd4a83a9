/-
  Blanks at a text's ends. No program in sight.
-/
import Derived.Test.YtmdocoobecckdaaGreatDoorT01
namespace Go.Dm
def isBl (b : UInt8) : Bool := b == 32 || b == 9
def triml (s : Str) : Str := s.dropWhile isBl
def trimr (s : Str) : Str := (s.reverse.dropWhile isBl).reverse
def trim (s : Str) : Str := triml (trimr s)
theorem contains_bl (b : UInt8) : ([32, 9] : Str).contains b = isBl b := by
  simp only [isBl, List.contains_cons, List.contains_nil, Bool.or_false]
theorem trimr_nil : trimr [] = [] := rfl
theorem trimr_snoc (s : Str) (c : UInt8) : trimr (s ++ [c]) = if isBl c then trimr s else s ++ [c] := by
  unfold trimr
  rw [List.reverse_append]
  simp only [List.reverse_cons, List.reverse_nil, List.nil_append, List.singleton_append, List.dropWhile_cons]
  split <;> simp
theorem trimr_le (s : Str) : (trimr s).length ≤ s.length := by
  unfold trimr
  rw [List.length_reverse]
  have := (List.dropWhile_suffix (l := s.reverse) isBl).length_le
  simpa using this
theorem triml_le (s : Str) : (triml s).length ≤ s.length := (List.dropWhile_suffix isBl).length_le
theorem trim_le (s : Str) : (trim s).length ≤ s.length := Nat.le_trans (triml_le _) (trimr_le _)
/-- Nothing but blanks, or a text that ends without one, and blanks. -/
theorem trimr_cases (s : Str) : (s.all isBl = true ∧ trimr s = []) ∨ ∃ a c b, s = a ++ c :: b ∧ isBl c = false ∧ b.all isBl = true ∧ trimr s = a ++ [c] := by
  rw [← List.reverse_reverse s]
  generalize s.reverse = r
  induction r with
  | nil => left; exact ⟨rfl, rfl⟩
  | cons x r ih =>
    rw [List.reverse_cons, trimr_snoc]
    rcases bcase (isBl x) with h | h
    · rw [h]
      rcases ih with ⟨h1, h2⟩ | ⟨a, c, b, h1, h2, h3, h4⟩
      · left; refine ⟨?_, by simpa using h2⟩
        rw [List.all_append, h1]; simp [h]
      · right; refine ⟨a, c, b ++ [x], by rw [h1]; simp, h2, by rw [List.all_append, h3]; simp [h], by simpa using h4⟩
    · right; exact ⟨r.reverse, x, [], rfl, h, rfl, by simp [h]⟩
theorem triml_all {s : Str} (h : s.all isBl = true) : triml s = [] := by
  unfold triml
  induction s with
  | nil => rfl
  | cons x s ih =>
    simp only [List.all_cons, Bool.and_eq_true] at h
    rw [List.dropWhile_cons, h.1]
    exact ih h.2
theorem triml_app {a : Str} {c : UInt8} {b : Str} (hc : isBl c = false) : triml (a ++ c :: b) = triml (a ++ [c]) ++ b := by
  unfold triml
  induction a with
  | nil => simp [List.dropWhile_cons, hc]
  | cons x a ih =>
    simp only [List.cons_append, List.dropWhile_cons]
    split
    · exact ih
    · simp
theorem triml_ne {a : Str} {c : UInt8} (hc : isBl c = false) : ∃ d, triml (a ++ [c]) = d ++ [c] := by
  unfold triml
  induction a with
  | nil => exact ⟨[], by simp [List.dropWhile_cons, hc]⟩
  | cons x a ih =>
    simp only [List.cons_append, List.dropWhile_cons]
    split
    · exact ih
    · exact ⟨x :: a, rfl⟩
theorem trimr_app {d : Str} {c : UInt8} {b : Str} (hc : isBl c = false) (hb : b.all isBl = true) : trimr (d ++ c :: b) = d ++ [c] := by
  rw [← List.reverse_reverse b] at *
  generalize b.reverse = r at *
  induction r with
  | nil => rw [List.reverse_nil, trimr_snoc, hc]; rfl
  | cons x r ih =>
    rw [List.reverse_cons, List.all_append] at hb
    simp only [Bool.and_eq_true, List.all_cons, List.all_nil, Bool.and_true] at hb
    rw [List.reverse_cons, ← List.cons_append, ← List.append_assoc, trimr_snoc, hb.2]
    exact ih hb.1
theorem trim_comm (s : Str) : trimr (triml s) = trim s := by
  unfold trim
  rcases trimr_cases s with ⟨h1, h2⟩ | ⟨a, c, b, h1, h2, h3, h4⟩
  · rw [h2, triml_all h1]; rfl
  · rw [h4, h1, triml_app h2]
    obtain ⟨d, hd⟩ := triml_ne (a := a) h2
    rw [hd, List.append_assoc]
    exact trimr_app h2 h3
theorem trimS_eq (s : Str) : Go.Lib.trimS s [32, 9] = trim s := by
  unfold Go.Lib.trimS Go.Lib.trimLeftS Go.Lib.trimRightS trim triml trimr
  have : (fun x => ([32, 9] : List UInt8).contains x) = isBl := by funext b; exact contains_bl b
  rw [this]
theorem strings_Trim_eq (s : Str) (hs : s.length < 1000000000) : strings_Trim s [32, 9] = some (trim s) := by
  unfold strings_Trim
  rw [if_pos ⟨by omega, by simp, by decide⟩, trimS_eq]
theorem ref01_Blank_eq (b : UInt8) : ref01_Blank b = some (isBl b) :=
  of_decide_eq_true (all_bytes (fun b => decide (ref01_Blank b = some (isBl b))) (by decide +kernel) b)
theorem ref06_Trim_L3_eq : ∀ (k n : Nat) (s : Str), s.length = k → k < n → k < 1000000000 → ref06_Trim_L3 n s = some (trimr s)
  | k, 0, s, _, h, _ => by omega
  | 0, n + 1, s, hk, h, _ => by
    have : s = [] := List.length_eq_zero_iff.1 hk
    subst this; rw [ref06_Trim_L3]; simp [ref06_Trim_j4, trimr_nil]
  | k + 1, n + 1, s, hk, h, hb => by
    obtain ⟨a, c, rfl⟩ : ∃ a c, s = a ++ [c] := by
      rcases List.eq_nil_or_concat s with rfl | ⟨a, c, rfl⟩
      · simp at hk
      · exact ⟨a, c, by simp⟩
    have hl : a.length = k := by simpa using hk
    have e : ((a ++ [c]).length : Int) - 1 = (a.length : Int) := by simp
    have h0 : (0 : Int) < ((a ++ [c]).length : Int) := by simp
    have e2 : sTo (a ++ [c]) (a.length : Int) = some a := by rw [sTo_nat (by simp)]; simp
    rw [ref06_Trim_L3, trimr_snoc]
    rw [iSub_ok (by omega) (by omega), e]
    simp only [h0, decide_true, if_true, Option.bind_some, sAt_nat, List.getElem?_concat_length, ref01_Blank_eq, ref06_Trim_j4]
    rcases bcase (isBl c) with h1 | h1
    · rw [h1]
      simp only [if_true, iSub_ok (show -9223372036854775808 ≤ ((a ++ [c]).length : Int) - 1 by omega) (show ((a ++ [c]).length : Int) - 1 ≤ 9223372036854775807 by simp; omega), e, Option.bind_some, e2]
      exact ref06_Trim_L3_eq k n a hl (by omega) (by omega)
    · rw [h1]; simp
theorem ref06_Trim_L1_eq : ∀ (n : Nat) (s : Str), s.length < n → s.length < 1000000000 → ref06_Trim_L1 n s = some (trimr (triml s))
  | 0, s, h, _ => by omega
  | n + 1, [], h, hb => by
    rw [ref06_Trim_L1]
    simp only [List.length_nil, Int.natCast_zero, Int.lt_irrefl, decide_false, Bool.false_eq_true, if_false, ref06_Trim_j2]
    exact ref06_Trim_L3_eq 0 fuel [] rfl (by decide) (by decide)
  | n + 1, x :: s, h, hb => by
    rw [ref06_Trim_L1]
    have h0 : (0 : Int) < ((x :: s).length : Int) := by simp
    have e : sFrom (x :: s) 1 = some s := by
      have := sFrom_nat (l := x :: s) (i := 1) (by simp); simpa using this
    simp only [h0, decide_true, if_true, sAt_zero, List.getElem?_cons_zero, Option.bind_some, ref01_Blank_eq, ref06_Trim_j2]
    rcases bcase (isBl x) with h1 | h1
    · rw [h1]
      simp only [if_true, e, Option.bind_some]
      rw [ref06_Trim_L1_eq n s (by simp at h; omega) (by simp at hb; omega)]
      unfold triml; simp [List.dropWhile_cons, h1]
    · rw [h1]
      simp only [Bool.false_eq_true, if_false]
      rw [ref06_Trim_L3_eq _ fuel _ rfl (by unfold fuel; omega) hb]
      unfold triml; simp [List.dropWhile_cons, h1]
theorem ref06_Trim_eq (s : Str) (hs : s.length < 1000000000) : ref06_Trim s = some (trim s) := by
  unfold ref06_Trim
  rw [ref06_Trim_L1_eq fuel s (by unfold fuel; omega) hs, trim_comm]
end Go.Dm
