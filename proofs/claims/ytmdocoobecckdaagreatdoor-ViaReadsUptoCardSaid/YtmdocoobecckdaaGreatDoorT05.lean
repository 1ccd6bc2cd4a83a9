/-
  Quoted texts, and lists between commas: what they come to. No program in sight.
-/
import Derived.Test.YtmdocoobecckdaaGreatDoorTTrim
import Derived.Test.YtmdocoobecckdaaGreatDoorTLib
namespace Go.Dm
/-- Behind an opening quote: what stands in the quotes, and how many bytes it has, with the closing one. -/
def qread : Str → Option (Str × Nat)
  | [] => none
  | c :: r => if c == 34 then some ([], 1) else if c == 92 then (match r with
      | [] => none
      | d :: t => if cVal d then (qread t).map (fun p => (d :: p.1, p.2 + 2)) else none)
    else if cVal c then (qread r).map (fun p => (c :: p.1, p.2 + 1)) else none
theorem qread_end (r : Str) : qread (34 :: r) = some ([], 1) := by rw [qread.eq_def]; rfl
theorem qread_esc0 : qread [92] = none := by rw [qread.eq_def]; rfl
theorem qread_esc (d : UInt8) (t : Str) : qread (92 :: d :: t) = if cVal d then (qread t).map (fun p => (d :: p.1, p.2 + 2)) else none := by rw [qread.eq_def]; rfl
theorem qread_oth {c : UInt8} (r : Str) (h1 : (c == 34) = false) (h2 : (c == 92) = false) : qread (c :: r) = if cVal c then (qread r).map (fun p => (c :: p.1, p.2 + 1)) else none := by
  rw [qread.eq_def]; simp only [h1, h2, Bool.false_eq_true, if_false]
theorem qread_ind {P : Str → Prop} (h0 : P []) (h1 : ∀ r, P (34 :: r)) (h2 : P [92]) (h3 : ∀ d t, P t → P (92 :: d :: t)) (h4 : ∀ c r, (c == 34) = false → (c == 92) = false → P r → P (c :: r)) : ∀ (n : Nat) (s : Str), s.length < n → P s
  | 0, s, h => by omega
  | n + 1, [], _ => h0
  | n + 1, c :: r, h => by
    simp only [List.length_cons] at h
    cases h34 : c == 34 with
    | true => have : c = 34 := by simpa using h34
              subst this; exact h1 r
    | false =>
      cases h92 : c == 92 with
      | true =>
        have : c = 92 := by simpa using h92
        subst this
        cases r with
        | nil => exact h2
        | cons d t => simp only [List.length_cons] at h; exact h3 d t (qread_ind h0 h1 h2 h3 h4 n t (by omega))
      | false => exact h4 c r h34 h92 (qread_ind h0 h1 h2 h3 h4 n r (by omega))
theorem qread_le (s : Str) : ∀ p, qread s = some p → 1 ≤ p.2 ∧ p.2 ≤ s.length ∧ p.1.length + 1 ≤ p.2 := by
  refine qread_ind (P := fun s => ∀ p, qread s = some p → 1 ≤ p.2 ∧ p.2 ≤ s.length ∧ p.1.length + 1 ≤ p.2) ?_ ?_ ?_ ?_ ?_ (s.length + 1) s (by omega)
  · intro p h; cases h
  · intro r p h; rw [qread_end] at h; cases h; simp
  · intro p h; rw [qread_esc0] at h; cases h
  · intro d t ih p h
    rw [qread_esc] at h
    split at h
    · obtain ⟨q, hq, rfl⟩ := Option.map_eq_some_iff.1 h
      have := ih q hq
      simp only [List.length_cons]; omega
    · cases h
  · intro c r h1 h2 ih p h
    rw [qread_oth r h1 h2] at h
    split at h
    · obtain ⟨q, hq, rfl⟩ := Option.map_eq_some_iff.1 h
      have := ih q hq
      simp only [List.length_cons]; omega
    · cases h
/-- How many bytes a comment has that is so deep: up to its end. -/
def clen : Nat → Str → Option Nat
  | 0, _ => some 0
  | _ + 1, [] => none
  | d + 1, c :: r => if c == 40 then (clen (d + 2) r).map (· + 1) else if c == 41 then (clen d r).map (· + 1) else if c == 92 then (match r with
      | [] => none
      | _ :: t => (clen (d + 1) t).map (· + 2)) else (clen (d + 1) r).map (· + 1)
theorem clen_zero (s : Str) : clen 0 s = some 0 := by cases s <;> rfl
theorem clen_open (d : Nat) (r : Str) : clen (d + 1) (40 :: r) = (clen (d + 2) r).map (· + 1) := by rw [clen.eq_def]; rfl
theorem clen_close (d : Nat) (r : Str) : clen (d + 1) (41 :: r) = (clen d r).map (· + 1) := by rw [clen.eq_def]; rfl
theorem clen_esc0 (d : Nat) : clen (d + 1) [92] = none := by rw [clen.eq_def]; rfl
theorem clen_esc (d : Nat) (c : UInt8) (t : Str) : clen (d + 1) (92 :: c :: t) = (clen (d + 1) t).map (· + 2) := by rw [clen.eq_def]; rfl
theorem clen_oth (d : Nat) {c : UInt8} (r : Str) (h1 : (c == 40) = false) (h2 : (c == 41) = false) (h3 : (c == 92) = false) : clen (d + 1) (c :: r) = (clen (d + 1) r).map (· + 1) := by
  rw [clen.eq_def]; simp only [h1, h2, h3, Bool.false_eq_true, if_false]
theorem clen_ind {P : Str → Prop} (h0 : P []) (h1 : ∀ r, P r → P (40 :: r)) (h2 : ∀ r, P r → P (41 :: r)) (h3 : P [92]) (h4 : ∀ d t, P t → P (92 :: d :: t)) (h5 : ∀ c r, (c == 40) = false → (c == 41) = false → (c == 92) = false → P r → P (c :: r)) : ∀ (n : Nat) (s : Str), s.length < n → P s
  | 0, s, h => by omega
  | n + 1, [], _ => h0
  | n + 1, c :: r, h => by
    simp only [List.length_cons] at h
    have ih := fun t ht => clen_ind h0 h1 h2 h3 h4 h5 n t ht
    cases c40 : c == 40 with
    | true => have : c = 40 := by simpa using c40
              subst this; exact h1 r (ih r (by omega))
    | false =>
      cases c41 : c == 41 with
      | true => have : c = 41 := by simpa using c41
                subst this; exact h2 r (ih r (by omega))
      | false =>
        cases c92 : c == 92 with
        | true =>
          have : c = 92 := by simpa using c92
          subst this
          cases r with
          | nil => exact h3
          | cons d t => simp only [List.length_cons] at h; exact h4 d t (ih t (by omega))
        | false => exact h5 c r c40 c41 c92 (ih r (by omega))
theorem clen_le (s : Str) : ∀ d n, clen d s = some n → n ≤ s.length := by
  refine clen_ind (P := fun s => ∀ d n, clen d s = some n → n ≤ s.length) ?_ ?_ ?_ ?_ ?_ ?_ (s.length + 1) s (by omega)
  · intro d n h; cases d with
    | zero => cases h; simp
    | succ d => cases h
  · intro r ih d n h; cases d with
    | zero => cases h; simp
    | succ d => rw [clen_open] at h; obtain ⟨m, hm, rfl⟩ := Option.map_eq_some_iff.1 h; have := ih _ _ hm; simp only [List.length_cons]; omega
  · intro r ih d n h; cases d with
    | zero => cases h; simp
    | succ d => rw [clen_close] at h; obtain ⟨m, hm, rfl⟩ := Option.map_eq_some_iff.1 h; have := ih _ _ hm; simp only [List.length_cons]; omega
  · intro d n h; cases d with
    | zero => cases h; simp
    | succ d => rw [clen_esc0] at h; cases h
  · intro c t ih d n h; cases d with
    | zero => cases h; simp
    | succ d => rw [clen_esc] at h; obtain ⟨m, hm, rfl⟩ := Option.map_eq_some_iff.1 h; have := ih _ _ hm; simp only [List.length_cons]; omega
  · intro c r h1 h2 h3 ih d n h; cases d with
    | zero => cases h; simp
    | succ d => rw [clen_oth d r h1 h2 h3] at h; obtain ⟨m, hm, rfl⟩ := Option.map_eq_some_iff.1 h; have := ih _ _ hm; simp only [List.length_cons]; omega
/-- How many bytes the quoted text or the comment has with which a text begins; 0: it does not end. -/
def passN (c : UInt8) (r : Str) : Nat := if c == 34 then (match qread r with | some p => p.2 + 1 | none => 0) else (match clen 1 r with | some n => n + 1 | none => 0)
theorem passN_le (c : UInt8) (r : Str) : passN c r ≤ r.length + 1 := by
  unfold passN
  split
  · cases h : qread r with
    | none => simp
    | some p => have := qread_le r p h; dsimp only; omega
  · cases h : clen 1 r with
    | none => simp
    | some n => have := clen_le r 1 n h; dsimp only; omega
/-- A text's pieces between the commas that stand outside of quotes and comments; so many bytes are passed, and what was seen of the piece. -/
def segs : Nat → Str → Str → Option (List Str)
  | _, cur, [] => some [cur]
  | k + 1, cur, c :: r => segs k (cur ++ [c]) r
  | 0, cur, c :: r => if c == 34 || c == 40 then (if passN c r = 0 then none else segs (passN c r - 1) (cur ++ [c]) r) else if c == 44 then (segs 0 [] r).map (cur :: ·) else segs 0 (cur ++ [c]) r
theorem segs_nil (k : Nat) (cur : Str) : segs k cur [] = some [cur] := by cases k <;> rfl
theorem segs_skip (k : Nat) (cur : Str) (c : UInt8) (r : Str) : segs (k + 1) cur (c :: r) = segs k (cur ++ [c]) r := rfl
theorem segs_in (cur : Str) {c : UInt8} (r : Str) (h : (c == 34 || c == 40) = true) : segs 0 cur (c :: r) = if passN c r = 0 then none else segs (passN c r - 1) (cur ++ [c]) r := by
  rw [segs, if_pos h]
theorem segs_comma (cur r : Str) : segs 0 cur (44 :: r) = (segs 0 [] r).map (cur :: ·) := by rw [segs]; rfl
theorem segs_oth (cur : Str) {c : UInt8} (r : Str) (h : (c == 34 || c == 40) = false) (h2 : (c == 44) = false) : segs 0 cur (c :: r) = segs 0 (cur ++ [c]) r := by
  rw [segs, if_neg (by rw [h]; decide), if_neg (by rw [h2]; decide)]
/-- So many bytes passed at once. -/
theorem segs_pass : ∀ (k : Nat) (cur s : Str), k ≤ s.length → segs k cur s = segs 0 (cur ++ s.take k) (s.drop k)
  | 0, cur, s, _ => by simp
  | k + 1, cur, [], h => by simp at h
  | k + 1, cur, c :: r, h => by
    rw [segs_skip, segs_pass k _ r (by simpa using h)]
    simp
/-- A list's elements. -/
def elems (l : List Str) : List Str := (l.map trim).filter (fun x => !(x == []))
def splitC (s : Str) : Option (List Str) := (segs 0 [] s).map elems
theorem elems_app (a b : List Str) : elems (a ++ b) = elems a ++ elems b := by simp [elems]
end Go.Dm
