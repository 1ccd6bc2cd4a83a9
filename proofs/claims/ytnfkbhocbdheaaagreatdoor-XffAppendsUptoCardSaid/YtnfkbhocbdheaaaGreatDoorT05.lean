/-
  Quoted texts, and lists between commas: what they come to. No program in sight.
-/
import Derived.Test.YtnfkbhocbdheaaaGreatDoorTTrim
import Derived.Test.YtnfkbhocbdheaaaGreatDoorTLib
namespace Go.Dm
/-- Behind an opening quote: what stands in the quotes, and how many bytes it has, with the closing one. -/
def qread : Str → Option (Str × Nat)
  | [] => none
  | c :: r => if c == 34 then some ([], 1) else if c == 92 then (match r with
      | [] => none
      | d :: t => if cVal d then (qread t).map (fun p => (d :: p.1, p.2 + 2)) else none)
    else if cVal c then (qread r).map (fun p => (c :: p.1, p.2 + 1)) else none
theorem qread_end (r : Str) : qread (34 :: r) = some ([], 1) := by rw [qread.eq_def]; rfl
theorem qread_esc0 : qread [92] = none := by rw [qread.eq_def]; rfl
theorem qread_esc (d : UInt8) (t : Str) : qread (92 :: d :: t) = if cVal d then (qread t).map (fun p => (d :: p.1, p.2 + 2)) else none := by rw [qread.eq_def]; rfl
theorem qread_oth {c : UInt8} (r : Str) (h1 : (c == 34) = false) (h2 : (c == 92) = false) : qread (c :: r) = if cVal c then (qread r).map (fun p => (c :: p.1, p.2 + 1)) else none := by
  rw [qread.eq_def]; simp only [h1, h2, Bool.false_eq_true, if_false]
theorem qread_ind {P : Str → Prop} (h0 : P []) (h1 : ∀ r, P (34 :: r)) (h2 : P [92]) (h3 : ∀ d t, P t → P (92 :: d :: t)) (h4 : ∀ c r, (c == 34) = false → (c == 92) = false → P r → P (c :: r)) : ∀ (n : Nat) (s : Str), s.length < n → P s
  | 0, s, h => by omega
  | n + 1, [], _ => h0
  | n + 1, c :: r, h => by
    simp only [List.length_cons] at h
    cases h34 : c == 34 with
    | true => have : c = 34 := by simpa using h34
              subst this; exact h1 r
    | false =>
      cases h92 : c == 92 with
      | true =>
        have : c = 92 := by simpa using h92
        subst this
        cases r with
        | nil => exact h2
        | cons d t => simp only [List.length_cons] at h; exact h3 d t (qread_ind h0 h1 h2 h3 h4 n t (by omega))
      | false => exact h4 c r h34 h92 (qread_ind h0 h1 h2 h3 h4 n r (by omega))
theorem qread_le (s : Str) : ∀ p, qread s = some p → 1 ≤ p.2 ∧ p.2 ≤ s.length ∧ p.1.length + 1 ≤ p.2 := by
  refine qread_ind (P := fun s => ∀ p, qread s = some p → 1 ≤ p.2 ∧ p.2 ≤ s.length ∧ p.1.length + 1 ≤ p.2) ?_ ?_ ?_ ?_ ?_ (s.length + 1) s (by omega)
  · intro p h; cases h
  · intro r p h; rw [qread_end] at h; cases h; simp
  · intro p h; rw [qread_esc0] at h; cases h
  · intro d t ih p h
    rw [qread_esc] at h
    split at h
    · obtain ⟨q, hq, rfl⟩ := Option.map_eq_some_iff.1 h
      have := ih q hq
      simp only [List.length_cons]; omega
    · cases h
  · intro c r h1 h2 ih p h
    rw [qread_oth r h1 h2] at h
    split at h
    · obtain ⟨q, hq, rfl⟩ := Option.map_eq_some_iff.1 h
      have := ih q hq
      simp only [List.length_cons]; omega
    · cases h
theorem qread_app (u s : Str) : ∀ p, qread s = some p → qread (s ++ u) = some p := by
  refine qread_ind (P := fun s => ∀ p, qread s = some p → qread (s ++ u) = some p) ?_ ?_ ?_ ?_ ?_ (s.length + 1) s (by omega)
  · intro p h; cases h
  · intro r p h; rw [qread_end] at h; rw [List.cons_append, qread_end]; exact h
  · intro p h; rw [qread_esc0] at h; cases h
  · intro d t ih p h
    rw [qread_esc] at h
    rw [List.cons_append, List.cons_append, qread_esc]
    split at h
    · rename_i hc
      obtain ⟨q, hq, rfl⟩ := Option.map_eq_some_iff.1 h
      rw [if_pos hc, ih q hq]; rfl
    · cases h
  · intro c r h1 h2 ih p h
    rw [qread_oth r h1 h2] at h
    rw [List.cons_append, qread_oth _ h1 h2]
    split at h
    · rename_i hc
      obtain ⟨q, hq, rfl⟩ := Option.map_eq_some_iff.1 h
      rw [if_pos hc, ih q hq]; rfl
    · cases h
theorem bl_not {c : UInt8} (h : isBl c = true) : (c == 34) = false ∧ (c == 92) = false ∧ (c == 40) = false ∧ (c == 41) = false ∧ (c == 44) = false := by
  unfold isBl at h
  simp only [Bool.or_eq_true, beq_iff_eq] at h
  rcases h with h | h <;> subst h <;> decide
theorem qread_bl : ∀ {b : Str}, b.all isBl = true → qread b = none
  | [], _ => rfl
  | c :: b, h => by
    simp only [List.all_cons, Bool.and_eq_true] at h
    obtain ⟨h1, h2, _⟩ := bl_not h.1
    rw [qread_oth b h1 h2, qread_bl h.2]
    split <;> rfl
theorem qread_cut {b : Str} (hb : b.all isBl = true) (s : Str) : qread (s ++ b) = qread s := by
  refine qread_ind (P := fun s => qread (s ++ b) = qread s) ?_ ?_ ?_ ?_ ?_ (s.length + 1) s (by omega)
  · exact qread_bl hb
  · intro r; rw [List.cons_append, qread_end, qread_end]
  · cases b with
    | nil => rfl
    | cons d t =>
      simp only [List.all_cons, Bool.and_eq_true] at hb
      show qread (92 :: d :: t) = _
      rw [qread_esc, qread_bl hb.2, qread_esc0]
      split <;> rfl
  · intro d t ih
    rw [List.cons_append, List.cons_append, qread_esc, qread_esc, ih]
  · intro c r h1 h2 ih
    rw [List.cons_append, qread_oth _ h1 h2, qread_oth _ h1 h2, ih]
/-- How many bytes a comment has that is so deep: up to its end. -/
def clen : Nat → Str → Option Nat
  | 0, _ => some 0
  | _ + 1, [] => none
  | d + 1, c :: r => if c == 40 then (clen (d + 2) r).map (· + 1) else if c == 41 then (clen d r).map (· + 1) else if c == 92 then (match r with
      | [] => none
      | _ :: t => (clen (d + 1) t).map (· + 2)) else (clen (d + 1) r).map (· + 1)
theorem clen_zero (s : Str) : clen 0 s = some 0 := by cases s <;> rfl
theorem clen_open (d : Nat) (r : Str) : clen (d + 1) (40 :: r) = (clen (d + 2) r).map (· + 1) := by rw [clen.eq_def]; rfl
theorem clen_close (d : Nat) (r : Str) : clen (d + 1) (41 :: r) = (clen d r).map (· + 1) := by rw [clen.eq_def]; rfl
theorem clen_esc0 (d : Nat) : clen (d + 1) [92] = none := by rw [clen.eq_def]; rfl
theorem clen_esc (d : Nat) (c : UInt8) (t : Str) : clen (d + 1) (92 :: c :: t) = (clen (d + 1) t).map (· + 2) := by rw [clen.eq_def]; rfl
theorem clen_oth (d : Nat) {c : UInt8} (r : Str) (h1 : (c == 40) = false) (h2 : (c == 41) = false) (h3 : (c == 92) = false) : clen (d + 1) (c :: r) = (clen (d + 1) r).map (· + 1) := by
  rw [clen.eq_def]; simp only [h1, h2, h3, Bool.false_eq_true, if_false]
theorem clen_ind {P : Str → Prop} (h0 : P []) (h1 : ∀ r, P r → P (40 :: r)) (h2 : ∀ r, P r → P (41 :: r)) (h3 : P [92]) (h4 : ∀ d t, P t → P (92 :: d :: t)) (h5 : ∀ c r, (c == 40) = false → (c == 41) = false → (c == 92) = false → P r → P (c :: r)) : ∀ (n : Nat) (s : Str), s.length < n → P s
  | 0, s, h => by omega
  | n + 1, [], _ => h0
  | n + 1, c :: r, h => by
    simp only [List.length_cons] at h
    have ih := fun t ht => clen_ind h0 h1 h2 h3 h4 h5 n t ht
    cases c40 : c == 40 with
    | true => have : c = 40 := by simpa using c40
              subst this; exact h1 r (ih r (by omega))
    | false =>
      cases c41 : c == 41 with
      | true => have : c = 41 := by simpa using c41
                subst this; exact h2 r (ih r (by omega))
      | false =>
        cases c92 : c == 92 with
        | true =>
          have : c = 92 := by simpa using c92
          subst this
          cases r with
          | nil => exact h3
          | cons d t => simp only [List.length_cons] at h; exact h4 d t (ih t (by omega))
        | false => exact h5 c r c40 c41 c92 (ih r (by omega))
theorem clen_le (s : Str) : ∀ d n, clen d s = some n → n ≤ s.length := by
  refine clen_ind (P := fun s => ∀ d n, clen d s = some n → n ≤ s.length) ?_ ?_ ?_ ?_ ?_ ?_ (s.length + 1) s (by omega)
  · intro d n h; cases d with
    | zero => cases h; simp
    | succ d => cases h
  · intro r ih d n h; cases d with
    | zero => cases h; simp
    | succ d => rw [clen_open] at h; obtain ⟨m, hm, rfl⟩ := Option.map_eq_some_iff.1 h; have := ih _ _ hm; simp only [List.length_cons]; omega
  · intro r ih d n h; cases d with
    | zero => cases h; simp
    | succ d => rw [clen_close] at h; obtain ⟨m, hm, rfl⟩ := Option.map_eq_some_iff.1 h; have := ih _ _ hm; simp only [List.length_cons]; omega
  · intro d n h; cases d with
    | zero => cases h; simp
    | succ d => rw [clen_esc0] at h; cases h
  · intro c t ih d n h; cases d with
    | zero => cases h; simp
    | succ d => rw [clen_esc] at h; obtain ⟨m, hm, rfl⟩ := Option.map_eq_some_iff.1 h; have := ih _ _ hm; simp only [List.length_cons]; omega
  · intro c r h1 h2 h3 ih d n h; cases d with
    | zero => cases h; simp
    | succ d => rw [clen_oth d r h1 h2 h3] at h; obtain ⟨m, hm, rfl⟩ := Option.map_eq_some_iff.1 h; have := ih _ _ hm; simp only [List.length_cons]; omega
theorem clen_app (u s : Str) : ∀ d n, clen d s = some n → clen d (s ++ u) = some n := by
  refine clen_ind (P := fun s => ∀ d n, clen d s = some n → clen d (s ++ u) = some n) ?_ ?_ ?_ ?_ ?_ ?_ (s.length + 1) s (by omega)
  · intro d n h; cases d with
    | zero => cases h; exact clen_zero _
    | succ d => cases h
  · intro r ih d n h; cases d with
    | zero => cases h; exact clen_zero _
    | succ d => rw [clen_open] at h; obtain ⟨m, hm, rfl⟩ := Option.map_eq_some_iff.1 h; rw [List.cons_append, clen_open, ih _ _ hm]; rfl
  · intro r ih d n h; cases d with
    | zero => cases h; exact clen_zero _
    | succ d => rw [clen_close] at h; obtain ⟨m, hm, rfl⟩ := Option.map_eq_some_iff.1 h; rw [List.cons_append, clen_close, ih _ _ hm]; rfl
  · intro d n h; cases d with
    | zero => cases h; exact clen_zero _
    | succ d => rw [clen_esc0] at h; cases h
  · intro c t ih d n h; cases d with
    | zero => cases h; exact clen_zero _
    | succ d => rw [clen_esc] at h; obtain ⟨m, hm, rfl⟩ := Option.map_eq_some_iff.1 h; rw [List.cons_append, List.cons_append, clen_esc, ih _ _ hm]; rfl
  · intro c r h1 h2 h3 ih d n h; cases d with
    | zero => cases h; exact clen_zero _
    | succ d => rw [clen_oth d r h1 h2 h3] at h; obtain ⟨m, hm, rfl⟩ := Option.map_eq_some_iff.1 h; rw [List.cons_append, clen_oth d _ h1 h2 h3, ih _ _ hm]; rfl
theorem clen_bl : ∀ {b : Str}, b.all isBl = true → ∀ d, clen (d + 1) b = none
  | [], _, _ => rfl
  | c :: b, h, d => by
    simp only [List.all_cons, Bool.and_eq_true] at h
    obtain ⟨_, h3, h1, h2, _⟩ := bl_not h.1
    rw [clen_oth d b h1 h2 h3, clen_bl h.2]; rfl
theorem clen_cut {b : Str} (hb : b.all isBl = true) (s : Str) : ∀ d, clen d (s ++ b) = clen d s := by
  refine clen_ind (P := fun s => ∀ d, clen d (s ++ b) = clen d s) ?_ ?_ ?_ ?_ ?_ ?_ (s.length + 1) s (by omega)
  · intro d; cases d with
    | zero => rw [clen_zero, clen_zero]
    | succ d => exact clen_bl hb d
  · intro r ih d; cases d with
    | zero => rw [clen_zero, clen_zero]
    | succ d => rw [List.cons_append, clen_open, clen_open, ih]
  · intro r ih d; cases d with
    | zero => rw [clen_zero, clen_zero]
    | succ d => rw [List.cons_append, clen_close, clen_close, ih]
  · intro d; cases d with
    | zero => rw [clen_zero, clen_zero]
    | succ d =>
      cases b with
      | nil => rfl
      | cons c t =>
        simp only [List.all_cons, Bool.and_eq_true] at hb
        show clen (d + 1) (92 :: c :: t) = _
        rw [clen_esc, clen_bl hb.2, clen_esc0]; rfl
  · intro c t ih d; cases d with
    | zero => rw [clen_zero, clen_zero]
    | succ d => rw [List.cons_append, List.cons_append, clen_esc, clen_esc, ih]
  · intro c r h1 h2 h3 ih d; cases d with
    | zero => rw [clen_zero, clen_zero]
    | succ d => rw [List.cons_append, clen_oth d _ h1 h2 h3, clen_oth d _ h1 h2 h3, ih]
/-- How many bytes the quoted text or the comment has with which a text begins; 0: it does not end. -/
def passN (c : UInt8) (r : Str) : Nat := if c == 34 then (match qread r with | some p => p.2 + 1 | none => 0) else (match clen 1 r with | some n => n + 1 | none => 0)
theorem passN_le (c : UInt8) (r : Str) : passN c r ≤ r.length + 1 := by
  unfold passN
  split
  · cases h : qread r with
    | none => simp
    | some p => have := qread_le r p h; dsimp only; omega
  · cases h : clen 1 r with
    | none => simp
    | some n => have := clen_le r 1 n h; dsimp only; omega
theorem passN_app (c : UInt8) (r u : Str) (h : passN c r ≠ 0) : passN c (r ++ u) = passN c r := by
  unfold passN at h ⊢
  split
  · rename_i hc
    rw [if_pos hc] at h
    cases hq : qread r with
    | none => rw [hq] at h; exact absurd rfl h
    | some p => rw [qread_app u r p hq]
  · rename_i hc
    rw [if_neg hc] at h
    cases hq : clen 1 r with
    | none => rw [hq] at h; exact absurd rfl h
    | some p => rw [clen_app u r 1 p hq]
theorem passN_cut (c : UInt8) (r : Str) {b : Str} (hb : b.all isBl = true) : passN c (r ++ b) = passN c r := by
  unfold passN
  rw [qread_cut hb, clen_cut hb]
/-- A text's pieces between the commas that stand outside of quotes and comments; so many bytes are passed, and what was seen of the piece. -/
def segs : Nat → Str → Str → Option (List Str)
  | _, cur, [] => some [cur]
  | k + 1, cur, c :: r => segs k (cur ++ [c]) r
  | 0, cur, c :: r => if c == 34 || c == 40 then (if passN c r = 0 then none else segs (passN c r - 1) (cur ++ [c]) r) else if c == 44 then (segs 0 [] r).map (cur :: ·) else segs 0 (cur ++ [c]) r
theorem segs_nil (k : Nat) (cur : Str) : segs k cur [] = some [cur] := by cases k <;> rfl
theorem segs_skip (k : Nat) (cur : Str) (c : UInt8) (r : Str) : segs (k + 1) cur (c :: r) = segs k (cur ++ [c]) r := rfl
theorem segs_in (cur : Str) {c : UInt8} (r : Str) (h : (c == 34 || c == 40) = true) : segs 0 cur (c :: r) = if passN c r = 0 then none else segs (passN c r - 1) (cur ++ [c]) r := by
  rw [segs, if_pos h]
theorem segs_comma (cur r : Str) : segs 0 cur (44 :: r) = (segs 0 [] r).map (cur :: ·) := by rw [segs]; rfl
theorem segs_oth (cur : Str) {c : UInt8} (r : Str) (h : (c == 34 || c == 40) = false) (h2 : (c == 44) = false) : segs 0 cur (c :: r) = segs 0 (cur ++ [c]) r := by
  rw [segs, if_neg (by rw [h]; decide), if_neg (by rw [h2]; decide)]
/-- So many bytes passed at once. -/
theorem segs_pass : ∀ (k : Nat) (cur s : Str), k ≤ s.length → segs k cur s = segs 0 (cur ++ s.take k) (s.drop k)
  | 0, cur, s, _ => by simp
  | k + 1, cur, [], h => by simp at h
  | k + 1, cur, c :: r, h => by
    rw [segs_skip, segs_pass k _ r (by simpa using h)]
    simp
/-- A piece more, behind a comma. -/
theorem segs_more (t : Str) : ∀ (s : Str) (k : Nat) (cur : Str) (l : List Str), k ≤ s.length → segs k cur s = some l → segs k cur (s ++ 44 :: t) = (segs 0 [] t).map (l ++ ·)
  | [], k, cur, l, hk, h => by
    have : k = 0 := by simpa using hk
    subst this
    rw [segs_nil] at h; cases h
    exact segs_comma cur t
  | c :: r, k + 1, cur, l, hk, h => segs_more t r k _ l (by simpa using hk) h
  | c :: r, 0, cur, l, hk, h => by
    have hp := passN_le c r
    cases h1 : (c == 34 || c == 40) with
    | true =>
      rw [segs_in cur r h1] at h
      split at h
      · cases h
      · rename_i h0
        rw [List.cons_append, segs_in cur _ h1, passN_app c r _ h0, if_neg h0]
        exact segs_more t r _ _ l (by omega) h
    | false =>
      cases h2 : c == 44 with
      | true =>
        have : c = 44 := by simpa using h2
        subst this
        rw [segs_comma] at h
        obtain ⟨m, hm, rfl⟩ := Option.map_eq_some_iff.1 h
        rw [List.cons_append, segs_comma, segs_more t r 0 [] m (by simp) hm, Option.map_map]
        rfl
      | false =>
        rw [segs_oth cur r h1 h2] at h
        rw [List.cons_append, segs_oth cur _ h1 h2]
        exact segs_more t r 0 _ l (by simp) h
theorem trim_snoc_bl {a b : Str} (hb : b.all isBl = true) : trim (a ++ b) = trim a := by
  have : trimr (a ++ b) = trimr a := by
    rw [← List.reverse_reverse b] at *
    generalize b.reverse = r at *
    induction r with
    | nil => simp
    | cons x r ih =>
      rw [List.reverse_cons, List.all_append] at hb
      simp only [Bool.and_eq_true, List.all_cons, List.all_nil, Bool.and_true] at hb
      rw [List.reverse_cons, ← List.append_assoc, trimr_snoc, hb.2, if_pos rfl]
      exact ih hb.1
  unfold trim; rw [this]
/-- Blanks at the end play no part. -/
theorem segs_cut {b : Str} (hb : b.all isBl = true) : ∀ (s : Str) (k : Nat) (cur : Str) (l : List Str), k ≤ s.length → segs k cur (s ++ b) = some l → ∃ l', segs k cur s = some l' ∧ l'.map trim = l.map trim
  | [], k, cur, l, hk, h => by
    have : k = 0 := by simpa using hk
    subst this
    have key : ∀ (b : Str), b.all isBl = true → ∀ cur l, segs 0 cur b = some l → l = [cur ++ b] := by
      intro b
      induction b with
      | nil => intro _ cur l h; rw [segs_nil] at h; cases h; simp
      | cons c b ih =>
        intro hb cur l h
        simp only [List.all_cons, Bool.and_eq_true] at hb
        obtain ⟨h1, _, h2, _, h3⟩ := bl_not hb.1
        rw [segs_oth cur b (by rw [h1, h2]; rfl) h3] at h
        rw [ih hb.2 _ _ h]; simp
    have := key b hb cur l h
    subst this
    exact ⟨[cur], segs_nil _ _, by simp [trim_snoc_bl hb]⟩
  | c :: r, k + 1, cur, l, hk, h => segs_cut hb r k _ l (by simpa using hk) h
  | c :: r, 0, cur, l, hk, h => by
    have hp := passN_le c r
    cases h1 : (c == 34 || c == 40) with
    | true =>
      rw [List.cons_append, segs_in cur _ h1, passN_cut c r hb] at h
      rw [segs_in cur r h1]
      split at h
      · cases h
      · rename_i h0
        rw [if_neg h0]
        exact segs_cut hb r _ _ l (by omega) h
    | false =>
      cases h2 : c == 44 with
      | true =>
        have : c = 44 := by simpa using h2
        subst this
        rw [List.cons_append, segs_comma] at h
        obtain ⟨m, hm, rfl⟩ := Option.map_eq_some_iff.1 h
        obtain ⟨m', e1, e2⟩ := segs_cut hb r 0 [] m (by simp) hm
        exact ⟨cur :: m', by rw [segs_comma, e1]; rfl, by simp [e2]⟩
      | false =>
        rw [List.cons_append, segs_oth cur _ h1 h2] at h
        rw [segs_oth cur r h1 h2]
        exact segs_cut hb r 0 _ l (by simp) h
/-- A list's elements. -/
def elems (l : List Str) : List Str := (l.map trim).filter (fun x => !(x == []))
def splitC (s : Str) : Option (List Str) := (segs 0 [] s).map elems
theorem elems_app (a b : List Str) : elems (a ++ b) = elems a ++ elems b := by simp [elems]
theorem segs_plain : ∀ (x cur : Str), (x.all fun c => !(c == 34) && !(c == 40) && !(c == 44)) = true → segs 0 cur x = some [cur ++ x]
  | [], cur, _ => by rw [segs_nil]; simp
  | c :: x, cur, h => by
    simp only [List.all_cons, Bool.and_eq_true, Bool.not_eq_true'] at h
    obtain ⟨⟨⟨h1, h2⟩, h3⟩, h4⟩ := h
    rw [segs_oth cur x (by rw [h1, h2]; rfl) h3, segs_plain x _ (by simpa using h4)]
    simp
/-- Nothing but blanks and commas: no element. -/
theorem segs_bare : ∀ (s cur : Str), cur.all isBl = true → (s.all fun c => isBl c || c == 44) = true → ∃ l, segs 0 cur s = some l ∧ elems l = []
  | [], cur, hc, _ => ⟨[cur], segs_nil _ _, by
      have : trim cur = [] := by have := trim_snoc_bl (a := []) hc; simpa [trim_nil] using this
      simp [elems, this]⟩
  | c :: s, cur, hc, h => by
    simp only [List.all_cons, Bool.and_eq_true] at h
    cases h2 : c == 44 with
    | true =>
      have : c = 44 := by simpa using h2
      subst this
      obtain ⟨l, e1, e2⟩ := segs_bare s [] rfl (by simpa using h.2)
      have ht : trim cur = [] := by have := trim_snoc_bl (a := []) hc; simpa [trim_nil] using this
      exact ⟨cur :: l, by rw [segs_comma, e1]; rfl, by simp [elems, ht] at e2 ⊢; exact e2⟩
    | false =>
      have hb : isBl c = true := by rw [h2, Bool.or_false] at h; exact h.1
      obtain ⟨h1, _, h3, _, _⟩ := bl_not hb
      rw [segs_oth cur s (by rw [h1, h3]; rfl) h2]
      exact segs_bare s _ (by simp [List.all_append, hc, hb]) (by simpa using h.2)
/-- An element behind a list's text, as it is written. -/
def appendC (s x : Str) : Str := if (s.all fun c => isBl c || c == 44) then x else trimr s ++ 44 :: 32 :: x
theorem splitC_append {s x : Str} {l : List Str} (hx : (x.all fun c => !(c == 34) && !(c == 40) && !(c == 44)) = true) (ht : trim x = x) (hne : x ≠ []) (h : splitC s = some l) : splitC (appendC s x) = some (l ++ [x]) := by
  unfold appendC
  have hxe : (x == []) = false := by simpa using hne
  split
  · rename_i hb
    obtain ⟨m, e1, e2⟩ := segs_bare s [] rfl hb
    unfold splitC at h ⊢
    rw [e1] at h
    cases h
    rw [segs_plain x [] hx, e2]
    simp [elems, ht, hne]
  · unfold splitC at h ⊢
    obtain ⟨m, hm, rfl⟩ := Option.map_eq_some_iff.1 h
    have hs : ∃ b, s = trimr s ++ b ∧ b.all isBl = true := by
      rcases trimr_cases s with ⟨h1, h2⟩ | ⟨a, c, b, h1, h2, h3, h4⟩
      · exact ⟨s, by rw [h2]; rfl, h1⟩
      · exact ⟨b, by rw [h4]; rw [h1]; simp, h3⟩
    obtain ⟨b, hsb, hb⟩ := hs
    have hm' := hm
    rw [hsb] at hm'
    obtain ⟨m', e1, e2⟩ := segs_cut hb (trimr s) 0 [] m (by simp) hm'
    rw [segs_more _ (trimr s) 0 [] m' (by simp) e1]
    have h32 : segs 0 [] (32 :: x) = some [32 :: x] := by
      have := segs_plain (32 :: x) [] (by simp only [List.all_cons, Bool.and_eq_true]; exact ⟨by decide, hx⟩)
      simpa using this
    rw [h32]
    have hem : elems m' = elems m := by unfold elems; rw [e2]
    show some (elems (m' ++ [32 :: x])) = _
    rw [elems_app, hem]
    congr 2
    simp [elems, trim_bl (show isBl 32 = true by decide), ht, hne]
end Go.Dm
