/-
  Quoted texts, comments, and lists between commas: the program's.
-/
import Derived.Test.YtmdocoobecckdaaGreatDoorT05
import Derived.Test.YtmdocoobecckdaaGreatDoorTAt
namespace Go.Dm
section
variable {s r : Str} {k : Nat}
theorem scn_eta (s : Str) (k : Nat) : (⟨s, (k : Int)⟩ : scan_Scanner) = scn s k := rfl
theorem byte_len (b : UInt8) (r : Str) : (byteR b r).length ≤ r.length := by unfold byteR; split <;> simp
/-- One byte read of a quoted text. -/
def nextR (r : Str) : Option (UInt8 × Str) := match byteR 92 r with
  | [] => none
  | c :: t => if cVal c then some (c, t) else none
theorem nextR_len {c : UInt8} {t : Str} (h : nextR r = some (c, t)) : t.length < r.length := by
  unfold nextR at h
  have := byte_len 92 r
  cases hb : byteR 92 r with
  | nil => rw [hb] at h; cases h
  | cons d u =>
    rw [hb] at h this
    simp only at h
    split at h
    · cases h; simp only [List.length_cons] at this; omega
    · cases h
theorem at_next (hs : s.length < 1000000000) (out : Str) (ho : out.length < 1000000000) (h : At s k r) :
    (∀ c t, nextR r = some (c, t) → ∃ k', At s k' t ∧ k ≤ k' ∧ quoted_reader_next ⟨scn s k, out⟩ = some (true, ⟨scn s k', out ++ [c]⟩)) ∧
    (nextR r = none → ∃ k', k' ≤ s.length ∧ k ≤ k' ∧ quoted_reader_next ⟨scn s k, out⟩ = some (false, ⟨scn s k', out⟩)) := by
  unfold quoted_reader_next nextR
  obtain ⟨k1, h1, e1⟩ := at_byte hs 92 h
  have hk : k ≤ k1 := by have := h.len; have := h1.len; have := byte_len 92 r; omega
  show (∀ c t, _ → ∃ k', _ ∧ _ ∧ (scan_Scanner_Byte (scn s k) 92).bind _ = _) ∧ (_ → ∃ k', _ ∧ _ ∧ (scan_Scanner_Byte (scn s k) 92).bind _ = _)
  rw [e1]
  simp only [Option.bind_some]
  rw [at_peek h1]
  cases hb : byteR 92 r with
  | nil =>
    rw [hb] at h1
    refine ⟨fun c t h => (by cases h), fun _ => ⟨k1, h1.le, hk, rfl⟩⟩
  | cons d u =>
    rw [hb] at h1
    simp only [peekR, Option.bind_some, Bool.not_true, Bool.false_eq_true, if_false, octet_IsValue_eq]
    unfold quoted_reader_next_j1
    obtain ⟨k2, h2, e2⟩ := at_byte hs d h1
    rw [byteR_cons, byteB_cons] at *
    cases hv : cVal d with
    | false => exact ⟨fun c t h => by simp at h, fun _ => ⟨k1, h1.le, hk, by simp⟩⟩
    | true =>
      refine ⟨fun c t h => ?_, fun h => by simp at h⟩
      simp at h
      obtain ⟨rfl, rfl⟩ := h
      refine ⟨k2, h2, by have := h1.len; have := h2.len; simp only [List.length_cons] at *; omega, ?_⟩
      rw [if_neg (by decide), if_pos (fits_ok (n := out.length) (m := 1) (by omega) (by omega)), e2]
      simp
theorem qread_next (r : Str) : qread r = if byteB 34 r then some ([], 1) else match nextR r with
    | none => none
    | some (c, t) => (qread t).map (fun p => (c :: p.1, p.2 + (r.length - t.length))) := by
  cases r with
  | nil => rfl
  | cons c r =>
    rw [byteB_cons]
    cases h34 : c == 34 with
    | true => have : c = 34 := by simpa using h34
              subst this; rw [qread_end]; rfl
    | false =>
      rw [if_neg (by decide)]
      unfold nextR
      cases h92 : c == 92 with
      | true =>
        have : c = 92 := by simpa using h92
        subst this
        rw [byteR_cons]
        cases r with
        | nil => exact qread_esc0
        | cons d t =>
          rw [qread_esc]
          dsimp only
          cases cVal d with
          | false => rfl
          | true =>
            rw [if_pos rfl, if_pos rfl]
            dsimp only
            congr 1
            funext p
            congr 2
            simp only [List.length_cons]; omega
      | false =>
        rw [byteR_else (by rw [byteB_cons]; exact h92), qread_oth r h34 h92]
        dsimp only
        cases cVal c with
        | false => rfl
        | true =>
          rw [if_pos rfl, if_pos rfl]
          dsimp only
          congr 1
          funext p
          congr 2
          simp only [List.length_cons]; omega
theorem scan_Back_eq {s : Str} {k k0 : Nat} (h : k0 ≤ k) : scan_Scanner_Back (scn s k) (k0 : Int) = some (true, scn s k0) := by
  unfold scan_Scanner_Back
  rw [decide_eq_false (show ¬ ((k0 : Int) < 0) by omega), if_neg (by decide), scan_At_eq, Option.bind_some]
  unfold scan_Scanner_Back_j1
  rw [decide_eq_false (show ¬ ((k : Int) < (k0 : Int)) by omega), if_neg (by decide)]
  rfl
theorem quoted_L1_false (k0 n : Nat) (hk : k0 ≤ k) (out : Str) : quoted_Read_L1 (k0 : Int) (n + 1) s (k : Int) out false = some ([], false, scn s k0) := by
  rw [quoted_Read_L1, if_neg (by decide)]
  unfold quoted_Read_j2 quoted_Read_j3
  rw [if_neg (by decide), Bool.not_false, if_pos rfl, scn_eta, scan_Back_eq hk, Option.bind_some]
theorem quoted_L1_eq (hs : s.length < 1000000000) (k0 : Nat) : ∀ (n : Nat) (r : Str) (k : Nat) (out : Str), r.length + 1 < n → At s k r → k0 ≤ k → out.length ≤ k →
    quoted_Read_L1 (k0 : Int) n s (k : Int) out true = some (match qread r with | some p => (out ++ p.1, true, scn s (k + p.2)) | none => ([], false, scn s k0))
  | 0, _, _, _, h, _, _, _ => by omega
  | n + 1, r, k, out, hn, h, hk, ho => by
    rw [quoted_Read_L1, if_pos rfl, scn_eta]
    obtain ⟨k1, h1, e1⟩ := at_byte hs 34 h
    have hkl := h.le
    rw [e1, Option.bind_some]
    unfold quoted_Read_j2
    rw [qread_next]
    cases hb : byteB 34 r with
    | true =>
      rw [Bool.not_true, if_neg (by decide), if_pos rfl]
      have hr := byteB_true hb
      have hk1 : k1 = k + 1 := by
        have := h.len; have := h1.len
        have := congrArg List.length hr
        simp only [List.length_cons] at this; omega
      subst hk1
      unfold quoted_Read_j3
      rw [Bool.not_true, if_neg (by decide)]
      simp [scn]
    | false =>
      rw [byteR_else hb] at h1
      have hk1 : k1 = k := by have := h.len; have := h1.len; omega
      subst hk1
      rw [Bool.not_false, if_pos rfl, if_neg (by decide)]
      dsimp only [scn]
      rw [scn_eta]
      have hx := at_next hs out (by omega) h
      cases hq : nextR r with
      | none =>
        obtain ⟨k2, g1, g2, e2⟩ := hx.2 hq
        rw [e2, Option.bind_some]
        obtain ⟨m, rfl⟩ : ∃ m, n = m + 1 := ⟨n - 1, by omega⟩
        exact quoted_L1_false k0 m (by omega) out
      | some ct =>
        obtain ⟨c, t⟩ := ct
        obtain ⟨k2, g1, g2, e2⟩ := hx.1 c t hq
        have hl := nextR_len hq
        have l1 := h.len
        have l2 := g1.len
        rw [e2, Option.bind_some]
        have ih := quoted_L1_eq hs k0 n t k2 (out ++ [c]) (by omega) g1 (by omega) (by simp; omega)
        dsimp only [scn]
        rw [ih]
        cases qread t with
        | none => rfl
        | some p =>
          simp only [Option.map_some, List.append_assoc, List.singleton_append]
          have : k2 + p.2 = k1 + (p.2 + (r.length - t.length)) := by omega
          exact congrArg (fun k => some (out ++ c :: p.1, true, scn s k)) this
/-- A quoted text read. -/
def readQ (r : Str) : Option (Str × Nat) := if byteB 34 r then (qread (byteR 34 r)).map (fun p => (p.1, p.2 + 1)) else none
theorem quoted_Read_eq (hs : s.length < 1000000000) (h : At s k r) : quoted_Read (scn s k) = some (match readQ r with | some p => (p.1, true, scn s (k + p.2)) | none => ([], false, scn s k)) := by
  unfold quoted_Read readQ
  rw [scan_At_eq, Option.bind_some]
  obtain ⟨k1, h1, e1⟩ := at_byte hs 34 h
  rw [e1, Option.bind_some]
  have l0 := h.len
  have l1 := h1.len
  cases hb : byteB 34 r with
  | false =>
    rw [byteR_else hb] at h1
    have hk1 : k1 = k := by have := h1.len; omega
    subst hk1
    exact quoted_L1_false k1 999999999999999999 (Nat.le_refl _) []
  | true =>
    have hr := congrArg List.length (byteB_true hb)
    simp only [List.length_cons] at hr
    have hk1 : k1 = k + 1 := by omega
    subst hk1
    have := quoted_L1_eq hs k fuel (byteR 34 r) (k + 1) [] (by unfold fuel; omega) h1 (by omega) (by simp)
    dsimp only [scn] at this ⊢
    rw [this, if_pos rfl]
    cases qread (byteR 34 r) with
    | none => rfl
    | some p => simp only [Option.map_some, List.nil_append]; rw [show k + 1 + p.2 = k + (p.2 + 1) by omega]
/-- A comment passed. -/
theorem comment_L1_eq (hs : s.length < 1000000000) (p : commas_splitter) : ∀ (n : Nat) (r : Str) (k d : Nat), r.length + 1 < n → At s k r → d ≤ k + 1 →
    ∃ k', (∀ m, clen d r = some m → k' = k + m) ∧ k' ≤ s.length ∧ commas_splitter_comment_L1 p n s (k : Int) (d : Int) = some ((clen d r).isSome, ⟨scn s k', p.f_out, p.f_from, p.f_s⟩)
  | 0, _, _, _, h, _, _ => by omega
  | n + 1, r, k, 0, hn, h, hd => by
    refine ⟨k, fun m hm => (by rw [clen_zero] at hm; cases hm; rfl), h.le, ?_⟩
    rw [commas_splitter_comment_L1, clen_zero]
    rfl
  | n + 1, r, k, d + 1, hn, h, hd => by
    have hl := h.len
    rw [commas_splitter_comment_L1, decide_eq_true (show (0 : Int) < ((d + 1 : Nat) : Int) by omega), if_pos rfl, scn_eta, at_peek h, Option.bind_some]
    cases r with
    | nil => exact ⟨k, fun m hm => (by cases hm), h.le, rfl⟩
    | cons c t =>
      simp only [List.length_cons] at hn hl
      obtain ⟨k1, h1, e1⟩ := at_byte hs c h
      rw [byteR_cons] at h1
      have hk1 : k1 = k + 1 := by have := h1.len; omega
      subst hk1
      have i1 : iAdd ((d + 1 : Nat) : Int) 1 = some ((d + 2 : Nat) : Int) := iAdd_one (by omega)
      have i2 : iSub ((d + 1 : Nat) : Int) 1 = some (d : Int) := by rw [iSub_ok (by omega) (by omega)]; simp
      rw [show (peekR (c :: t)) = (c, true) from rfl]
      dsimp only
      rw [Bool.not_true, if_neg (by decide), e1, Option.bind_some, i1, Option.bind_some, i2, Option.bind_some]
      dsimp only [scn]
      rw [scn_eta, at_peek h1, Option.bind_some]
      cases c40 : c == 40 with
      | true =>
        have : c = 40 := by simpa using c40
        subst this
        obtain ⟨k', g1, g2, g3⟩ := comment_L1_eq hs p n t (k + 1) (d + 2) (by omega) h1 (by omega)
        refine ⟨k', fun m hm => ?_, g2, ?_⟩
        · rw [clen_open] at hm; obtain ⟨m', hm', rfl⟩ := Option.map_eq_some_iff.1 hm; rw [g1 m' hm']; omega
        · rw [if_pos rfl, g3, clen_open]; simp [scn]
      | false =>
        rw [if_neg (by decide)]
        cases c41 : c == 41 with
        | true =>
          have : c = 41 := by simpa using c41
          subst this
          obtain ⟨k', g1, g2, g3⟩ := comment_L1_eq hs p n t (k + 1) d (by omega) h1 (by omega)
          refine ⟨k', fun m hm => ?_, g2, ?_⟩
          · rw [clen_close] at hm; obtain ⟨m', hm', rfl⟩ := Option.map_eq_some_iff.1 hm; rw [g1 m' hm']; omega
          · rw [if_pos rfl, g3, clen_close]; simp [scn]
        | false =>
          rw [if_neg (by decide)]
          cases c92 : c == 92 with
          | true =>
            have : c = 92 := by simpa using c92
            subst this
            rw [if_pos rfl]
            cases t with
            | nil =>
              obtain ⟨k', g1, g2, g3⟩ := comment_L1_eq hs p n [] (k + 1) (d + 1) (by simp; omega) h1 (by omega)
              exact ⟨k', fun m hm => (by rw [clen_esc0] at hm; cases hm), g2, by rw [if_neg (by decide), g3]; rfl⟩
            | cons x u =>
              simp only [List.length_cons] at hn hl
              obtain ⟨k2, h2, e2⟩ := at_byte hs x h1
              rw [byteR_cons] at h2
              have hk2 : k2 = k + 2 := by have := h2.len; omega
              subst hk2
              obtain ⟨k', g1, g2, g3⟩ := comment_L1_eq hs p n u (k + 2) (d + 1) (by omega) h2 (by omega)
              dsimp only [scn] at e2 g3 ⊢
              refine ⟨k', fun m hm => ?_, g2, ?_⟩
              · rw [clen_esc] at hm; obtain ⟨m', hm', rfl⟩ := Option.map_eq_some_iff.1 hm; rw [g1 m' hm']; omega
              · rw [show (peekR (x :: u)) = (x, true) from rfl]
                dsimp only
                rw [if_pos rfl, e2, Option.bind_some, g3, clen_esc]; simp
          | false =>
            obtain ⟨k', g1, g2, g3⟩ := comment_L1_eq hs p n t (k + 1) (d + 1) (by omega) h1 (by omega)
            refine ⟨k', fun m hm => ?_, g2, ?_⟩
            · rw [clen_oth d t c40 c41 c92] at hm; obtain ⟨m', hm', rfl⟩ := Option.map_eq_some_iff.1 hm; rw [g1 m' hm']; omega
            · rw [if_neg (by decide), g3, clen_oth d t c40 c41 c92]; simp [scn]
/-- What stands between two places. -/
def mid (s : Str) (a b : Nat) : Str := (s.take b).drop a
theorem mid_more {a n : Nat} (h : At s k r) (ha : a ≤ k) (hn : n ≤ r.length) : mid s a (k + n) = mid s a k ++ r.take n := by
  unfold mid
  have hl := h.len
  rw [List.take_add, h.drop, List.drop_append_of_le_length (by simp; omega)]
theorem mid_self (s : Str) (a : Nat) : mid s a a = [] := by unfold mid; simp
theorem mid_len (s : Str) (a b : Nat) : (mid s a b).length ≤ s.length := by unfold mid; simp; omega
/-- An element more. -/
def pushE (out : List Str) (x : Str) : List Str := if trim x == [] then out else out ++ [trim x]
theorem pushE_eq (out : List Str) (x : Str) : pushE out x = out ++ elems [x] := by
  unfold pushE elems
  rw [List.map_cons, List.map_nil, List.filter_cons]
  cases h : trim x == [] with
  | true => rw [if_pos rfl, Bool.not_true, if_neg (by decide), List.filter_nil, List.append_nil]
  | false => rw [if_neg (by decide), Bool.not_false, if_pos rfl, List.filter_nil]
theorem pushE_len (out : List Str) (x : Str) : (pushE out x).length ≤ out.length + 1 := by unfold pushE; split <;> simp
theorem end_eq (hs : s.length < 1000000000) (out : List Str) (ho : out.length < 4000000000) (a b pos : Nat) (ha : a ≤ b) (hb : b ≤ s.length) : commas_splitter_end ⟨scn s pos, out, (a : Int), s⟩ (b : Int) = some ⟨scn s pos, pushE out (mid s a b), (pos : Int), s⟩ := by
  unfold commas_splitter_end
  have hl := mid_len s a b
  rw [sSub_nat ha hb, Option.bind_some]
  show (strings_Trim (mid s a b) [32, 9]).bind _ = _
  rw [strings_Trim_eq _ (by omega), Option.bind_some]
  unfold commas_splitter_end_j1 pushE
  show (if (!(trim (mid s a b) == [])) = true then _ else _) = _
  cases trim (mid s a b) == [] with
  | true => rfl
  | false => rw [Bool.not_false, if_pos rfl, if_pos (fits_ok (n := out.length) (m := 1) (by omega) (by omega))]; rfl
theorem passN_quote (t : Str) : passN 34 t = match qread t with | some p => p.2 + 1 | none => 0 := rfl
theorem passN_open (t : Str) : passN 40 t = match clen 1 t with | some n => n + 1 | none => 0 := rfl
theorem step_eq (hs : s.length < 1000000000) (out : List Str) (ho : out.length ≤ k) (a : Nat) (ha : a ≤ k) (c : UInt8) (t : Str) (h : At s k (c :: t)) :
    (c = 44 → commas_splitter_step ⟨scn s k, out, (a : Int), s⟩ = some (true, ⟨scn s (k + 1), pushE out (mid s a k), ((k + 1 : Nat) : Int), s⟩)) ∧
    ((c == 34 || c == 40) = true → passN c t ≠ 0 → commas_splitter_step ⟨scn s k, out, (a : Int), s⟩ = some (true, ⟨scn s (k + passN c t), out, (a : Int), s⟩)) ∧
    ((c == 34 || c == 40) = true → passN c t = 0 → ∃ p, commas_splitter_step ⟨scn s k, out, (a : Int), s⟩ = some (false, p)) ∧
    ((c == 34 || c == 40) = false → (c == 44) = false → commas_splitter_step ⟨scn s k, out, (a : Int), s⟩ = some (true, ⟨scn s (k + 1), out, (a : Int), s⟩)) := by
  have hl := h.len
  simp only [List.length_cons] at hl
  have e44 := scan_Byte_cons 44 h.le hs h.drop
  have e40 := scan_Byte_cons 40 h.le hs h.drop
  have ec := scan_Byte_cons c h.le hs h.drop
  rw [beq_self_eq_true, if_pos rfl] at ec
  unfold commas_splitter_step
  rw [show (⟨scn s k, out, (a : Int), s⟩ : commas_splitter).Scanner = scn s k from rfl, scan_At_eq, Option.bind_some]
  have hno : (c == 34 || c == 40) = true → (c == 44) = false := fun hc => by
    cases h4 : c == 44 with
    | false => rfl
    | true => have : c = 44 := by simpa using h4
              subst this; exact absurd hc (by decide)
  have n44 : (c == 44) = false → scan_Scanner_Byte (scn s k) 44 = some (false, scn s k) := fun h => by rw [e44, h]; rfl
  have n40 : (c == 40) = false → scan_Scanner_Byte (scn s k) 40 = some (false, scn s k) := fun h => by rw [e40, h]; rfl
  have y40 : c = 40 → scan_Scanner_Byte (scn s k) 40 = some (true, scn s (k + 1)) := fun h => by rw [e40, h]; rfl
  have pk : scan_Scanner_Peek (scn s k) = some (c, true) := at_peek h
  refine ⟨fun hc => ?_, fun hc hp => ?_, fun hc hp => ?_, fun hc h44 => ?_⟩
  · subst hc
    have y44 : scan_Scanner_Byte (scn s k) 44 = some (true, scn s (k + 1)) := e44
    rw [y44, Option.bind_some]
    dsimp only
    rw [if_pos rfl, end_eq hs out (by omega) a k (k + 1) ha h.le, Option.bind_some]
    rfl
  · rw [n44 (hno hc), Option.bind_some]
    dsimp only
    rw [if_neg (by decide)]
    cases h40 : c == 40 with
    | true =>
      have : c = 40 := by simpa using h40
      subst this
      have h1 := h.next 1 (by simp)
      obtain ⟨k', g1, _, g3⟩ := comment_L1_eq hs ⟨scn s (k + 1), out, (a : Int), s⟩ fuel t (k + 1) 1 (by unfold fuel; omega) h1 (by omega)
      rw [passN_open] at hp ⊢
      rw [y40 rfl, Option.bind_some]
      dsimp only
      rw [if_pos rfl]
      unfold commas_splitter_comment
      cases hm : clen 1 t with
      | none => rw [hm] at hp; exact absurd rfl hp
      | some m =>
        rw [hm] at g3
        have hk' := g1 m hm
        subst hk'
        have g3 : commas_splitter_comment_L1 ⟨scn s (k + 1), out, (a : Int), s⟩ fuel (scn s (k + 1)).f_s (scn s (k + 1)).f_at 1 = some (true, ⟨scn s (k + 1 + m), out, (a : Int), s⟩) := g3
        dsimp only
        rw [g3, Option.bind_some, show k + 1 + m = k + (m + 1) by omega]
    | false =>
      have h34 : c = 34 := by rw [h40, Bool.or_false] at hc; simpa using hc
      subst h34
      rw [passN_quote] at hp ⊢
      rw [n40 h40, Option.bind_some]
      dsimp only
      rw [if_neg (by decide), pk, Option.bind_some]
      dsimp only
      rw [if_pos (by decide), quoted_Read_eq hs h, Option.bind_some]
      unfold readQ
      rw [byteB_cons, byteR_cons]
      cases hq : qread t with
      | none => rw [hq] at hp; exact absurd rfl hp
      | some p => rfl
  · rw [n44 (hno hc), Option.bind_some]
    dsimp only
    rw [if_neg (by decide)]
    cases h40 : c == 40 with
    | true =>
      have : c = 40 := by simpa using h40
      subst this
      have h1 := h.next 1 (by simp)
      obtain ⟨k', g1, _, g3⟩ := comment_L1_eq hs ⟨scn s (k + 1), out, (a : Int), s⟩ fuel t (k + 1) 1 (by unfold fuel; omega) h1 (by omega)
      rw [passN_open] at hp
      rw [y40 rfl, Option.bind_some]
      dsimp only
      rw [if_pos rfl]
      unfold commas_splitter_comment
      cases hm : clen 1 t with
      | some m => rw [hm] at hp; exact absurd hp (by simp)
      | none =>
        rw [hm] at g3
        have g3 : commas_splitter_comment_L1 ⟨scn s (k + 1), out, (a : Int), s⟩ fuel (scn s (k + 1)).f_s (scn s (k + 1)).f_at 1 = some (false, ⟨scn s k', out, (a : Int), s⟩) := g3
        dsimp only
        exact ⟨_, by rw [g3, Option.bind_some]⟩
    | false =>
      have h34 : c = 34 := by rw [h40, Bool.or_false] at hc; simpa using hc
      subst h34
      rw [passN_quote] at hp
      rw [n40 h40, Option.bind_some]
      dsimp only
      rw [if_neg (by decide), pk, Option.bind_some]
      dsimp only
      rw [if_pos (by decide), quoted_Read_eq hs h, Option.bind_some]
      unfold readQ
      rw [byteB_cons, byteR_cons]
      cases hq : qread t with
      | some p => rw [hq] at hp; exact absurd hp (by simp)
      | none => exact ⟨_, rfl⟩
  · simp only [Bool.or_eq_false_iff] at hc
    rw [n44 h44, Option.bind_some]
    dsimp only
    rw [if_neg (by decide), n40 hc.2, Option.bind_some]
    dsimp only
    rw [if_neg (by decide), pk, Option.bind_some]
    dsimp only
    rw [hc.1, if_neg (by decide), ec, Option.bind_some]
    rfl
def splitR (s : Str) : List Str × Int := match splitC s with
  | some l => (l, 0)
  | none => ([], 2)
theorem Split_L1_eq (hs : s.length < 1000000000) : ∀ (n : Nat) (r : Str) (k a : Nat) (out : List Str), r.length < n → At s k r → a ≤ k → out.length ≤ k →
    commas_Split_L1 s n out (a : Int) s s (k : Int) = some (match segs 0 (mid s a k) r with | some l => (out ++ elems l, 0) | none => ([], 2))
  | 0, _, _, _, _, h, _, _, _ => by omega
  | n + 1, r, k, a, out, hn, h, ha, ho => by
    have hl := h.len
    rw [commas_Split_L1, scn_eta, at_end h, Option.bind_some]
    cases r with
    | nil =>
      have hk : k = s.length := by simpa using hl
      subst hk
      unfold commas_Split_j2
      rw [scn_eta, end_eq hs out (by omega) a s.length s.length ha (Nat.le_refl _), Option.bind_some, segs_nil]
      dsimp only
      rw [pushE_eq]
      rfl
    | cons c t =>
      simp only [List.length_cons] at hn hl
      obtain ⟨s1, s2, s3, s4⟩ := step_eq hs out ho a ha c t h
      have hne : (!((c :: t : Str) == [])) = true := rfl
      have m1 := mid_more (a := a) (n := 1) h ha (by simp)
      rw [hne, if_pos rfl]
      cases hc : (c == 34 || c == 40) with
      | true =>
        rw [segs_in _ t hc]
        by_cases hp : passN c t = 0
        · obtain ⟨p, e⟩ := s3 hc hp
          rw [if_pos hp, e, Option.bind_some]
          rfl
        · have hple := passN_le c t
          rw [if_neg hp, s2 hc hp, Option.bind_some]
          have hat := h.next (passN c t) (by simp; omega)
          have ih := Split_L1_eq hs n _ (k + passN c t) a out (by simp; omega) hat (by omega) (by omega)
          rw [mid_more h ha (by simp; omega)] at ih
          obtain ⟨q, hq⟩ : ∃ q, passN c t = q + 1 := ⟨passN c t - 1, by omega⟩
          rw [hq] at ih hple ⊢
          rw [Nat.add_sub_cancel, segs_pass q _ t (by omega)]
          dsimp only [scn]
          rw [Bool.not_true, if_neg (by decide), ih]
          simp
      | false =>
        cases h44 : c == 44 with
        | true =>
          have : c = 44 := by simpa using h44
          subst this
          rw [s1 rfl, Option.bind_some, segs_comma]
          have hat := h.next 1 (by simp)
          have hpl := pushE_len out (mid s a k)
          have ih := Split_L1_eq hs n t (k + 1) (k + 1) (pushE out (mid s a k)) (by omega) hat (Nat.le_refl _) (by omega)
          rw [mid_self] at ih
          dsimp only [scn]
          rw [Bool.not_true, if_neg (by decide), ih]
          cases segs 0 [] t with
          | none => rfl
          | some l =>
            simp only [Option.map_some]
            rw [pushE_eq, show mid s a k :: l = [mid s a k] ++ l from rfl, elems_app, List.append_assoc]
        | false =>
          rw [s4 hc h44, Option.bind_some, segs_oth _ t hc h44]
          have hat := h.next 1 (by simp)
          have ih := Split_L1_eq hs n t (k + 1) a out (by omega) hat (by omega) (by omega)
          rw [m1] at ih
          dsimp only [scn]
          rw [Bool.not_true, if_neg (by decide), ih]
          rfl
theorem commas_Split_eq (s : Str) (hs : s.length < 1000000000) : commas_Split s = some (splitR s) := by
  unfold commas_Split splitR splitC
  rw [scan_New_eq, Option.bind_some]
  have := Split_L1_eq hs fuel s 0 0 [] (by unfold fuel; omega) (At.zero s) (Nat.le_refl _) (by simp)
  rw [mid_self] at this
  show commas_Split_L1 s fuel [] ((0 : Nat) : Int) s s ((0 : Nat) : Int) = _
  rw [this]
  cases segs 0 [] s with
  | none => rfl
  | some l => rfl
end
end Go.Dm
