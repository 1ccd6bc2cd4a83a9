/-
  Layer 3 (numbers): reading and writing: the program's and the document's come to the same. No program in sight.
-/
import Derived.Test.YtmdocoobecckdaaGreatDoorT01
namespace Go.Dm
/-- The number that digits of a base say, a row of values. -/
def valB (b : Nat) (l : List Nat) : Nat := l.foldl (fun n d => n * b + d) 0
theorem valB_from (b : Nat) (l : List Nat) : ∀ n, l.foldl (fun n d => n * b + d) n = n * b ^ l.length + valB b l := by
  unfold valB
  induction l with
  | nil => intro n; simp
  | cons x l ih =>
    intro n
    rw [List.foldl_cons, ih, List.foldl_cons, ih (0 * b + x), List.length_cons, Nat.pow_succ, Nat.add_mul, Nat.zero_mul, Nat.zero_add, Nat.mul_assoc, Nat.mul_comm b, Nat.add_assoc]
theorem valB_nil (b : Nat) : valB b [] = 0 := rfl
theorem valB_cons (b x : Nat) (l : List Nat) : valB b (x :: l) = x * b ^ l.length + valB b l := by
  have := valB_from b l (0 * b + x)
  rw [Nat.zero_mul, Nat.zero_add] at this
  rw [← this]; unfold valB; rw [List.foldl_cons, Nat.zero_mul, Nat.zero_add]
theorem valB_snoc (b x : Nat) (l : List Nat) : valB b (l ++ [x]) = valB b l * b + x := by
  unfold valB; rw [List.foldl_append]; rfl
theorem valB_lt {b : Nat} (hb : 0 < b) : ∀ {l : List Nat}, (∀ d ∈ l, d < b) → valB b l < b ^ l.length
  | [], _ => by simp [valB]
  | x :: l, h => by
    have h1 := h x (List.mem_cons_self ..)
    have h2 := valB_lt hb (l := l) fun d hd => h d (List.mem_cons_of_mem _ hd)
    rw [valB_cons, List.length_cons, Nat.pow_succ]
    have : (x + 1) * b ^ l.length ≤ b * b ^ l.length := Nat.mul_le_mul_right _ h1
    rw [Nat.add_mul, Nat.one_mul] at this
    rw [Nat.mul_comm (b ^ l.length) b]; omega
/-- A number's digits, the greatest first. -/
def digsF (b : Nat) : Nat → Nat → List Nat
  | 0, n => [n % b]
  | k + 1, n => if n < b then [n] else digsF b k (n / b) ++ [n % b]
def digs (b n : Nat) : List Nat := digsF b 70 n
theorem div_lt_pow {b n k : Nat} (hb : 2 ≤ b) (h : n < 2 ^ (k + 1)) : n / b < 2 ^ k := by
  rw [Nat.div_lt_iff_lt_mul (by omega)]
  calc n < 2 ^ (k + 1) := h
    _ = 2 ^ k * 2 := Nat.pow_succ ..
    _ ≤ 2 ^ k * b := Nat.mul_le_mul_left _ hb
theorem digsF_more {b : Nat} (hb : 2 ≤ b) : ∀ (k m n : Nat), k ≤ m → n < 2 ^ (k + 1) → digsF b m n = digsF b k n
  | 0, 0, n, _, _ => rfl
  | 0, m + 1, n, _, h => by
    have hn : n < b := by have : n < 2 := by simpa using h
                          omega
    show digsF b (m + 1) n = [n % b]
    rw [digsF, if_pos hn, Nat.mod_eq_of_lt hn]
  | k + 1, 0, n, h, _ => by omega
  | k + 1, m + 1, n, hm, h => by
    rw [digsF, digsF]
    split
    · rfl
    · rw [digsF_more hb k m (n / b) (by omega) (div_lt_pow hb h)]
theorem digs_step {b n : Nat} (hb : 2 ≤ b) (hn : b ≤ n) (h : n < 2 ^ 64) : digs b n = digs b (n / b) ++ [n % b] := by
  have h1 := digsF_more hb 64 70 n (by decide) (Nat.lt_of_lt_of_le h (Nat.pow_le_pow_right (by decide) (by decide)))
  have h2 := digsF_more hb 63 70 (n / b) (by decide) (div_lt_pow hb (Nat.lt_of_lt_of_le h (Nat.pow_le_pow_right (by decide) (by decide))))
  unfold digs
  rw [h1, h2, digsF, if_neg (by omega)]
theorem digs_small {b n : Nat} (hn : n < b) : digs b n = [n] := by unfold digs; rw [digsF, if_pos hn]
theorem digs_ind {b : Nat} (hb : 2 ≤ b) {P : Nat → Prop} (h0 : ∀ n, n < b → P n) (h1 : ∀ n, b ≤ n → n < 2 ^ 64 → P (n / b) → P n) : ∀ n, n < 2 ^ 64 → P n := by
  intro n
  induction n using Nat.strongRecOn with
  | _ n ih =>
    intro hn
    by_cases h : n < b
    · exact h0 n h
    · have : n / b < n := Nat.div_lt_self (by omega) (by omega)
      exact h1 n (by omega) hn (ih _ this (by omega))
theorem digs_val {b : Nat} (hb : 2 ≤ b) : ∀ n, n < 2 ^ 64 → valB b (digs b n) = n :=
  digs_ind hb (fun n h => by rw [digs_small h]; simp [valB]) fun n h hn ih => by
    rw [digs_step hb h hn, valB_snoc, ih, Nat.mul_comm]; exact Nat.div_add_mod n b
theorem digs_lt {b : Nat} (hb : 2 ≤ b) : ∀ n, n < 2 ^ 64 → ∀ d ∈ digs b n, d < b :=
  digs_ind hb (fun n h d hd => by rw [digs_small h] at hd; simp at hd; omega) fun n h hn ih d hd => by
    rw [digs_step hb h hn] at hd
    rcases List.mem_append.1 hd with hd | hd
    · exact ih d hd
    · simp at hd; subst hd; exact Nat.mod_lt _ (by omega)
theorem digs_ne {b n : Nat} : digs b n ≠ [] := by
  unfold digs; rw [digsF]; split <;> simp
theorem digs_head {b : Nat} (hb : 2 ≤ b) : ∀ n, n < 2 ^ 64 → n = 0 ∨ (digs b n).head? ≠ some 0 :=
  digs_ind hb (fun n h => by
    rw [digs_small h]; by_cases e : n = 0
    · exact .inl e
    · exact .inr (by simpa using e)) fun n h hn ih => by
    right
    rw [digs_step hb h hn]
    rcases ih with h0 | h0
    · have : b ≤ n := h
      have : 0 < n / b := Nat.div_pos h (by omega)
      omega
    · cases hd : digs b (n / b) with
      | nil => exact absurd hd digs_ne
      | cons x l => rw [hd] at h0; simpa using h0
theorem digs_len {b : Nat} (hb : 2 ≤ b) : ∀ n, n < 2 ^ 64 → (digs b n).length ≤ 71 := by
  have : ∀ k n, (digsF b k n).length ≤ k + 1 := by
    intro k
    induction k with
    | zero => intro n; simp [digsF]
    | succ k ih => intro n; rw [digsF]; split
                   · simp
                   · simp; exact ih _
  intro n _; exact this 70 n
/-- Rows of digits of one length go by their numbers. -/
def lexLt : List Nat → List Nat → Bool
  | _, [] => false
  | [], _ :: _ => true
  | x :: l, y :: m => decide (x < y) || (x == y && lexLt l m)
theorem lex_val {b : Nat} (hb : 0 < b) : ∀ (l m : List Nat), l.length = m.length → (∀ d ∈ l, d < b) → (∀ d ∈ m, d < b) → lexLt l m = decide (valB b l < valB b m)
  | [], [], _, _, _ => by simp [lexLt]
  | [], _ :: _, h, _, _ => by simp at h
  | _ :: _, [], h, _, _ => by simp at h
  | x :: l, y :: m, h, hl, hm => by
    have e : l.length = m.length := by simpa using h
    have h1 := valB_lt hb (l := l) fun d hd => hl d (List.mem_cons_of_mem _ hd)
    have h2 := valB_lt hb (l := m) fun d hd => hm d (List.mem_cons_of_mem _ hd)
    rw [lexLt, lex_val hb l m e (fun d hd => hl d (List.mem_cons_of_mem _ hd)) (fun d hd => hm d (List.mem_cons_of_mem _ hd)), valB_cons, valB_cons, e]
    rw [e] at h1
    rcases Nat.lt_trichotomy x y with hxy | hxy | hxy
    · have : (x + 1) * b ^ m.length ≤ y * b ^ m.length := Nat.mul_le_mul_right _ hxy
      rw [Nat.add_mul, Nat.one_mul] at this
      have h3 : x * b ^ m.length + valB b l < y * b ^ m.length + valB b m := by omega
      simp [hxy, h3]
    · subst hxy; simp
    · have : (y + 1) * b ^ m.length ≤ x * b ^ m.length := Nat.mul_le_mul_right _ hxy
      rw [Nat.add_mul, Nat.one_mul] at this
      have h3 : ¬ x * b ^ m.length + valB b l < y * b ^ m.length + valB b m := by omega
      have h4 : ¬ x < y := by omega
      have h5 : (x == y) = false := beq_eq_false_iff_ne.2 (by omega)
      simp [h3, h4, h5]
/-- A digit's letter. -/
def dch (d : Nat) : UInt8 := if d < 10 then UInt8.ofNat (48 + d) else UInt8.ofNat (87 + d)
def chars (l : List Nat) : Str := l.map dch
/-- A letter's worth. -/
def wor (c : UInt8) : Nat := if cDigit c then (c - 48).toNat else (cLower c - 97).toNat + 10
def isDig (b : Nat) (c : UInt8) : Bool := if b = 10 then cDigit c else cHex c
theorem dch_facts : ∀ d : Nat, d < 16 → (wor (dch d) = d ∧ cHex (dch d) = true ∧ (d < 10 → cDigit (dch d) = true)) := by decide
theorem dch_lt : ∀ d : Nat, d < 16 → ∀ e : Nat, e < 16 → (decide (dch d < dch e) = decide (d < e) ∧ (dch d == dch e) = (d == e)) := by decide
theorem sLess_chars : ∀ (l m : List Nat), (∀ d ∈ l, d < 16) → (∀ d ∈ m, d < 16) → sLess (chars l) (chars m) = lexLt l m
  | [], [], _, _ => rfl
  | [], _ :: _, _, _ => rfl
  | _ :: _, [], _, _ => rfl
  | x :: l, y :: m, hl, hm => by
    have ih := sLess_chars l m (fun d hd => hl d (List.mem_cons_of_mem _ hd)) (fun d hd => hm d (List.mem_cons_of_mem _ hd))
    obtain ⟨h1, h2⟩ := dch_lt x (hl x (List.mem_cons_self ..)) y (hm y (List.mem_cons_self ..))
    show (decide (dch x < dch y) || (dch x == dch y && sLess (chars l) (chars m))) = _
    rw [h1, h2, ih, lexLt]
theorem numeral_worth_eq (b : UInt8) : numeral_worth b = some (wor b : Int) :=
  of_decide_eq_true (all_bytes (fun b => decide (numeral_worth b = some (wor b : Int))) (by decide +kernel) b)
theorem wor_lt (c : UInt8) : (cDigit c = true → wor c < 10) ∧ (cHex c = true → wor c < 16) :=
  of_decide_eq_true (all_bytes (fun c => decide ((cDigit c = true → wor c < 10) ∧ (cHex c = true → wor c < 16))) (by decide +kernel) c)
theorem worth_more (c : UInt8) (b : Int) (n : Nat) {i : Int} (hn : n ≤ fuel) (h : (ref03_worth_L1 c b n i).isSome = true) : ref03_worth_L1 c b fuel i = ref03_worth_L1 c b n i := by
  obtain ⟨k, hk⟩ : ∃ k, fuel = n + k := ⟨fuel - n, by omega⟩
  rw [hk]
  clear hk hn
  induction n generalizing i with
  | zero => simp [ref03_worth_L1] at h
  | succ n ih =>
    rw [Nat.add_right_comm, ref03_worth_L1, ref03_worth_L1]
    rw [ref03_worth_L1] at h
    split
    · rename_i hlt
      rw [if_pos hlt] at h
      cases hs : sAt [48, 49, 50, 51, 52, 53, 54, 55, 56, 57, 97, 98, 99, 100, 101, 102] i with
      | none => rfl
      | some x =>
        rw [hs] at h
        simp only [Option.bind_some] at h ⊢
        split
        · rfl
        · rename_i hne
          rw [if_neg hne] at h
          cases hs2 : sAt [48, 49, 50, 51, 52, 53, 54, 55, 56, 57, 65, 66, 67, 68, 69, 70] i with
          | none => rfl
          | some y =>
            rw [hs2] at h
            simp only [Option.bind_some, ref03_worth_j2] at h ⊢
            split
            · rfl
            · rename_i hne2
              rw [if_neg hne2] at h
              cases hi : iAdd i 1 with
              | none => rfl
              | some j => rw [hi] at h; exact ih h
    · rfl
theorem ref03_worth_10 (c : UInt8) : ref03_worth c 10 = some (if cDigit c then (wor c : Int) else -1) := by
  have h1 : ref03_worth_L1 c 10 20 0 = some (if cDigit c then (wor c : Int) else -1) := of_decide_eq_true (all_bytes (fun c => decide (ref03_worth_L1 c 10 20 0 = some (if cDigit c then (wor c : Int) else -1))) (by decide +kernel) c)
  unfold ref03_worth
  rw [← h1]
  exact worth_more c 10 20 (by decide) (by rw [h1]; rfl)
theorem ref03_worth_16 (c : UInt8) : ref03_worth c 16 = some (if cHex c then (wor c : Int) else -1) := by
  have h1 : ref03_worth_L1 c 16 20 0 = some (if cHex c then (wor c : Int) else -1) := of_decide_eq_true (all_bytes (fun c => decide (ref03_worth_L1 c 16 20 0 = some (if cHex c then (wor c : Int) else -1))) (by decide +kernel) c)
  unfold ref03_worth
  rw [← h1]
  exact worth_more c 16 20 (by decide) (by rw [h1]; rfl)
def okBase (b : Nat) : Prop := b = 10 ∨ b = 16
theorem okBase.two {b : Nat} (h : okBase b) : 2 ≤ b ∧ b ≤ 16 := by rcases h with rfl | rfl <;> omega
theorem ref03_worth_eq {b : Nat} (hb : okBase b) (c : UInt8) : ref03_worth c (b : Int) = some (if isDig b c then (wor c : Int) else -1) := by
  rcases hb with rfl | rfl
  · exact ref03_worth_10 c
  · exact ref03_worth_16 c
theorem isDig_lt {b : Nat} (hb : okBase b) {c : UInt8} (h : isDig b c = true) : wor c < b := by
  rcases hb with rfl | rfl
  · exact (wor_lt c).1 h
  · exact (wor_lt c).2 h
theorem table_at : ∀ d : Nat, d < 16 → sSub [48, 49, 50, 51, 52, 53, 54, 55, 56, 57, 97, 98, 99, 100, 101, 102] (d : Int) ((d + 1 : Nat) : Int) = some [dch d] := by decide
theorem Digits_r_eq {b : Nat} (hb : okBase b) : ∀ (k m n : Nat), k ≤ m → n < 2 ^ (k + 1) → k < 63 → ref03_Digits_r (m + 1) (n : Int) (b : Int) = some (chars (digs b n)) := by
  obtain ⟨h2, h16⟩ := hb.two
  intro k
  induction k with
  | zero =>
    intro m n _ h _
    have hn : n < b := by have : n < 2 := by simpa using h
                          omega
    rw [ref03_Digits_r, digs_small hn]
    simp only [Int.ofNat_lt, hn, decide_true, if_true, iAdd_one (show n < 4611686018427387904 by omega), Option.bind_some, table_at n (by omega)]
    rfl
  | succ k ih =>
    intro m n hm h hk
    obtain ⟨m, rfl⟩ : ∃ j, m = j + 1 := ⟨m - 1, by omega⟩
    have hbig : n < 2 ^ 64 := Nat.lt_of_lt_of_le h (Nat.pow_le_pow_right (by decide) (by omega))
    have hq : ∀ q : Nat, q ≤ n → inI (q : Int) = true := fun q hq => inI_iff.2 (by
      have : n < 2 ^ 63 := Nat.lt_of_lt_of_le h (Nat.pow_le_pow_right (by decide) (by omega))
      omega)
    rw [ref03_Digits_r]
    by_cases hn : n < b
    · rw [digs_small hn]
      simp only [Int.ofNat_lt, hn, decide_true, if_true, iAdd_one (show n < 4611686018427387904 by omega), Option.bind_some, table_at n (by omega)]
      rfl
    · have e1 : iDiv (n : Int) (b : Int) = some ((n / b : Nat) : Int) := by
        unfold iDiv
        rw [if_pos ⟨by omega, by omega, by rw [← Int.natCast_ediv]; exact hq _ (Nat.div_le_self n b)⟩, Int.natCast_ediv]
      have e2 : iMod (n : Int) (b : Int) = some ((n % b : Nat) : Int) := by
        unfold iMod
        rw [if_pos ⟨by omega, by omega, by rw [← Int.natCast_emod]; exact hq _ (Nat.mod_le n b)⟩, Int.natCast_emod]
      have hlt : n % b < b := Nat.mod_lt _ (by omega)
      have hlen := digs_len h2 (n / b) (by have := Nat.div_le_self n b; omega)
      have hn' : ¬ decide ((n : Int) < (b : Int)) = true := by simp; omega
      have e3 := ih m (n / b) (by omega) (div_lt_pow h2 h) (by omega)
      have e4 := table_at (n % b) (by omega)
      have e5 := iAdd_one (i := n % b) (by omega)
      have e6 := digs_step h2 (show b ≤ n by omega) hbig
      generalize n / b = q at *
      generalize n % b = r at *
      have e7 : sCat (chars (digs b q)) [dch r] = some (chars (digs b q) ++ [dch r]) := sCat_ok (by simp [chars]; omega)
      rw [if_neg hn', e1, Option.bind_some, e3, Option.bind_some, e2, Option.bind_some, Option.bind_some, e5, Option.bind_some, e4, Option.bind_some, e7, Option.bind_some, e6]
      simp [chars]
theorem ref03_Digits_eq {b : Nat} (hb : okBase b) (n : Nat) (hn : n < 2 ^ 63) : ref03_Digits (n : Int) (b : Int) = some (chars (digs b n)) := by
  unfold ref03_Digits
  obtain ⟨m, hm⟩ : ∃ m, fuel = m + 1 := ⟨999999999999999999, rfl⟩
  rw [hm]
  exact Digits_r_eq hb 62 m n (by unfold fuel at hm; omega) (by omega) (by omega)
def textN (b : Nat) (n : Int) : Str := if n < 0 then [] else chars (digs b n.toNat)
theorem ref03_Text_eq {b : Nat} (hb : okBase b) (n : Int) (hn : inI n = true) : ref03_Text n (b : Int) = some (textN b n) := by
  obtain ⟨h1, h2⟩ := inI_iff.1 hn
  unfold ref03_Text textN
  by_cases h : n < 0
  · simp [h]
  · obtain ⟨k, rfl⟩ : ∃ k : Nat, n = k := ⟨n.toNat, by omega⟩
    simp [h, ref03_Digits_eq hb k (by omega)]
theorem dec_eq : ∀ n, n < 2 ^ 64 → Go.Lib.decDigits n = chars (digs 10 n) :=
  digs_ind (b := 10) (by decide) (fun n h => by rw [Go.Lib.decDigits, dif_pos h, digs_small h]; simp [chars, dch, h]) fun n h hn ih => by
    rw [Go.Lib.decDigits, dif_neg (by omega), ih, digs_step (by decide) h hn]
    have : n % 10 < 10 := Nat.mod_lt _ (by decide)
    simp [chars, dch, this]
theorem numeral_Text_eq (n : Int) (hn : inI n = true) : numeral_Text n = some (textN 10 n) := by
  obtain ⟨h1, h2⟩ := inI_iff.1 hn
  unfold numeral_Text numeral_text textN
  by_cases h : n < 0
  · simp [h]
  · obtain ⟨k, rfl⟩ : ∃ k : Nat, n = k := ⟨n.toNat, by omega⟩
    have hk : ¬ ((k : Int) < 0) := by omega
    simp [hk, strconv_FormatInt, hn, Go.Lib.itoa, dec_eq k (by omega)]
/-- The values of a text's digits. -/
def vals (s : Str) : List Nat := s.map wor
def readN (b : Nat) (s : Str) (most : Int) : Int × Int :=
  if (s == [] || !s.all (isDig b)) = true then (0, 2) else if most < (valB b (vals s) : Int) then (0, 7) else (((valB b (vals s) : Nat) : Int), 0)
theorem vals_lt {b : Nat} (hb : okBase b) {s : Str} (h : s.all (isDig b) = true) : ∀ d ∈ vals s, d < b := by
  intro d hd
  obtain ⟨c, hc, rfl⟩ := List.mem_map.1 hd
  exact isDig_lt hb (List.all_eq_true.1 h c hc)
theorem valB_mono {b : Nat} (hb : 1 ≤ b) (l m : List Nat) : valB b l ≤ valB b (l ++ m) := by
  unfold valB
  rw [List.foldl_append]
  generalize l.foldl (fun n d => n * b + d) 0 = n
  rw [valB_from]
  have : 1 ≤ b ^ m.length := Nat.one_le_pow _ _ hb
  have := Nat.le_mul_of_pos_right n this
  omega
theorem read_L2_eq {b : Nat} (hb : okBase b) (s : Str) (most : Int) (hs : s.length < 1000000000) (hd : s.all (isDig b) = true) (hm : most < 4611686018427387904) (hm0 : -4611686018427387904 < most) (hne : s ≠ []) :
    numeral_read_L2 s (b : Int) most fuel 0 0 = some (if most < (valB b (vals s) : Int) then (0, 7) else (((valB b (vals s) : Nat) : Int), 0)) := by
  obtain ⟨h2, h16⟩ := hb.two
  have key : ∀ (n i v : Nat), i ≤ s.length → s.length - i < n → v = valB b (vals (s.take i)) → (i = 0 ∨ (v : Int) ≤ most) → (i < s.length ∨ (v : Int) ≤ most) →
      numeral_read_L2 s (b : Int) most n (v : Int) (i : Int) = some (if most < (valB b (vals s) : Int) then (0, 7) else (((valB b (vals s) : Nat) : Int), 0)) := by
    intro n
    induction n with
    | zero => intro i v _ h; omega
    | succ n ih =>
      intro i v hi h hv h0 h1
      rw [numeral_read_L2]
      by_cases hlt : i < s.length
      · have hx : s[i]? = some s[i] := List.getElem?_eq_getElem hlt
        have hw : wor s[i] < b := isDig_lt hb (List.all_eq_true.1 hd _ (List.getElem_mem hlt))
        have htk : vals (s.take (i + 1)) = vals (s.take i) ++ [wor s[i]] := by
          unfold vals
          rw [List.take_succ_eq_append_getElem hlt, List.map_append]; rfl
        have hv' : valB b (vals (s.take (i + 1))) = v * b + wor s[i] := by rw [htk, valB_snoc, ← hv]
        have hle : valB b (vals (s.take (i + 1))) ≤ valB b (vals s) := by
          have := valB_mono (b := b) (by omega) (vals (s.take (i + 1))) (vals (s.drop (i + 1)))
          unfold vals at this ⊢
          rwa [← List.map_append, List.take_append_drop] at this
        simp only [Int.ofNat_lt, hlt, decide_true, if_true, sAt_nat, hx, Option.bind_some, numeral_worth_eq]
        by_cases hov : most < (wor s[i] : Int)
        · have : most < (valB b (vals s) : Int) := by
            have := Nat.zero_le (v * b); omega
          simp [hov, numeral_read_j3, this]
        · have hsub : iSub most (wor s[i] : Int) = some (most - (wor s[i] : Int)) := iSub_ok (by omega) (by omega)
          have hdv : iDiv (most - (wor s[i] : Int)) (b : Int) = some ((most - (wor s[i] : Int)) / (b : Int)) := by
            unfold iDiv
            have h5 : 0 ≤ (most - (wor s[i] : Int)) / (b : Int) := Int.ediv_nonneg (by omega) (by omega)
            have h6 : (most - (wor s[i] : Int)) / (b : Int) ≤ most - (wor s[i] : Int) := Int.ediv_le_self _ (by omega)
            rw [if_pos ⟨by omega, by omega, by rw [inI_iff]; omega⟩]
          have hiff : (most - (wor s[i] : Int)) / (b : Int) < (v : Int) ↔ most < ((v * b + wor s[i] : Nat) : Int) := by
            rw [Int.ediv_lt_iff_lt_mul (by omega)]
            push_cast
            omega
          simp only [hov, decide_false, Bool.false_eq_true, if_false, hsub, hdv, Option.bind_some, numeral_read_j3]
          by_cases hov2 : (most - (wor s[i] : Int)) / (b : Int) < (v : Int)
          · have h7 : most < (valB b (vals s) : Int) := by have := hiff.1 hov2; omega
            simp [hov2, h7]
          · have h7 : ((v * b + wor s[i] : Nat) : Int) ≤ most := by have := (not_congr hiff).1 hov2; omega
            have hmul : iMul (v : Int) (b : Int) = some ((v * b : Nat) : Int) := by
              rw [iMul_ok (by rw [← Int.natCast_mul]; omega) (by rw [← Int.natCast_mul]; omega), Int.natCast_mul]
            have hadd : iAdd ((v * b : Nat) : Int) (wor s[i] : Int) = some ((v * b + wor s[i] : Nat) : Int) := by
              rw [iAdd_ok (by omega) (by omega)]; simp
            simp only [hov2, decide_false, Bool.false_eq_true, if_false, hmul, hadd, Option.bind_some, iAdd_one (show i < 4611686018427387904 by omega)]
            exact ih (i + 1) (v * b + wor s[i]) (by omega) (by omega) hv'.symm (.inr h7) (.inr h7)
      · have : i = s.length := by omega
        subst this
        rw [List.take_length] at hv
        have h8 : ¬ most < (valB b (vals s) : Int) := by rw [← hv]; rcases h1 with h1 | h1 <;> omega
        simp [h8, hv]
  have := key fuel 0 0 (Nat.zero_le _) (by unfold fuel; omega) (by simp [vals, valB]) (.inl rfl) (.inl (by cases s with | nil => exact absurd rfl hne | cons _ _ => simp))
  simpa using this
theorem numeral_read_eq {b : Nat} (hb : okBase b) (s : Str) (most : Int) (hs : s.length < 1000000000) (hm : most < 4611686018427387904) (hm0 : -4611686018427387904 < most) {f : UInt8 → Option Bool} (hf : ∀ c, f c = some (isDig b c)) :
    numeral_read s (b : Int) most f = some (readN b s most) := by
  unfold numeral_read readN
  rcases bcase (s == []) with h | h
  · rw [h]; simp [numeral_read_j1]
  · rw [h]
    rw [octet_All_one hf s hs]
    simp only [Bool.false_eq_true, if_false, Option.bind_some, numeral_read_j1, Bool.false_or]
    rcases bcase (s.all (isDig b)) with h2 | h2
    · rw [h2]
      simp only [Bool.not_true, Bool.false_eq_true, if_false]
      exact read_L2_eq hb s most hs h2 hm hm0 (by simpa using h)
    · rw [h2]; simp
theorem numeral_Decimal_eq (s : Str) (most : Int) (hs : s.length < 1000000000) (hm : most < 4611686018427387904) (hm0 : -4611686018427387904 < most) : numeral_Decimal s most = some (readN 10 s most) := by
  unfold numeral_Decimal
  have := numeral_read_eq (.inl rfl) s most hs hm hm0 (f := octet_IsDigit) octet_IsDigit_eq
  rw [show ((10 : Nat) : Int) = 10 from rfl] at this
  rw [this]; rfl
/-- The values without noughts ahead; of noughts alone nothing. -/
def strip : List Nat → List Nat
  | 0 :: l => strip l
  | l => l
theorem strip_val (b : Nat) : ∀ l, valB b (strip l) = valB b l
  | [] => rfl
  | 0 :: l => by rw [strip, strip_val b l, valB_cons, Nat.zero_mul, Nat.zero_add]
  | (n + 1) :: l => rfl
theorem strip_head : ∀ l, (strip l).head? ≠ some 0
  | [] => by simp [strip]
  | 0 :: l => by rw [strip]; exact strip_head l
  | (n + 1) :: l => by simp [strip]
theorem strip_mem : ∀ {l : List Nat} {d : Nat}, d ∈ strip l → d ∈ l
  | [], _, h => h
  | 0 :: l, d, h => by rw [strip] at h; exact List.mem_cons_of_mem _ (strip_mem h)
  | (n + 1) :: l, _, h => h
theorem strip_len : ∀ l, (strip l).length ≤ l.length
  | [] => Nat.le_refl _
  | 0 :: l => by rw [strip]; have := strip_len l; simp; omega
  | (n + 1) :: l => Nat.le_refl _
def canon (l : List Nat) : List Nat := if strip l = [] then [0] else strip l
theorem Plain_eq {b : Nat} (hb : okBase b) (s : Str) (hs : s.length < 1000000000) :
    ref03_Plain s (b : Int) = some (if s.all (isDig b) then (chars (canon (vals s)), !(s == [])) else ([], false)) := by
  obtain ⟨h2, h16⟩ := hb.two
  unfold ref03_Plain
  have key : ∀ (n i : Nat) (acc : List Nat), i ≤ s.length → s.length - i < n → acc.length ≤ i → (acc = [] ∨ acc.head? ≠ some 0) →
      ref03_Plain_L1 s (b : Int) n (chars acc) (i : Int) = some (if (s.drop i).all (isDig b) then (chars (if acc = [] then canon (vals (s.drop i)) else acc ++ vals (s.drop i)), !(s == [])) else ([], false)) := by
    intro n
    induction n with
    | zero => intro i acc _ h; omega
    | succ n ih =>
      intro i acc hi h ha h0
      rw [ref03_Plain_L1]
      by_cases hlt : i < s.length
      · have hx : s[i]? = some s[i] := List.getElem?_eq_getElem hlt
        rw [List.drop_eq_getElem_cons hlt]
        generalize hc : s[i] = c at hx ⊢
        simp only [Int.ofNat_lt, hlt, decide_true, if_true, sAt_nat, hx, Option.bind_some, ref03_worth_eq hb, List.all_cons]
        rcases bcase (isDig b c) with hdg | hdg
        · have hw := isDig_lt hb hdg
          have hw0 : ¬ ((wor c : Int) < 0) := by omega
          have hdig : ref03_Digits (wor c : Int) (b : Int) = some [dch (wor c)] := by
            rw [ref03_Digits_eq hb _ (by omega), digs_small hw]; rfl
          have hcat : sCat (chars acc) [dch (wor c)] = some (chars (acc ++ [wor c])) := by
            rw [sCat_ok (by simp [chars]; omega)]; simp [chars]
          simp only [hdg, if_true, hw0, decide_false, Bool.false_eq_true, if_false, ref03_Plain_j2, ref03_Plain_j3, hdig, hcat, Option.bind_some, iAdd_one (show i < 4611686018427387904 by omega), Bool.true_and]
          have hvc : vals (c :: s.drop (i + 1)) = wor c :: vals (s.drop (i + 1)) := rfl
          cases acc with
          | nil =>
            by_cases hz : wor c = 0
            · have hz' : ¬ (0 < (wor c : Int)) := by omega
              simp only [show (chars [] == ([] : Str)) = true from rfl, Bool.not_true, Bool.false_eq_true, if_false, hz', decide_false]
              have := ih (i + 1) [] (by omega) (by omega) (by simp) (.inl rfl)
              rw [show chars [] = ([] : Str) from rfl] at this ⊢
              rw [this]
              simp only [if_true, hvc, hz, canon, strip]
            · have hz' : 0 < (wor c : Int) := by omega
              simp only [show (chars [] == ([] : Str)) = true from rfl, Bool.not_true, Bool.false_eq_true, if_false, hz', decide_true, if_true]
              rw [ih (i + 1) ([] ++ [wor c]) (by omega) (by omega) (by simp) (.inr (by simpa using hz))]
              obtain ⟨m, hm⟩ : ∃ m, wor c = m + 1 := ⟨wor c - 1, by omega⟩
              simp [hvc, canon, hm, strip]
          | cons y acc =>
            simp only [show (chars (y :: acc) == ([] : Str)) = false from rfl, Bool.not_false, if_true]
            have hy : (y :: acc ++ [wor c]) = [] ∨ (y :: acc ++ [wor c]).head? ≠ some 0 := by
              right
              rcases h0 with h0 | h0
              · cases h0
              · simpa using h0
            rw [ih (i + 1) (y :: acc ++ [wor c]) (by omega) (by omega) (by simp at ha ⊢; omega) hy]
            simp [hvc]
        · simp [hdg]
      · have : i = s.length := by omega
        subst this
        simp only [Int.lt_irrefl, decide_false, Bool.false_eq_true, if_false, List.drop_length, List.all_nil, if_true, ref03_Plain_j4]
        cases acc with
        | nil => simp [chars, canon, vals, strip, dch]
        | cons y acc => simp [chars, vals]
  have := key fuel 0 [] (Nat.zero_le _) (by unfold fuel; omega) (by simp) (.inl rfl)
  simpa [chars] using this
theorem canon_facts {b : Nat} (hb : 0 < b) {l : List Nat} (h : ∀ d ∈ l, d < b) : canon l ≠ [] ∧ (∀ d ∈ canon l, d < b) ∧ (canon l = [0] ∨ (canon l).head? ≠ some 0) ∧ valB b (canon l) = valB b l ∧ (canon l).length ≤ l.length + 1 := by
  unfold canon
  by_cases e : strip l = []
  · rw [if_pos e]
    have := strip_val b l
    rw [e, valB_nil] at this
    refine ⟨by simp, fun d hd => by simp at hd; omega, .inl rfl, by simp [valB] at this ⊢; exact this, by simp⟩
  · rw [if_neg e]
    exact ⟨e, fun d hd => h d (strip_mem hd), .inr (strip_head l), strip_val b l, by have := strip_len l; omega⟩
/-- Rows of digits without noughts ahead go by their lengths, then by their letters. -/
theorem less_val {b : Nat} (hb : 2 ≤ b) (l m : List Nat) (hl0 : l ≠ []) (hm0 : m ≠ []) (hl : ∀ d ∈ l, d < b) (hm : ∀ d ∈ m, d < b) (zl : l = [0] ∨ l.head? ≠ some 0) (zm : m = [0] ∨ m.head? ≠ some 0) :
    (decide (l.length < m.length) || (l.length == m.length && lexLt l m)) = decide (valB b l < valB b m) := by
  have low : ∀ x : List Nat, x ≠ [] → x.head? ≠ some 0 → b ^ (x.length - 1) ≤ valB b x := by
    intro x hx h0
    cases x with
    | nil => exact absurd rfl hx
    | cons y t =>
      have hy : 1 ≤ y := by
        rcases Nat.eq_zero_or_pos y with e | e
        · subst e; simp at h0
        · exact e
      rw [valB_cons, List.length_cons, Nat.add_sub_cancel]
      have := Nat.mul_le_mul_right (b ^ t.length) hy
      rw [Nat.one_mul] at this; omega
  have cmp : ∀ x y : List Nat, x ≠ [] → y ≠ [] → (∀ d ∈ x, d < b) → (y = [0] ∨ y.head? ≠ some 0) → x.length < y.length → valB b x < valB b y := by
    intro x y hx hy hxd zy h
    have hyh : y.head? ≠ some 0 := by
      rcases zy with e | e
      · have : 1 ≤ x.length := by cases x with | nil => exact absurd rfl hx | cons _ _ => simp
        rw [e] at h
        have h' : x.length < 1 := h
        omega
      · exact e
    have h1 := valB_lt (b := b) (by omega) hxd
    have h2 := low y hy hyh
    have h3 : b ^ x.length ≤ b ^ (y.length - 1) := Nat.pow_le_pow_right (by omega) (by omega)
    omega
  rcases Nat.lt_trichotomy l.length m.length with h | h | h
  · have := cmp l m hl0 hm0 hl zm h
    simp [h, this]
  · rw [h, lex_val (b := b) (by omega) l m h hl hm]; simp
  · have h1 := cmp m l hm0 hl0 hm zl h
    have h2 : ¬ l.length < m.length := by omega
    have h3 : (l.length == m.length) = false := beq_eq_false_iff_ne.2 (by omega)
    have h4 : ¬ valB b l < valB b m := by omega
    simp [h2, h3, h4]
theorem chars_len (l : List Nat) : (chars l).length = l.length := by simp [chars]
theorem ref03_Read_L2_eq {b : Nat} (hb : okBase b) (l : List Nat) (q : Bool) (hl : ∀ d ∈ l, d < b) (hlen : l.length < 2000000000) (hv : valB b l < 4611686018427387904) :
    ref03_Read_L2 (b : Int) (chars l, q) fuel 0 0 = some (((valB b l : Nat) : Int), 0) := by
  obtain ⟨h2, h16⟩ := hb.two
  have key : ∀ (n i v : Nat), i ≤ l.length → l.length - i < n → v = valB b (l.take i) → ref03_Read_L2 (b : Int) (chars l, q) n (v : Int) (i : Int) = some (((valB b l : Nat) : Int), 0) := by
    intro n
    induction n with
    | zero => intro i v _ h; omega
    | succ n ih =>
      intro i v hi h hvv
      rw [ref03_Read_L2]
      by_cases hlt : i < l.length
      · have hx : (chars l)[i]? = some (dch l[i]) := by simp [chars, hlt]
        have hd : l[i] < b := hl _ (List.getElem_mem hlt)
        obtain ⟨w1, w2, w3⟩ := dch_facts l[i] (by omega)
        have hdg : isDig b (dch l[i]) = true := by
          rcases hb with rfl | rfl
          · exact w3 hd
          · exact w2
        have hv' : valB b (l.take (i + 1)) = v * b + l[i] := by
          rw [List.take_succ_eq_append_getElem hlt, valB_snoc, ← hvv]
        have hle : valB b (l.take (i + 1)) ≤ valB b l := by
          have := valB_mono (b := b) (by omega) (l.take (i + 1)) (l.drop (i + 1))
          rwa [List.take_append_drop] at this
        have hmul : iMul (v : Int) (b : Int) = some ((v * b : Nat) : Int) := by
          rw [iMul_ok (by rw [← Int.natCast_mul]; omega) (by rw [← Int.natCast_mul]; omega), Int.natCast_mul]
        have hadd : iAdd ((v * b : Nat) : Int) (l[i] : Int) = some ((v * b + l[i] : Nat) : Int) := by
          rw [iAdd_ok (by omega) (by omega)]; simp
        simp only [chars_len, Int.ofNat_lt, hlt, decide_true, if_true, hmul, Option.bind_some, sAt_nat, hx, ref03_worth_eq hb, hdg, w1, hadd, iAdd_one (show i < 4611686018427387904 by omega)]
        exact ih (i + 1) _ (by omega) (by omega) hv'.symm
      · have : i = l.length := by omega
        subst this
        rw [List.take_length] at hvv
        simp [chars_len, hvv]
  have := key fuel 0 0 (Nat.zero_le _) (by unfold fuel; omega) (by simp [valB])
  simpa using this
theorem ref03_Read_eq {b : Nat} (hb : okBase b) (s : Str) (most : Int) (hs : s.length < 1000000000) (hm : most < 4611686018427387904) (hm0 : -4611686018427387904 < most) : ref03_Read s (b : Int) most = some (readN b s most) := by
  obtain ⟨h2, h16⟩ := hb.two
  unfold ref03_Read readN
  rw [Plain_eq hb s hs, Option.bind_some]
  rcases bcase (s.all (isDig b)) with hd | hd
  · rw [hd]
    simp only [if_true, Bool.not_true, Bool.or_false]
    rcases bcase (s == []) with he | he
    · rw [he]; simp
    · rw [he]
      have hv := vals_lt hb hd
      obtain ⟨c1, c2, c3, c4, c5⟩ := canon_facts (b := b) (by omega) hv
      have hlen : (vals s).length = s.length := by simp [vals]
      simp only [Bool.not_false, Bool.not_true, Bool.false_eq_true, if_false]
      by_cases hneg : most < 0
      · have h7 : most < (valB b (vals s) : Int) := by omega
        simp [hneg, h7, ref03_Read_j1]
      · obtain ⟨k, rfl⟩ : ∃ k : Nat, most = k := ⟨most.toNat, by omega⟩
        have hk : k < 2 ^ 64 := by omega
        have hless : ref03_Less (chars (digs b k)) (chars (canon (vals s))) = some (decide (k < valB b (vals s))) := by
          unfold ref03_Less
          have d1 := digs_lt h2 k hk
          have d3 : digs b k = [0] ∨ (digs b k).head? ≠ some 0 := by
            rcases digs_head h2 k hk with e | e
            · left; subst e; exact digs_small (by omega)
            · exact .inr e
          have := less_val h2 (digs b k) (canon (vals s)) digs_ne c1 d1 c2 d3 c3
          rw [digs_val h2 k hk, c4] at this
          rw [← this, chars_len, chars_len, sLess_chars _ _ (fun d hd => by have := d1 d hd; omega) (fun d hd => by have := c2 d hd; omega)]
          by_cases h1 : (digs b k).length < (canon (vals s)).length
          · simp [h1, ref03_Less_j1]
          · by_cases h3 : (digs b k).length = (canon (vals s)).length
            · simp [h3, ref03_Less_j1]
            · have h4 : (((digs b k).length : Int) == ((canon (vals s)).length : Int)) = false := beq_eq_false_iff_ne.2 (by omega)
              simp [h1, h3, h4, ref03_Less_j1]
        simp only [hneg, decide_false, Bool.false_eq_true, if_false, ref03_Digits_eq hb k (by omega), Option.bind_some, hless, ref03_Read_j1]
        by_cases h7 : k < valB b (vals s)
        · have h8 : (k : Int) < (valB b (vals s) : Int) := by omega
          simp [h7, h8]
        · have h8 : ¬ ((k : Int) < (valB b (vals s) : Int)) := by omega
          simp only [h7, decide_false, Bool.false_eq_true, if_false, h8]
          rw [ref03_Read_L2_eq hb _ _ c2 (by omega) (by rw [c4]; omega), c4]
  · rw [hd]; simp
end Go.Dm
