/-
  Layer 3 (numbers): reading and writing: the program's and the document's come to the same. No program in sight.
-/
import Derived.Test.YtnfkbhocbdheaacGreatDoorT01
namespace Go.Dm
/-- The number that digits of a base say, a row of values. -/
def valB (b : Nat) (l : List Nat) : Nat := l.foldl (fun n d => n * b + d) 0
theorem valB_from (b : Nat) (l : List Nat) : ∀ n, l.foldl (fun n d => n * b + d) n = n * b ^ l.length + valB b l := by
  unfold valB
  induction l with
  | nil => intro n; simp
  | cons x l ih =>
    intro n
    rw [List.foldl_cons, ih, List.foldl_cons, ih (0 * b + x), List.length_cons, Nat.pow_succ, Nat.add_mul, Nat.zero_mul, Nat.zero_add, Nat.mul_assoc, Nat.mul_comm b, Nat.add_assoc]
theorem valB_snoc (b x : Nat) (l : List Nat) : valB b (l ++ [x]) = valB b l * b + x := by
  unfold valB; rw [List.foldl_append]; rfl
/-- A number's digits, the greatest first. -/
def digsF (b : Nat) : Nat → Nat → List Nat
  | 0, n => [n % b]
  | k + 1, n => if n < b then [n] else digsF b k (n / b) ++ [n % b]
def digs (b n : Nat) : List Nat := digsF b 70 n
theorem div_lt_pow {b n k : Nat} (hb : 2 ≤ b) (h : n < 2 ^ (k + 1)) : n / b < 2 ^ k := by
  rw [Nat.div_lt_iff_lt_mul (by omega)]
  calc n < 2 ^ (k + 1) := h
    _ = 2 ^ k * 2 := Nat.pow_succ ..
    _ ≤ 2 ^ k * b := Nat.mul_le_mul_left _ hb
theorem digsF_more {b : Nat} (hb : 2 ≤ b) : ∀ (k m n : Nat), k ≤ m → n < 2 ^ (k + 1) → digsF b m n = digsF b k n
  | 0, 0, n, _, _ => rfl
  | 0, m + 1, n, _, h => by
    have hn : n < b := by have : n < 2 := by simpa using h
                          omega
    show digsF b (m + 1) n = [n % b]
    rw [digsF, if_pos hn, Nat.mod_eq_of_lt hn]
  | k + 1, 0, n, h, _ => by omega
  | k + 1, m + 1, n, hm, h => by
    rw [digsF, digsF]
    split
    · rfl
    · rw [digsF_more hb k m (n / b) (by omega) (div_lt_pow hb h)]
theorem digs_step {b n : Nat} (hb : 2 ≤ b) (hn : b ≤ n) (h : n < 2 ^ 64) : digs b n = digs b (n / b) ++ [n % b] := by
  have h1 := digsF_more hb 64 70 n (by decide) (Nat.lt_of_lt_of_le h (Nat.pow_le_pow_right (by decide) (by decide)))
  have h2 := digsF_more hb 63 70 (n / b) (by decide) (div_lt_pow hb (Nat.lt_of_lt_of_le h (Nat.pow_le_pow_right (by decide) (by decide))))
  unfold digs
  rw [h1, h2, digsF, if_neg (by omega)]
theorem digs_small {b n : Nat} (hn : n < b) : digs b n = [n] := by unfold digs; rw [digsF, if_pos hn]
theorem digs_ind {b : Nat} (hb : 2 ≤ b) {P : Nat → Prop} (h0 : ∀ n, n < b → P n) (h1 : ∀ n, b ≤ n → n < 2 ^ 64 → P (n / b) → P n) : ∀ n, n < 2 ^ 64 → P n := by
  intro n
  induction n using Nat.strongRecOn with
  | _ n ih =>
    intro hn
    by_cases h : n < b
    · exact h0 n h
    · have : n / b < n := Nat.div_lt_self (by omega) (by omega)
      exact h1 n (by omega) hn (ih _ this (by omega))
theorem digs_len {b : Nat} (hb : 2 ≤ b) : ∀ n, n < 2 ^ 64 → (digs b n).length ≤ 71 := by
  have : ∀ k n, (digsF b k n).length ≤ k + 1 := by
    intro k
    induction k with
    | zero => intro n; simp [digsF]
    | succ k ih => intro n; rw [digsF]; split
                   · simp
                   · simp; exact ih _
  intro n _; exact this 70 n
/-- A digit's letter. -/
def dch (d : Nat) : UInt8 := if d < 10 then UInt8.ofNat (48 + d) else UInt8.ofNat (87 + d)
def chars (l : List Nat) : Str := l.map dch
/-- A letter's worth. -/
def wor (c : UInt8) : Nat := if cDigit c then (c - 48).toNat else (cLower c - 97).toNat + 10
def isDig (b : Nat) (c : UInt8) : Bool := if b = 10 then cDigit c else cHex c
theorem numeral_worth_eq (b : UInt8) : numeral_worth b = some (wor b : Int) :=
  of_decide_eq_true (all_bytes (fun b => decide (numeral_worth b = some (wor b : Int))) (by decide +kernel) b)
theorem wor_lt (c : UInt8) : (cDigit c = true → wor c < 10) ∧ (cHex c = true → wor c < 16) :=
  of_decide_eq_true (all_bytes (fun c => decide ((cDigit c = true → wor c < 10) ∧ (cHex c = true → wor c < 16))) (by decide +kernel) c)
def okBase (b : Nat) : Prop := b = 10 ∨ b = 16
theorem okBase.two {b : Nat} (h : okBase b) : 2 ≤ b ∧ b ≤ 16 := by rcases h with rfl | rfl <;> omega
theorem isDig_lt {b : Nat} (hb : okBase b) {c : UInt8} (h : isDig b c = true) : wor c < b := by
  rcases hb with rfl | rfl
  · exact (wor_lt c).1 h
  · exact (wor_lt c).2 h
def textN (b : Nat) (n : Int) : Str := if n < 0 then [] else chars (digs b n.toNat)
theorem dec_eq : ∀ n, n < 2 ^ 64 → Go.Lib.decDigits n = chars (digs 10 n) :=
  digs_ind (b := 10) (by decide) (fun n h => by rw [Go.Lib.decDigits, dif_pos h, digs_small h]; simp [chars, dch, h]) fun n h hn ih => by
    rw [Go.Lib.decDigits, dif_neg (by omega), ih, digs_step (by decide) h hn]
    have : n % 10 < 10 := Nat.mod_lt _ (by decide)
    simp [chars, dch, this]
theorem numeral_Text_eq (n : Int) (hn : inI n = true) : numeral_Text n = some (textN 10 n) := by
  obtain ⟨h1, h2⟩ := inI_iff.1 hn
  unfold numeral_Text numeral_text textN
  by_cases h : n < 0
  · simp [h]
  · obtain ⟨k, rfl⟩ : ∃ k : Nat, n = k := ⟨n.toNat, by omega⟩
    have hk : ¬ ((k : Int) < 0) := by omega
    simp [hk, strconv_FormatInt, hn, Go.Lib.itoa, dec_eq k (by omega)]
/-- The values of a text's digits. -/
def vals (s : Str) : List Nat := s.map wor
def readN (b : Nat) (s : Str) (most : Int) : Int × Int :=
  if (s == [] || !s.all (isDig b)) = true then (0, 2) else if most < (valB b (vals s) : Int) then (0, 7) else (((valB b (vals s) : Nat) : Int), 0)
theorem valB_mono {b : Nat} (hb : 1 ≤ b) (l m : List Nat) : valB b l ≤ valB b (l ++ m) := by
  unfold valB
  rw [List.foldl_append]
  generalize l.foldl (fun n d => n * b + d) 0 = n
  rw [valB_from]
  have : 1 ≤ b ^ m.length := Nat.one_le_pow _ _ hb
  have := Nat.le_mul_of_pos_right n this
  omega
theorem read_L2_eq {b : Nat} (hb : okBase b) (s : Str) (most : Int) (hs : s.length < 1000000000) (hd : s.all (isDig b) = true) (hm : most < 4611686018427387904) (hm0 : -4611686018427387904 < most) (hne : s ≠ []) :
    numeral_read_L2 s (b : Int) most fuel 0 0 = some (if most < (valB b (vals s) : Int) then (0, 7) else (((valB b (vals s) : Nat) : Int), 0)) := by
  obtain ⟨h2, h16⟩ := hb.two
  have key : ∀ (n i v : Nat), i ≤ s.length → s.length - i < n → v = valB b (vals (s.take i)) → (i = 0 ∨ (v : Int) ≤ most) → (i < s.length ∨ (v : Int) ≤ most) →
      numeral_read_L2 s (b : Int) most n (v : Int) (i : Int) = some (if most < (valB b (vals s) : Int) then (0, 7) else (((valB b (vals s) : Nat) : Int), 0)) := by
    intro n
    induction n with
    | zero => intro i v _ h; omega
    | succ n ih =>
      intro i v hi h hv h0 h1
      rw [numeral_read_L2]
      by_cases hlt : i < s.length
      · have hx : s[i]? = some s[i] := List.getElem?_eq_getElem hlt
        have hw : wor s[i] < b := isDig_lt hb (List.all_eq_true.1 hd _ (List.getElem_mem hlt))
        have htk : vals (s.take (i + 1)) = vals (s.take i) ++ [wor s[i]] := by
          unfold vals
          rw [List.take_succ_eq_append_getElem hlt, List.map_append]; rfl
        have hv' : valB b (vals (s.take (i + 1))) = v * b + wor s[i] := by rw [htk, valB_snoc, ← hv]
        have hle : valB b (vals (s.take (i + 1))) ≤ valB b (vals s) := by
          have := valB_mono (b := b) (by omega) (vals (s.take (i + 1))) (vals (s.drop (i + 1)))
          unfold vals at this ⊢
          rwa [← List.map_append, List.take_append_drop] at this
        simp only [Int.ofNat_lt, hlt, decide_true, if_true, sAt_nat, hx, Option.bind_some, numeral_worth_eq]
        by_cases hov : most < (wor s[i] : Int)
        · have : most < (valB b (vals s) : Int) := by
            have := Nat.zero_le (v * b); omega
          simp [hov, numeral_read_j3, this]
        · have hsub : iSub most (wor s[i] : Int) = some (most - (wor s[i] : Int)) := iSub_ok (by omega) (by omega)
          have hdv : iDiv (most - (wor s[i] : Int)) (b : Int) = some ((most - (wor s[i] : Int)) / (b : Int)) := by
            unfold iDiv
            have h5 : 0 ≤ (most - (wor s[i] : Int)) / (b : Int) := Int.ediv_nonneg (by omega) (by omega)
            have h6 : (most - (wor s[i] : Int)) / (b : Int) ≤ most - (wor s[i] : Int) := Int.ediv_le_self _ (by omega)
            rw [if_pos ⟨by omega, by omega, by rw [inI_iff]; omega⟩]
          have hiff : (most - (wor s[i] : Int)) / (b : Int) < (v : Int) ↔ most < ((v * b + wor s[i] : Nat) : Int) := by
            rw [Int.ediv_lt_iff_lt_mul (by omega)]
            push_cast
            omega
          simp only [hov, decide_false, Bool.false_eq_true, if_false, hsub, hdv, Option.bind_some, numeral_read_j3]
          by_cases hov2 : (most - (wor s[i] : Int)) / (b : Int) < (v : Int)
          · have h7 : most < (valB b (vals s) : Int) := by have := hiff.1 hov2; omega
            simp [hov2, h7]
          · have h7 : ((v * b + wor s[i] : Nat) : Int) ≤ most := by have := (not_congr hiff).1 hov2; omega
            have hmul : iMul (v : Int) (b : Int) = some ((v * b : Nat) : Int) := by
              rw [iMul_ok (by rw [← Int.natCast_mul]; omega) (by rw [← Int.natCast_mul]; omega), Int.natCast_mul]
            have hadd : iAdd ((v * b : Nat) : Int) (wor s[i] : Int) = some ((v * b + wor s[i] : Nat) : Int) := by
              rw [iAdd_ok (by omega) (by omega)]; simp
            simp only [hov2, decide_false, Bool.false_eq_true, if_false, hmul, hadd, Option.bind_some, iAdd_one (show i < 4611686018427387904 by omega)]
            exact ih (i + 1) (v * b + wor s[i]) (by omega) (by omega) hv'.symm (.inr h7) (.inr h7)
      · have : i = s.length := by omega
        subst this
        rw [List.take_length] at hv
        have h8 : ¬ most < (valB b (vals s) : Int) := by rw [← hv]; rcases h1 with h1 | h1 <;> omega
        simp [h8, hv]
  have := key fuel 0 0 (Nat.zero_le _) (by unfold fuel; omega) (by simp [vals, valB]) (.inl rfl) (.inl (by cases s with | nil => exact absurd rfl hne | cons _ _ => simp))
  simpa using this
theorem numeral_read_eq {b : Nat} (hb : okBase b) (s : Str) (most : Int) (hs : s.length < 1000000000) (hm : most < 4611686018427387904) (hm0 : -4611686018427387904 < most) {f : UInt8 → Option Bool} (hf : ∀ c, f c = some (isDig b c)) :
    numeral_read s (b : Int) most f = some (readN b s most) := by
  unfold numeral_read readN
  rcases bcase (s == []) with h | h
  · rw [h]; simp [numeral_read_j1]
  · rw [h]
    rw [octet_All_one hf s hs]
    simp only [Bool.false_eq_true, if_false, Option.bind_some, numeral_read_j1, Bool.false_or]
    rcases bcase (s.all (isDig b)) with h2 | h2
    · rw [h2]
      simp only [Bool.not_true, Bool.false_eq_true, if_false]
      exact read_L2_eq hb s most hs h2 hm hm0 (by simpa using h)
    · rw [h2]; simp
theorem numeral_Decimal_eq (s : Str) (most : Int) (hs : s.length < 1000000000) (hm : most < 4611686018427387904) (hm0 : -4611686018427387904 < most) : numeral_Decimal s most = some (readN 10 s most) := by
  unfold numeral_Decimal
  have := numeral_read_eq (.inl rfl) s most hs hm hm0 (f := octet_IsDigit) octet_IsDigit_eq
  rw [show ((10 : Nat) : Int) = 10 from rfl] at this
  rw [this]; rfl
theorem chars_len (l : List Nat) : (chars l).length = l.length := by simp [chars]
end Go.Dm
