/-
  First lines: the program's.
-/
import Derived.Test.YtnfkbhocbdheaacGreatDoorTAt
import Derived.Test.YtnfkbhocbdheaacGreatDoorT10
namespace Go.Dm
def digV (r : Str) : Int × Bool × Str := match r with
  | [] => (0, false, [])
  | c :: t => if cDigit c then (((c - 48).toNat : Int), true, t) else (0, false, c :: t)
section
variable {s r : Str} {k : Nat}
theorem at_digit (hs : s.length < 1000000000) (h : At s k r) : ∃ k', At s k' (digV r).2.2 ∧ startline_line_digit ⟨scn s k⟩ = some ((digV r).1, (digV r).2.1, scn s k') := by
  unfold startline_line_digit
  show ∃ k', _ ∧ (scan_Scanner_Peek (scn s k)).bind _ = _
  rw [at_peek h, Option.bind_some]
  cases r with
  | nil => exact ⟨k, h, rfl⟩
  | cons c t =>
    have e : digV (c :: t) = if cDigit c then (((c - 48).toNat : Int), true, t) else (0, false, c :: t) := rfl
    rw [e]
    show ∃ k', _ ∧ (octet_IsDigit c).bind (fun r6 => startline_line_digit_j1 ⟨scn s k⟩ (c, true) (!r6)) = _
    rw [octet_IsDigit_eq, Option.bind_some]
    obtain ⟨k', h1, h2⟩ := at_byte hs c h
    rw [byteR_cons] at h1
    cases cDigit c with
    | false => exact ⟨k, h, rfl⟩
    | true =>
      refine ⟨k', h1, ?_⟩
      show (scan_Scanner_Byte (scn s k) c).bind (fun r11 => some (((c - 48).toNat : Int), true, r11.2)) = _
      rw [h2]; rfl
def httpP : Str := [72, 84, 84, 80, 47]
/-- A version: its two numbers, whether there is one, what is left. -/
def verR (r : Str) : Int × Int × Bool × Str :=
  if httpP.isPrefixOf r then
    ((digV (r.drop 5)).1, (digV (byteR 46 (digV (r.drop 5)).2.2)).1, (digV (r.drop 5)).2.1 && byteB 46 (digV (r.drop 5)).2.2 && (digV (byteR 46 (digV (r.drop 5)).2.2)).2.1, (digV (byteR 46 (digV (r.drop 5)).2.2)).2.2)
  else (0, 0, false, r)
theorem at_version (hs : s.length < 1000000000) (h : At s k r) : ∃ k', At s k' (verR r).2.2.2 ∧ startline_line_version ⟨scn s k⟩ = some ((verR r).1, (verR r).2.1, (verR r).2.2.1, scn s k') := by
  unfold startline_line_version
  obtain ⟨k1, h1, e1⟩ := at_text hs httpP (by decide) h
  show ∃ k', _ ∧ (scan_Scanner_Text (scn s k) httpP).bind _ = _
  rw [e1, Option.bind_some]
  unfold verR
  cases hp : httpP.isPrefixOf r with
  | false =>
    rw [hp, if_neg (by decide)] at h1
    exact ⟨k1, h1, rfl⟩
  | true =>
    rw [hp, if_pos rfl] at h1
    have h1 : At s k1 (r.drop 5) := h1
    obtain ⟨k2, h2, e2⟩ := at_digit hs h1
    obtain ⟨k3, h3, e3⟩ := at_byte hs 46 h2
    obtain ⟨k4, h4, e4⟩ := at_digit hs h3
    refine ⟨k4, h4, ?_⟩
    dsimp only
    rw [Bool.not_true, if_neg (by decide), e2, Option.bind_some]
    dsimp only
    rw [e3, Option.bind_some]
    dsimp only
    rw [e4, Option.bind_some, if_pos rfl]
    dsimp only
    cases (digV (r.drop 5)).2.1 <;> cases byteB 46 (digV (r.drop 5)).2.2 <;> rfl
/-- Which version a text is: 0 or 1; 2: another one; -1: none. -/
def verK (u : Str) : Int := if (verR u).2.2.1 && (verR u).2.2.2 == [] then (if (verR u).1 == 1 && decide ((verR u).2.1 ≤ 1) then (verR u).2.1 else 2) else -1
theorem digV_ok {r : Str} (h : (digV r).2.1 = true) : ∃ c t, r = c :: t ∧ cDigit c = true ∧ digV r = (((c - 48).toNat : Int), true, t) := by
  cases r with
  | nil => cases h
  | cons c t =>
    unfold digV at h ⊢
    dsimp only at h ⊢
    cases hc : cDigit c with
    | false => rw [hc] at h; cases h
    | true => exact ⟨c, t, rfl, hc, by simp⟩
theorem verR_ok {r : Str} (h : (verR r).2.2.1 = true) : ∃ a b t, r = httpP ++ a :: 46 :: b :: t ∧ cDigit a = true ∧ cDigit b = true ∧ verR r = (((a - 48).toNat : Int), ((b - 48).toNat : Int), true, t) := by
  unfold verR at h ⊢
  cases hp : httpP.isPrefixOf r with
  | false => rw [hp] at h; cases h
  | true =>
    rw [hp, if_pos rfl] at h
    rw [if_pos rfl]
    simp only [Bool.and_eq_true] at h
    obtain ⟨⟨h1, h2⟩, h3⟩ := h
    obtain ⟨t0, ht0⟩ := List.isPrefixOf_iff_prefix.1 hp
    have hd : r.drop 5 = t0 := by rw [← ht0]; rfl
    rw [hd] at h1 h2 h3 ⊢
    obtain ⟨a, t1, rfl, ha, ea⟩ := digV_ok h1
    rw [ea] at h2 h3 ⊢
    have hb := byteB_true h2
    dsimp only at h2 h3 hb ⊢
    obtain ⟨b, t, e, hbd, eb⟩ := digV_ok h3
    rw [e] at hb
    rw [eb]
    refine ⟨a, b, t, by rw [← ht0, hb], ha, hbd, ?_⟩
    simp [h2]
theorem digit_small {c : UInt8} (h : cDigit c = true) (h1 : (c - 48).toNat ≤ 1) : c = 48 ∨ c = 49 := by
  have := all_bytes (fun c => !(cDigit c && decide ((c - 48).toNat ≤ 1)) || (c == 48 || c == 49)) (by decide +kernel) c
  rw [h] at this
  simpa [h1] using this
/-- A version that is taken. -/
theorem verK_taken {u : Str} (h : 0 ≤ verK u) (h2 : (verK u == 2) = false) : (u = httpP ++ [49, 46, 48] ∧ verK u = 0) ∨ (u = httpP ++ [49, 46, 49] ∧ verK u = 1) := by
  unfold verK at *
  cases hc : (verR u).2.2.1 && (verR u).2.2.2 == [] with
  | false => rw [hc] at h; exact absurd (show (0 : Int) ≤ -1 from h) (by decide)
  | true =>
    rw [hc, if_pos rfl] at h h2
    rw [if_pos rfl]
    simp only [Bool.and_eq_true] at hc
    obtain ⟨a, b, t, e, ha, hb, ev⟩ := verR_ok hc.1
    rw [ev] at hc h h2 ⊢
    have ht : t = [] := by simpa using hc.2
    subst ht
    dsimp only at h h2 ⊢
    cases hq : (((a - 48).toNat : Int) == 1 && decide (((b - 48).toNat : Int) ≤ 1)) with
    | false => rw [hq] at h2; exact absurd (show ((2 : Int) == 2) = false from h2) (by decide)
    | true =>
      rw [if_pos rfl]
      simp only [Bool.and_eq_true, beq_iff_eq, decide_eq_true_eq] at hq
      have ha1 : a = 49 := by
        rcases digit_small ha (by omega) with h | h
        · subst h; exact absurd hq.1 (by decide)
        · exact h
      subst ha1
      rcases digit_small hb (by omega) with h | h <;> subst h
      · left; exact ⟨e, by decide⟩
      · right; exact ⟨e, by decide⟩
theorem startline_other_eq (u : Str) (hu : u.length < 1000000000) : startline_other u = some (verK u == 2) := by
  unfold startline_other
  rw [scan_New_eq, Option.bind_some]
  obtain ⟨k', h, e⟩ := at_version hu (At.zero u)
  rw [e, Option.bind_some]
  dsimp only
  rw [at_end h]
  unfold verK startline_other_j1
  have h1 : decide ((verR u).2.1 ≤ 1) = !decide (1 < (verR u).2.1) := by
    rw [Bool.eq_iff_iff]; simp
  rw [h1]
  cases hv : (verR u).2.2.1 with
  | false => rfl
  | true =>
    rw [if_pos rfl, Option.bind_some, Bool.true_and]
    cases (verR u).2.2.2 == [] with
    | false => rfl
    | true =>
      rw [if_pos rfl, if_pos rfl]
      obtain ⟨a, b, t, _, ha, hb, ev⟩ := verR_ok hv
      rw [ev]
      dsimp only
      cases ((a - 48).toNat : Int) == 1 with
      | false => rfl
      | true =>
        rw [Bool.not_true, if_neg (by decide), Bool.true_and]
        by_cases h2 : (1 : Int) < ((b - 48).toNat : Int)
        · rw [decide_eq_true h2]; rfl
        · rw [decide_eq_false h2, Bool.not_false, if_pos rfl]
          have : (((b - 48).toNat : Int) == 2) = false := beq_eq_false_iff_ne.2 (by omega)
          rw [this]
/-- A version that is taken, at a text's end or not: its number, whether there is one, what is left. -/
def minR (r : Str) : Int × Bool × Str := ((verR r).2.1, (verR r).2.2.1 && (verR r).1 == 1 && decide ((verR r).2.1 ≤ 1), (verR r).2.2.2)
theorem at_minor (hs : s.length < 1000000000) (h : At s k r) : ∃ k', At s k' (minR r).2.2 ∧ startline_line_minor ⟨scn s k⟩ = some ((minR r).1, (minR r).2.1, scn s k') := by
  unfold startline_line_minor minR
  obtain ⟨k', h1, e⟩ := at_version hs h
  refine ⟨k', h1, ?_⟩
  rw [e, Option.bind_some]
  dsimp only
  cases (verR r).2.2.1 <;> cases (verR r).1 == 1 <;> rfl
theorem minR_verK (r : Str) : ((minR r).2.1 && (minR r).2.2 == []) = (decide (0 ≤ verK r) && !(verK r == 2)) ∧ ((minR r).2.1 = true → (minR r).2.2 = [] → (minR r).1 = verK r) := by
  unfold minR verK
  dsimp only
  cases hv : (verR r).2.2.1 with
  | false => exact ⟨rfl, fun h => by cases h⟩
  | true =>
    obtain ⟨a, b, t, _, ha, hb, ev⟩ := verR_ok hv
    rw [ev]
    dsimp only
    rw [Bool.true_and, Bool.true_and]
    cases hq : (((a - 48).toNat : Int) == 1 && decide (((b - 48).toNat : Int) ≤ 1)) with
    | false =>
      refine ⟨?_, fun h => by cases h⟩
      cases t == [] <;> rfl
    | true =>
      simp only [Bool.and_eq_true, decide_eq_true_eq] at hq
      refine ⟨?_, fun _ h => ?_⟩
      · cases t == [] with
        | false => rfl
        | true =>
          rw [if_pos rfl, if_pos rfl]
          have : (((b - 48).toNat : Int) == 2) = false := beq_eq_false_iff_ne.2 (by omega)
          rw [this, decide_eq_true (by omega)]; rfl
      · subst h; rfl
end
def zeroH : api_Head := ⟨0, [], [], 0, [], 0, []⟩
def lastN (s : Str) : Nat := match lastI s 32 s.length with
  | none => 0
  | some k => k + 1
theorem last_place (s : Str) (hs : s.length < 300000000) : ∃ r, strings_LastIndexByte s 32 = some r ∧ iAdd r 1 = some (lastN s : Int) ∧ lastN s ≤ s.length := by
  rw [LastIndexByte_eq s 32 (by omega)]
  unfold lastN
  cases hl : lastI s 32 s.length with
  | none => exact ⟨-1, rfl, by decide, Nat.zero_le _⟩
  | some k =>
    have := (lastI_lt hl).1
    exact ⟨k, rfl, iAdd_one (by omega), by show k + 1 ≤ s.length; omega⟩
/-- What stands behind the last blank. -/
def lastW (s : Str) : Str := s.drop (lastN s)
/-- A request's line, as the scanner sees it. -/
def reqM (s : Str) : Str := s.takeWhile cTok
def reqR1 (s : Str) : Str := s.dropWhile cTok
def reqT (s : Str) : Str := (byteR 32 (reqR1 s)).takeWhile (fun b => !(b == 32))
def reqR3 (s : Str) : Str := (byteR 32 (reqR1 s)).dropWhile (fun b => !(b == 32))
def reqF (s : Str) : Bool := !(reqM s == []) && byteB 32 (reqR1 s) && byteB 32 (reqR3 s) && ((minR (byteR 32 (reqR3 s))).2.1 && (minR (byteR 32 (reqR3 s))).2.2 == []) && (parseT (reqM s) (reqT s)).2 == 0
def reqP (s : Str) : api_Head × Int := if verK (lastW s) == 2 then (zeroH, 26) else if reqF s then (⟨1, reqM s, reqT s, 0, [], (minR (byteR 32 (reqR3 s))).1, []⟩, 0) else (zeroH, 20)
theorem startline_request_eq (s : Str) (hs : s.length < 300000000) : startline_request s = some (reqP s) := by
  unfold startline_request reqP lastW
  obtain ⟨r, e0, hi⟩ := last_place s hs
  rw [e0, Option.bind_some]
  generalize lastN s = n at hi
  rw [hi.1, Option.bind_some, sFrom_nat hi.2, Option.bind_some, startline_other_eq _ (by simp; omega), Option.bind_some]
  cases verK (s.drop n) == 2 with
  | true => rfl
  | false =>
    rw [if_neg (by decide), if_neg (by decide), scan_New_eq, Option.bind_some]
    have hs' : s.length < 1000000000 := by omega
    obtain ⟨k1, h1, e1⟩ := at_token hs' (At.zero s)
    obtain ⟨k2, h2, e2⟩ := at_byte hs' 32 h1
    obtain ⟨k3, h3, e3⟩ := at_while (f := startline_request_1) (p := fun b => !(b == 32)) (fun b => rfl) hs' h2
    obtain ⟨k4, h4, e4⟩ := at_byte hs' 32 h3
    obtain ⟨k5, h5, e5⟩ := at_minor hs' h4
    rw [e1, Option.bind_some]
    dsimp only
    rw [e2, Option.bind_some]
    dsimp only
    rw [e3, Option.bind_some]
    dsimp only
    rw [e4, Option.bind_some]
    dsimp only
    have hl := h2.le_len
    have hl2 := takeWhile_le (fun b => !(b == 32)) (byteR 32 (s.dropWhile cTok))
    rw [e5, Option.bind_some, target_Parse_eq _ _ (by omega), Option.bind_some]
    dsimp only
    rw [at_end h5, Option.bind_some]
    unfold startline_request_j1 reqF reqT reqM reqR3 reqR1
    cases s.takeWhile cTok == [] <;> cases byteB 32 (s.dropWhile cTok) <;> cases byteB 32 ((byteR 32 (s.dropWhile cTok)).dropWhile (fun b => !(b == 32))) <;> cases (minR (byteR 32 ((byteR 32 (s.dropWhile cTok)).dropWhile (fun b => !(b == 32))))).2.1 <;> cases (minR (byteR 32 ((byteR 32 (s.dropWhile cTok)).dropWhile (fun b => !(b == 32))))).2.2 == [] <;> cases (parseT (s.takeWhile cTok) ((byteR 32 (s.dropWhile cTok)).takeWhile (fun b => !(b == 32)))).2 == 0 <;> rfl
theorem takeWhile_all {p : UInt8 → Bool} {s : Str} {x : UInt8} (h : x ∈ s.takeWhile p) : p x = true := by
  induction s with
  | nil => cases h
  | cons c s ih =>
    rw [List.takeWhile_cons] at h
    split at h
    · rename_i hc
      rcases List.mem_cons.1 h with rfl | h
      · exact hc
      · exact ih h
    · cases h
theorem tok_no32 {x : UInt8} (h : cTok x = true) : x ≠ 32 := by rintro rfl; revert h; decide
/-- A line that is taken: its parts. -/
theorem reqF_parts {s : Str} (h : reqF s = true) : ∃ v, s = reqM s ++ 32 :: (reqT s ++ 32 :: v) ∧ (32 : UInt8) ∉ reqM s ∧ (32 : UInt8) ∉ reqT s ∧ reqM s ≠ [] ∧ (reqM s).all cTok = true ∧ 0 ≤ verK v ∧ (verK v == 2) = false ∧ (minR (byteR 32 (reqR3 s))).1 = verK v ∧ ((parseT (reqM s) (reqT s)).2 == 0) = true := by
  unfold reqF at h
  simp only [Bool.and_eq_true, Bool.not_eq_true', beq_eq_false_iff_ne] at h
  obtain ⟨⟨⟨⟨h1, h2⟩, h3⟩, h4, h5⟩, h6⟩ := h
  have e1 : reqM s ++ reqR1 s = s := List.takeWhile_append_dropWhile
  have e2 := byteB_true h2
  have e3 : reqT s ++ reqR3 s = byteR 32 (reqR1 s) := List.takeWhile_append_dropWhile
  have e4 := byteB_true h3
  have hm := minR_verK (byteR 32 (reqR3 s))
  have hk : (decide (0 ≤ verK (byteR 32 (reqR3 s))) && !(verK (byteR 32 (reqR3 s)) == 2)) = true := by rw [← hm.1, h4, Bool.true_and]; exact h5
  simp only [Bool.and_eq_true, decide_eq_true_eq, Bool.not_eq_true'] at hk
  refine ⟨byteR 32 (reqR3 s), ?_, ?_, ?_, h1, ?_, hk.1, hk.2, hm.2 h4 (by simpa using h5), h6⟩
  · rw [← e4, e3, ← e2, e1]
  · exact fun hx => tok_no32 (takeWhile_all hx) rfl
  · exact fun hx => by have := takeWhile_all hx; simp at this
  · exact List.all_eq_true.2 fun x hx => takeWhile_all hx
/-- A status line, as the scanner sees it. -/
def staC (s : Str) : Str := (byteR 32 (minR s).2.2).takeWhile cDigit
def staR3 (s : Str) : Str := (byteR 32 (minR s).2.2).dropWhile cDigit
def staF (s : Str) : Bool := (minR s).2.1 && byteB 32 (minR s).2.2 && byteB 32 (staR3 s) && ((staC s).length : Int) == 3 && (readN 10 (staC s) 599).2 == 0 && !decide ((readN 10 (staC s) 599).1 < 100) && (byteR 32 (staR3 s)).all cVal
def staP (s : Str) : api_Head × Int := if verK (cutOn 32 s).1 == 2 then (zeroH, 26) else if staF s then (⟨2, [], [], (readN 10 (staC s) 599).1, byteR 32 (staR3 s), (minR s).1, []⟩, 0) else (zeroH, 20)
theorem startline_status_eq (s : Str) (hs : s.length < 300000000) : startline_status s = some (staP s) := by
  unfold startline_status staP
  have hcl := cutOn_len 32 s
  rw [strings_Cut_one s 32 (by omega), Option.bind_some, startline_other_eq _ (by omega), Option.bind_some]
  cases verK (cutOn 32 s).1 == 2 with
  | true => rfl
  | false =>
    rw [if_neg (by decide), if_neg (by decide), scan_New_eq, Option.bind_some]
    have hs' : s.length < 1000000000 := by omega
    obtain ⟨k1, h1, e1⟩ := at_minor hs' (At.zero s)
    obtain ⟨k2, h2, e2⟩ := at_byte hs' 32 h1
    obtain ⟨k3, h3, e3⟩ := at_while octet_IsDigit_eq hs' h2
    obtain ⟨k4, h4, e4⟩ := at_byte hs' 32 h3
    rw [e1, Option.bind_some]
    dsimp only
    rw [e2, Option.bind_some]
    dsimp only
    rw [e3, Option.bind_some]
    dsimp only
    have hl := h2.le_len
    have hl2 := takeWhile_le cDigit (byteR 32 (minR s).2.2)
    have hl4 := h4.le_len
    rw [e4, Option.bind_some, numeral_Decimal_eq _ _ (by omega) (by decide) (by decide), Option.bind_some]
    dsimp only
    rw [at_rest h4, Option.bind_some, octet_All_one octet_IsValue_eq _ (by omega), Option.bind_some]
    unfold startline_status_j1 staF staR3 staC
    dsimp only
    rw [at_rest h4, Option.bind_some]
    cases (minR s).2.1 <;> cases byteB 32 (minR s).2.2 <;> cases byteB 32 ((byteR 32 (minR s).2.2).dropWhile cDigit) <;> cases (((byteR 32 (minR s).2.2).takeWhile cDigit).length : Int) == 3 <;> cases (readN 10 ((byteR 32 (minR s).2.2).takeWhile cDigit) 599).2 == 0 <;> cases decide ((readN 10 ((byteR 32 (minR s).2.2).takeWhile cDigit) 599).1 < 100) <;> cases (byteR 32 ((byteR 32 (minR s).2.2).dropWhile cDigit)).all cVal <;> rfl
/-- The head of a first line. -/
def lineP (kind : Int) (s : Str) : api_Head × Int := if !(kind == 1) && !(kind == 2) then (zeroH, 1) else if s.any ([13, 10] : Str).contains then (zeroH, 24) else if kind == 1 then reqP s else staP s
theorem startline_Parse_eq (kind : Int) (s : Str) (hs : s.length < 300000000) : startline_Parse kind s = some (lineP kind s) := by
  unfold startline_Parse startline_Parse_j1 lineP
  rw [strings_ContainsAny_eq s [13, 10] (by omega) (by decide) (by decide), Option.bind_some, startline_request_eq s hs, Option.bind_some, startline_status_eq s hs, Option.bind_some]
  cases kind == 1 <;> cases kind == 2 <;> cases s.any ([13, 10] : Str).contains <;> rfl

end Go.Dm
