/-
  First lines: the document's, as the program's; written, and read again.
-/
import Derived.Test.YtnfkbhocbdheaabGreatDoorT14P
import Derived.Test.YtnfkbhocbdheaabGreatDoorT10T
namespace Go.Dm
theorem dig_one (c : UInt8) : (!cDigit c || ((((c - 48).toNat : Int) == 1) == (c == 49))) = true := all_bytes (fun c => !cDigit c || ((((c - 48).toNat : Int) == 1) == (c == 49))) (by decide +kernel) c
theorem dig_le (c : UInt8) : (!cDigit c || (decide (((c - 48).toNat : Int) ≤ 1) == (c == 48 || c == 49))) = true := all_bytes (fun c => !cDigit c || (decide (((c - 48).toNat : Int) ≤ 1) == (c == 48 || c == 49))) (by decide +kernel) c
theorem verR_lit (a b : UInt8) (t : Str) (ha : cDigit a = true) (hb : cDigit b = true) : verR (httpP ++ a :: 46 :: b :: t) = (((a - 48).toNat : Int), ((b - 48).toNat : Int), true, t) := by
  unfold verR
  have hp : httpP.isPrefixOf (httpP ++ a :: 46 :: b :: t) = true := List.isPrefixOf_iff_prefix.2 ⟨_, rfl⟩
  have hd : (httpP ++ a :: 46 :: b :: t).drop 5 = a :: 46 :: b :: t := rfl
  rw [if_pos hp, hd]
  have e1 : digV (a :: 46 :: b :: t) = (((a - 48).toNat : Int), true, 46 :: b :: t) := by unfold digV; dsimp only; rw [if_pos ha]
  have e2 : digV (b :: t) = (((b - 48).toNat : Int), true, t) := by unfold digV; dsimp only; rw [if_pos hb]
  rw [e1]
  dsimp only
  rw [byteR_cons, byteB_cons, e2]
  rfl
theorem verK_lit (a b : UInt8) (ha : cDigit a = true) (hb : cDigit b = true) : verK (httpP ++ [a, 46, b]) = if ([a, 46, b] : Str) == [49, 46, 48] then 0 else if ([a, 46, b] : Str) == [49, 46, 49] then 1 else 2 := by
  unfold verK
  rw [verR_lit a b [] ha hb]
  have h1 := dig_one a
  have h2 := dig_le b
  rw [ha] at h1
  rw [hb] at h2
  have h1 : (((a - 48).toNat : Int) == 1) = (a == 49) := by simpa using h1
  have h2 : decide (((b - 48).toNat : Int) ≤ 1) = (b == 48 || b == 49) := by simpa using h2
  dsimp only
  rw [h1, h2]
  have e1 : (([a, 46, b] : Str) == [49, 46, 48]) = (a == 49 && b == 48) := by
    simp only [List.cons_beq_cons, beq_self_eq_true, Bool.true_and, Bool.and_true]
  have e2 : (([a, 46, b] : Str) == [49, 46, 49]) = (a == 49 && b == 49) := by
    simp only [List.cons_beq_cons, beq_self_eq_true, Bool.true_and, Bool.and_true]
  rw [e1, e2]
  cases a == 49 with
  | false => rfl
  | true =>
    cases h3 : b == 48 with
    | true => have : b = 48 := by simpa using h3
              subst this; rfl
    | false =>
      cases h4 : b == 49 with
      | true => have : b = 49 := by simpa using h4
                subst this; rfl
      | false => rfl
theorem verK_not {u : Str} (h : ∀ a b, u = httpP ++ [a, 46, b] → cDigit a = true → cDigit b = true → False) : verK u = -1 := by
  unfold verK
  cases hc : (verR u).2.2.1 && (verR u).2.2.2 == [] with
  | false => rfl
  | true =>
    exfalso
    simp only [Bool.and_eq_true] at hc
    obtain ⟨a, b, t, e, ha, hb, ev⟩ := verR_ok hc.1
    rw [ev] at hc
    have ht : t = [] := by simpa using hc.2
    subst ht
    exact h a b e ha hb
theorem ref14_Version_eq (u : Str) (hu : u.length < 1000000000) : ref14_Version u = some (verK u) := by
  unfold ref14_Version ref14_Version_j1
  by_cases h8 : u.length = 8
  · have e8 : ((u.length : Int) == 8) = true := by rw [h8]; rfl
    have t5 := sTo_nat (l := u) (h := 5) (by omega)
    have f5 := sFrom_nat (l := u) (i := 5) (by omega)
    have a5 : sAt u 5 = u[5]? := sAt_nat u 5
    have a6 : sAt u 6 = u[6]? := sAt_nat u 6
    have a7 : sAt u 7 = u[7]? := sAt_nat u 7
    have t5 : sTo u 5 = some (u.take 5) := t5
    have f5 : sFrom u 5 = some (u.drop 5) := f5
    rw [e8, Bool.not_true, if_neg (by decide), t5, Option.bind_some, a5, a6, a7, f5, Option.bind_some, Option.bind_some]
    match u, h8 with
    | [c0, c1, c2, c3, c4, a, d, b], _ =>
      show (if (!(([c0, c1, c2, c3, c4] : Str) == httpP)) = true then _ else (some a).bind fun b5 => (ref01_Digit b5).bind fun r6 => if (!r6) = true then _ else (some d).bind fun b8 => if (!(b8 == 46)) = true then _ else (some b).bind fun b10 => (ref01_Digit b10).bind fun r11 => if (!r11) = true then some (-1) else (if (([a, d, b] : Str) == [49, 46, 48]) = true then some 0 else if (([a, d, b] : Str) == [49, 46, 49]) = true then some 1 else some 2)) = _
      simp only [Option.bind_some, ref01_Digit_eq]
      cases hp : ([c0, c1, c2, c3, c4] : Str) == httpP with
      | false =>
        rw [verK_not (fun x y e _ _ => by
          have := congrArg (List.take 5) e
          rw [show ([c0, c1, c2, c3, c4, a, d, b] : Str).take 5 = [c0, c1, c2, c3, c4] from rfl, show (httpP ++ [x, 46, y]).take 5 = httpP from rfl] at this
          rw [this, beq_self_eq_true] at hp
          cases hp)]
        rfl
      | true =>
        have hp' : ([c0, c1, c2, c3, c4] : Str) = httpP := by simpa using hp
        have hu : ([c0, c1, c2, c3, c4, a, d, b] : Str) = httpP ++ [a, d, b] := by rw [← hp']; rfl
        rw [hu]
        have hinj : ∀ x y, httpP ++ [a, d, b] = httpP ++ [x, 46, y] → a = x ∧ d = 46 ∧ b = y := fun x y e => by
          have := List.append_cancel_left e
          simpa using this
        cases ha : cDigit a with
        | false => rw [verK_not (fun x y e h1 _ => by obtain ⟨rfl, _, _⟩ := hinj x y e; rw [ha] at h1; cases h1)]; rfl
        | true =>
          cases hd : d == 46 with
          | false => rw [verK_not (fun x y e _ _ => by obtain ⟨_, h, _⟩ := hinj x y e; rw [h] at hd; exact absurd hd (by decide))]; rfl
          | true =>
            have hd' : d = 46 := by simpa using hd
            subst hd'
            cases hb : cDigit b with
            | false => rw [verK_not (fun x y e _ h2 => by obtain ⟨_, _, rfl⟩ := hinj x y e; rw [hb] at h2; cases h2)]; rfl
            | true =>
              rw [verK_lit a b ha hb]
              cases ([a, 46, b] : Str) == [49, 46, 48] <;> cases ([a, 46, b] : Str) == [49, 46, 49] <;> rfl
  · have e8 : ((u.length : Int) == 8) = false := beq_eq_false_iff_ne.2 (by omega)
    rw [e8, verK_not (fun a b e _ _ => h8 (by rw [e]; rfl))]
    rfl
theorem lastI_no {s : Str} {c : UInt8} : ∀ {k : Nat}, k ≤ s.length → lastI s c k = none → c ∉ s.take k
  | 0, _, _ => by simp
  | k + 1, hk, h => by
    rw [lastI] at h
    split at h
    · cases h
    · rename_i h2
      have ih := lastI_no (by omega) h
      rw [List.take_add_one]
      intro hm
      rcases List.mem_append.1 hm with hm | hm
      · exact ih hm
      · have g : s[k]? = some s[k] := List.getElem?_eq_getElem (by omega)
        rw [g] at hm h2
        have : c = s[k] := by simpa using hm
        exact h2 (by rw [this])
theorem lastI_after {s : Str} {c : UInt8} : ∀ {k i : Nat}, k ≤ s.length → lastI s c k = some i → c ∉ (s.take k).drop (i + 1)
  | 0, _, _, h => by cases h
  | k + 1, i, hk, h => by
    rw [lastI] at h
    split at h
    · cases h
      rw [List.drop_of_length_le (by rw [List.length_take]; omega)]
      simp
    · rename_i h2
      have ih := lastI_after (by omega) h
      have hlt := (lastI_lt h).1
      have g : s[k]? = some s[k] := List.getElem?_eq_getElem (by omega)
      rw [List.take_add_one, g, List.drop_append_of_le_length (by simp; omega)]
      intro hm
      rcases List.mem_append.1 hm with hm | hm
      · exact ih hm
      · rw [g] at h2
        have : c = s[k] := by simpa using hm
        exact h2 (by rw [this])
theorem split_last (s : Str) : ∃ l, splitOn 32 s = l ++ [lastW s] := by
  unfold lastW lastN
  cases h : lastI s 32 s.length with
  | none =>
    have := lastI_no (Nat.le_refl _) h
    rw [List.take_length] at this
    exact ⟨[], by rw [splitOn_none this]; rfl⟩
  | some k =>
    have h1 := lastI_lt h
    have h2 := lastI_after (Nat.le_refl _) h
    rw [List.take_length] at h2
    have g : s[k]? = some s[k] := List.getElem?_eq_getElem h1.1
    rw [g] at h1
    have hc : s[k] = 32 := Option.some.inj h1.2
    have e : s = s.take k ++ 32 :: s.drop (k + 1) := by
      have := (List.take_append_drop k s).symm
      rw [List.drop_eq_getElem_cons h1.1, hc] at this
      exact this
    refine ⟨splitOn 32 (s.take k), ?_⟩
    conv => lhs; rw [e]
    rw [splitOn_join, splitOn_none h2]
theorem rejoin : ∀ {s m : Str} {l : List Str}, splitOn 32 s = m :: l → (l = [] ∧ s = m) ∨ ∃ r, s = m ++ 32 :: r ∧ splitOn 32 r = l
  | [], m, l, h => by rw [splitOn] at h; cases h; exact .inl ⟨rfl, rfl⟩
  | y :: s, m, l, h => by
    rw [splitOn_cons] at h
    split at h
    · rename_i e
      injection h with h1 h2
      subst h1 e
      exact .inr ⟨s, rfl, h2⟩
    · cases h3 : splitOn 32 s with
      | nil => exact absurd h3 (splitOn_ne 32 s)
      | cons a l' =>
        rw [h3] at h
        injection h with h1 h2
        subst h2
        rcases rejoin h3 with ⟨h4, h5⟩ | ⟨r, h4, h5⟩
        · exact .inl ⟨h4, by rw [← h1, h5]; rfl⟩
        · exact .inr ⟨r, by rw [← h1, h4]; rfl, h5⟩
theorem tw_app {p : UInt8 → Bool} {c : UInt8} (hc : p c = false) : ∀ {m : Str} (r : Str), m.all p = true → (m ++ c :: r).takeWhile p = m ∧ (m ++ c :: r).dropWhile p = c :: r
  | [], r, _ => by simp [hc]
  | x :: m, r, h => by
    simp only [List.all_cons, Bool.and_eq_true] at h
    have ih := tw_app hc r h.2
    constructor
    · rw [List.cons_append, List.takeWhile_cons, if_pos h.1, ih.1]
    · rw [List.cons_append, List.dropWhile_cons, if_pos h.1, ih.2]
theorem no32_all {t : Str} (h : (32 : UInt8) ∉ t) : t.all (fun b => !(b == 32)) = true :=
  List.all_eq_true.2 fun x hx => by
    have : x ≠ 32 := fun e => h (by rw [← e]; exact hx)
    simp [this]
theorem req_scan {m t v : Str} (h1 : m.all cTok = true) (h2 : (32 : UInt8) ∉ t) : reqM (m ++ 32 :: (t ++ 32 :: v)) = m ∧ reqT (m ++ 32 :: (t ++ 32 :: v)) = t ∧ reqR1 (m ++ 32 :: (t ++ 32 :: v)) = 32 :: (t ++ 32 :: v) ∧ reqR3 (m ++ 32 :: (t ++ 32 :: v)) = 32 :: v := by
  have a := tw_app (p := cTok) (c := 32) (by decide) (t ++ 32 :: v) h1
  have b := tw_app (p := fun b => !(b == 32)) (c := 32) (by decide) v (no32_all h2)
  unfold reqM reqT reqR3 reqR1
  rw [a.1, a.2, byteR_cons, b.1, b.2]
  exact ⟨rfl, rfl, rfl, rfl⟩
/-- The line's parts, by blanks. -/
def reqS (s : Str) : api_Head × Int :=
  if verK (lastW s) == 2 then (zeroH, 26) else match splitOn 32 s with
  | [m, t, v] => if !decide (verK v < 0) && isTok m && (parseT m t).2 == 0 then (⟨1, m, t, 0, [], verK v, []⟩, 0) else (zeroH, 20)
  | _ => (zeroH, 20)
theorem isTok_iff (m : Str) : isTok m = true ↔ m ≠ [] ∧ m.all cTok = true := by
  unfold isTok
  cases m <;> simp
theorem split_three {s m t v : Str} (h : splitOn 32 s = [m, t, v]) : s = m ++ 32 :: (t ++ 32 :: v) ∧ (32 : UInt8) ∉ m ∧ (32 : UInt8) ∉ t ∧ (32 : UInt8) ∉ v ∧ lastW s = v := by
  have hm := fun x (hx : x ∈ splitOn 32 s) => (splitOn_mem hx).1
  rw [h] at hm
  refine ⟨?_, hm m (by simp), hm t (by simp), hm v (by simp), ?_⟩
  · rcases rejoin h with ⟨h1, _⟩ | ⟨r, h1, h2⟩
    · cases h1
    · rcases rejoin h2 with ⟨h3, _⟩ | ⟨r2, h3, h4⟩
      · cases h3
      · rw [h1, h3, splitOn_single h4]
  · obtain ⟨l, hl⟩ := split_last s
    rw [h] at hl
    have := congrArg List.getLast? hl
    simp at this
    exact this.symm
theorem reqP_split (s : Str) : reqP s = reqS s := by
  unfold reqP reqS
  cases h26 : verK (lastW s) == 2 with
  | true => rfl
  | false =>
    rw [if_neg Bool.false_ne_true, if_neg Bool.false_ne_true]
    cases hF : reqF s with
    | true =>
      obtain ⟨v, e, n1, n2, h3, h4, k1, k2, k3, k4⟩ := reqF_parts hF
      have hv := no32_ver k1 k2
      have hsp : splitOn 32 s = [reqM s, reqT s, v] := by
        have := split_parts n1 n2 hv
        rw [← e] at this
        exact this
      rw [if_pos rfl, hsp, k3]
      dsimp only
      rw [decide_eq_false (show ¬ verK v < 0 by omega), (isTok_iff _).2 ⟨h3, h4⟩, k4]
      rfl
    | false =>
      rw [if_neg (by decide)]
      split
      · rename_i m t v hsp
        split
        · rename_i hc
          exfalso
          simp only [Bool.and_eq_true, Bool.not_eq_true', decide_eq_false_iff_not] at hc
          obtain ⟨⟨c1, c2⟩, c3⟩ := hc
          obtain ⟨e, _, n2, _, hlast⟩ := split_three hsp
          obtain ⟨t1, t2⟩ := (isTok_iff _).1 c2
          obtain ⟨r1, r2, r3, r4⟩ := req_scan (v := v) t2 n2
          rw [← e] at r1 r2 r3 r4
          have hm := (minR_verK v).1
          rw [hlast] at h26
          rw [decide_eq_true (show 0 ≤ verK v by omega), h26] at hm
          unfold reqF at hF
          rw [r1, r2, r3, r4, byteB_cons, byteR_cons, byteB_cons, hm, c3] at hF
          have : (m == []) = false := by simpa using t1
          rw [this] at hF
          revert hF
          decide
        · rfl
      · rfl
theorem ref14_j4_eq (w : List Str) (v : Int) (m t u : Str) (hw : w = [m, t, u]) (hb : t.length < 300000000) (q : Bool) :
    ref14_Parse_j4 w v q = some (if q then (zeroH, 20) else if (parseT m t).2 == 0 then (⟨1, m, t, 0, [], v, []⟩, 0) else (zeroH, 20)) := by
  subst hw
  unfold ref14_Parse_j4
  have l0 : lAt [m, t, u] 0 = some m := rfl
  have l1 : lAt [m, t, u] 1 = some t := rfl
  rw [l0, l1, Option.bind_some, Option.bind_some, ref10_Parse_eq m t hb, Option.bind_some, Option.bind_some, Option.bind_some]
  cases q <;> cases (parseT m t).2 == 0 <;> rfl
theorem ref14_req_eq (s : Str) (hs : s.length < 300000000) : ((iSub ((splitOn 32 s).length : Int) 1).bind fun i28 => (lAt (splitOn 32 s) i28).bind fun x29 => (ref14_Version x29).bind fun r32 =>
    if (r32 == 2) then (some (((⟨0, [], [], 0, [], 0, []⟩ : api_Head), 26))) else (if (!(((splitOn 32 s).length : Int) == 3)) then (ref14_Parse_j4 (splitOn 32 s) r32 true) else (if (decide (r32 < 0)) then (ref14_Parse_j4 (splitOn 32 s) r32 true) else ((lAt (splitOn 32 s) 0).bind fun x40 => (ref01_Token x40).bind fun r43 => ref14_Parse_j4 (splitOn 32 s) r32 (!r43))))) = some (reqS s) := by
  have hlen := splitOn_len 32 s
  have hpos := List.length_pos_iff.2 (splitOn_ne 32 s)
  obtain ⟨l, hl⟩ := split_last s
  have hlw : (lastW s).length ≤ s.length := by unfold lastW; simp
  have e1 : iSub ((splitOn 32 s).length : Int) 1 = some (((splitOn 32 s).length - 1 : Nat) : Int) := by rw [iSub_ok (by omega) (by omega)]; congr 1; omega
  have e2 : (splitOn 32 s)[(splitOn 32 s).length - 1]? = some (lastW s) := by rw [hl]; simp
  rw [e1, Option.bind_some, lAt_nat, e2, Option.bind_some, ref14_Version_eq _ (by omega), Option.bind_some]
  unfold reqS
  cases verK (lastW s) == 2 with
  | true => rfl
  | false =>
    rw [if_neg Bool.false_ne_true, if_neg Bool.false_ne_true]
    by_cases h3 : (splitOn 32 s).length = 3
    · have e3 : (((splitOn 32 s).length : Int) == 3) = true := by rw [h3]; rfl
      obtain ⟨m, t, v, hsp⟩ : ∃ m t v, splitOn 32 s = [m, t, v] := by
        match splitOn 32 s, h3 with
        | [m, t, v], _ => exact ⟨m, t, v, rfl⟩
      have hmem := fun x (hx : x ∈ splitOn 32 s) => (splitOn_mem hx).2.1
      obtain ⟨_, _, _, _, hlast⟩ := split_three hsp
      rw [e3, Bool.not_true, if_neg (by decide), hlast, hsp]
      rw [hsp] at hmem
      have hm := hmem m (by simp)
      have ht := hmem t (by simp)
      have l0 : lAt [m, t, v] 0 = some m := rfl
      rw [l0, Option.bind_some, ref01_Token_eq m (by omega), Option.bind_some, ref14_j4_eq [m, t, v] (verK v) m t v rfl (by omega), ref14_j4_eq [m, t, v] (verK v) m t v rfl (by omega)]
      dsimp only
      cases decide (verK v < 0) <;> cases isTok m <;> cases (parseT m t).2 == 0 <;> rfl
    · have e3 : (((splitOn 32 s).length : Int) == 3) = false := beq_eq_false_iff_ne.2 (by omega)
      rw [e3, Bool.not_false, if_pos rfl]
      unfold ref14_Parse_j4
      rw [if_pos rfl]
      split
      · rename_i m t v hsp
        rw [hsp] at h3
        exact absurd rfl h3
      · rfl
theorem cut_split (s : Str) : splitOn 32 s = if (cutOn 32 s).2.2 then (cutOn 32 s).1 :: splitOn 32 (cutOn 32 s).2.1 else [s] := by
  have hno : (32 : UInt8) ∉ (cutOn 32 s).1 := fun hm => by
    have := upto_not (cs := [32]) (s := s) 32 hm
    simp at this
  rcases bcase (cutOn 32 s).2.2 with h | h
  · rw [if_pos h]
    have := cutOn_join 32 s h
    conv => lhs; rw [← this]
    exact splitOn_at _ hno
  · have hn := cutOn_none 32 s h
    rw [if_neg (by rw [h]; decide)]
    rw [hn] at hno
    exact splitOn_none hno
theorem minR_lit (b : UInt8) (t : Str) (hb : b = 48 ∨ b = 49) : minR (httpP ++ 49 :: 46 :: b :: t) = (((b - 48).toNat : Int), true, t) := by
  unfold minR
  rw [verR_lit 49 b t (by decide) (by rcases hb with h | h <;> subst h <;> decide)]
  rcases hb with h | h <;> subst h <;> rfl
theorem readN_digits {s : Str} {m : Int} (h : (readN 10 s m).2 = 0) : s.all cDigit = true ∧ s ≠ [] := by
  unfold readN at h
  split at h
  · cases h
  · rename_i h2
    simp only [Bool.or_eq_true, Bool.not_eq_true', not_or] at h2
    have h3 : s.all (isDig 10) = true := by simpa using h2.2
    exact ⟨List.all_eq_true.2 fun x hx => (List.all_eq_true.1 h3 x hx : isDig 10 x = true), by simpa using h2.1⟩
/-- The document's parts of a status line. -/
def staOk (s : Str) : Bool := match splitOn 32 s with
  | w0 :: w1 :: _ :: _ => !decide (verK w0 < 0) && (w1.length : Int) == 3 && (readN 10 w1 599).2 == 0 && !decide ((readN 10 w1 599).1 < 100) && (s.drop 13).all cVal
  | _ => false
theorem sta_scan {b : UInt8} {w r : Str} (hb : b = 48 ∨ b = 49) (hw : w.all cDigit = true) : (minR (httpP ++ 49 :: 46 :: b :: 32 :: (w ++ 32 :: r))) = (((b - 48).toNat : Int), true, 32 :: (w ++ 32 :: r)) ∧ staC (httpP ++ 49 :: 46 :: b :: 32 :: (w ++ 32 :: r)) = w ∧ staR3 (httpP ++ 49 :: 46 :: b :: 32 :: (w ++ 32 :: r)) = 32 :: r := by
  have h1 := minR_lit b (32 :: (w ++ 32 :: r)) hb
  have h2 := tw_app (p := cDigit) (c := 32) (by decide) r hw
  refine ⟨h1, ?_, ?_⟩
  · unfold staC; rw [h1]; dsimp only; rw [byteR_cons, h2.1]
  · unfold staR3; rw [h1]; dsimp only; rw [byteR_cons, h2.2]
theorem digs_no32 {w : Str} (h : w.all cDigit = true) : (32 : UInt8) ∉ w := fun hm => by
  have := List.all_eq_true.1 h 32 hm
  revert this; decide
theorem staF_parts {s : Str} (h : staF s = true) : ∃ b w r, (b = 48 ∨ b = 49) ∧ s = httpP ++ 49 :: 46 :: b :: 32 :: (w ++ 32 :: r) ∧ w.all cDigit = true ∧ w.length = 3 := by
  unfold staF at h
  simp only [Bool.and_eq_true] at h
  obtain ⟨⟨⟨⟨⟨⟨h1, h2⟩, h3⟩, h4⟩, h5⟩, h6⟩, h7⟩ := h
  unfold minR at h1
  simp only [Bool.and_eq_true, decide_eq_true_eq, beq_iff_eq] at h1
  obtain ⟨⟨a1, a2⟩, a3⟩ := h1
  obtain ⟨a, b, t, e, ha, hb, ev⟩ := verR_ok a1
  rw [ev] at a2 a3
  have hm : (minR s).2.2 = t := by unfold minR; rw [ev]
  rw [hm] at h2
  have ha1 : a = 49 := by
    have := dig_one a
    rw [ha] at this
    have : (((a - 48).toNat : Int) == 1) = (a == 49) := by simpa using this
    rw [show (((a - 48).toNat : Int) == 1) = true from by simpa using a2] at this
    simpa using this.symm
  have hb1 := digit_small hb (by dsimp only at a3; omega)
  have e2 := byteB_true h2
  have e4 := byteB_true h3
  have e5 : staC s ++ staR3 s = byteR 32 t := by
    unfold staC staR3; rw [hm]; exact List.takeWhile_append_dropWhile
  have hl3 : ((staC s).length : Int) = 3 := by simpa using h4
  refine ⟨b, staC s, byteR 32 (staR3 s), hb1, ?_, (readN_digits (by simpa using h5)).1, by omega⟩
  rw [← e4, e5, ← e2, ← ha1, e]
theorem staF_ok (s : Str) (h26 : (verK (cutOn 32 s).1 == 2) = false) : staF s = staOk s := by
  rw [Bool.eq_iff_iff]
  constructor
  · intro h
    have h' := h
    obtain ⟨b, w, r, hb, e, hw, hl⟩ := staF_parts h
    obtain ⟨m1, m2, m3⟩ := sta_scan (r := r) hb hw
    rw [← e] at m1 m2 m3
    unfold staF at h'
    rw [m1, m2, m3] at h'
    simp only [Bool.and_eq_true, byteR_cons] at h'
    have h32 : (32 : UInt8) ∉ (httpP ++ [49, 46, b]) := by rcases hb with h | h <;> subst h <;> decide
    have hsp : splitOn 32 s = (httpP ++ [49, 46, b]) :: w :: splitOn 32 r := by
      have e' : s = (httpP ++ [49, 46, b]) ++ 32 :: (w ++ 32 :: r) := by rw [e]; simp
      rw [e', splitOn_at _ h32, splitOn_at _ (digs_no32 hw)]
    have hd : s.drop 13 = r := by
      rw [e]
      show (w ++ 32 :: r).drop 4 = r
      match w, hl with
      | [x, y, z], _ => rfl
    have hv : verK (httpP ++ [49, 46, b]) = ((b - 48).toNat : Int) := by rcases hb with h | h <;> subst h <;> decide
    unfold staOk
    rw [hsp]
    cases hr : splitOn 32 r with
    | nil => exact absurd hr (splitOn_ne 32 r)
    | cons x l =>
      dsimp only
      rw [hd, hv, decide_eq_false (by omega)]
      simp only [Bool.and_eq_true]
      exact ⟨⟨⟨⟨rfl, by rw [hl]; rfl⟩, h'.1.1.2⟩, h'.1.2⟩, h'.2⟩
  · intro h
    unfold staOk at h
    split at h
    · rename_i w0 w1 w2 l hsp
      simp only [Bool.and_eq_true, Bool.not_eq_true', decide_eq_false_iff_not] at h
      obtain ⟨⟨⟨⟨h1, h2⟩, h3⟩, h4⟩, h5⟩ := h
      have hc := cut_split s
      rw [hsp] at hc
      have h0 : (cutOn 32 s).1 = w0 := by
        split at hc
        · injection hc with hc _; exact hc.symm
        · cases hc
      rw [h0] at h26
      rcases rejoin hsp with ⟨hx, _⟩ | ⟨r1, e1, hsp1⟩
      · cases hx
      rcases rejoin hsp1 with ⟨hx, _⟩ | ⟨r, e2, hsp2⟩
      · cases hx
      have hb : ∃ b, (b = 48 ∨ b = 49) ∧ w0 = httpP ++ [49, 46, b] := by
        rcases verK_taken (u := w0) (by omega) h26 with ⟨h, _⟩ | ⟨h, _⟩
        · exact ⟨48, .inl rfl, h⟩
        · exact ⟨49, .inr rfl, h⟩
      obtain ⟨b, hb, hw0⟩ := hb
      have hw := (readN_digits (by simpa using h3)).1
      have e : s = httpP ++ 49 :: 46 :: b :: 32 :: (w1 ++ 32 :: r) := by rw [e1, hw0, e2]; simp
      obtain ⟨m1, m2, m3⟩ := sta_scan (r := r) hb hw
      rw [← e] at m1 m2 m3
      have hl : w1.length = 3 := by have : (w1.length : Int) = 3 := by simpa using h2
                                    omega
      have hd : s.drop 13 = r := by
        rw [e]
        show (w1 ++ 32 :: r).drop 4 = r
        match w1, hl with
        | [x, y, z], _ => rfl
      rw [hd] at h5
      unfold staF
      rw [m1, m2, m3]
      simp only [Bool.and_eq_true, byteR_cons, byteB_cons]
      exact ⟨⟨⟨⟨⟨⟨by first | trivial | rfl, by first | trivial | rfl⟩, by first | trivial | rfl⟩, h2⟩, h3⟩, by rw [decide_eq_false (by omega)]; rfl⟩, h5⟩
    · cases h
theorem ref14_L6_eq (v : Int) (rd : Int × Int) (u : Str) (hu : u.length < 1000000000) : ref14_Parse_L6 v rd u fuel 0 = some (if u.all cVal && rd.2 == 0 && !decide (rd.1 < 100) then (⟨2, [], [], rd.1, u, v, []⟩, 0) else (zeroH, 20)) := by
  have key : ∀ (n i : Nat), i ≤ u.length → u.length - i < n → ref14_Parse_L6 v rd u n (i : Int) = some (if (u.drop i).all cVal && rd.2 == 0 && !decide (rd.1 < 100) then (⟨2, [], [], rd.1, u, v, []⟩, 0) else (zeroH, 20)) := by
    intro n
    induction n with
    | zero => intro i _ h; omega
    | succ n ih =>
      intro i hi h
      rw [ref14_Parse_L6]
      by_cases hlt : i < u.length
      · have g : u[i]? = some u[i] := List.getElem?_eq_getElem hlt
        rw [decide_eq_true (show (i : Int) < (u.length : Int) by omega), if_pos rfl, sAt_nat, g, Option.bind_some, ref01_Value_eq, Option.bind_some, iAdd_one (by omega), Option.bind_some, ih (i + 1) (by omega) (by omega), List.drop_eq_getElem_cons hlt, List.all_cons]
        cases cVal u[i] <;> rfl
      · have : i = u.length := by omega
        subst this
        unfold ref14_Parse_j7
        rw [decide_eq_false (by omega), if_neg (by decide), List.drop_length]
        cases rd.2 == 0 <;> cases decide (rd.1 < 100) <;> rfl
  have := key fuel 0 (Nat.zero_le _) (by unfold fuel; omega)
  rw [List.drop_zero] at this
  exact this
theorem ref14_sta_eq (s : Str) (hs : s.length < 300000000) : ((lAt (splitOn 32 s) 0).bind fun x69 => (ref14_Version x69).bind fun r72 =>
    if (r72 == 2) then (some (((⟨0, [], [], 0, [], 0, []⟩ : api_Head), 26))) else (if (decide (((splitOn 32 s).length : Int) < 3)) then (ref14_Parse_j5 s (splitOn 32 s) r72 true) else (if (decide (r72 < 0)) then (ref14_Parse_j5 s (splitOn 32 s) r72 true) else ((lAt (splitOn 32 s) 1).bind fun x80 => ref14_Parse_j5 s (splitOn 32 s) r72 (!((x80.length : Int) == 3)))))) = some (staP s) := by
  have hc := cut_split s
  have hcl := cutOn_len 32 s
  have h0 : ∃ l, splitOn 32 s = (cutOn 32 s).1 :: l := by
    rcases bcase (cutOn 32 s).2.2 with h | h
    · rw [if_pos h] at hc; exact ⟨_, hc⟩
    · rw [if_neg (by rw [h]; decide)] at hc
      have := cutOn_none 32 s h
      exact ⟨[], by rw [hc, this]⟩
  obtain ⟨l, hl⟩ := h0
  have l0 : lAt (splitOn 32 s) 0 = some (cutOn 32 s).1 := by rw [hl]; rfl
  rw [l0, Option.bind_some, ref14_Version_eq _ (by omega), Option.bind_some]
  unfold staP
  cases h26 : verK (cutOn 32 s).1 == 2 with
  | true => rfl
  | false =>
    rw [if_neg Bool.false_ne_true, if_neg Bool.false_ne_true]
    have hok := staF_ok s h26
    have j5t : ∀ w, ref14_Parse_j5 s w (verK (cutOn 32 s).1) true = some (zeroH, 20) := fun w => by unfold ref14_Parse_j5; rw [if_pos rfl]; rfl
    by_cases h3 : (splitOn 32 s).length < 3
    · rw [decide_eq_true (show ((splitOn 32 s).length : Int) < 3 by omega), if_pos rfl, j5t, hok]
      have : staOk s = false := by
        unfold staOk
        split
        · rename_i w0 w1 w2 l' hsp
          rw [hsp] at h3; simp only [List.length_cons] at h3; omega
        · rfl
      rw [this]; rfl
    · rw [decide_eq_false (show ¬ ((splitOn 32 s).length : Int) < 3 by omega), if_neg (by decide), j5t]
      obtain ⟨w1, w2, l', hsp⟩ : ∃ w1 w2 l', splitOn 32 s = (cutOn 32 s).1 :: w1 :: w2 :: l' := by
        rw [hl] at h3
        match l, h3 with
        | w1 :: w2 :: l', _ => exact ⟨w1, w2, l', hl⟩
        | [_], h => simp at h
        | [], h => simp at h
      have l1 : lAt (splitOn 32 s) 1 = some w1 := by rw [hsp]; rfl
      rw [l1, Option.bind_some, hok]
      have hst : staOk s = (!decide (verK (cutOn 32 s).1 < 0) && (w1.length : Int) == 3 && (readN 10 w1 599).2 == 0 && !decide ((readN 10 w1 599).1 < 100) && (s.drop 13).all cVal) := by
        unfold staOk; rw [hsp]
      cases hneg : decide (verK (cutOn 32 s).1 < 0) with
      | true => rw [if_pos rfl, hst, hneg]; rfl
      | false =>
        rw [if_neg (by decide)]
        cases hl3 : (w1.length : Int) == 3 with
        | false => rw [Bool.not_false, j5t, hst, hneg, hl3]; rfl
        | true =>
          have hw3 : w1.length = 3 := by have : (w1.length : Int) = 3 := by simpa using hl3
                                         omega
          have h13 : 13 ≤ s.length := by
            have hneg' : ¬ verK (cutOn 32 s).1 < 0 := by simpa using hneg
            rcases rejoin hsp with ⟨hx, _⟩ | ⟨r1, e1, hsp1⟩
            · cases hx
            rcases rejoin hsp1 with ⟨hx, _⟩ | ⟨r, e2, _⟩
            · cases hx
            have h8 : (cutOn 32 s).1.length = 8 := by
              rcases verK_taken (u := (cutOn 32 s).1) (by omega) h26 with ⟨h, _⟩ | ⟨h, _⟩ <;> rw [h] <;> rfl
            rw [e2] at e1
            have := congrArg List.length e1
            simp only [List.length_append, List.length_cons] at this
            omega
          unfold ref14_Parse_j5
          have hrd := ref03_Read_eq (b := 10) (.inl rfl) w1 599 (by omega) (by decide) (by decide)
          rw [show ((10 : Nat) : Int) = 10 from rfl] at hrd
          have hfr : sFrom s 13 = some (s.drop 13) := sFrom_nat (i := 13) h13
          rw [Bool.not_true, if_neg (by decide), l1, Option.bind_some, hrd, Option.bind_some, hfr, Option.bind_some, ref14_L6_eq _ _ _ (by simp; omega), hst, hneg, hl3]
          cases hq : (s.drop 13).all cVal && (readN 10 w1 599).2 == 0 && !decide ((readN 10 w1 599).1 < 100) with
          | false =>
            have : (!false && true && (readN 10 w1 599).2 == 0 && !decide ((readN 10 w1 599).1 < 100) && (s.drop 13).all cVal) = false := by
              revert hq
              cases (s.drop 13).all cVal <;> cases (readN 10 w1 599).2 == 0 <;> cases decide ((readN 10 w1 599).1 < 100) <;> decide
            rw [this]; rfl
          | true =>
            have ht : (!false && true && (readN 10 w1 599).2 == 0 && !decide ((readN 10 w1 599).1 < 100) && (s.drop 13).all cVal) = true := by
              revert hq
              cases (s.drop 13).all cVal <;> cases (readN 10 w1 599).2 == 0 <;> cases decide ((readN 10 w1 599).1 < 100) <;> decide
            have hF : staF s = true := by rw [hok, hst, hneg, hl3]; exact ht
            obtain ⟨b, w, r, hb, e, hw, hlw⟩ := staF_parts hF
            obtain ⟨m1, m2, m3⟩ := sta_scan (r := r) hb hw
            rw [← e] at m1 m2 m3
            have h32 : (32 : UInt8) ∉ (httpP ++ [49, 46, b]) := by rcases hb with h | h <;> subst h <;> decide
            have hsp' : splitOn 32 s = (httpP ++ [49, 46, b]) :: w :: splitOn 32 r := by
              have e' : s = (httpP ++ [49, 46, b]) ++ 32 :: (w ++ 32 :: r) := by rw [e]; simp
              rw [e', splitOn_at _ h32, splitOn_at _ (digs_no32 hw)]
            rw [hsp] at hsp'
            injection hsp' with q1 q2
            injection q2 with q2 _
            have hd : s.drop 13 = r := by
              rw [e]
              show (w ++ 32 :: r).drop 4 = r
              match w, hlw with
              | [x, y, z], _ => rfl
            have hv : verK (httpP ++ [49, 46, b]) = ((b - 48).toNat : Int) := by rcases hb with h | h <;> subst h <;> decide
            rw [ht, if_pos rfl, if_pos rfl, m1, m2, m3, byteR_cons, q1, hv, hd, q2]
theorem ref14_Parse_eq (kind : Int) (s : Str) (hs : s.length < 300000000) : ref14_Parse kind s = some (lineP kind s) := by
  unfold ref14_Parse ref14_Parse_j1 lineP
  have key : ∀ (n i : Nat), i ≤ s.length → s.length - i < n → (!(kind == 1) && !(kind == 2)) = false → ref14_Parse_L2 kind s n (i : Int) = some (if (s.drop i).any ([13, 10] : Str).contains then (zeroH, 24) else if kind == 1 then reqP s else staP s) := by
    intro n
    induction n with
    | zero => intro i _ h; omega
    | succ n ih =>
      intro i hi h hk
      rw [ref14_Parse_L2]
      by_cases hlt : i < s.length
      · have g : s[i]? = some s[i] := List.getElem?_eq_getElem hlt
        unfold ref14_Parse_j3
        rw [decide_eq_true (show (i : Int) < (s.length : Int) by omega), if_pos rfl, sAt_nat, g, Option.bind_some, Option.bind_some, iAdd_one (by omega), Option.bind_some, ih (i + 1) (by omega) (by omega) hk, List.drop_eq_getElem_cons hlt, List.any_cons]
        have : ([13, 10] : Str).contains s[i] = (s[i] == 13 || s[i] == 10) := by simp only [List.contains_cons, List.contains_nil, Bool.or_false]
        rw [this]
        cases s[i] == 13 <;> cases s[i] == 10 <;> rfl
      · have : i = s.length := by omega
        subst this
        rw [decide_eq_false (by omega), if_neg (by decide), ref08_Parts_eq s 32 (by omega), Option.bind_some, List.drop_length, ref14_req_eq s hs, ref14_sta_eq s hs, reqP_split]
        cases kind == 1 <;> rfl
  have := key fuel 0 (Nat.zero_le _) (by unfold fuel; omega)
  rw [List.drop_zero] at this
  have this : (!(kind == 1) && !(kind == 2)) = false → ref14_Parse_L2 kind s fuel 0 = _ := this
  cases h1 : kind == 1 with
  | true => rw [h1] at this; rw [Bool.not_true, if_neg (by decide), if_neg (by decide), this rfl]; rfl
  | false =>
    cases h2 : kind == 2 with
    | true => rw [h1, h2] at this; rw [Bool.not_false, if_pos rfl, Bool.not_true, if_neg (by decide), this rfl]; rfl
    | false => rfl
end Go.Dm
