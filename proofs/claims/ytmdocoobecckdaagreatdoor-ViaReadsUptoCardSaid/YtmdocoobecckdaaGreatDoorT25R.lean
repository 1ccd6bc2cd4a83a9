/-
  Via: the document's elements; texts; lists; one element more.
-/
import Derived.Test.YtmdocoobecckdaaGreatDoorT25
namespace Go.Dm
theorem suffix_last (t : Str) (x : UInt8) : ([41] : Str).isSuffixOf (t ++ [x]) = (x == 41) := by
  rw [Bool.eq_iff_iff, List.isSuffixOf_iff_suffix, beq_iff_eq]
  constructor
  · rintro ⟨u, hu⟩
    have := congrArg List.getLast? hu
    simp at this
    exact this.symm
  · rintro rfl; exact ⟨t, rfl⟩
def viaY (p v b r : Str) : api_Via × Int := match comP r with | none => (zeroV, 2) | some c => (⟨p, v, b, c⟩, 0)
theorem via_j6_eq (s : Str) (hs : s.length < 900000000) (i : Nat) (hi : i ≤ s.length) (h0 : s.drop i = [] ∨ ∃ t, s.drop i = 32 :: t) (b p v : Str) (q : Bool) :
    ref25_Parse_j6 s (i : Int) b p v q = some (if q then ((zeroV, 2) : api_Via × Int) else viaY p v b (s.drop i)) := by
  unfold ref25_Parse_j6
  cases q with
  | true => rfl
  | false =>
    rw [if_neg Bool.false_ne_true, if_neg Bool.false_ne_true]
    rcases h0 with h0 | ⟨t, h0⟩
    · have : i = s.length := by have := congrArg List.length h0; simp at this; omega
      rw [h0, this, beq_self_eq_true, if_pos rfl]
      rfl
    · have hl := congrArg List.length h0
      simp only [List.length_drop, List.length_cons] at hl
      have hne : ((i : Int) == (s.length : Int)) = false := beq_eq_false_iff_ne.2 (by omega)
      have hdr : s.drop (i + 1) = t := by rw [← List.drop_drop, h0]; rfl
      rw [hne, if_neg (by decide), iAdd_one (by omega), Option.bind_some, sFrom_nat (by omega), Option.bind_some, hdr, h0]
      have j7t : ref25_Parse_j7 b p v t true = some (zeroV, 2) := rfl
      unfold viaY comP
      rw [if_neg (show ¬ ((32 :: t : Str) == []) = true by simp)]
      cases t with
      | nil => rw [decide_eq_true (by simp), if_pos rfl, j7t]; rfl
      | cons c t' =>
        have hpre : ([32, 40] : Str).isPrefixOf (32 :: c :: t') = (c == 40) := by
          show ((32 : UInt8) == 32 && ((40 : UInt8) == c && ([] : Str).isPrefixOf t')) = _
          rw [beq_self_eq_true, Bool.true_and]
          have : ([] : Str).isPrefixOf t' = true := by simp
          rw [this, Bool.and_true, beq_swap]
        have hd2 : (32 :: c :: t' : Str).drop 2 = t' := rfl
        rw [hpre, hd2]
        by_cases h3 : (c :: t' : Str).length < 3
        · rw [decide_eq_true (show ((c :: t' : Str).length : Int) < 3 by omega), if_pos rfl, j7t]
          have : ((cut41 t').2 && !((cut41 t').1 == [])) = false := by
            match t', h3 with
            | [], _ => rfl
            | [x], _ =>
              unfold cut41
              split
              · rfl
              · rfl
          cases c == 40 with
          | false => rfl
          | true =>
            rw [Bool.true_and, this]
            rfl
        · rw [decide_eq_false (show ¬ ((c :: t' : Str).length : Int) < 3 by omega), if_neg (by decide), sAt_zero, List.getElem?_cons_zero, Option.bind_some]
          have hne' : t' ≠ [] := by rintro rfl; simp at h3
          obtain ⟨m, x, rfl⟩ : ∃ m x, t' = m ++ [x] := ⟨t'.dropLast, t'.getLast hne', (List.dropLast_concat_getLast hne').symm⟩
          have hml : 1 ≤ m.length := by simp only [List.length_cons, List.length_append, List.length_nil] at h3; omega
          have hlen : (c :: (m ++ [x]) : Str).length = m.length + 2 := by simp
          have e1 : iSub ((c :: (m ++ [x]) : Str).length : Int) 1 = some ((m.length + 1 : Nat) : Int) := by rw [hlen, iSub_ok (by omega) (by omega)]; exact congrArg some (by omega)
          have g : (c :: (m ++ [x]) : Str)[m.length + 1]? = some x := by simp
          have e2 : sSub (c :: (m ++ [x])) 1 ((m.length + 1 : Nat) : Int) = some m := by
            have := sSub_nat (l := c :: (m ++ [x])) (i := 1) (h := m.length + 1) (by omega) (by simp)
            rw [show ((1 : Nat) : Int) = 1 from rfl] at this
            rw [this]
            simp
          have hcut : cut41 (m ++ [x]) = if x == 41 then (m, true) else (m ++ [x], false) := by
            unfold cut41
            rw [suffix_last]
            have : (m ++ [x]).take ((m ++ [x]).length - 1) = m := by simp
            rw [this]
          have hmn : (m == []) = false := by cases m with
            | nil => simp at hml
            | cons y m => rfl
          rw [e1, Option.bind_some, sAt_nat, g, Option.bind_some, Option.bind_some, e2, Option.bind_some, ref25_Comment_eq _ (by simp at hlen hl; omega), Option.bind_some, hcut]
          unfold ref25_Parse_j7
          rw [e1, Option.bind_some, e2, Option.bind_some]
          cases c == 40 with
          | false => rfl
          | true =>
            cases x == 41 with
            | false => rfl
            | true =>
              rw [show (if (true = true) then (m, true) else (m ++ [x], false) : Str × Bool) = (m, true) from rfl]
              dsimp only
              rw [hmn]
              cases comOk m <;> rfl
theorem ref25_comma_eq (s : Str) (hs : s.length < 1000000000) : ref25_comma s = some (s.any ([44, 40, 41] : Str).contains) := by
  unfold ref25_comma
  have key : ∀ (n i : Nat), i ≤ s.length → s.length - i < n → ref25_comma_L1 s n (i : Int) = some ((s.drop i).any ([44, 40, 41] : Str).contains) := by
    intro n
    induction n with
    | zero => intro i _ h; omega
    | succ n ih =>
      intro i hi h
      rw [ref25_comma_L1]
      by_cases hlt : i < s.length
      · have g : s[i]? = some s[i] := List.getElem?_eq_getElem hlt
        unfold ref25_comma_j2
        rw [decide_eq_true (show (i : Int) < (s.length : Int) by omega), if_pos rfl, sAt_nat, g, Option.bind_some, Option.bind_some, Option.bind_some, iAdd_one (by omega), Option.bind_some, ih (i + 1) (by omega) (by omega), List.drop_eq_getElem_cons hlt, List.any_cons]
        have : ([44, 40, 41] : Str).contains s[i] = (s[i] == 44 || (s[i] == 40 || s[i] == 41)) := by simp only [List.contains_cons, List.contains_nil, Bool.or_false]
        rw [this]
        cases s[i] == 44 <;> cases s[i] == 40 <;> cases s[i] == 41 <;> rfl
      · have : i = s.length := by omega
        subst this
        rw [decide_eq_false (by omega), if_neg (by decide), List.drop_length]
        rfl
  have := key fuel 0 (Nat.zero_le _) (by unfold fuel; omega)
  rw [List.drop_zero] at this
  exact this
def viaC (w b r : Str) : api_Via × Int := match verP w with
  | none => (zeroV, 2)
  | some pv => if byOk b then viaY pv.1 pv.2 b r else (zeroV, 2)
theorem via_j4_eq (rec3 : Int → Option (api_Via × Int)) (s : Str) (hs : s.length < 300000000) (a i : Nat) (h1 : a + 1 ≤ i) (hi : i ≤ s.length) (h0 : s.drop i = [] ∨ ∃ t, s.drop i = 32 :: t) :
    ref25_Parse_j4 rec3 s (a : Int) (i : Int) false = some (viaC (s.take a) ((s.take i).drop (a + 1)) (s.drop i)) := by
  unfold ref25_Parse_j4
  have htl : (s.take a).length ≤ s.length := by simp; omega
  have hbl : ((s.take i).drop (a + 1)).length ≤ s.length := by simp; omega
  rw [if_neg (by decide), sTo_nat (by omega), Option.bind_some, iAdd_one (by omega), Option.bind_some, sSub_nat h1 hi, Option.bind_some, Option.bind_some, ref08_Parts_eq _ 47 (by omega), Option.bind_some]
  have hmem := fun x (hx : x ∈ splitOn 47 (s.take a)) => (splitOn_mem hx).2.1
  generalize (s.take i).drop (a + 1) = b at hbl
  generalize s.take a = w at htl hmem
  have j6 := via_j6_eq s (by omega) i hi h0 b
  unfold viaC verP
  have tail : ∀ (p v : Str), v.length ≤ w.length → ((ref01_Token v).bind fun r61 => if (!r61) = true then ref25_Parse_j6 s (i : Int) b p v true else (if (!((hostP b).2 == 0)) = true then ((ref01_Token b).bind fun r64 => ref25_Parse_j6 s (i : Int) b p v (!r64)) else ((ref25_comma b).bind fun r65 => if r65 = true then ((ref01_Token b).bind fun r67 => ref25_Parse_j6 s (i : Int) b p v (!r67)) else ref25_Parse_j6 s (i : Int) b p v false))) = some (if isTok v then (if byOk b then viaY p v b (s.drop i) else (zeroV, 2)) else (zeroV, 2) : api_Via × Int) := by
    intro p v hv
    rw [ref01_Token_eq v (by omega), Option.bind_some, ref01_Token_eq b (by omega), Option.bind_some, ref25_comma_eq b (by omega), Option.bind_some, j6, j6, j6]
    unfold byOk
    cases isTok v <;> cases isTok b <;> cases (hostP b).2 == 0 <;> cases b.any ([44, 40, 41] : Str).contains <;> rfl
  match hsp : splitOn 47 w with
  | [] => exact absurd hsp (splitOn_ne 47 w)
  | [v] =>
    have hv : v = w := (splitOn_single hsp).symm ▸ rfl
    have hvw : v = w := by have := splitOn_single hsp; exact this
    rw [hsp] at hmem
    show (ref25_Parse_j5 s (i : Int) b [v] [] w) = _
    unfold ref25_Parse_j5
    rw [ref08_Parse_eq b (by omega), Option.bind_some, show decide ((2 : Int) < (([v] : List Str).length : Int)) = false from rfl, if_neg Bool.false_ne_true, show ((([v] : List Str).length : Int) == 2) = false from rfl, if_neg Bool.false_ne_true, tail [] w (Nat.le_refl _), hvw]
    dsimp only
    cases isTok w <;> rfl
  | [p, v] =>
    rw [hsp] at hmem
    have hp := hmem p (by simp)
    have hv := hmem v (by simp)
    show (ref25_Parse_j5 s (i : Int) b [p, v] p v) = _
    unfold ref25_Parse_j5
    rw [ref08_Parse_eq b (by omega), Option.bind_some, show decide ((2 : Int) < (([p, v] : List Str).length : Int)) = false from rfl, if_neg Bool.false_ne_true, show ((([p, v] : List Str).length : Int) == 2) = true from rfl, if_pos rfl, ref01_Token_eq p (by omega), Option.bind_some, tail p v hv, j6]
    dsimp only
    cases isTok p <;> cases isTok v <;> rfl
  | x :: y :: z :: l =>
    show (if (((x :: y :: z :: l : List Str).length : Int) == 2) = true then _ else _) = _
    have h2 : (((x :: y :: z :: l : List Str).length : Int) == 2) = false := beq_eq_false_iff_ne.2 (by simp only [List.length_cons]; omega)
    rw [h2, if_neg (by decide)]
    unfold ref25_Parse_j5
    rw [ref08_Parse_eq b (by omega), Option.bind_some, decide_eq_true (by simp only [List.length_cons]; omega), if_pos rfl, j6]
    rfl
theorem ref25_Parse_eq (s : Str) (hs : s.length < 300000000) : ref25_Parse s = some (viaS s) := by
  unfold ref25_Parse
  have hu := upto_le [32] s
  -- the second part
  have fin : s.drop (upto [32] s).length ≠ [] → ref25_Parse_L3 s ((upto [32] s).length : Int) fuel (((upto [32] s).length + 1 : Nat) : Int) = some (viaS s) := by
    intro hne
    obtain ⟨u, hdu⟩ : ∃ u, s.drop (upto [32] s).length = 32 :: u := by
      have hd := drop_upto [32] s
      cases hf : from_ [32] s with
      | nil => rw [hd, hf] at hne; exact absurd rfl hne
      | cons c u =>
        have := from_head hf
        have hc : c = 32 := by simpa using this
        rw [hd, hf, hc]; exact ⟨u, rfl⟩
    have hcut : cutOn 32 s = (upto [32] s, u, true) := by
      unfold cutOn
      rw [← drop_upto, hdu]; rfl
    have hlen := congrArg List.length hdu
    simp only [List.length_drop, List.length_cons] at hlen
    have hd1 : s.drop ((upto [32] s).length + 1) = u := by rw [← List.drop_drop, hdu]; rfl
    have huu := upto_le [32] u
    have hv : viaS s = viaC (upto [32] s) (upto [32] u) (from_ [32] u) := by
      unfold viaS viaC
      rw [hcut]
      dsimp only
      rw [Bool.true_and]
      rfl
    rw [hv]
    generalize hW : (upto [32] s).length = W at *
    have key : ∀ (n i : Nat), W + 1 ≤ i → i ≤ W + 1 + (upto [32] u).length → W + 1 + (upto [32] u).length - i < n → ref25_Parse_L3 s (W : Int) n (i : Int) = some (viaC (upto [32] s) (upto [32] u) (from_ [32] u)) := by
      intro n
      induction n with
      | zero => intro i _ _ h; omega
      | succ n ih =>
        intro i hi1 hi h
        rw [ref25_Parse_L3]
        have hgi : ∀ j, s[W + 1 + j]? = u[j]? := fun j => by rw [← hd1, List.getElem?_drop]
        by_cases hlt : i < W + 1 + (upto [32] u).length
        · have g : s[i]? = some ((upto [32] u)[i - (W + 1)]'(by omega)) := by
            have h1 := hgi (i - (W + 1))
            rw [show W + 1 + (i - (W + 1)) = i by omega] at h1
            rw [h1]
            have e := List.getElem?_append_left (l₂ := from_ [32] u) (show i - (W + 1) < (upto [32] u).length by omega)
            rw [upto_from] at e
            rw [e]; exact List.getElem?_eq_getElem _
          have hno := upto_not ((upto [32] u)[i - (W + 1)]'(by omega)) (List.getElem_mem _)
          generalize (upto [32] u)[i - (W + 1)]'(by omega) = c at g hno
          have h1 : (c == 32) = false := by simpa using hno
          have hlt2 := (List.getElem?_eq_some_iff.1 g).1
          unfold ref25_Parse_j4
          rw [decide_eq_true (show (i : Int) < (s.length : Int) by omega), if_pos rfl, sAt_nat, g, Option.bind_some, h1, Bool.not_false, if_pos rfl, iAdd_one (by omega), Option.bind_some]
          exact ih (i + 1) (by omega) (by omega) (by omega)
        · have hie : i = W + 1 + (upto [32] u).length := by omega
          have hdi : s.drop i = from_ [32] u := by rw [hie, ← List.drop_drop, hd1, drop_upto]
          have h0 : s.drop i = [] ∨ ∃ t, s.drop i = 32 :: t := by
            rw [hdi]
            cases hf : from_ [32] u with
            | nil => exact .inl rfl
            | cons c t =>
              have := from_head hf
              have hc : c = 32 := by simpa using this
              exact .inr ⟨t, by rw [hc]⟩
          have hile : i ≤ s.length := by omega
          have hj := via_j4_eq (ref25_Parse_L3 s (W : Int) n) s hs W i (by omega) hile h0
          have hw : s.take W = upto [32] s := by rw [← hW]; exact take_upto [32] s
          have hb : (s.take i).drop (W + 1) = upto [32] u := by
            rw [hie, List.take_add, List.drop_append_of_le_length (by simp; omega), List.drop_of_length_le (by simp; omega), List.nil_append, hd1, take_upto]
          rw [hw, hb, hdi] at hj
          rcases h0 with h0 | ⟨t, h0⟩
          · have : s.length ≤ i := by have := congrArg List.length h0; simp at this; omega
            rw [decide_eq_false (by omega), if_neg (by decide)]
            exact hj
          · have hlt2 : i < s.length := by have := congrArg List.length h0; simp at this; omega
            have g : s[i]? = some 32 := by have := congrArg (·[0]?) h0; simpa using this
            rw [decide_eq_true (by omega), if_pos rfl, sAt_nat, g, Option.bind_some]
            exact hj
    exact key fuel (W + 1) (Nat.le_refl _) (by omega) (by unfold fuel; omega)
  have key : ∀ (n i : Nat), i ≤ (upto [32] s).length → (upto [32] s).length - i < n → ref25_Parse_L1 s n (i : Int) = some (viaS s) := by
    intro n
    induction n with
    | zero => intro i _ h; omega
    | succ n ih =>
      intro i hi h
      rw [ref25_Parse_L1]
      unfold ref25_Parse_j2
      by_cases hlt : i < (upto [32] s).length
      · have g : s[i]? = some (upto [32] s)[i] := by
          have e := List.getElem?_append_left (l₂ := from_ [32] s) hlt
          rw [upto_from] at e; rw [e]; exact List.getElem?_eq_getElem hlt
        have hno := upto_not (upto [32] s)[i] (List.getElem_mem hlt)
        generalize (upto [32] s)[i] = c at g hno
        have h1 : (c == 32) = false := by simpa using hno
        rw [decide_eq_true (show (i : Int) < (s.length : Int) by omega), if_pos rfl, sAt_nat, g, Option.bind_some, h1, Bool.not_false, if_pos rfl, iAdd_one (by omega), Option.bind_some]
        exact ih (i + 1) (by omega) (by omega)
      · have hie : i = (upto [32] s).length := by omega
        subst hie
        by_cases hne : s.drop (upto [32] s).length = []
        · have : (upto [32] s).length = s.length := by have := congrArg List.length hne; simp at this; omega
          rw [decide_eq_false (by omega), if_neg (by decide), if_neg (by decide), this, beq_self_eq_true, if_pos rfl]
          have hc : (cutOn 32 s).2.2 = false := by unfold cutOn; rw [← drop_upto, hne]; rfl
          unfold viaS
          rw [hc, Bool.false_and]
          cases verP (cutOn 32 s).1 <;> rfl
        · have hlt2 : (upto [32] s).length < s.length := by
            have : ¬ (upto [32] s).length = s.length := fun e => hne (by rw [e, List.drop_length])
            omega
          have hne2 : (((upto [32] s).length : Int) == (s.length : Int)) = false := beq_eq_false_iff_ne.2 (by omega)
          have g : s[(upto [32] s).length]? = some 32 := by
            have hd := drop_upto [32] s
            cases hf : from_ [32] s with
            | nil => rw [hd, hf] at hne; exact absurd rfl hne
            | cons c u =>
              have h1 := from_head hf
              have hc : c = 32 := by simpa using h1
              rw [hf, hc] at hd
              have := congrArg (·[0]?) hd
              simpa using this
          rw [decide_eq_true (by omega), if_pos rfl, sAt_nat, g, Option.bind_some, if_neg (by decide), hne2, if_neg (by decide), iAdd_one (by omega), Option.bind_some]
          exact fin hne
  exact key fuel 0 (Nat.zero_le _) (by unfold fuel; omega)
def rawV (v : api_Via) : Str := (if v.Proto == [] then [] else v.Proto ++ [47]) ++ v.Version ++ 32 :: v.By ++ (if v.Comment == [] then [] else [32, 40] ++ v.Comment ++ [41])
def textV (v : api_Via) : Str × Int := if (viaS (rawV v)).2 == 0 && (viaS (rawV v)).1 == v then (rawV v, 0) else ([], 2)
def smallV (v : api_Via) : Prop := v.Proto.length < 10000000 ∧ v.Version.length < 10000000 ∧ v.By.length < 10000000 ∧ v.Comment.length < 10000000
theorem rawV_len {v : api_Via} (h : smallV v) : (rawV v).length < 100000000 := by
  obtain ⟨h1, h2, h3, h4⟩ := h
  unfold rawV
  split <;> split <;> simp <;> omega
theorem quill_flat (l : List Str) (h : l.length < 1000000) (h2 : l.flatten.length < 4000000000) : quill_Join [] l = some l.flatten := quill_Join_nil l h h2
theorem via_Text_eq (v : api_Via) (h : smallV v) : via_Text v = some (textV v) := by
  have hl := rawV_len h
  have j2 : ∀ l : List Str, l.length < 100 → l.flatten = rawV v → via_Text_j2 v l = some (textV v) := by
    intro l h1 h2
    unfold via_Text_j2 via_Text_j3
    rw [quill_flat l (by omega) (by rw [h2]; omega), Option.bind_some, h2, via_Parse_eq _ (by omega), Option.bind_some]
    unfold textV
    cases (viaS (rawV v)).2 == 0 <;> cases (viaS (rawV v)).1 == v <;> rfl
  have j1 : ∀ l : List Str, l.length < 50 → l.flatten = (if v.Proto == [] then [] else v.Proto ++ [47]) ++ v.Version ++ 32 :: v.By → via_Text_j1 v l = some (textV v) := by
    intro l h1 h2
    unfold via_Text_j1
    cases hc : v.Comment == [] with
    | true =>
      rw [Bool.not_true, if_neg (by decide)]
      refine j2 l (by omega) ?_
      unfold rawV
      rw [h2, hc]; simp
    | false =>
      rw [Bool.not_false, if_pos rfl, if_pos (fits_ok (by omega) (by omega))]
      refine j2 _ (by simp; omega) ?_
      unfold rawV
      rw [List.flatten_append, h2, hc]; simp
  unfold via_Text
  cases hp : v.Proto == [] with
  | true =>
    rw [Bool.not_true, if_neg (by decide)]
    exact j1 _ (by simp) (by rw [hp]; simp)
  | false =>
    rw [Bool.not_false, if_pos rfl, if_pos (fits_ok (by simp) (by simp))]
    exact j1 _ (by simp) (by rw [hp]; simp)
/-- What is parsed is the text, written again. -/
theorem comP_raw {r c : Str} (h : comP r = some c) : r = if c == [] then [] else [32, 40] ++ c ++ [41] := by
  unfold comP at h
  split at h
  · rename_i hr
    cases h
    simpa using hr
  · split at h
    · rename_i hc
      simp only [Bool.and_eq_true, Bool.not_eq_true'] at hc
      obtain ⟨⟨⟨h1, h2⟩, h3⟩, _⟩ := hc
      cases h
      obtain ⟨t, ht⟩ := List.isPrefixOf_iff_prefix.1 h1
      have hd : r.drop 2 = t := by rw [← ht]; rfl
      rw [h3, if_neg Bool.false_ne_true]
      rw [hd] at h2 ⊢
      rw [← ht]
      have : (cut41 t).1 ++ [41] = t := by
        unfold cut41 at h2 ⊢
        split at h2
        · rename_i hs
          rw [if_pos hs]
          obtain ⟨m, hm⟩ := List.isSuffixOf_iff_suffix.1 hs
          rw [← hm]; simp
        · cases h2
      rw [List.append_assoc, this]
    · cases h
theorem via_back {s : Str} {v : api_Via} (h : viaS s = (v, 0)) : rawV v = s ∧ v.Proto.length ≤ s.length ∧ v.Version.length ≤ s.length ∧ v.By.length ≤ s.length ∧ v.Comment.length ≤ s.length := by
  have key : rawV v = s := by
    unfold viaS at h
    split at h
    · exact absurd (show (2 : Int) = 0 from congrArg Prod.snd h) (by decide)
    · rename_i pv hv
      split at h
      · rename_i hc
        simp only [Bool.and_eq_true] at hc
        split at h
        · exact absurd (show (2 : Int) = 0 from congrArg Prod.snd h) (by decide)
        · rename_i c hcom
          have hx := congrArg Prod.fst h
          dsimp only at hx
          subst hx
          have e := cutOn_join 32 s hc.1
          have hr := comP_raw hcom
          have huf := upto_from [32] (cutOn 32 s).2.1
          unfold rawV
          dsimp only
          rw [← hr]
          have hw : (if pv.1 == [] then [] else pv.1 ++ [47]) ++ pv.2 = (cutOn 32 s).1 := by
            rcases verP_some hv with ⟨t1, t2⟩ | ⟨t1, t2, t3⟩
            · rw [t2]; rfl
            · have hn : (pv.1 == []) = false := by simpa using ((isTok_iff _).1 t1).1
              rw [hn, if_neg Bool.false_ne_true, t3]; simp
          rw [hw, List.append_assoc, List.cons_append, huf]
          exact e
      · exact absurd (show (2 : Int) = 0 from congrArg Prod.snd h) (by decide)
  have hl := congrArg List.length key
  refine ⟨key, ?_⟩
  unfold rawV at hl
  have b1 : v.Proto.length ≤ (if v.Proto == [] then ([] : Str) else v.Proto ++ [47]).length := by
    split
    · rename_i h; have : v.Proto = [] := by simpa using h
      rw [this]; simp
    · simp
  have b2 : v.Comment.length ≤ (if v.Comment == [] then ([] : Str) else [32, 40] ++ v.Comment ++ [41]).length := by
    split
    · rename_i h; have : v.Comment = [] := by simpa using h
      rw [this]; simp
    · simp only [List.length_append, List.length_cons]; omega
  simp only [List.length_append, List.length_cons] at hl
  omega
theorem viaS_err {s : Str} (h : ((viaS s).2 == 0) = false) : viaS s = (zeroV, 2) := by
  unfold viaS at h ⊢
  split
  · rfl
  · rename_i pv hv
    rw [hv] at h
    dsimp only at h
    split
    · rename_i hc
      rw [if_pos hc] at h
      split
      · rfl
      · rename_i c hcom
        rw [hcom] at h; cases h
    · rfl
def okV (x : Str) : Bool := (viaS x).2 == 0
def accV (out : List api_Via) (r : List api_Via × Int) : List api_Via × Int := if r.2 == 0 then (out ++ r.1, 0) else ([], r.2)
def listV : List Str → List api_Via × Int
  | [] => ([], 0)
  | v :: vs => match splitC v with
    | none => ([], 2)
    | some l => if l.all okV then accV (l.map fun x => (viaS x).1) (listV vs) else ([], 2)
theorem listV_none {v : Str} (vs : List Str) (h : splitC v = none) : listV (v :: vs) = ([], 2) := by rw [listV, h]
theorem listV_some {v : Str} (vs : List Str) {l : List Str} (h : splitC v = some l) : listV (v :: vs) = if l.all okV then accV (l.map fun x => (viaS x).1) (listV vs) else ([], 2) := by rw [listV, h]
theorem accV_acc (a b : List api_Via) (r : List api_Via × Int) : accV (a ++ b) r = accV a (accV b r) := by
  unfold accV
  cases h : r.2 == 0 with
  | true => simp
  | false => simp [h]
theorem listV_err (vs : List Str) : (listV vs).2 = 0 ∨ listV vs = ([], 2) := by
  induction vs with
  | nil => exact .inl rfl
  | cons v vs ih =>
    cases hs : splitC v with
    | none => rw [listV_none _ hs]; exact .inr rfl
    | some l =>
      rw [listV_some _ hs]
      cases l.all okV with
      | false => exact .inr rfl
      | true =>
        rw [if_pos rfl]
        unfold accV
        rcases ih with ih | ih
        · rw [ih]; exact .inl rfl
        · rw [ih]; exact .inr rfl
theorem accV_nil (vs : List Str) : accV [] (listV vs) = listV vs := by
  unfold accV
  rcases listV_err vs with h | h
  · rw [h, beq_self_eq_true, if_pos rfl, List.nil_append, ← h]
  · rw [h]; rfl
theorem via_L2_eq (rec1 : List api_Via → Int → Option (List api_Via × Int)) (i7 : Nat) (l : List Str) (e : Int) (l6 : List api_Via) (hl : l.length < 1000000000) (hx : ∀ x ∈ l, x.length < 300000000) (h6 : (l6.length + l.length) * 64 ≤ 140737488355328) (h7 : i7 < 1000000000) :
    via_List_L2 rec1 (i7 : Int) (l, e) fuel l6 0 = (if l.all okV then rec1 (l6 ++ l.map fun x => (viaS x).1) ((i7 + 1 : Nat) : Int) else some ([], 2)) ∧ ref25_List_L2 rec1 (i7 : Int) (l, e) fuel l6 0 = (if l.all okV then rec1 (l6 ++ l.map fun x => (viaS x).1) ((i7 + 1 : Nat) : Int) else some ([], 2)) := by
  have key : ∀ (n i : Nat) (out : List api_Via), i ≤ l.length → l.length - i < n → out.length = l6.length + i →
      via_List_L2 rec1 (i7 : Int) (l, e) n out (i : Int) = (if (l.drop i).all okV then rec1 (out ++ (l.drop i).map fun x => (viaS x).1) ((i7 + 1 : Nat) : Int) else some ([], 2)) ∧ ref25_List_L2 rec1 (i7 : Int) (l, e) n out (i : Int) = (if (l.drop i).all okV then rec1 (out ++ (l.drop i).map fun x => (viaS x).1) ((i7 + 1 : Nat) : Int) else some ([], 2)) := by
    intro n
    induction n with
    | zero => intro i _ _ h; omega
    | succ n ih =>
      intro i out hi h ho
      rw [via_List_L2, ref25_List_L2]
      by_cases hlt : i < l.length
      · have g : l[i]? = some l[i] := List.getElem?_eq_getElem hlt
        have hxl := hx l[i] (List.getElem_mem _)
        have ihh := ih (i + 1) (out ++ [(viaS l[i]).1]) (by omega) (by omega) (by simp; omega)
        dsimp only
        rw [decide_eq_true (show (i : Int) < (l.length : Int) by omega), if_pos rfl, if_pos rfl, lAt_nat, g, Option.bind_some, Option.bind_some, via_Parse_eq _ hxl, ref25_Parse_eq _ hxl, Option.bind_some, Option.bind_some, if_pos (fits_ok (by omega) (by omega)), if_pos (fits_ok (by omega) (by omega)), iAdd_one (by omega), Option.bind_some, Option.bind_some, ihh.1, ihh.2, List.drop_eq_getElem_cons hlt, List.all_cons, List.map_cons]
        have : okV l[i] = ((viaS l[i]).2 == 0) := rfl
        rw [this]
        cases hq : (viaS l[i]).2 == 0 with
        | false =>
          rw [viaS_err hq]
          exact ⟨rfl, rfl⟩
        | true =>
          rw [Bool.not_true, if_neg Bool.false_ne_true, Bool.true_and, List.append_assoc, List.singleton_append]
          exact ⟨rfl, rfl⟩
      · have : i = l.length := by omega
        subst this
        dsimp only
        rw [decide_eq_false (by omega), if_neg Bool.false_ne_true, if_neg Bool.false_ne_true, iAdd_one (by omega), Option.bind_some, List.drop_length]
        simp
  have := key fuel 0 l6 (Nat.zero_le _) (by unfold fuel; omega) (by simp)
  rw [List.drop_zero] at this
  exact this
theorem via_List_eq (vs : List Str) (hn : vs.length ≤ 1000) (hv : ∀ v ∈ vs, v.length < 300000000) : via_List vs = some (listV vs) ∧ ref25_List vs = some (listV vs) := by
  unfold via_List ref25_List
  have key : ∀ (n i : Nat) (out : List api_Via), i ≤ vs.length → vs.length - i < n → out.length ≤ i * 400000000 → via_List_L1 vs n out (i : Int) = some (accV out (listV (vs.drop i))) ∧ ref25_List_L1 vs n out (i : Int) = some (accV out (listV (vs.drop i))) := by
    intro n
    induction n with
    | zero => intro i _ _ h; omega
    | succ n ih =>
      intro i out hi h ho
      rw [via_List_L1, ref25_List_L1]
      by_cases hlt : i < vs.length
      · have g : vs[i]? = some vs[i] := List.getElem?_eq_getElem hlt
        have hvl := hv vs[i] (List.getElem_mem _)
        rw [decide_eq_true (show (i : Int) < (vs.length : Int) by omega), if_pos rfl, if_pos rfl, lAt_nat, g, Option.bind_some, Option.bind_some, commas_Split_eq _ (by omega), ref06_Split_eq _ (by omega), Option.bind_some, Option.bind_some, List.drop_eq_getElem_cons hlt]
        unfold splitR
        cases hs : splitC vs[i] with
        | none => rw [listV_none _ hs]; exact ⟨rfl, rfl⟩
        | some l =>
          have hm := splitC_mem hs
          have i1 := ih (i + 1) (out ++ l.map fun x => (viaS x).1) (by omega) (by omega) (by simp; omega)
          have l1 := (via_L2_eq (via_List_L1 vs n) i l 0 out (by omega) (fun x hx => by have := hm.2 x hx; omega) (by omega) (by omega)).1
          have l2 := (via_L2_eq (ref25_List_L1 vs n) i l 0 out (by omega) (fun x hx => by have := hm.2 x hx; omega) (by omega) (by omega)).2
          dsimp only
          rw [if_neg (by decide), if_neg (by decide), l1, l2, i1.1, i1.2, listV_some _ hs, accV_acc]
          cases l.all okV <;> exact ⟨rfl, rfl⟩
      · have : i = vs.length := by omega
        subst this
        rw [decide_eq_false (by omega), if_neg (by decide), if_neg (by decide), List.drop_length]
        simp [listV, accV]
  have := key fuel 0 [] (Nat.zero_le _) (by unfold fuel; omega) (by simp)
  rw [List.drop_zero, accV_nil] at this
  exact this
theorem ref25_Same_eq (a b : List api_Via) (ha : a.length < 1000000000) : ref25_Same a b = some (a == b) := by
  unfold ref25_Same
  by_cases hl : a.length = b.length
  · rw [hl, beq_self_eq_true, Bool.not_true, if_neg (by decide)]
    refine same_loop a b (ref25_Same_L1 a b) hl ha (fun n => ?_) (fun n i x y hi hx hy => ?_)
    · rw [ref25_Same_L1, decide_eq_false (by omega), if_neg (by decide)]
    · rw [ref25_Same_L1, decide_eq_true (by omega), if_pos rfl, lAt_nat, hx, Option.bind_some, lAt_nat, hy, Option.bind_some, iAdd_one (by omega), Option.bind_some]
      cases x == y <;> rfl
  · have : (((a.length : Int) == (b.length : Int))) = false := beq_eq_false_iff_ne.2 (by omega)
    have h2 : (a == b) = false := beq_eq_false_iff_ne.2 (fun e => hl (by rw [e]))
    rw [this, h2]; rfl
theorem listV_len (vs : List Str) (B : Nat) (h : ∀ v ∈ vs, v.length < B) : (listV vs).1.length ≤ vs.length * B := by
  induction vs with
  | nil => simp [listV]
  | cons v vs ih =>
    have hv := h v (List.mem_cons_self ..)
    have := ih (fun x hx => h x (List.mem_cons_of_mem _ hx))
    cases hs : splitC v with
    | none => rw [listV_none _ hs]; simp
    | some l =>
      have hm := splitC_mem hs
      rw [listV_some _ hs]
      unfold accV
      rw [List.length_cons, Nat.add_mul]
      split
      · split
        · simp only [List.length_append, List.length_map]; omega
        · simp
      · simp
theorem law25_awake_eq : law25_awake = some true := by decide +kernel
theorem textV_back {s : Str} {v : api_Via} (h : viaS s = (v, 0)) : textV v = (s, 0) := by
  have hb := (via_back h).1
  unfold textV
  rw [hb, h]
  simp
theorem ViaReads_true (s : Str) : law25_ViaReads s = some true := by
  unfold law25_ViaReads
  have c1 := sTo_min s 200
  rw [show ((200 : Nat) : Int) = 200 from rfl] at c1
  rw [law25_awake_eq, Option.bind_some, Bool.not_true, if_neg (by decide), c1, Option.bind_some]
  have h1 : (s.take 200).length ≤ 200 := by simp; omega
  generalize s.take 200 = s at h1
  have hv : ∀ v ∈ [s, s], v.length < 600 := fun v hv => by
    simp only [List.mem_cons, List.not_mem_nil, or_false] at hv
    rcases hv with h | h <;> subst h <;> omega
  have hll := listV_len [s, s] 600 hv
  obtain ⟨e1, e2⟩ := via_List_eq [s, s] (by simp) (fun v h => by have := hv v h; omega)
  have hlen : (listV [s, s]).1.length < 1000000000 := by simp only [List.length_cons, List.length_nil] at hll; omega
  rw [via_Parse_eq s (by omega), Option.bind_some, ref25_Parse_eq s (by omega), Option.bind_some, e1, Option.bind_some, e2, Option.bind_some, beq_self_eq_true, Bool.not_true, if_neg (by decide), beq_self_eq_true, Bool.not_true, if_neg (by decide), ref25_Same_eq _ _ hlen, Option.bind_some, beq_self_eq_true, Bool.not_true, if_neg (by decide), beq_self_eq_true, Bool.not_true]
  unfold law25_ViaReads_j1 law25_ViaReads_j2
  rw [if_neg (by decide)]
  cases he : (viaS s).2 == 0 with
  | false =>
    rw [viaS_err he, via_Text_eq _ ⟨by decide, by decide, by decide, by decide⟩]
    rfl
  | true =>
    have hp : viaS s = ((viaS s).1, 0) := by
      have : (viaS s).2 = 0 := by simpa using he
      rw [← this]
    generalize (viaS s).1 = v at hp
    obtain ⟨_, b1, b2, b3, b4⟩ := via_back hp
    rw [via_Text_eq v ⟨by omega, by omega, by omega, by omega⟩, Option.bind_some, textV_back hp]
    have hself : (s == s) = true := beq_self_eq_true s
    dsimp only
    rw [hself]
    rfl
end Go.Dm
