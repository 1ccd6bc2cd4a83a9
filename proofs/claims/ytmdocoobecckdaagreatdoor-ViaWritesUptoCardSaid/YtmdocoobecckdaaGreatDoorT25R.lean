/-
  Via: the document's elements; texts; lists; one element more.
-/
import Derived.Test.YtmdocoobecckdaaGreatDoorT25
namespace Go.Dm
theorem suffix_last (t : Str) (x : UInt8) : ([41] : Str).isSuffixOf (t ++ [x]) = (x == 41) := by
  rw [Bool.eq_iff_iff, List.isSuffixOf_iff_suffix, beq_iff_eq]
  constructor
  · rintro ⟨u, hu⟩
    have := congrArg List.getLast? hu
    simp at this
    exact this.symm
  · rintro rfl; exact ⟨t, rfl⟩
def viaY (p v b r : Str) : api_Via × Int := match comP r with | none => (zeroV, 2) | some c => (⟨p, v, b, c⟩, 0)
theorem via_j6_eq (s : Str) (hs : s.length < 900000000) (i : Nat) (hi : i ≤ s.length) (h0 : s.drop i = [] ∨ ∃ t, s.drop i = 32 :: t) (b p v : Str) (q : Bool) :
    ref25_Parse_j6 s (i : Int) b p v q = some (if q then ((zeroV, 2) : api_Via × Int) else viaY p v b (s.drop i)) := by
  unfold ref25_Parse_j6
  cases q with
  | true => rfl
  | false =>
    rw [if_neg Bool.false_ne_true, if_neg Bool.false_ne_true]
    rcases h0 with h0 | ⟨t, h0⟩
    · have : i = s.length := by have := congrArg List.length h0; simp at this; omega
      rw [h0, this, beq_self_eq_true, if_pos rfl]
      rfl
    · have hl := congrArg List.length h0
      simp only [List.length_drop, List.length_cons] at hl
      have hne : ((i : Int) == (s.length : Int)) = false := beq_eq_false_iff_ne.2 (by omega)
      have hdr : s.drop (i + 1) = t := by rw [← List.drop_drop, h0]; rfl
      rw [hne, if_neg (by decide), iAdd_one (by omega), Option.bind_some, sFrom_nat (by omega), Option.bind_some, hdr, h0]
      have j7t : ref25_Parse_j7 b p v t true = some (zeroV, 2) := rfl
      unfold viaY comP
      rw [if_neg (show ¬ ((32 :: t : Str) == []) = true by simp)]
      cases t with
      | nil => rw [decide_eq_true (by simp), if_pos rfl, j7t]; rfl
      | cons c t' =>
        have hpre : ([32, 40] : Str).isPrefixOf (32 :: c :: t') = (c == 40) := by
          show ((32 : UInt8) == 32 && ((40 : UInt8) == c && ([] : Str).isPrefixOf t')) = _
          rw [beq_self_eq_true, Bool.true_and]
          have : ([] : Str).isPrefixOf t' = true := by simp
          rw [this, Bool.and_true, beq_swap]
        have hd2 : (32 :: c :: t' : Str).drop 2 = t' := rfl
        rw [hpre, hd2]
        by_cases h3 : (c :: t' : Str).length < 3
        · rw [decide_eq_true (show ((c :: t' : Str).length : Int) < 3 by omega), if_pos rfl, j7t]
          have : ((cut41 t').2 && !((cut41 t').1 == [])) = false := by
            match t', h3 with
            | [], _ => rfl
            | [x], _ =>
              unfold cut41
              split
              · rfl
              · rfl
          cases c == 40 with
          | false => rfl
          | true =>
            rw [Bool.true_and, this]
            rfl
        · rw [decide_eq_false (show ¬ ((c :: t' : Str).length : Int) < 3 by omega), if_neg (by decide), sAt_zero, List.getElem?_cons_zero, Option.bind_some]
          have hne' : t' ≠ [] := by rintro rfl; simp at h3
          obtain ⟨m, x, rfl⟩ : ∃ m x, t' = m ++ [x] := ⟨t'.dropLast, t'.getLast hne', (List.dropLast_concat_getLast hne').symm⟩
          have hml : 1 ≤ m.length := by simp only [List.length_cons, List.length_append, List.length_nil] at h3; omega
          have hlen : (c :: (m ++ [x]) : Str).length = m.length + 2 := by simp
          have e1 : iSub ((c :: (m ++ [x]) : Str).length : Int) 1 = some ((m.length + 1 : Nat) : Int) := by rw [hlen, iSub_ok (by omega) (by omega)]; exact congrArg some (by omega)
          have g : (c :: (m ++ [x]) : Str)[m.length + 1]? = some x := by simp
          have e2 : sSub (c :: (m ++ [x])) 1 ((m.length + 1 : Nat) : Int) = some m := by
            have := sSub_nat (l := c :: (m ++ [x])) (i := 1) (h := m.length + 1) (by omega) (by simp)
            rw [show ((1 : Nat) : Int) = 1 from rfl] at this
            rw [this]
            simp
          have hcut : cut41 (m ++ [x]) = if x == 41 then (m, true) else (m ++ [x], false) := by
            unfold cut41
            rw [suffix_last]
            have : (m ++ [x]).take ((m ++ [x]).length - 1) = m := by simp
            rw [this]
          have hmn : (m == []) = false := by cases m with
            | nil => simp at hml
            | cons y m => rfl
          rw [e1, Option.bind_some, sAt_nat, g, Option.bind_some, Option.bind_some, e2, Option.bind_some, ref25_Comment_eq _ (by simp at hlen hl; omega), Option.bind_some, hcut]
          unfold ref25_Parse_j7
          rw [e1, Option.bind_some, e2, Option.bind_some]
          cases c == 40 with
          | false => rfl
          | true =>
            cases x == 41 with
            | false => rfl
            | true =>
              rw [show (if (true = true) then (m, true) else (m ++ [x], false) : Str × Bool) = (m, true) from rfl]
              dsimp only
              rw [hmn]
              cases comOk m <;> rfl
theorem ref25_comma_eq (s : Str) (hs : s.length < 1000000000) : ref25_comma s = some (s.any ([44, 40, 41] : Str).contains) := by
  unfold ref25_comma
  have key : ∀ (n i : Nat), i ≤ s.length → s.length - i < n → ref25_comma_L1 s n (i : Int) = some ((s.drop i).any ([44, 40, 41] : Str).contains) := by
    intro n
    induction n with
    | zero => intro i _ h; omega
    | succ n ih =>
      intro i hi h
      rw [ref25_comma_L1]
      by_cases hlt : i < s.length
      · have g : s[i]? = some s[i] := List.getElem?_eq_getElem hlt
        unfold ref25_comma_j2
        rw [decide_eq_true (show (i : Int) < (s.length : Int) by omega), if_pos rfl, sAt_nat, g, Option.bind_some, Option.bind_some, Option.bind_some, iAdd_one (by omega), Option.bind_some, ih (i + 1) (by omega) (by omega), List.drop_eq_getElem_cons hlt, List.any_cons]
        have : ([44, 40, 41] : Str).contains s[i] = (s[i] == 44 || (s[i] == 40 || s[i] == 41)) := by simp only [List.contains_cons, List.contains_nil, Bool.or_false]
        rw [this]
        cases s[i] == 44 <;> cases s[i] == 40 <;> cases s[i] == 41 <;> rfl
      · have : i = s.length := by omega
        subst this
        rw [decide_eq_false (by omega), if_neg (by decide), List.drop_length]
        rfl
  have := key fuel 0 (Nat.zero_le _) (by unfold fuel; omega)
  rw [List.drop_zero] at this
  exact this
def viaC (w b r : Str) : api_Via × Int := match verP w with
  | none => (zeroV, 2)
  | some pv => if byOk b then viaY pv.1 pv.2 b r else (zeroV, 2)
theorem via_j4_eq (rec3 : Int → Option (api_Via × Int)) (s : Str) (hs : s.length < 300000000) (a i : Nat) (h1 : a + 1 ≤ i) (hi : i ≤ s.length) (h0 : s.drop i = [] ∨ ∃ t, s.drop i = 32 :: t) :
    ref25_Parse_j4 rec3 s (a : Int) (i : Int) false = some (viaC (s.take a) ((s.take i).drop (a + 1)) (s.drop i)) := by
  unfold ref25_Parse_j4
  have htl : (s.take a).length ≤ s.length := by simp; omega
  have hbl : ((s.take i).drop (a + 1)).length ≤ s.length := by simp; omega
  rw [if_neg (by decide), sTo_nat (by omega), Option.bind_some, iAdd_one (by omega), Option.bind_some, sSub_nat h1 hi, Option.bind_some, Option.bind_some, ref08_Parts_eq _ 47 (by omega), Option.bind_some]
  have hmem := fun x (hx : x ∈ splitOn 47 (s.take a)) => (splitOn_mem hx).2.1
  generalize (s.take i).drop (a + 1) = b at hbl
  generalize s.take a = w at htl hmem
  have j6 := via_j6_eq s (by omega) i hi h0 b
  unfold viaC verP
  have tail : ∀ (p v : Str), v.length ≤ w.length → ((ref01_Token v).bind fun r61 => if (!r61) = true then ref25_Parse_j6 s (i : Int) b p v true else (if (!((hostP b).2 == 0)) = true then ((ref01_Token b).bind fun r64 => ref25_Parse_j6 s (i : Int) b p v (!r64)) else ((ref25_comma b).bind fun r65 => if r65 = true then ((ref01_Token b).bind fun r67 => ref25_Parse_j6 s (i : Int) b p v (!r67)) else ref25_Parse_j6 s (i : Int) b p v false))) = some (if isTok v then (if byOk b then viaY p v b (s.drop i) else (zeroV, 2)) else (zeroV, 2) : api_Via × Int) := by
    intro p v hv
    rw [ref01_Token_eq v (by omega), Option.bind_some, ref01_Token_eq b (by omega), Option.bind_some, ref25_comma_eq b (by omega), Option.bind_some, j6, j6, j6]
    unfold byOk
    cases isTok v <;> cases isTok b <;> cases (hostP b).2 == 0 <;> cases b.any ([44, 40, 41] : Str).contains <;> rfl
  match hsp : splitOn 47 w with
  | [] => exact absurd hsp (splitOn_ne 47 w)
  | [v] =>
    have hv : v = w := (splitOn_single hsp).symm ▸ rfl
    have hvw : v = w := by have := splitOn_single hsp; exact this
    rw [hsp] at hmem
    show (ref25_Parse_j5 s (i : Int) b [v] [] w) = _
    unfold ref25_Parse_j5
    rw [ref08_Parse_eq b (by omega), Option.bind_some, show decide ((2 : Int) < (([v] : List Str).length : Int)) = false from rfl, if_neg Bool.false_ne_true, show ((([v] : List Str).length : Int) == 2) = false from rfl, if_neg Bool.false_ne_true, tail [] w (Nat.le_refl _), hvw]
    dsimp only
    cases isTok w <;> rfl
  | [p, v] =>
    rw [hsp] at hmem
    have hp := hmem p (by simp)
    have hv := hmem v (by simp)
    show (ref25_Parse_j5 s (i : Int) b [p, v] p v) = _
    unfold ref25_Parse_j5
    rw [ref08_Parse_eq b (by omega), Option.bind_some, show decide ((2 : Int) < (([p, v] : List Str).length : Int)) = false from rfl, if_neg Bool.false_ne_true, show ((([p, v] : List Str).length : Int) == 2) = true from rfl, if_pos rfl, ref01_Token_eq p (by omega), Option.bind_some, tail p v hv, j6]
    dsimp only
    cases isTok p <;> cases isTok v <;> rfl
  | x :: y :: z :: l =>
    show (if (((x :: y :: z :: l : List Str).length : Int) == 2) = true then _ else _) = _
    have h2 : (((x :: y :: z :: l : List Str).length : Int) == 2) = false := beq_eq_false_iff_ne.2 (by simp only [List.length_cons]; omega)
    rw [h2, if_neg (by decide)]
    unfold ref25_Parse_j5
    rw [ref08_Parse_eq b (by omega), Option.bind_some, decide_eq_true (by simp only [List.length_cons]; omega), if_pos rfl, j6]
    rfl
theorem ref25_Parse_eq (s : Str) (hs : s.length < 300000000) : ref25_Parse s = some (viaS s) := by
  unfold ref25_Parse
  have hu := upto_le [32] s
  -- the second part
  have fin : s.drop (upto [32] s).length ≠ [] → ref25_Parse_L3 s ((upto [32] s).length : Int) fuel (((upto [32] s).length + 1 : Nat) : Int) = some (viaS s) := by
    intro hne
    obtain ⟨u, hdu⟩ : ∃ u, s.drop (upto [32] s).length = 32 :: u := by
      have hd := drop_upto [32] s
      cases hf : from_ [32] s with
      | nil => rw [hd, hf] at hne; exact absurd rfl hne
      | cons c u =>
        have := from_head hf
        have hc : c = 32 := by simpa using this
        rw [hd, hf, hc]; exact ⟨u, rfl⟩
    have hcut : cutOn 32 s = (upto [32] s, u, true) := by
      unfold cutOn
      rw [← drop_upto, hdu]; rfl
    have hlen := congrArg List.length hdu
    simp only [List.length_drop, List.length_cons] at hlen
    have hd1 : s.drop ((upto [32] s).length + 1) = u := by rw [← List.drop_drop, hdu]; rfl
    have huu := upto_le [32] u
    have hv : viaS s = viaC (upto [32] s) (upto [32] u) (from_ [32] u) := by
      unfold viaS viaC
      rw [hcut]
      dsimp only
      rw [Bool.true_and]
      rfl
    rw [hv]
    generalize hW : (upto [32] s).length = W at *
    have key : ∀ (n i : Nat), W + 1 ≤ i → i ≤ W + 1 + (upto [32] u).length → W + 1 + (upto [32] u).length - i < n → ref25_Parse_L3 s (W : Int) n (i : Int) = some (viaC (upto [32] s) (upto [32] u) (from_ [32] u)) := by
      intro n
      induction n with
      | zero => intro i _ _ h; omega
      | succ n ih =>
        intro i hi1 hi h
        rw [ref25_Parse_L3]
        have hgi : ∀ j, s[W + 1 + j]? = u[j]? := fun j => by rw [← hd1, List.getElem?_drop]
        by_cases hlt : i < W + 1 + (upto [32] u).length
        · have g : s[i]? = some ((upto [32] u)[i - (W + 1)]'(by omega)) := by
            have h1 := hgi (i - (W + 1))
            rw [show W + 1 + (i - (W + 1)) = i by omega] at h1
            rw [h1]
            have e := List.getElem?_append_left (l₂ := from_ [32] u) (show i - (W + 1) < (upto [32] u).length by omega)
            rw [upto_from] at e
            rw [e]; exact List.getElem?_eq_getElem _
          have hno := upto_not ((upto [32] u)[i - (W + 1)]'(by omega)) (List.getElem_mem _)
          generalize (upto [32] u)[i - (W + 1)]'(by omega) = c at g hno
          have h1 : (c == 32) = false := by simpa using hno
          have hlt2 := (List.getElem?_eq_some_iff.1 g).1
          unfold ref25_Parse_j4
          rw [decide_eq_true (show (i : Int) < (s.length : Int) by omega), if_pos rfl, sAt_nat, g, Option.bind_some, h1, Bool.not_false, if_pos rfl, iAdd_one (by omega), Option.bind_some]
          exact ih (i + 1) (by omega) (by omega) (by omega)
        · have hie : i = W + 1 + (upto [32] u).length := by omega
          have hdi : s.drop i = from_ [32] u := by rw [hie, ← List.drop_drop, hd1, drop_upto]
          have h0 : s.drop i = [] ∨ ∃ t, s.drop i = 32 :: t := by
            rw [hdi]
            cases hf : from_ [32] u with
            | nil => exact .inl rfl
            | cons c t =>
              have := from_head hf
              have hc : c = 32 := by simpa using this
              exact .inr ⟨t, by rw [hc]⟩
          have hile : i ≤ s.length := by omega
          have hj := via_j4_eq (ref25_Parse_L3 s (W : Int) n) s hs W i (by omega) hile h0
          have hw : s.take W = upto [32] s := by rw [← hW]; exact take_upto [32] s
          have hb : (s.take i).drop (W + 1) = upto [32] u := by
            rw [hie, List.take_add, List.drop_append_of_le_length (by simp; omega), List.drop_of_length_le (by simp; omega), List.nil_append, hd1, take_upto]
          rw [hw, hb, hdi] at hj
          rcases h0 with h0 | ⟨t, h0⟩
          · have : s.length ≤ i := by have := congrArg List.length h0; simp at this; omega
            rw [decide_eq_false (by omega), if_neg (by decide)]
            exact hj
          · have hlt2 : i < s.length := by have := congrArg List.length h0; simp at this; omega
            have g : s[i]? = some 32 := by have := congrArg (·[0]?) h0; simpa using this
            rw [decide_eq_true (by omega), if_pos rfl, sAt_nat, g, Option.bind_some]
            exact hj
    exact key fuel (W + 1) (Nat.le_refl _) (by omega) (by unfold fuel; omega)
  have key : ∀ (n i : Nat), i ≤ (upto [32] s).length → (upto [32] s).length - i < n → ref25_Parse_L1 s n (i : Int) = some (viaS s) := by
    intro n
    induction n with
    | zero => intro i _ h; omega
    | succ n ih =>
      intro i hi h
      rw [ref25_Parse_L1]
      unfold ref25_Parse_j2
      by_cases hlt : i < (upto [32] s).length
      · have g : s[i]? = some (upto [32] s)[i] := by
          have e := List.getElem?_append_left (l₂ := from_ [32] s) hlt
          rw [upto_from] at e; rw [e]; exact List.getElem?_eq_getElem hlt
        have hno := upto_not (upto [32] s)[i] (List.getElem_mem hlt)
        generalize (upto [32] s)[i] = c at g hno
        have h1 : (c == 32) = false := by simpa using hno
        rw [decide_eq_true (show (i : Int) < (s.length : Int) by omega), if_pos rfl, sAt_nat, g, Option.bind_some, h1, Bool.not_false, if_pos rfl, iAdd_one (by omega), Option.bind_some]
        exact ih (i + 1) (by omega) (by omega)
      · have hie : i = (upto [32] s).length := by omega
        subst hie
        by_cases hne : s.drop (upto [32] s).length = []
        · have : (upto [32] s).length = s.length := by have := congrArg List.length hne; simp at this; omega
          rw [decide_eq_false (by omega), if_neg (by decide), if_neg (by decide), this, beq_self_eq_true, if_pos rfl]
          have hc : (cutOn 32 s).2.2 = false := by unfold cutOn; rw [← drop_upto, hne]; rfl
          unfold viaS
          rw [hc, Bool.false_and]
          cases verP (cutOn 32 s).1 <;> rfl
        · have hlt2 : (upto [32] s).length < s.length := by
            have : ¬ (upto [32] s).length = s.length := fun e => hne (by rw [e, List.drop_length])
            omega
          have hne2 : (((upto [32] s).length : Int) == (s.length : Int)) = false := beq_eq_false_iff_ne.2 (by omega)
          have g : s[(upto [32] s).length]? = some 32 := by
            have hd := drop_upto [32] s
            cases hf : from_ [32] s with
            | nil => rw [hd, hf] at hne; exact absurd rfl hne
            | cons c u =>
              have h1 := from_head hf
              have hc : c = 32 := by simpa using h1
              rw [hf, hc] at hd
              have := congrArg (·[0]?) hd
              simpa using this
          rw [decide_eq_true (by omega), if_pos rfl, sAt_nat, g, Option.bind_some, if_neg (by decide), hne2, if_neg (by decide), iAdd_one (by omega), Option.bind_some]
          exact fin hne
  exact key fuel 0 (Nat.zero_le _) (by unfold fuel; omega)
def rawV (v : api_Via) : Str := (if v.Proto == [] then [] else v.Proto ++ [47]) ++ v.Version ++ 32 :: v.By ++ (if v.Comment == [] then [] else [32, 40] ++ v.Comment ++ [41])
def textV (v : api_Via) : Str × Int := if (viaS (rawV v)).2 == 0 && (viaS (rawV v)).1 == v then (rawV v, 0) else ([], 2)
def smallV (v : api_Via) : Prop := v.Proto.length < 10000000 ∧ v.Version.length < 10000000 ∧ v.By.length < 10000000 ∧ v.Comment.length < 10000000
theorem rawV_len {v : api_Via} (h : smallV v) : (rawV v).length < 100000000 := by
  obtain ⟨h1, h2, h3, h4⟩ := h
  unfold rawV
  split <;> split <;> simp <;> omega
theorem quill_flat (l : List Str) (h : l.length < 1000000) (h2 : l.flatten.length < 4000000000) : quill_Join [] l = some l.flatten := quill_Join_nil l h h2
theorem via_Text_eq (v : api_Via) (h : smallV v) : via_Text v = some (textV v) := by
  have hl := rawV_len h
  have j2 : ∀ l : List Str, l.length < 100 → l.flatten = rawV v → via_Text_j2 v l = some (textV v) := by
    intro l h1 h2
    unfold via_Text_j2 via_Text_j3
    rw [quill_flat l (by omega) (by rw [h2]; omega), Option.bind_some, h2, via_Parse_eq _ (by omega), Option.bind_some]
    unfold textV
    cases (viaS (rawV v)).2 == 0 <;> cases (viaS (rawV v)).1 == v <;> rfl
  have j1 : ∀ l : List Str, l.length < 50 → l.flatten = (if v.Proto == [] then [] else v.Proto ++ [47]) ++ v.Version ++ 32 :: v.By → via_Text_j1 v l = some (textV v) := by
    intro l h1 h2
    unfold via_Text_j1
    cases hc : v.Comment == [] with
    | true =>
      rw [Bool.not_true, if_neg (by decide)]
      refine j2 l (by omega) ?_
      unfold rawV
      rw [h2, hc]; simp
    | false =>
      rw [Bool.not_false, if_pos rfl, if_pos (fits_ok (by omega) (by omega))]
      refine j2 _ (by simp; omega) ?_
      unfold rawV
      rw [List.flatten_append, h2, hc]; simp
  unfold via_Text
  cases hp : v.Proto == [] with
  | true =>
    rw [Bool.not_true, if_neg (by decide)]
    exact j1 _ (by simp) (by rw [hp]; simp)
  | false =>
    rw [Bool.not_false, if_pos rfl, if_pos (fits_ok (by simp) (by simp))]
    exact j1 _ (by simp) (by rw [hp]; simp)
theorem ref25_Text_eq (v : api_Via) (h : smallV v) : ref25_Text v = some (textV v) := by
  have hl := rawV_len h
  obtain ⟨h1, h2, h3, h4⟩ := h
  have j2 : ref25_Text_j2 v (rawV v) = some (textV v) := by
    unfold ref25_Text_j2 ref25_Text_j3
    rw [ref25_Parse_eq _ (by omega), Option.bind_some]
    unfold textV
    cases (viaS (rawV v)).2 == 0 <;> cases (viaS (rawV v)).1 == v <;> rfl
  have j1 : ∀ u : Str, u.length < 50000000 → u = (if v.Proto == [] then [] else v.Proto ++ [47]) ++ v.Version ++ 32 :: v.By → ref25_Text_j1 v u = some (textV v) := by
    intro u hu he
    unfold ref25_Text_j1
    rw [sCat_ok (by simp; omega), Option.bind_some, sCat_ok (by simp; omega), Option.bind_some, sCat_ok (by simp; omega), Option.bind_some]
    unfold rawV at j2
    rw [← he] at j2
    cases hc : v.Comment == [] with
    | true => rw [hc, if_pos rfl, List.append_nil] at j2; rw [Bool.not_true, if_neg (by decide)]; exact j2
    | false =>
      rw [hc, if_neg Bool.false_ne_true] at j2
      rw [Bool.not_false, if_pos rfl]
      have e : u ++ [32, 40] ++ v.Comment ++ [41] = u ++ ([32, 40] ++ v.Comment ++ [41]) := by simp
      rw [e]; exact j2
  unfold ref25_Text
  rw [sCat_ok (by simp; omega), Option.bind_some, sCat_ok (by simp; omega), Option.bind_some]
  cases hp : v.Proto == [] with
  | true =>
    rw [Bool.not_true, if_neg (by decide)]
    exact j1 _ (by simp; omega) (by rw [hp]; simp)
  | false =>
    rw [Bool.not_false, if_pos rfl, sCat_ok (by simp; omega), Option.bind_some, sCat_ok (by simp; omega), Option.bind_some]
    exact j1 _ (by simp; omega) (by rw [hp]; simp)
theorem law25_awake_eq : law25_awake = some true := by decide +kernel
def cutV (v : api_Via) : api_Via := ⟨v.Proto.take 60, v.Version.take 60, v.By.take 60, v.Comment.take 60⟩
theorem law25_few_eq (v : api_Via) : law25_few v = some (cutV v) := by
  unfold law25_few
  have cut : ∀ s : Str, sTo s (min (s.length : Int) 60) = some (s.take 60) := fun s => by
    have := sTo_min s 60
    rwa [show ((60 : Nat) : Int) = 60 from rfl] at this
  have st : ∀ (n : Nat) (a b c d : Str) (i : Nat) (x : Str) (r : Str × Str × Str × Str), i < 4 → lAt [a, b, c, d] (i : Int) = some x → ((lSet [a, b, c, d] (i : Int) (x.take 60)).bind tup4) = some r → law25_few_L1 (n + 1) a b c d (i : Int) = law25_few_L1 n r.1 r.2.1 r.2.2.1 r.2.2.2 ((i + 1 : Nat) : Int) := by
    intro n a b c d i x r hi hx hr
    rw [law25_few_L1, decide_eq_true (show (i : Int) < 4 by omega), if_pos rfl, hx, Option.bind_some, Option.bind_some, cut, Option.bind_some, Option.bind_some, hr, Option.bind_some, iAdd_one (by omega), Option.bind_some]
  rw [show fuel = 999999999999999995 + 1 + 1 + 1 + 1 + 1 from rfl, show (0 : Int) = ((0 : Nat) : Int) from rfl,
    st _ _ _ _ _ 0 v.Proto (v.Proto.take 60, v.Version, v.By, v.Comment) (by decide) rfl rfl,
    st _ _ _ _ _ 1 v.Version (v.Proto.take 60, v.Version.take 60, v.By, v.Comment) (by decide) rfl rfl,
    st _ _ _ _ _ 2 v.By (v.Proto.take 60, v.Version.take 60, v.By.take 60, v.Comment) (by decide) rfl rfl,
    st _ _ _ _ _ 3 v.Comment (v.Proto.take 60, v.Version.take 60, v.By.take 60, v.Comment.take 60) (by decide) rfl rfl]
  rw [law25_few_L1, decide_eq_false (by decide), if_neg (by decide)]
  rfl
theorem cutV_small (v : api_Via) : smallV (cutV v) := by
  unfold cutV
  exact ⟨by simp; omega, by simp; omega, by simp; omega, by simp; omega⟩
theorem textV_ok {v : api_Via} (h : ((textV v).2 == 0) = true) : textV v = (rawV v, 0) ∧ viaS (rawV v) = (v, 0) := by
  unfold textV at h ⊢
  split at h
  · rename_i hc
    rw [if_pos hc]
    simp only [Bool.and_eq_true, beq_iff_eq] at hc
    refine ⟨rfl, ?_⟩
    exact Prod.ext hc.2 hc.1
  · cases h
theorem ViaWrites_true (v : api_Via) : law25_ViaWrites v = some true := by
  unfold law25_ViaWrites law25_ViaWrites_j1
  rw [law25_awake_eq, Option.bind_some, Bool.not_true, if_neg (by decide), law25_few_eq, Option.bind_some]
  have hs := cutV_small v
  generalize cutV v = v at hs
  have hr := rawV_len hs
  have htl : (textV v).1.length ≤ (rawV v).length := by
    unfold textV
    split
    · exact Nat.le_refl _
    · simp
  rw [via_Text_eq v hs, Option.bind_some, ref25_Text_eq v hs, Option.bind_some, via_Parse_eq _ (by omega), Option.bind_some, beq_self_eq_true, if_pos rfl, beq_self_eq_true, if_pos rfl]
  cases he : (textV v).2 == 0 with
  | false => rfl
  | true =>
    obtain ⟨e1, e2⟩ := textV_ok he
    rw [e1]
    dsimp only
    rw [e2]
    simp
end Go.Dm
