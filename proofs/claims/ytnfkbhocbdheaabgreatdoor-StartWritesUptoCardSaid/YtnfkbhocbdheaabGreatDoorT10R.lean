/-
  Targets: the document's, as the program's.
-/
import Derived.Test.YtnfkbhocbdheaabGreatDoorT10O
namespace Go.Dm
theorem ref09_Mark_eq (s : Str) (hs : s.length < 1000000000) : ref09_Mark s = some ((upto [63] s).length : Int) := by
  unfold ref09_Mark
  have key : ∀ (n i : Nat), i ≤ s.length → s.length - i < n → ref09_Mark_L1 s n (i : Int) = some ((i + (upto [63] (s.drop i)).length : Nat) : Int) := by
    intro n
    induction n with
    | zero => intro i _ h; omega
    | succ n ih =>
      intro i hi h
      rw [ref09_Mark_L1]
      unfold ref09_Mark_j2
      rw [iAdd_one (by omega), Option.bind_some]
      by_cases hlt : i < s.length
      · have g : s[i]? = some s[i] := List.getElem?_eq_getElem hlt
        rw [decide_eq_true (show (i : Int) < (s.length : Int) by omega), if_pos rfl, sAt_nat, g, Option.bind_some, ih (i + 1) (by omega) (by omega), List.drop_eq_getElem_cons hlt]
        by_cases hc : s[i] = 63
        · have h1 : (s[i] == 63) = true := by simp [hc]
          rw [h1, if_neg (by decide), upto_cons_t (by simp [hc])]; rfl
        · have h1 : (s[i] == 63) = false := beq_eq_false_iff_ne.2 hc
          rw [h1, Bool.not_false, if_pos rfl, upto_cons_f (by simp [hc])]
          congr 2
          simp only [List.length_cons]; omega
      · have : i = s.length := by omega
        subst this
        rw [decide_eq_false (show ¬ ((s.length : Int) < (s.length : Int)) by omega), if_neg (by decide), List.drop_length]
        rfl
  have := key fuel 0 (Nat.zero_le _) (by unfold fuel; omega)
  rw [List.drop_zero, Nat.zero_add] at this
  exact this
theorem ref10_origin_eq (t : api_Target) (s : Str) (hq : t.Query = []) (hs : s.length < 900000000) : ref10_origin t s =
    some (⟨t.Kind, t.Scheme, t.Host, (cutOn 63 s).1, (cutOn 63 s).2.1, (cutOn 63 s).2.2⟩, pathOk (cutOn 63 s).1 && queryOk (cutOn 63 s).2.1) := by
  unfold ref10_origin
  have hu := upto_le [63] s
  have hl := cutOn_len 63 s
  have e1 : (cutOn 63 s).1 = upto [63] s := rfl
  rw [ref09_Mark_eq s (by omega), Option.bind_some, sTo_nat hu, Option.bind_some, take_upto]
  have hj : ∀ q : Str, q.length < 900000000 → ref10_origin_j1 t s ((upto [63] s).length : Int) (upto [63] s) q = some (⟨t.Kind, t.Scheme, t.Host, upto [63] s, q, decide ((upto [63] s).length < s.length)⟩, pathOk (upto [63] s) && queryOk q) := by
    intro q hq
    unfold ref10_origin_j1 ref10_origin_j2
    rw [ref09_Path_eq _ (by omega), Option.bind_some, ref09_Query_eq q (by omega), Option.bind_some]
    have : decide (((upto [63] s).length : Int) < (s.length : Int)) = decide ((upto [63] s).length < s.length) := decide_eq_decide.2 (by omega)
    rw [this]
    cases pathOk (upto [63] s) <;> rfl
  by_cases h0 : from_ [63] s = []
  · have hn := (from_nil_iff _ _).1 h0
    have hc : (cutOn 63 s).2.2 = false := by unfold cutOn; rw [h0]; rfl
    rw [decide_eq_false (by omega), if_neg (by decide), hj _ (by rw [hq]; simp), hq, cutOn_none 63 s hc, decide_eq_false (by omega)]
    have : upto [63] s = s := by have := upto_from [63] s; rw [h0, List.append_nil] at this; exact this
    rw [this]
  · have hn : (upto [63] s).length < s.length := by
      have : ¬ (upto [63] s).length = s.length := fun h => h0 ((from_nil_iff _ _).2 h)
      omega
    have hc : (cutOn 63 s).2.2 = true := by unfold cutOn; simp [h0]
    have hd : s.drop ((upto [63] s).length + 1) = (cutOn 63 s).2.1 := by rw [← List.drop_drop, drop_upto]; rfl
    rw [decide_eq_true (by omega), if_pos rfl, iAdd_one (by omega), Option.bind_some, sFrom_nat (by omega), Option.bind_some, hd, hj _ (by omega), decide_eq_true hn, hc, e1]
theorem low_colon (c : UInt8) : (cLower c == 58) = (c == 58) :=
  eq_of_beq (all_bytes (fun c => (cLower c == 58) == (c == 58)) (by decide +kernel) c)
theorem low_slash (c : UInt8) : (cLower c == 47) = (c == 47) :=
  eq_of_beq (all_bytes (fun c => (cLower c == 47) == (c == 47)) (by decide +kernel) c)
theorem cutAt_first {c : UInt8} {t : Str} : ∀ {a b : Str}, c ∉ a → cutAt (c :: t) (a ++ (c :: t) ++ b) = some (a, b)
  | [], b, _ => by
    show cutAt (c :: t) (c :: (t ++ b)) = _
    rw [cutAt, if_pos (by simp [List.isPrefixOf_iff_prefix])]
    simp
  | x :: a, b, h => by
    have hx : c ≠ x := fun e => h (by simp [e])
    show cutAt (c :: t) (x :: (a ++ (c :: t) ++ b)) = _
    have hp : (c :: t).isPrefixOf (x :: (a ++ (c :: t) ++ b)) = false := by
      rw [List.isPrefixOf_cons_cons, beq_eq_false_iff_ne.2 hx, Bool.false_and]
    rw [cutAt, hp, if_neg (by decide), cutAt_first (fun hm => h (by simp [hm]))]
    rfl
theorem low_append (a b : Str) : low (a ++ b) = low a ++ low b := by simp [low]
theorem low_sep {u : Str} (h : low u = [58, 47, 47]) : u = [58, 47, 47] := by
  match u, h with
  | [a, b, c], h =>
    simp only [low, List.map_cons, List.map_nil, List.cons.injEq, and_true] at h
    obtain ⟨h1, h2, h3⟩ := h
    have g1 : a = 58 := by have := low_colon a; rw [h1] at this; simpa using this.symm
    have g2 : b = 47 := by have := low_slash b; rw [h2] at this; simpa using this.symm
    have g3 : c = 47 := by have := low_slash c; rw [h3] at this; simpa using this.symm
    rw [g1, g2, g3]
  | [], h => simp [low] at h
  | [_], h => simp [low] at h
  | [_, _], h => simp [low] at h
  | _ :: _ :: _ :: _ :: _, h => simp [low] at h
/-- A text begins with a scheme just if it is cut behind it. -/
theorem scheme_iff (sc s : Str) (hsc : (58 : UInt8) ∉ sc) : (sc.length + 3 ≤ s.length ∧ low (s.take (sc.length + 3)) = sc ++ [58, 47, 47]) ↔ ∃ a, cutAt [58, 47, 47] s = some (a, s.drop (sc.length + 3)) ∧ low a = sc := by
  constructor
  · rintro ⟨h1, h2⟩
    have e : s = s.take sc.length ++ (s.drop sc.length).take 3 ++ s.drop (sc.length + 3) := by
      rw [List.append_assoc, ← List.drop_drop, List.take_append_drop, List.take_append_drop]
    have e2 : s.take (sc.length + 3) = s.take sc.length ++ (s.drop sc.length).take 3 := List.take_add
    rw [e2, low_append] at h2
    obtain ⟨g1, g2⟩ := List.append_inj h2 (by simp [low]; omega)
    have g3 := low_sep g2
    have hn : (58 : UInt8) ∉ s.take sc.length := fun hm => by
      have : (58 : UInt8) ∈ low (s.take sc.length) := List.mem_map.2 ⟨58, hm, by decide⟩
      rw [g1] at this; exact hsc this
    refine ⟨s.take sc.length, ?_, g1⟩
    have := cutAt_first (t := [47, 47]) (b := s.drop (sc.length + 3)) hn
    rw [← g3, ← e, g3] at this
    exact this
  · rintro ⟨a, h1, h2⟩
    have e := cutAt_some h1
    have hal : a.length = sc.length := by rw [← h2]; simp [low]
    have hl : sc.length + 3 ≤ s.length := by have := congrArg List.length e; simp at this; omega
    refine ⟨hl, ?_⟩
    have : s.take (sc.length + 3) = a ++ [58, 47, 47] := by
      rw [e, List.take_left']
      simp [hal]
    rw [this, low_append, h2]
    rfl
def whole2 (r : api_Target × Bool) : api_Target × Int := if r.2 then (r.1, 0) else (zeroT, 20)
def finishT (sc r : Str) : api_Target × Int := if (hostP (upto [47, 63] r)).2 == 0 then whole2 (tailT ⟨2, sc, (hostP (upto [47, 63] r)).1, [], [], false⟩ (from_ [47, 63] r)) else (zeroT, 20)
theorem cutOn_q (q : Str) : cutOn 63 (47 :: 63 :: q) = ([47], q, true) := by
  unfold cutOn
  rw [upto_cons_f (by decide), from_cons_f (by decide), upto_cons_t (by decide), from_cons_t (by decide)]
  rfl
theorem cutQ_q (q : Str) : cutQ (47 :: 63 :: q) = if queryOk q then ([47], q, true, 0) else ([], [], false, 2) := by
  unfold cutQ
  rw [cutOn_q]
  have : pathOk [47] = true := by decide
  rw [this, Bool.true_and]
theorem ref10_j6_eq (rec5 : Int → Option (api_Target × Int)) (sc r : Str) (hr : r.length < 300000000) : ref10_Parse_j6 rec5 sc r ((upto [47, 63] r).length : Int) false = some (finishT sc r) := by
  unfold ref10_Parse_j6 finishT
  have hu := upto_le [47, 63] r
  rw [if_neg (by decide), sTo_nat hu, Option.bind_some, take_upto, ref08_Parse_eq _ (by omega), Option.bind_some]
  cases (hostP (upto [47, 63] r)).2 == 0 with
  | false => rfl
  | true =>
    rw [Bool.not_true, if_neg (by decide), if_pos rfl]
    cases hf : from_ [47, 63] r with
    | nil =>
      have hn := (from_nil_iff _ _).1 hf
      rw [hn, beq_self_eq_true, if_pos rfl]
      rfl
    | cons c t =>
      have hne : from_ [47, 63] r ≠ [] := by rw [hf]; simp
      have hlt : (upto [47, 63] r).length < r.length := by
        have : ¬ (upto [47, 63] r).length = r.length := fun h => hne ((from_nil_iff _ _).2 h)
        omega
      have hd := drop_upto [47, 63] r
      rw [hf] at hd
      have g : r[(upto [47, 63] r).length]? = some c := by have := congrArg (·[0]?) hd; simpa using this
      have hd1 : r.drop ((upto [47, 63] r).length + 1) = t := by rw [← List.drop_drop, hd]; rfl
      have htl : (c :: t).length ≤ r.length := by rw [← hd]; simp
      simp only [List.length_cons] at htl
      have hbe : (((upto [47, 63] r).length : Int) == (r.length : Int)) = false := beq_eq_false_iff_ne.2 (by omega)
      rw [hbe, if_neg (by decide), sAt_nat, g, Option.bind_some, iAdd_one (by omega), Option.bind_some, sFrom_nat (by omega), Option.bind_some, hd1, ref09_Query_eq t (by omega), Option.bind_some, sFrom_nat hu, Option.bind_some, hd, ref10_origin_eq _ _ rfl (by simp only [List.length_cons]; omega), Option.bind_some]
      unfold ref10_Parse_j7 tailT whole2
      have hne2 : c :: t ≠ [] := by simp
      rw [if_neg hne2, List.head?_cons, Option.some_beq_some]
      cases hc : c == 63 with
      | true =>
        have : c = 63 := by simpa using hc
        subst this
        simp only [if_true]
        rw [cutQ_q]
        cases queryOk t <;> rfl
      | false =>
        simp only [Bool.false_eq_true, if_false]
        unfold cutQ
        cases pathOk (cutOn 63 (c :: t)).1 && queryOk (cutOn 63 (c :: t)).2.1 <;> rfl
theorem ref10_L5_eq (sc r : Str) (hr : r.length < 300000000) : ref10_Parse_L5 sc r fuel 0 = some (finishT sc r) := by
  have hu := upto_le [47, 63] r
  have key : ∀ (n i : Nat), i ≤ (upto [47, 63] r).length → (upto [47, 63] r).length - i < n → ref10_Parse_L5 sc r n (i : Int) = some (finishT sc r) := by
    intro n
    induction n with
    | zero => intro i _ h; omega
    | succ n ih =>
      intro i hi h
      rw [ref10_Parse_L5]
      by_cases hlt : i < (upto [47, 63] r).length
      · have g : r[i]? = some (upto [47, 63] r)[i] := by
          have e := List.getElem?_append_left (l₂ := from_ [47, 63] r) hlt
          rw [upto_from] at e; rw [e]; exact List.getElem?_eq_getElem hlt
        have hno := upto_not (upto [47, 63] r)[i] (List.getElem_mem hlt)
        generalize (upto [47, 63] r)[i] = c at g hno
        have h1 : (c == 47) = false := by simp at hno; simp [hno.1]
        have h2 : (c == 63) = false := by simp at hno; simp [hno.2]
        rw [decide_eq_true (show (i : Int) < (r.length : Int) by omega), if_pos rfl, sAt_nat, g, Option.bind_some, Option.bind_some, h1, h2, Bool.not_false, if_pos rfl]
        unfold ref10_Parse_j6
        rw [if_pos rfl, iAdd_one (by omega), Option.bind_some]
        exact ih (i + 1) (by omega) (by omega)
      · have : i = (upto [47, 63] r).length := by omega
        subst this
        rw [ref10_j6_eq _ sc r hr]
        cases hf : from_ [47, 63] r with
        | nil =>
          have hn := (from_nil_iff _ _).1 hf
          rw [decide_eq_false (by omega), if_neg (by decide)]
        | cons c t =>
          have hd := drop_upto [47, 63] r
          rw [hf] at hd
          have g : r[(upto [47, 63] r).length]? = some c := by have := congrArg (·[0]?) hd; simpa using this
          have hlt : (upto [47, 63] r).length < r.length := by have := congrArg List.length hd; simp at this; omega
          have hin := from_head hf
          rw [decide_eq_true (by omega), if_pos rfl, sAt_nat, g, Option.bind_some, Option.bind_some]
          rcases bcase (c == 47) with h1 | h1
          · rw [h1]; rfl
          · have h2 : (c == 63) = true := by simp at hin h1 ⊢; rcases hin with h | h; exact absurd h h1; exact h
            rw [h1, h2, Bool.not_true, ref10_j6_eq _ sc r hr]; rfl
  exact key fuel 0 (Nat.zero_le _) (by unfold fuel; omega)
def hasScheme (sc s : Str) : Bool := decide (sc.length + 3 ≤ s.length) && low (s.take (sc.length + 3)) == sc ++ [58, 47, 47]
theorem hasScheme_iff (sc s : Str) (hsc : (58 : UInt8) ∉ sc) : hasScheme sc s = true ↔ ∃ a, cutAt [58, 47, 47] s = some (a, s.drop (sc.length + 3)) ∧ low a = sc := by
  rw [← scheme_iff sc s hsc]
  unfold hasScheme
  simp
theorem L3_step (n i : Nat) (s x : Str) (hx : lAt [[104, 116, 116, 112], [104, 116, 116, 112, 115]] (i : Int) = some x) (hi : i < 2) (hl : x.length < 10) (hs : s.length < 300000000) :
    ref10_Parse_L3 (n + 1) s (i : Int) = if hasScheme x s = true then some (finishT x (s.drop (x.length + 3))) else ref10_Parse_L3 n s ((i + 1 : Nat) : Int) := by
  rw [ref10_Parse_L3]
  have e3 : iAdd (x.length : Int) 3 = some ((x.length + 3 : Nat) : Int) := by rw [iAdd_ok (by omega) (by omega)]; simp
  show (if decide ((i : Int) < 2) = true then (lAt [[104, 116, 116, 112], [104, 116, 116, 112, 115]] (i : Int)).bind _ else _) = _
  rw [decide_eq_true (show (i : Int) < 2 by omega), if_pos rfl, hx, Option.bind_some, e3, Option.bind_some]
  unfold hasScheme ref10_Parse_j4
  rw [iAdd_one (by omega), Option.bind_some]
  by_cases hlt : x.length + 3 ≤ s.length
  · have e4 : decide ((s.length : Int) < ((x.length + 3 : Nat) : Int)) = false := decide_eq_false (by omega)
    rw [e4, if_neg (by decide), decide_eq_true hlt, sTo_nat hlt, Option.bind_some, ref01_Fold_eq _ (by simp; omega), Option.bind_some, sCat_ok (by simp; omega), Option.bind_some, sFrom_nat hlt, Option.bind_some, ref10_L5_eq x _ (by simp; omega), Bool.true_and]
    cases low (s.take (x.length + 3)) == x ++ [58, 47, 47] <;> rfl
  · have e4 : decide ((s.length : Int) < ((x.length + 3 : Nat) : Int)) = true := decide_eq_true (by omega)
    rw [e4, if_pos rfl, if_pos rfl, decide_eq_false hlt]
    rfl
theorem finish_abs (a r : Str) (sc : Str) (h : low a = sc) : whole2 (if (hostP (upto [47, 63] r)).2 == 0 then tailT ⟨2, low a, (hostP (upto [47, 63] r)).1, [], [], false⟩ (from_ [47, 63] r) else (⟨2, low a, ⟨0, [], 0⟩, [], [], false⟩, false)) = finishT sc r := by
  unfold finishT
  rw [h]
  cases (hostP (upto [47, 63] r)).2 == 0 <;> rfl
theorem ref10_L3_eq (s : Str) (hs : s.length < 300000000) : ref10_Parse_L3 fuel s 0 = some (whole2 (absT s)) := by
  have hf : fuel = 999999999999999997 + 1 + 1 + 1 := rfl
  have s1 := L3_step (999999999999999997 + 1 + 1) 0 s httpS rfl (by decide) (by decide) hs
  have s2 := L3_step (999999999999999997 + 1) 1 s httpsS rfl (by decide) (by decide) hs
  have s3 : ref10_Parse_L3 (999999999999999997 + 1) s ((1 + 1 : Nat) : Int) = some (zeroT, 20) := by rw [ref10_Parse_L3]; rfl
  have h1 := hasScheme_iff httpS s (by decide)
  have h2 := hasScheme_iff httpsS s (by decide)
  rw [hf, show (0 : Int) = ((0 : Nat) : Int) from rfl, s1, s2, s3]
  unfold absT
  cases hc : cutAt [58, 47, 47] s with
  | none =>
    rw [hc] at h1 h2
    have g1 : ¬ hasScheme httpS s = true := fun h => by obtain ⟨a, ha, _⟩ := h1.1 h; cases ha
    have g2 : ¬ hasScheme httpsS s = true := fun h => by obtain ⟨a, ha, _⟩ := h2.1 h; cases ha
    rw [if_neg g1, if_neg g2]
    rfl
  | some p =>
    rw [hc] at h1 h2
    dsimp only
    have hp : ∀ sc : Str, low p.1 = sc → p.2 = s.drop (sc.length + 3) := fun sc h => by
      have e := cutAt_some (a := p.1) (b := p.2) hc
      have hal : p.1.length = sc.length := by rw [← h]; simp [low]
      rw [e, ← hal, List.drop_left']
      simp
    by_cases c1 : low p.1 = httpS
    · have g1 : hasScheme httpS s = true := h1.2 ⟨p.1, by rw [← hp _ c1], c1⟩
      rw [if_pos g1, c1]
      have := finish_abs p.1 p.2 httpS c1
      rw [c1] at this
      rw [if_pos (by decide), this, hp _ c1]
    · have g1 : ¬ hasScheme httpS s = true := fun h => by obtain ⟨a, ha, hb⟩ := h1.1 h; cases ha; exact c1 hb
      rw [if_neg g1]
      by_cases c2 : low p.1 = httpsS
      · have g2 : hasScheme httpsS s = true := h2.2 ⟨p.1, by rw [← hp _ c2], c2⟩
        have := finish_abs p.1 p.2 httpsS c2
        rw [c2] at this
        rw [if_pos g2, c2, if_pos (by decide), this, hp _ c2]
      · have g2 : ¬ hasScheme httpsS s = true := fun h => by obtain ⟨a, ha, hb⟩ := h2.1 h; cases ha; exact c2 hb
        rw [if_neg g2, if_neg (by simp [c1, c2])]
        rfl
theorem slash_abs {s : Str} (h : ([47] : Str).isPrefixOf s = true) : (absT s).2 = false := by
  obtain ⟨r, hr⟩ := List.isPrefixOf_iff_prefix.1 h
  unfold absT
  cases hc : cutAt [58, 47, 47] s with
  | none => rfl
  | some p =>
    have e := cutAt_some (a := p.1) (b := p.2) hc
    have hh : low p.1 ≠ httpS ∧ low p.1 ≠ httpsS := by
      cases hp : p.1 with
      | nil => exact ⟨by decide, by decide⟩
      | cons c t =>
        rw [hp, ← hr] at e
        have : c = 47 := by simp at e; exact e.1.symm
        subst this
        exact ⟨by simp [low, httpS, cLower], by simp [low, httpsS, cLower]⟩
    dsimp only
    rw [if_neg (by simp [hh.1, hh.2])]
theorem origin_tail (s : Str) (h : ([47] : Str).isPrefixOf s = true) : tailT plainT s = (if pathOk (cutOn 63 s).1 && queryOk (cutOn 63 s).2.1 then ((⟨1, [], ⟨0, [], 0⟩, (cutOn 63 s).1, (cutOn 63 s).2.1, (cutOn 63 s).2.2⟩ : api_Target), true) else (⟨1, [], ⟨0, [], 0⟩, [], [], false⟩, false)) := by
  obtain ⟨r, hr⟩ := List.isPrefixOf_iff_prefix.1 h
  subst hr
  unfold tailT
  rw [if_neg (by simp)]
  have hh : (([47] ++ r : Str).head? == some 63) = false := rfl
  rw [hh]
  simp only [Bool.false_eq_true, if_false]
  unfold cutQ
  cases pathOk (cutOn 63 ([47] ++ r)).1 && queryOk (cutOn 63 ([47] ++ r)).2.1 <;> rfl
theorem path_slash {s : Str} (h : ([47] : Str).isPrefixOf s = false) : pathOk (cutOn 63 s).1 = false := by
  rcases bcase (pathOk (cutOn 63 s).1) with h1 | h1
  · obtain ⟨r, hr⟩ := pathOk_slash h1
    have ht := cutOn_text 63 s
    rw [hr] at ht
    rw [← ht] at h
    simp at h
  · exact h1
theorem whole2_false {r : api_Target × Bool} (h : r.2 = false) : whole2 r = (zeroT, 20) := by unfold whole2; rw [h]; rfl
theorem ref10_j2_false (s : Str) (hs : s.length < 300000000) : ref10_Parse_j2 s false = some (if ([47] : Str).isPrefixOf s then whole2 (tailT plainT s) else whole2 (absT s)) := by
  unfold ref10_Parse_j2
  rw [if_neg (by decide), ref10_origin_eq _ _ rfl (by omega), Option.bind_some, ref10_L3_eq s hs]
  dsimp only
  cases h : ([47] : Str).isPrefixOf s with
  | true =>
    rw [if_pos rfl, origin_tail s h]
    cases pathOk (cutOn 63 s).1 && queryOk (cutOn 63 s).2.1 with
    | true => rfl
    | false =>
      rw [whole2_false (slash_abs h)]
      rfl
  | false =>
    rw [path_slash h, Bool.false_and, if_neg (by decide), if_neg (by decide)]
theorem ref10_Parse_eq (m s : Str) (hs : s.length < 300000000) : ref10_Parse m s = some (parseT m s) := by
  unfold ref10_Parse parseT ref10_Parse_j1
  rw [ref08_Parse_eq s (by omega), Option.bind_some]
  show (if (m == connectS) = true then _ else _) = _
  cases hm : m == connectS with
  | true =>
    rw [if_pos rfl, if_pos rfl]
    cases (hostP s).2 == 0 <;> cases decide ((hostP s).1.Port < 0) <;> rfl
  | false =>
    show (if (s == [42]) = true then ref10_Parse_j2 s (m == optionsS) else ref10_Parse_j2 s false) = some (whole2 (ofT m s))
    rw [ref10_j2_false s hs]
    unfold ofT
    cases h : s == [42] with
    | true =>
      have : s = [42] := by simpa using h
      subst this
      cases m == optionsS with
      | true => rfl
      | false => rw [if_pos rfl, ref10_j2_false [42] (by decide)]; rfl
    | false =>
      cases ([47] : Str).isPrefixOf s <;> rfl

end Go.Dm
