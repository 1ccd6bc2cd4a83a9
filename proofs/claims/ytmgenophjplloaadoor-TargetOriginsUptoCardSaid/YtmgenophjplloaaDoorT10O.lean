/-
  What is sent on of a target: without the document.
-/
import Derived.Test.YtmgenophjplloaaDoorT10
namespace Go.Dm
theorem cutQ_ok {s : Str} (h : ((cutQ s).2.2.2 == 0) = true) : cutQ s = ((cutOn 63 s).1, (cutOn 63 s).2.1, (cutOn 63 s).2.2, 0) ∧ pathOk (cutOn 63 s).1 = true := by
  unfold cutQ at h ⊢
  split
  · rename_i h2
    simp only [Bool.and_eq_true] at h2
    exact ⟨rfl, h2.1⟩
  · rename_i h2
    rw [if_neg h2] at h
    exact absurd h Bool.false_ne_true
theorem cutOn_text (c : UInt8) (s : Str) : (cutOn c s).1 ++ (if (cutOn c s).2.2 = true then c :: (cutOn c s).2.1 else []) = s := by
  rcases bcase (cutOn c s).2.2 with h | h
  · rw [if_pos h]; exact cutOn_join c s h
  · rw [if_neg (by rw [h]; decide), cutOn_none c s h, List.append_nil]
theorem pathOk_slash {s : Str} (h : pathOk s = true) : ∃ r, s = 47 :: r := by
  unfold pathOk at h
  simp only [Bool.and_eq_true] at h
  obtain ⟨r, hr⟩ := List.isPrefixOf_iff_prefix.1 h.1
  exact ⟨r, hr.symm⟩
def plainT : api_Target := ⟨1, [], ⟨0, [], 0⟩, [], [], false⟩
/-- A text that begins with a slash, and may be cut, sends itself on. -/
theorem slash_back {s : Str} (h : ((cutQ s).2.2.2 == 0) = true) : ∃ r, s = 47 :: r ∧ tailT plainT s = (⟨1, [], ⟨0, [], 0⟩, (cutOn 63 s).1, (cutOn 63 s).2.1, (cutOn 63 s).2.2⟩, true) ∧
    originOf ⟨1, [], ⟨0, [], 0⟩, (cutOn 63 s).1, (cutOn 63 s).2.1, (cutOn 63 s).2.2⟩ = s := by
  obtain ⟨e, hp⟩ := cutQ_ok h
  obtain ⟨r, hr⟩ := pathOk_slash hp
  have ht := cutOn_text 63 s
  have hs : ∃ r, s = 47 :: r := by rw [hr] at ht; exact ⟨_, ht.symm⟩
  obtain ⟨r', hs⟩ := hs
  refine ⟨r', hs, ?_, ?_⟩
  · have hne : s ≠ [] := by rw [hs]; simp
    have hh : (s.head? == some 63) = false := by rw [hs]; rfl
    unfold tailT
    rw [if_neg hne, hh]
    simp only [Bool.false_eq_true, if_false]
    rw [e]
    rfl
  · unfold originOf
    have h0 : ((cutOn 63 s).1 == []) = false := by rw [hr]; rfl
    show (if ((1 : Int) == 4) = true then _ else if ((1 : Int) == 3) = true then _ else _) = _
    rw [if_neg (by decide), if_neg (by decide)]
    dsimp only
    rw [h0, if_neg (by decide)]
    exact ht
theorem tail_back {t0 : api_Target} {s : Str} (h3 : (t0.Kind == 3) = false) (h4 : (t0.Kind == 4) = false) (hp : t0.Path = []) (hq : t0.Query = []) (hh : t0.HasQuery = false) (h : (tailT t0 s).2 = true) :
    ∃ r t', originOf (tailT t0 s).1 = 47 :: r ∧ tailT plainT (47 :: r) = (t', true) ∧ t'.Kind = 1 ∧ t'.Query = (tailT t0 s).1.Query ∧ t'.HasQuery = (tailT t0 s).1.HasQuery ∧ originOf t' = 47 :: r ∧
      r.length ≤ s.length ∧ (tailT t0 s).1.Kind = t0.Kind ∧ (tailT t0 s).1.Path.length ≤ s.length ∧ (tailT t0 s).1.Query.length ≤ s.length + 1 ∧ t'.Path.length ≤ s.length + 1 ∧ t'.Query.length ≤ s.length + 1 := by
  by_cases h0 : s = []
  · subst h0
    have e : tailT t0 [] = (t0, true) := rfl
    rw [e]
    have eo : originOf t0 = [47] := by unfold originOf; rw [h3, h4, hp, hh]; rfl
    exact ⟨[], ⟨1, [], ⟨0, [], 0⟩, [47], [], false⟩, eo, by decide +kernel, rfl, hq.symm, hh.symm, by decide +kernel, Nat.le_refl _, rfl, by rw [hp]; simp, by rw [hq]; simp, by simp, by simp⟩
  · unfold tailT at h ⊢
    rw [if_neg h0] at h
    rw [if_neg h0]
    dsimp only at h ⊢
    cases hc : s.head? == some 63 with
    | false =>
      rw [hc, if_neg (by decide)] at h
      obtain ⟨r, hs, e1, e2⟩ := slash_back h
      obtain ⟨e, hpk⟩ := cutQ_ok h
      obtain ⟨r2, hr2⟩ := pathOk_slash hpk
      have hl := cutOn_len 63 s
      simp only [Bool.false_eq_true, if_false]
      rw [e]
      have eo : originOf ⟨t0.Kind, t0.Scheme, t0.Host, (cutOn 63 s).1, (cutOn 63 s).2.1, (cutOn 63 s).2.2⟩ = s := by
        unfold originOf
        dsimp only
        have hne : ((cutOn 63 s).1 == []) = false := by rw [hr2]; rfl
        rw [h3, h4, if_neg (by decide), if_neg (by decide), hne, if_neg (by decide)]
        exact cutOn_text 63 s
      refine ⟨r, _, by rw [← hs]; exact eo, by rw [← hs]; exact e1, by first | rfl | trivial, by first | rfl | trivial, by first | rfl | trivial, by rw [← hs]; exact e2, by rw [hs]; simp, by first | rfl | trivial, hl.1, by dsimp only; omega, by dsimp only; omega, by dsimp only; omega⟩
    | true =>
      rw [hc, if_pos rfl] at h
      obtain ⟨q, hq'⟩ : ∃ q, s = 63 :: q := by
        cases s with
        | nil => exact absurd rfl h0
        | cons c q =>
          rw [List.head?_cons, Option.some_beq_some] at hc
          have : c = 63 := by simpa using hc
          exact ⟨q, by rw [this]⟩
      subst hq'
      obtain ⟨r, hs, e1, e2⟩ := slash_back h
      obtain ⟨e, hpk⟩ := cutQ_ok h
      have hcut : cutOn 63 (47 :: 63 :: q) = ([47], q, true) := by
        unfold cutOn
        rw [upto_cons_f (by decide), from_cons_f (by decide), upto_cons_t (by decide), from_cons_t (by decide)]
        rfl
      simp only [if_true]
      rw [e, hcut]
      rw [hcut] at e1 e2
      have eo : originOf ⟨t0.Kind, t0.Scheme, t0.Host, [], q, true⟩ = 47 :: 63 :: q := by
        unfold originOf
        dsimp only
        rw [h3, h4]
        rfl
      refine ⟨63 :: q, _, eo, e1, by first | rfl | trivial, by first | rfl | trivial, by first | rfl | trivial, e2, by simp, by first | rfl | trivial, by simp, by simp; omega, by simp, by simp; omega⟩
def Back (m s : Str) : Prop := ((ofT m s).1.Kind == 3) = false ∧ (ofT m s).1.Path.length ≤ s.length ∧ (ofT m s).1.Query.length ≤ s.length + 1 ∧ (originOf (ofT m s).1).length ≤ s.length + 1 ∧
    ∃ t', ofT m (originOf (ofT m s).1) = (t', true) ∧ (t'.Kind == 2) = false ∧ t'.Query = (ofT m s).1.Query ∧ t'.HasQuery = (ofT m s).1.HasQuery ∧ originOf t' = originOf (ofT m s).1 ∧ t'.Path.length ≤ s.length + 1 ∧ t'.Query.length ≤ s.length + 1
theorem of_tail {m s : Str} (h : (ofT m s).2 = true) (t0 : api_Target) (u : Str) (hu : u.length ≤ s.length) (h3 : (t0.Kind == 3) = false) (h4 : (t0.Kind == 4) = false) (hp : t0.Path = []) (hq : t0.Query = []) (hh : t0.HasQuery = false) (e : ofT m s = tailT t0 u) : Back m s := by
  unfold Back
  rw [e] at h ⊢
  obtain ⟨r, t', e1, e2, e3, e4, e5, e6, e7, e8, e9, e10, e11, e12⟩ := tail_back h3 h4 hp hq hh h
  have eO : ofT m (47 :: r) = (t', true) := by
    unfold ofT
    have c1 : ((47 :: r : Str) == [42]) = false := by simp
    have c2 : ([47] : Str).isPrefixOf (47 :: r) = true := by simp
    rw [c1, c2, if_neg (by decide), if_pos rfl]
    exact e2
  exact ⟨by rw [e8]; exact h3, by omega, by omega, by rw [e1]; simp only [List.length_cons]; omega, t', by rw [e1]; exact eO, by rw [e3]; rfl, e4, e5, by rw [e1]; exact e6, by omega, by omega⟩
theorem of_back {m s : Str} (h : (ofT m s).2 = true) : Back m s := by
  have tl := of_tail h
  by_cases hstar : (s == [42]) = true
  · have : s = [42] := by simpa using hstar
    subst this
    have e : ofT m [42] = (⟨4, [], ⟨0, [], 0⟩, [], [], false⟩, true) := by
      unfold ofT at h ⊢
      rw [if_pos hstar] at h ⊢
      dsimp only at h; rw [h]
    unfold Back
    rw [e]
    exact ⟨rfl, by simp, by simp, by decide, ⟨4, [], ⟨0, [], 0⟩, [], [], false⟩, e, rfl, rfl, rfl, rfl, by simp, by simp⟩
  · by_cases hsl : ([47] : Str).isPrefixOf s = true
    · exact tl plainT s (Nat.le_refl _) rfl rfl rfl rfl rfl (by unfold ofT; rw [if_neg hstar, if_pos hsl]; rfl)
    · have eA : ofT m s = absT s := by unfold ofT; rw [if_neg hstar, if_neg hsl]
      rw [eA] at h
      unfold absT at h eA
      cases hc : cutAt [58, 47, 47] s with
      | none => rw [hc] at h; exact absurd h Bool.false_ne_true
      | some p =>
        rw [hc] at h eA
        dsimp only at h eA
        have e := congrArg List.length (cutAt_some (a := p.1) (b := p.2) hc)
        simp only [List.length_append, List.length_cons, List.length_nil] at e
        have hf : (from_ [47, 63] p.2).length ≤ p.2.length := by
          have := congrArg List.length (upto_from [47, 63] p.2); rw [List.length_append] at this; omega
        split at h
        · rename_i h1
          rw [if_pos h1] at eA
          split at h
          · rename_i h2
            rw [if_pos h2] at eA
            exact tl ⟨2, low p.1, (hostP (upto [47, 63] p.2)).1, [], [], false⟩ (from_ [47, 63] p.2) (by omega) rfl rfl rfl rfl rfl eA
          · exact absurd h Bool.false_ne_true
        · exact absurd h Bool.false_ne_true
theorem TargetOrigins_true (m s : Str) : law10_TargetOrigins m s = some true := by
  unfold law10_TargetOrigins
  rw [law10_awake_eq, Option.bind_some, if_neg (by decide), law10_few_eq, law10_few_eq, Option.bind_some, Option.bind_some]
  have hs : (s.take 150).length ≤ 150 := by simp; omega
  generalize s.take 150 = s at hs
  generalize m.take 150 = m
  rw [target_Parse_eq m s (by omega), Option.bind_some]
  unfold law10_TargetOrigins_j1 law10_TargetOrigins_j2
  cases hm : m == connectS with
  | true =>
    have e : parseT m s = if (hostP s).2 == 0 && !decide ((hostP s).1.Port < 0) then (⟨3, [], (hostP s).1, [], [], false⟩, 0) else (zeroT, 20) := by unfold parseT; rw [hm, if_pos rfl]
    rw [e]
    cases (hostP s).2 == 0 && !decide ((hostP s).1.Port < 0) with
    | false => rfl
    | true =>
      rw [if_pos rfl]
      dsimp only
      rw [target_Origin_eq _ (by simp) (by simp), Option.bind_some]
      show (if (!((0 : Int) == 0)) = true then _ else if ((3 : Int) == 3) = true then (if (originOf _ == []) = true then some (m == connectS) else _) else _) = _
      rw [hm]
      rfl
  | false =>
    have e : ∀ u, parseT m u = if (ofT m u).2 then ((ofT m u).1, 0) else (zeroT, 20) := by intro u; unfold parseT; rw [hm, if_neg (by decide)]
    rw [e]
    rcases bcase (ofT m s).2 with h | h
    · obtain ⟨h1, h2, h3, h4, t', h5, h6, h7, h8, h9, h10, h11⟩ := of_back h
      rw [h, if_pos rfl]
      dsimp only
      rw [target_Origin_eq _ (by omega) (by omega), Option.bind_some, h1, target_Parse_eq m _ (by omega), Option.bind_some, e, h5]
      dsimp only
      rw [if_pos rfl, h6, target_Origin_eq t' (by omega) (by omega), Option.bind_some, h7, h8, h9]
      simp
    · rw [h]
      simp only [Bool.false_eq_true, if_false]
      rfl
end Go.Dm
