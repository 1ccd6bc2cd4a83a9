/-
  Targets read, written, and read again: the law of reading.
-/
import Derived.Test.YtnfkbhocbdheaaaGreatDoorT10T
namespace Go.Dm
theorem t_f {p : Prop} (h : true = false) : p := by cases h
theorem f_t {p : Prop} (h : false = true) : p := by cases h
theorem inner_back {s : Str} (h : bracket s = true) : 91 :: (inner s ++ [93]) = s := by
  unfold bracket at h
  simp only [Bool.and_eq_true, decide_eq_true_eq, beq_iff_eq] at h
  obtain ⟨⟨⟨h2, h0⟩, h1⟩, _⟩ := h
  have e1 : s.take (s.length - 1) ++ s.drop (s.length - 1) = s := List.take_append_drop ..
  have g0 : s[0]? = some s[0] := List.getElem?_eq_getElem (by omega)
  have g1 : s[s.length - 1]? = some s[s.length - 1] := List.getElem?_eq_getElem (by omega)
  rw [g0] at h0
  rw [g1] at h1
  have k0 : s[0] = 91 := Option.some.inj h0
  have k1 : s[s.length - 1] = 93 := Option.some.inj h1
  have e2 : s.drop (s.length - 1) = [93] := by
    rw [List.drop_eq_getElem_cons (by omega), k1, List.drop_of_length_le (by omega)]
  have e3 : s.take (s.length - 1) = 91 :: inner s := by
    unfold inner
    have := List.drop_eq_getElem_cons (l := s.take (s.length - 1)) (i := 0) (by simp; omega)
    rw [List.drop_zero, List.getElem_take, k0] at this
    exact this
  rw [e2, e3] at e1
  exact e1
theorem hostK_base {s : Str} (p : Int) (h : ((hostK s).1 == 0) = false) : hostBase ⟨(hostK s).1, (hostK s).2, p⟩ = s := by
  unfold hostBase hostK at *
  rcases bcase (bracket s) with hb | hb
  · rw [hb]; exact inner_back hb
  · rw [hb] at h ⊢
    cases hf : fourOk s with
    | true => rfl
    | false =>
      rw [hf] at h
      cases hn : nameOk s with
      | true => rfl
      | false => rw [hn] at h; exact t_f h
theorem hostK_len (s : Str) : (hostK s).2.length ≤ s.length := by
  unfold hostK
  split
  · exact inner_len s
  · split
    · exact Nat.le_refl _
    · split <;> exact Nat.le_refl _
theorem hostP_raw {s : Str} (h : ((hostP s).2 == 0) = true) : rawH (hostP s).1 = s := by
  unfold hostP at h ⊢
  cases h0 : (hostK s).1 == 0 with
  | false =>
    rw [Bool.not_false, if_pos rfl]
    unfold rawH
    rw [hostK_base _ h0]
    exact List.append_nil s
  | true =>
    rw [h0, Bool.not_true, if_neg (by decide)] at h
    rw [Bool.not_true, if_neg (by decide)]
    cases hl : lastI s 58 s.length with
    | none => rw [hl] at h; exact f_t h
    | some k =>
      rw [hl] at h
      dsimp only at h ⊢
      have hk := lastI_lt hl
      cases hk0 : (hostK (s.take k)).1 == 0 with
      | true => rw [hk0] at h; exact f_t h
      | false =>
        rw [hk0] at h
        cases hsm : smallOk (s.drop (k + 1)) 65535 with
        | false => rw [hsm] at h; exact f_t h
        | true =>
          have hs2 := hsm
          unfold smallOk at hs2
          simp only [Bool.and_eq_true, beq_iff_eq] at hs2
          have h3 := (readN_in hs2.1 (by decide)).1
          rw [Bool.not_false, Bool.true_and, if_pos rfl]
          unfold rawH
          rw [hostK_base _ hk0]
          have hp : ((readN 10 (s.drop (k + 1)) 65535).1 == -1) = false := beq_eq_false_iff_ne.2 (by omega)
          dsimp only
          rw [hp, if_neg (by decide), hs2.2]
          have g : s[k]? = some s[k] := List.getElem?_eq_getElem hk.1
          rw [g] at hk
          have hc : s[k] = 58 := Option.some.inj hk.2
          have := List.drop_eq_getElem_cons hk.1
          rw [hc] at this
          rw [← this]
          exact List.take_append_drop ..
theorem hostP_text {s : Str} (h : ((hostP s).2 == 0) = true) : textH (hostP s).1 = (s, 0) := by
  unfold textH
  rw [hostP_raw h, h, beq_self_eq_true]
  rfl
theorem hostP_in (s : Str) : inI (hostP s).1.Port = true ∧ (hostP s).1.Name.length ≤ s.length := by
  have hkl := hostK_len s
  unfold hostP
  cases (hostK s).1 == 0 with
  | false => exact ⟨rfl, hkl⟩
  | true =>
    rw [Bool.not_true, if_neg (by decide)]
    cases hl : lastI s 58 s.length with
    | none => exact ⟨rfl, Nat.zero_le _⟩
    | some k =>
      have hkl := hostK_len (s.take k)
      dsimp only
      split
      · rename_i h
        simp only [Bool.and_eq_true] at h
        have hs2 := h.2
        unfold smallOk at hs2
        simp only [Bool.and_eq_true, beq_iff_eq] at hs2
        exact ⟨(readN_in hs2.1 (by decide)).2.2, by simp at hkl; dsimp only; omega⟩
      · exact ⟨rfl, Nat.zero_le _⟩
/-- What comes of a tail: its parts, joined, are it. -/
theorem tail_join {t0 t : api_Target} {u : Str} (hp : t0.Path = []) (hq : t0.Query = []) (hh : t0.HasQuery = false) (h : tailT t0 u = (t, true)) :
    t.Kind = t0.Kind ∧ t.Scheme = t0.Scheme ∧ t.Host = t0.Host ∧ joinPQ t = u := by
  unfold tailT at h
  by_cases h0 : u = []
  · rw [if_pos h0] at h
    cases h
    exact ⟨rfl, rfl, rfl, by unfold joinPQ; rw [hp, hh, h0]; rfl⟩
  · rw [if_neg h0] at h
    cases hc : u.head? == some 63 with
    | false =>
      rw [hc] at h
      simp only [Bool.false_eq_true, if_false] at h
      have h2 := congrArg Prod.snd h
      dsimp only at h2
      obtain ⟨e, hpk⟩ := cutQ_ok h2
      rw [e] at h
      have h1 := congrArg Prod.fst h
      dsimp only at h1
      subst h1
      exact ⟨rfl, rfl, rfl, cutOn_text 63 u⟩
    | true =>
      rw [hc] at h
      simp only [if_true] at h
      obtain ⟨q, hq'⟩ : ∃ q, u = 63 :: q := by
        cases u with
        | nil => exact absurd rfl h0
        | cons c q =>
          rw [List.head?_cons, Option.some_beq_some] at hc
          have : c = 63 := by simpa using hc
          exact ⟨q, by rw [this]⟩
      subst hq'
      have h2 := congrArg Prod.snd h
      dsimp only at h2
      obtain ⟨e, hpk⟩ := cutQ_ok h2
      rw [e, cutOn_q] at h
      have h1 := congrArg Prod.fst h
      dsimp only at h1
      subst h1
      exact ⟨rfl, rfl, rfl, rfl⟩
theorem joinPQ_ge (t : api_Target) : t.Path.length ≤ (joinPQ t).length ∧ (t.HasQuery = true → t.Query.length ≤ (joinPQ t).length) := by
  unfold joinPQ
  constructor
  · simp
  · intro h; rw [h]; simp; omega
theorem low_low (s : Str) : low (low s) = low s := by
  unfold low
  rw [List.map_map]
  apply List.map_congr_left
  intro c _
  exact eq_of_beq (all_bytes (fun c => cLower (cLower c) == cLower c) (by decide +kernel) c)
structure ReadBack (m s : Str) (t : api_Target) (s2 : Str) : Prop where
  port : inI t.Host.Port = true
  name : t.Host.Name.length ≤ s.length
  scheme : t.Scheme.length ≤ s.length
  path : t.Path.length ≤ s.length + 1
  query : t.Query.length ≤ s.length + 1
  raw : (rawT t).2 = s2
  own : parseT (rawT t).1 s2 = (t, 0)
  again : parseT m s2 = (t, 0)
theorem parse_of {m s : Str} {t : api_Target} (hm : (m == connectS) = false) (h : ofT m s = (t, true)) : parseT m s = (t, 0) := by
  unfold parseT; rw [hm, if_neg (by decide), h]; rfl
theorem tail_query {t0 t : api_Target} {u : Str} (hq : t0.Query = []) (h : tailT t0 u = (t, true)) : t.Query.length ≤ u.length + 1 := by
  have e : t = (tailT t0 u).1 := by rw [h]
  rw [e]
  unfold tailT
  split
  · rw [hq]; simp
  · dsimp only
    split
    · have := (cutOn_len 63 (47 :: u)).2
      unfold cutQ; split
      · simpa using this
      · simp
    · have := (cutOn_len 63 u).2
      unfold cutQ; split
      · dsimp only; omega
      · simp
theorem read_back {m s : Str} {t : api_Target} (h : parseT m s = (t, 0)) : ∃ s2, s2.length ≤ s.length ∧ ReadBack m s t s2 := by
  cases hm : m == connectS with
  | true =>
    have hmc : m = connectS := by simpa using hm
    unfold parseT at h
    rw [hm, if_pos rfl] at h
    cases h1 : (hostP s).2 == 0 && !decide ((hostP s).1.Port < 0) with
    | false => rw [h1] at h; exact absurd (show (20 : Int) = 0 from congrArg Prod.snd h) (by decide)
    | true =>
      rw [h1, if_pos rfl] at h
      have ht := congrArg Prod.fst h
      dsimp only at ht
      subst ht
      have h2 : ((hostP s).2 == 0) = true := by simp only [Bool.and_eq_true] at h1; exact h1.1
      have hin := hostP_in s
      have hr : rawT ⟨3, [], (hostP s).1, [], [], false⟩ = (connectS, s) := by
        show (connectS, (textH (hostP s).1).1) = _
        rw [hostP_text h2]
      have hp : parseT connectS s = (⟨3, [], (hostP s).1, [], [], false⟩, 0) := by
        unfold parseT
        rw [beq_self_eq_true, if_pos rfl, h1, if_pos rfl]
      exact ⟨s, Nat.le_refl _, hin.1, hin.2, by simp, by simp, by simp, by rw [hr], by rw [hr]; exact hp, by rw [hmc]; exact hp⟩
  | false =>
    have hO : (optionsS == connectS) = false := by decide
    have h' : ofT m s = (t, true) := by
      unfold parseT at h
      rw [hm, if_neg (by decide)] at h
      cases h1 : (ofT m s).2 with
      | false => rw [h1] at h; exact absurd (show (20 : Int) = 0 from congrArg Prod.snd h) (by decide)
      | true =>
        rw [h1, if_pos rfl] at h
        have := congrArg Prod.fst h
        dsimp only at this
        rw [← this, ← h1]
    clear h
    by_cases hstar : (s == [42]) = true
    · have hs : s = [42] := by simpa using hstar
      have h2 := h'
      unfold ofT at h2
      rw [if_pos hstar] at h2
      have ht := congrArg Prod.fst h2
      dsimp only at ht
      subst ht
      exact ⟨s, Nat.le_refl _, by decide, by simp, by simp, by simp, by simp, by rw [hs]; rfl, by rw [hs]; decide +kernel, parse_of hm h'⟩
    · by_cases hsl : ([47] : Str).isPrefixOf s = true
      · have hof : ∀ k, ofT k s = tailT plainT s := fun k => by unfold ofT; rw [if_neg hstar, if_pos hsl]; rfl
        rw [hof] at h'
        obtain ⟨e1, e2, e3, e4⟩ := tail_join rfl rfl rfl h'
        have hq := tail_query rfl h'
        have hpl := (joinPQ_ge t).1
        rw [e4] at hpl
        have hr : rawT t = (optionsS, s) := by unfold rawT; rw [e1, e4]; rfl
        exact ⟨s, Nat.le_refl _, by rw [e3]; rfl, by rw [e3]; simp [plainT], by rw [e2]; simp [plainT], by omega, hq, by rw [hr], by rw [hr]; exact parse_of hO (by rw [hof]; exact h'), parse_of hm (by rw [hof]; exact h')⟩
      · have eA : ∀ k, ofT k s = absT s := fun k => by unfold ofT; rw [if_neg hstar, if_neg hsl]
        rw [eA] at h'
        have hA := h'
        unfold absT at h'
        cases hc : cutAt [58, 47, 47] s with
        | none => rw [hc] at h'; exact absurd (congrArg Prod.snd h') Bool.false_ne_true
        | some p =>
          rw [hc] at h'
          dsimp only at h'
          have e := congrArg List.length (cutAt_some (a := p.1) (b := p.2) hc)
          simp only [List.length_append, List.length_cons, List.length_nil] at e
          have huf := upto_from [47, 63] p.2
          have hfl := congrArg List.length huf
          rw [List.length_append] at hfl
          have hll : (low p.1).length = p.1.length := by simp [low]
          split at h'
          · rename_i h1
            split at h'
            · rename_i h2
              have hin := hostP_in (upto [47, 63] p.2)
              obtain ⟨e1, e2, e3, e4⟩ := tail_join (t0 := ⟨2, low p.1, (hostP (upto [47, 63] p.2)).1, [], [], false⟩) rfl rfl rfl h'
              have hq := tail_query (t0 := ⟨2, low p.1, (hostP (upto [47, 63] p.2)).1, [], [], false⟩) rfl h'
              dsimp only at e1 e2 e3
              have hpl := (joinPQ_ge t).1
              rw [e4] at hpl
              have h58 : (58 : UInt8) ∉ low p.1 := by
                simp only [Bool.or_eq_true, beq_iff_eq] at h1
                rcases h1 with h1 | h1 <;> rw [h1] <;> decide
              have hr : rawT t = (optionsS, low p.1 ++ [58, 47, 47] ++ p.2) := by
                unfold rawT
                rw [e1, e2, e3, hostP_text h2, e4, List.append_assoc _ (upto [47, 63] p.2), huf]
                rfl
              have hcut := cutAt_first (t := [47, 47]) (b := p.2) h58
              have hA2 : absT (low p.1 ++ [58, 47, 47] ++ p.2) = (t, true) := by
                unfold absT
                rw [hcut]
                dsimp only
                rw [low_low, if_pos h1, if_pos h2]
                exact h'
              have hof : ∀ k, ofT k (low p.1 ++ [58, 47, 47] ++ p.2) = (t, true) := by
                intro k
                have hhead : ∃ r, low p.1 = 104 :: r := by
                  simp only [Bool.or_eq_true, beq_iff_eq] at h1
                  rcases h1 with h1 | h1 <;> rw [h1] <;> exact ⟨_, rfl⟩
                obtain ⟨r, hr⟩ := hhead
                unfold ofT
                rw [if_neg (by rw [hr]; simp), if_neg (by rw [hr]; simp)]
                exact hA2
              exact ⟨low p.1 ++ [58, 47, 47] ++ p.2, by simp [hll]; omega, by rw [e3]; exact hin.1, by rw [e3]; omega, by rw [e2]; omega, by omega, by omega, by rw [hr], by rw [hr]; exact parse_of hO (hof _), parse_of hm (hof _)⟩
            · exact absurd (congrArg Prod.snd h') Bool.false_ne_true
          · exact absurd (congrArg Prod.snd h') Bool.false_ne_true
theorem TargetReads_true (m s : Str) : law10_TargetReads m s = some true := by
  unfold law10_TargetReads
  rw [law10_awake_eq, Option.bind_some, Bool.not_true, if_neg (by decide), law10_few_eq, law10_few_eq, Option.bind_some, Option.bind_some]
  have hs : (s.take 150).length ≤ 150 := by simp; omega
  generalize s.take 150 = s at hs
  generalize m.take 150 = m
  rw [target_Parse_eq m s (by omega), Option.bind_some, ref10_Parse_eq m s (by omega), Option.bind_some, beq_self_eq_true, Bool.not_true, if_neg (by decide), beq_self_eq_true, Bool.not_true]
  unfold law10_TargetReads_j1
  rw [if_neg (by decide)]
  cases he : (parseT m s).2 == 0 with
  | false => rfl
  | true =>
    rw [Bool.not_true, if_neg (by decide)]
    have hp : parseT m s = ((parseT m s).1, 0) := by
      have : (parseT m s).2 = 0 := by simpa using he
      rw [← this]
    generalize (parseT m s).1 = t at hp
    obtain ⟨s2, hl, hb⟩ := read_back hp
    have h10 : smallT10 t := ⟨hb.port, by have := hb.name; omega, by have := hb.scheme; omega, by have := hb.path; omega, by have := hb.query; omega⟩
    have ht : textT t = (s2, 0) := by
      unfold textT
      rw [hb.raw, hb.own, beq_self_eq_true, beq_self_eq_true]
      rfl
    have h3 := hb.path
    have h4 := hb.query
    rw [target_Text_eq t h10, Option.bind_some, ht, target_Parse_eq m s2 (by omega), Option.bind_some, hb.again, target_Origin_eq t (by omega) (by omega), Option.bind_some, ref10_Origin_eq t (by omega) (by omega), Option.bind_some, beq_self_eq_true, beq_self_eq_true, beq_self_eq_true]
    rfl
end Go.Dm
