/-
  Layer 29 (domains): Rewrite: the program's and the document's come to the same; DomainsRewrites, DomainsOnly. No program in sight.
-/
import Derived.Test.YtpingffipghifaaGreatDoorT29
import Derived.Test.YtpingffipghifaaGreatDoorT28P
namespace Go.Dm
def domU : Str := [68, 111, 109, 97, 105, 110]
def domL : Str := [100, 111, 109, 97, 105, 110]
theorem hasName_dom : hasName domU = hasName domL := by
  funext a
  unfold hasName
  have : low domU = low domL := by decide
  rw [this]
def isDom (a : api_Attr) : Bool := hasName domL a
theorem hasName_L : hasName domL = isDom := rfl
theorem hasName_U : hasName domU = isDom := hasName_dom
/-- A cookie with another domain; none: it stays. -/
def swapC (c : api_Cookie) (l : List api_Swap) : Option Str :=
  if lastIx isDom c.Attrs 0 (-1) < 0 then none else match lAt c.Attrs (lastIx isDom c.Attrs 0 (-1)) with
  | none => none
  | some a => if (mapD a.Value l).2 = true then (if parseC (textC (setOf c domU (mapD a.Value l).1)) = some (setOf c domU (mapD a.Value l).1) then some (textC (setOf c domU (mapD a.Value l).1)) else none) else none
def rewriteD (s : Str) (l : List api_Swap) : Str := match parseC s with
  | none => s
  | some c => (swapC c l).getD s
theorem mapL_len (name b : Str) (k : Nat) : ∀ (l : List api_Swap), (∀ x ∈ l, x.To.length ≤ k) → (mapL name b l).1.length ≤ name.length + b.length + k
  | [], _ => by simp [mapL]; omega
  | x :: l, h => by
    rw [mapL]
    have h1 := h x (List.mem_cons_self ..)
    split
    · simp; omega
    · exact mapL_len name b k l fun y hy => h y (List.mem_cons_of_mem _ hy)
theorem mapD_len (s : Str) (l : List api_Swap) (h : ∀ x ∈ l, x.To.length ≤ 60) : (mapD s l).1.length ≤ 2 * s.length + 60 := by
  have h1 := mapL_len s (bare s) 60 l h
  have h2 := bare_len s
  unfold mapD; omega
theorem mapD_nil (l : List api_Swap) : mapD [] l = ([], false) := by
  unfold mapD bare
  simp only [List.head?_nil]
  show mapL [] [] l = _
  induction l with
  | nil => rfl
  | cons x l ih =>
    rw [mapL]
    have : under [] x.From = false := by simp [under, nameOk]
    rw [this]; simp [ih]
theorem parse_smallC {s : Str} {c : api_Cookie} (hs : s.length ≤ 300) (h : parseC s = some c) : smallC c := by
  obtain ⟨h1, h2, h3, h4⟩ := parseC_attrs h
  exact ⟨by omega, fun a ha => by have := h4 a ha; omega⟩
theorem setL_small (n v : Str) (k : Int) : ∀ (l : List api_Attr) (i : Nat), (setL n v k l i).length ≤ l.length ∧ ∀ a ∈ setL n v k l i, ∃ b ∈ l, a.Name = b.Name ∧ (a.Value = b.Value ∨ a.Value = v)
  | [], _ => ⟨Nat.le_refl _, fun a h => by simp [setL] at h⟩
  | x :: l, i => by
    obtain ⟨h1, h2⟩ := setL_small n v k l (i + 1)
    have h3 : ∀ a ∈ setL n v k l (i + 1), ∃ b ∈ x :: l, a.Name = b.Name ∧ (a.Value = b.Value ∨ a.Value = v) := fun a ha => by
      obtain ⟨b, hb, h⟩ := h2 a ha
      exact ⟨b, List.mem_cons_of_mem _ hb, h⟩
    rw [setL]
    split
    · refine ⟨by simp; omega, fun a ha => ?_⟩
      rcases List.mem_cons.1 ha with rfl | ha
      · exact ⟨x, List.mem_cons_self .., rfl, .inr rfl⟩
      · exact h3 a ha
    · split
      · exact ⟨by simp; omega, h3⟩
      · refine ⟨by simp; omega, fun a ha => ?_⟩
        rcases List.mem_cons.1 ha with rfl | ha
        · exact ⟨_, List.mem_cons_self .., rfl, .inl rfl⟩
        · exact h3 a ha
theorem setOf_smallT {s : Str} {c : api_Cookie} (hs : s.length ≤ 300) (h : parseC s = some c) (v : Str) (hv : v.length ≤ 700) : smallT (setOf c domU v) := by
  obtain ⟨h1, h2, h3, h4⟩ := parseC_attrs h
  obtain ⟨g1, g2⟩ := setL_small domU v (lastIx (hasName domU) c.Attrs 0 (-1)) c.Attrs 0
  refine ⟨by show c.Name.length ≤ 1000; omega, by show c.Value.length ≤ 1000; omega, ?_, fun a ha => ?_⟩
  · show (setL domU v _ c.Attrs 0 ++ _).length ≤ 1000
    rw [List.length_append]
    split <;> simp <;> omega
  · simp only [setOf, List.mem_append] at ha
    rcases ha with ha | ha
    · obtain ⟨b, hb, e1, e2⟩ := g2 a ha
      have := h4 b hb
      rw [e1]
      refine ⟨by omega, ?_⟩
      rcases e2 with e2 | e2 <;> rw [e2] <;> omega
    · split at ha
      · simp at ha; subst ha; exact ⟨by show domU.length ≤ 1000; decide, by show v.length ≤ 1000; omega⟩
      · simp at ha
def fewS (l : List api_Swap) : Prop := fineS l ∧ ∀ x ∈ l, x.To.length ≤ 60
theorem domains_Rewrite_eq (s : Str) (l : List api_Swap) (hs : s.length ≤ 300) (hl : fewS l) : domains_Rewrite s l = some (rewriteD s l) := by
  unfold domains_Rewrite rewriteD
  rw [cookie_Parse_eq s (by omega), Option.bind_some]
  cases hp : parseC s with
  | none => simp [outC]
  | some c =>
    have hc := parse_smallC hs hp
    have hg := cookie_Get_eq c domU hc (by decide)
    rw [hasName_U] at hg
    show (if (!((outC (some c)).2 == 0)) = true then _ else (cookie_Get c domU).bind _) = _
    rw [hg]
    simp only [outC, beq_self_eq_true, Bool.not_true, Bool.false_eq_true, if_false]
    unfold swapC
    by_cases hk : lastIx isDom c.Attrs 0 (-1) < 0
    · simp only [hk, if_true, Option.bind_some, domains_Map_eq [] l (by decide) hl.1, mapD_nil, Bool.not_false, Option.getD_none]
    · simp only [hk, if_false]
      cases ha : lAt c.Attrs (lastIx isDom c.Attrs 0 (-1)) with
      | none =>
        exfalso
        rcases lastIx_spec isDom c.Attrs 0 (-1) with ⟨_, h2⟩ | ⟨pre, x, post, h1, h2, h3, h4⟩
        · omega
        · rw [h4, Nat.zero_add, lAt_nat, h1] at ha
          simp at ha
      | some a =>
        have hav : a ∈ c.Attrs := by
          unfold lAt at ha
          split at ha
          · exact List.mem_of_getElem? ha
          · cases ha
        have hal := ((parseC_attrs hp).2.2.2 a hav).2
        have hml := mapD_len a.Value l hl.2
        simp only [Option.bind_some, domains_Map_eq a.Value l (by omega) hl.1]
        rcases bcase (mapD a.Value l).2 with hm | hm
        · rw [hm]
          have hsm := setOf_smallT hs hp (mapD a.Value l).1 (by omega)
          show (if (!true) = true then _ else (cookie_Set c domU (mapD a.Value l).1).bind _) = _
          rw [cookie_Set_eq c domU _ hc (by decide)]
          simp only [Bool.not_true, Bool.false_eq_true, if_false, Option.bind_some, cookie_Text_eq _ hsm, if_true]
          unfold textR
          by_cases hb : parseC (textC (setOf c domU (mapD a.Value l).1)) = some (setOf c domU (mapD a.Value l).1)
          · simp [hb]
          · simp [hb]
        · rw [hm]; simp
theorem fewS_few (l : List api_Swap) : fewS (few l) := ⟨fineS_few l, fun x hx => (few_small l x hx).2⟩
def woD (c : api_Cookie) : api_Cookie := ⟨c.Name, c.Value, c.Attrs.filter fun a => !isDom a⟩
theorem law29_without_eq (c : api_Cookie) (hc : smallC c) : law29_without c = some (woD c) := by
  obtain ⟨hl, hx⟩ := hc
  unfold law29_without
  have key : ∀ (m i : Nat) (acc : List api_Attr), acc.length ≤ i → i ≤ c.Attrs.length → c.Attrs.length - i < m → law29_without_L1 c m acc c.Name c.Value (i : Int) = some ⟨c.Name, c.Value, acc ++ (c.Attrs.drop i).filter fun a => !isDom a⟩ := by
    intro m
    induction m with
    | zero => intro i acc _ _ h; omega
    | succ m ih =>
      intro i acc ha hi h
      rw [law29_without_L1]
      by_cases hlt : i < c.Attrs.length
      · have hxi : c.Attrs[i]? = some c.Attrs[i] := List.getElem?_eq_getElem hlt
        have hsub : lSub c.Attrs (i : Int) ((i + 1 : Nat) : Int) = some [c.Attrs[i]] := by
          unfold lSub
          rw [if_pos ⟨by omega, by omega, by omega⟩]
          simp only [Int.toNat_natCast]
          rw [List.drop_take, List.drop_eq_getElem_cons hlt, show i + 1 - i = 1 by omega]; rfl
        have hpl : ref28_Place ⟨[], [], [c.Attrs[i]]⟩ domL = some (lastIx isDom [c.Attrs[i]] 0 (-1)) := ref28_Place_eq ⟨[], [], [c.Attrs[i]]⟩ domL ⟨by simp, fun a h => by simp at h; subst h; exact hx _ (List.getElem_mem hlt)⟩ (by decide)
        unfold domL at hpl
        simp only [Int.ofNat_lt, hlt, decide_true, if_true, iAdd_one (show i < 4611686018427387904 by omega), Option.bind_some, hsub, hpl, lAt_nat, hxi, law29_without_j2, fits_ok (n := acc.length) (m := 1) (b := 40) (by omega) (by omega)]
        rw [ih (i + 1) _ (by simp; omega) (by omega) (by omega), ih (i + 1) _ (by omega) (by omega) (by omega), List.drop_eq_getElem_cons hlt, List.filter_cons]
        rcases bcase (isDom c.Attrs[i]) with hd | hd
        · simp [lastIx, hd]
        · simp [lastIx, hd]
      · have : i = c.Attrs.length := by omega
        subst this
        simp [law29_without_j3]
  have := key fuel 0 [] (Nat.le_refl _) (Nat.zero_le _) (by unfold fuel; omega)
  simpa [woD] using this
theorem setL_filter (n v : Str) (k : Int) : ∀ (l : List api_Attr) (i : Nat), (∀ j a, l[j]? = some a → ((i + j : Nat) : Int) = k → hasName n a = true) → (setL n v k l i).filter (fun a => !hasName n a) = l.filter fun a => !hasName n a
  | [], _, _ => rfl
  | x :: l, i, h => by
    have ih := setL_filter n v k l (i + 1) fun j a hj hk => h (j + 1) a (by simpa using hj) (by rw [← hk]; congr 1; omega)
    rw [setL]
    rcases bcase ((i : Int) == k) with h1 | h1
    · have hx := h 0 x rfl (by simpa using h1)
      have hx2 : hasName n ⟨x.Name, v, true⟩ = true := hx
      rw [h1, if_pos rfl, List.filter_cons, List.filter_cons, hx2, hx, ih]; rfl
    · rw [h1]
      simp only [Bool.false_eq_true, if_false]
      rcases bcase (hasName n x) with h2 | h2
      · rw [h2, if_pos rfl, List.filter_cons, h2, ih]; rfl
      · rw [h2]; simp [List.filter_cons, h2, ih]
theorem woD_set (c : api_Cookie) (v : Str) : woD (setOf c domU v) = woD c := by
  unfold woD setOf
  have hU := hasName_U
  have hf : (setL domU v (lastIx (hasName domU) c.Attrs 0 (-1)) c.Attrs 0).filter (fun a => !hasName domU a) = c.Attrs.filter fun a => !hasName domU a := by
    refine setL_filter _ _ _ _ _ fun j a hj hk => ?_
    rcases lastIx_spec (hasName domU) c.Attrs 0 (-1) with ⟨_, h2⟩ | ⟨pre, x, post, h1, h2, h3, h4⟩
    · rw [h2] at hk; omega
    · rw [h4] at hk
      have : j = pre.length := by omega
      subst this
      rw [h1] at hj; simp at hj; subst hj; exact h2
  rw [hU] at hf ⊢
  simp only [List.filter_append, hf]
  congr 1
  split
  · have : isDom ⟨domU, v, true⟩ = true := by show (low domU == low domL) = true; decide
    simp [this]
  · simp
theorem DomainsOnly_true (s : Str) (l : List api_Swap) (hl : l.length < 1000000000) : law29_DomainsOnly s l = some true := by
  unfold law29_DomainsOnly
  have e := sTo_min s 300
  rw [show ((300 : Nat) : Int) = 300 from rfl] at e
  have hs : (s.take 300).length ≤ 300 := by simp; omega
  have hf := fewS_few l
  simp only [law29_awake_eq, Option.bind_some, Bool.not_true, Bool.false_eq_true, if_false, e, law29_Few_eq l hl, domains_Check_eq _ hf.1, ref29_Check_eq _ hf.1]
  generalize few l = m at hf
  generalize s.take 300 = s at hs
  rcases bcase (checkD m == 0) with h0 | h0
  · rw [h0]
    simp only [Bool.not_true, Bool.false_eq_true, if_false, domains_Rewrite_eq s m hs hf, Option.bind_some, cookie_Parse_eq s (by omega), law29_DomainsOnly_j1]
    cases hp : parseC s with
    | none =>
      have : rewriteD s m = s := by unfold rewriteD; rw [hp]
      simp [outC, this]
    | some c =>
      simp only [outC, beq_self_eq_true, Bool.not_true, Bool.false_eq_true, if_false]
      rcases bcase (rewriteD s m == s) with ht | ht
      · rw [ht]; simp
      · rw [ht]
        simp only [Bool.false_eq_true, if_false]
        have hc := parse_smallC hs hp
        unfold rewriteD at ht ⊢
        rw [hp] at ht ⊢
        simp only at ht ⊢
        unfold swapC at ht ⊢
        by_cases hk : lastIx isDom c.Attrs 0 (-1) < 0
        · simp [hk] at ht
        simp only [hk, if_false] at ht ⊢
        cases ha : lAt c.Attrs (lastIx isDom c.Attrs 0 (-1)) with
        | none => rw [ha] at ht; simp at ht
        | some a =>
          rw [ha] at ht
          simp only at ht ⊢
          rcases bcase (mapD a.Value m).2 with hm | hm
          · simp only [hm, if_true] at ht ⊢
            by_cases hb : parseC (textC (setOf c domU (mapD a.Value m).1)) = some (setOf c domU (mapD a.Value m).1)
            · simp only [hb, if_true, Option.getD_some] at ht ⊢
              have hav : a ∈ c.Attrs := by
                unfold lAt at ha
                split at ha
                · exact List.mem_of_getElem? ha
                · cases ha
              have hal := ((parseC_attrs hp).2.2.2 a hav).2
              have hml := mapD_len a.Value m hf.2
              have hsm := setOf_smallT hs hp (mapD a.Value m).1 (by omega)
              have htl := textC_len hsm
              have hxc : smallC (setOf c domU (mapD a.Value m).1) := ⟨by have := hsm.2.2.1; omega, fun b hb => by have := hsm.2.2.2 b hb; omega⟩
              have hg1 := cookie_Get_eq c domL hc (by decide)
              rw [hasName_L, if_neg hk, ha, Option.bind_some] at hg1
              obtain ⟨pre, x, h1, h2, h3⟩ := set_get c domU (mapD a.Value m).1
              have hg2 := cookie_Get_eq (setOf c domU (mapD a.Value m).1) domL hxc (by decide)
              rw [hasName_L] at hg2
              rw [hasName_U] at h1
              have hkp : ¬ ((pre.length : Int) < 0) := by omega
              rw [h1, if_neg hkp, lAt_nat, h2, Option.bind_some, h3] at hg2
              unfold domL at hg1 hg2
              have hself : ∀ c : api_Cookie, sameC c c = true := fun c => (sameC_iff c c).2 rfl
              have hn : (setOf c domU (mapD a.Value m).1).Name = c.Name := rfl
              have hv : (setOf c domU (mapD a.Value m).1).Value = c.Value := rfl
              have hwl : (woD c).Attrs.length < 1000000000 := by
                have : (woD c).Attrs.length ≤ c.Attrs.length := List.length_filter_le _ _
                have := hc.1; omega
              simp only [cookie_Parse_eq _ (show (textC (setOf c domU (mapD a.Value m).1)).length < 900000000 by omega), hb, outC, Option.bind_some, hg1, domains_Map_eq a.Value m (by omega) hf.1, hm, hg2, beq_self_eq_true, if_true, hn, hv, law29_without_eq _ hxc, law29_without_eq c hc, woD_set, ref28_Same_eq _ _ hwl, hself, law29_DomainsOnly_j2]
            · simp [hb] at ht
          · simp [hm] at ht
  · rw [h0]; simp
end Go.Dm
