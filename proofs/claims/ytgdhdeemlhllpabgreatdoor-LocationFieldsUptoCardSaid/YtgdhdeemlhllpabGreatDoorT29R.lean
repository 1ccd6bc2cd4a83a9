/-
  Layer 29 (domains): Rewrite: the program's and the document's come to the same; DomainsRewrites, DomainsOnly. No program in sight.
-/
import Derived.Test.YtgdhdeemlhllpabGreatDoorT29
import Derived.Test.YtgdhdeemlhllpabGreatDoorT28P
namespace Go.Dm
def domU : Str := [68, 111, 109, 97, 105, 110]
def domL : Str := [100, 111, 109, 97, 105, 110]
theorem hasName_dom : hasName domU = hasName domL := by
  funext a
  unfold hasName
  have : low domU = low domL := by decide
  rw [this]
def isDom (a : api_Attr) : Bool := hasName domL a
theorem hasName_L : hasName domL = isDom := rfl
theorem hasName_U : hasName domU = isDom := hasName_dom
/-- A cookie with another domain; none: it stays. -/
def swapC (c : api_Cookie) (l : List api_Swap) : Option Str :=
  if lastIx isDom c.Attrs 0 (-1) < 0 then none else match lAt c.Attrs (lastIx isDom c.Attrs 0 (-1)) with
  | none => none
  | some a => if (mapD a.Value l).2 = true then (if parseC (textC (setOf c domU (mapD a.Value l).1)) = some (setOf c domU (mapD a.Value l).1) then some (textC (setOf c domU (mapD a.Value l).1)) else none) else none
def rewriteD (s : Str) (l : List api_Swap) : Str := match parseC s with
  | none => s
  | some c => (swapC c l).getD s
theorem mapL_len (name b : Str) (k : Nat) : ∀ (l : List api_Swap), (∀ x ∈ l, x.To.length ≤ k) → (mapL name b l).1.length ≤ name.length + b.length + k
  | [], _ => by simp [mapL]; omega
  | x :: l, h => by
    rw [mapL]
    have h1 := h x (List.mem_cons_self ..)
    split
    · simp; omega
    · exact mapL_len name b k l fun y hy => h y (List.mem_cons_of_mem _ hy)
theorem mapD_len (s : Str) (l : List api_Swap) (h : ∀ x ∈ l, x.To.length ≤ 60) : (mapD s l).1.length ≤ 2 * s.length + 60 := by
  have h1 := mapL_len s (bare s) 60 l h
  have h2 := bare_len s
  unfold mapD; omega
theorem mapD_nil (l : List api_Swap) : mapD [] l = ([], false) := by
  unfold mapD bare
  simp only [List.head?_nil]
  show mapL [] [] l = _
  induction l with
  | nil => rfl
  | cons x l ih =>
    rw [mapL]
    have : under [] x.From = false := by simp [under, nameOk]
    rw [this]; simp [ih]
theorem parse_smallC {s : Str} {c : api_Cookie} (hs : s.length ≤ 450) (h : parseC s = some c) : smallC c := by
  obtain ⟨h1, h2, h3, h4⟩ := parseC_attrs h
  exact ⟨by omega, fun a ha => by have := h4 a ha; omega⟩
theorem setL_small (n v : Str) (k : Int) : ∀ (l : List api_Attr) (i : Nat), (setL n v k l i).length ≤ l.length ∧ ∀ a ∈ setL n v k l i, ∃ b ∈ l, a.Name = b.Name ∧ (a.Value = b.Value ∨ a.Value = v)
  | [], _ => ⟨Nat.le_refl _, fun a h => by simp [setL] at h⟩
  | x :: l, i => by
    obtain ⟨h1, h2⟩ := setL_small n v k l (i + 1)
    have h3 : ∀ a ∈ setL n v k l (i + 1), ∃ b ∈ x :: l, a.Name = b.Name ∧ (a.Value = b.Value ∨ a.Value = v) := fun a ha => by
      obtain ⟨b, hb, h⟩ := h2 a ha
      exact ⟨b, List.mem_cons_of_mem _ hb, h⟩
    rw [setL]
    split
    · refine ⟨by simp; omega, fun a ha => ?_⟩
      rcases List.mem_cons.1 ha with rfl | ha
      · exact ⟨x, List.mem_cons_self .., rfl, .inr rfl⟩
      · exact h3 a ha
    · split
      · exact ⟨by simp; omega, h3⟩
      · refine ⟨by simp; omega, fun a ha => ?_⟩
        rcases List.mem_cons.1 ha with rfl | ha
        · exact ⟨_, List.mem_cons_self .., rfl, .inl rfl⟩
        · exact h3 a ha
theorem setOf_smallT {s : Str} {c : api_Cookie} (hs : s.length ≤ 450) (h : parseC s = some c) (v : Str) (hv : v.length ≤ 960) : smallT (setOf c domU v) := by
  obtain ⟨h1, h2, h3, h4⟩ := parseC_attrs h
  obtain ⟨g1, g2⟩ := setL_small domU v (lastIx (hasName domU) c.Attrs 0 (-1)) c.Attrs 0
  refine ⟨by show c.Name.length ≤ 1000; omega, by show c.Value.length ≤ 1000; omega, ?_, fun a ha => ?_⟩
  · show (setL domU v _ c.Attrs 0 ++ _).length ≤ 1000
    rw [List.length_append]
    split <;> simp <;> omega
  · simp only [setOf, List.mem_append] at ha
    rcases ha with ha | ha
    · obtain ⟨b, hb, e1, e2⟩ := g2 a ha
      have := h4 b hb
      rw [e1]
      refine ⟨by omega, ?_⟩
      rcases e2 with e2 | e2 <;> rw [e2] <;> omega
    · split at ha
      · simp at ha; subst ha; exact ⟨by show domU.length ≤ 1000; decide, by show v.length ≤ 1000; omega⟩
      · simp at ha
def fewS (l : List api_Swap) : Prop := fineS l ∧ ∀ x ∈ l, x.To.length ≤ 60
theorem domains_Rewrite_eq (s : Str) (l : List api_Swap) (hs : s.length ≤ 450) (hl : fewS l) : domains_Rewrite s l = some (rewriteD s l) := by
  unfold domains_Rewrite rewriteD
  rw [cookie_Parse_eq s (by omega), Option.bind_some]
  cases hp : parseC s with
  | none => simp [outC]
  | some c =>
    have hc := parse_smallC hs hp
    have hg := cookie_Get_eq c domU hc (by decide)
    rw [hasName_U] at hg
    show (if (!((outC (some c)).2 == 0)) = true then _ else (cookie_Get c domU).bind _) = _
    rw [hg]
    simp only [outC, beq_self_eq_true, Bool.not_true, Bool.false_eq_true, if_false]
    unfold swapC
    by_cases hk : lastIx isDom c.Attrs 0 (-1) < 0
    · simp only [hk, if_true, Option.bind_some, domains_Map_eq [] l (by decide) hl.1, mapD_nil, Bool.not_false, Option.getD_none]
    · simp only [hk, if_false]
      cases ha : lAt c.Attrs (lastIx isDom c.Attrs 0 (-1)) with
      | none =>
        exfalso
        rcases lastIx_spec isDom c.Attrs 0 (-1) with ⟨_, h2⟩ | ⟨pre, x, post, h1, h2, h3, h4⟩
        · omega
        · rw [h4, Nat.zero_add, lAt_nat, h1] at ha
          simp at ha
      | some a =>
        have hav : a ∈ c.Attrs := by
          unfold lAt at ha
          split at ha
          · exact List.mem_of_getElem? ha
          · cases ha
        have hal := ((parseC_attrs hp).2.2.2 a hav).2
        have hml := mapD_len a.Value l hl.2
        simp only [Option.bind_some, domains_Map_eq a.Value l (by omega) hl.1]
        rcases bcase (mapD a.Value l).2 with hm | hm
        · rw [hm]
          have hsm := setOf_smallT hs hp (mapD a.Value l).1 (by omega)
          show (if (!true) = true then _ else (cookie_Set c domU (mapD a.Value l).1).bind _) = _
          rw [cookie_Set_eq c domU _ hc (by decide)]
          simp only [Bool.not_true, Bool.false_eq_true, if_false, Option.bind_some, cookie_Text_eq _ hsm, if_true]
          unfold textR
          by_cases hb : parseC (textC (setOf c domU (mapD a.Value l).1)) = some (setOf c domU (mapD a.Value l).1)
          · simp [hb]
          · simp [hb]
        · rw [hm]; simp
theorem ref29_Rewrite_eq (s : Str) (l : List api_Swap) (hs : s.length ≤ 450) (hl : fewS l) : ref29_Rewrite s l = some (rewriteD s l) := by
  unfold ref29_Rewrite rewriteD
  rw [ref28_Parse_eq s (by omega), Option.bind_some]
  cases hp : parseC s with
  | none =>
    have := ref28_Place_eq noCookie domL ⟨by decide, by simp [noCookie]⟩ (by decide)
    show ((ref28_Place noCookie domL).bind _) = _
    rw [this]
    simp [outC, ref29_Rewrite_j1]
  | some c =>
    have hc := parse_smallC hs hp
    have hg := ref28_Place_eq c domL hc (by decide)
    rw [hasName_L] at hg
    show ((ref28_Place c domL).bind _) = _
    rw [hg]
    simp only [outC, beq_self_eq_true, Bool.not_true, Bool.false_eq_true, if_false, Option.bind_some, ref29_Rewrite_j1]
    unfold swapC
    by_cases hk : lastIx isDom c.Attrs 0 (-1) < 0
    · simp [hk]
    · simp only [hk, decide_false, Bool.false_eq_true, if_false]
      cases ha : lAt c.Attrs (lastIx isDom c.Attrs 0 (-1)) with
      | none =>
        exfalso
        rcases lastIx_spec isDom c.Attrs 0 (-1) with ⟨_, h2⟩ | ⟨pre, x, post, h1, h2, h3, h4⟩
        · omega
        · rw [h4, Nat.zero_add, lAt_nat, h1] at ha
          simp at ha
      | some a =>
        have hav : a ∈ c.Attrs := by
          unfold lAt at ha
          split at ha
          · exact List.mem_of_getElem? ha
          · cases ha
        have hal := ((parseC_attrs hp).2.2.2 a hav).2
        have hml := mapD_len a.Value l hl.2
        simp only [Option.bind_some, ref29_Map_eq a.Value l (by omega) hl.1]
        rcases bcase (mapD a.Value l).2 with hm | hm
        · rw [hm]
          have hsm := setOf_smallT hs hp (mapD a.Value l).1 (by omega)
          show (if (!true) = true then _ else (ref28_Set c domU (mapD a.Value l).1).bind _) = _
          rw [ref28_Set_eq c domU _ hc (by decide)]
          simp only [Bool.not_true, Bool.false_eq_true, if_false, Option.bind_some, ref28_Text_eq _ hsm, if_true]
          unfold textR
          by_cases hb : parseC (textC (setOf c domU (mapD a.Value l).1)) = some (setOf c domU (mapD a.Value l).1)
          · simp [hb]
          · simp [hb]
        · rw [hm]; simp
end Go.Dm
