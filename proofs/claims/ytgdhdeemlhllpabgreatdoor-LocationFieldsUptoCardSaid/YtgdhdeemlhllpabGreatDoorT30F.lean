/-
  Fields with other places and domains.
-/
import Derived.Test.YtgdhdeemlhllpabGreatDoorT13
import Derived.Test.YtgdhdeemlhllpabGreatDoorT30R
import Derived.Test.YtgdhdeemlhllpabGreatDoorT29R
namespace Go.Dm
def cutS (x : api_Swap) : api_Swap := ⟨x.From.take 60, x.To.take 60⟩
def cutE (e : api_Env) : api_Env := ⟨e.Client.take 60, e.Host.take 60, e.Scheme.take 60, e.By.take 60, (e.Domains.take 6).map cutS, (e.Locations.take 6).map cutS⟩
theorem law26_swap_eq (x : api_Swap) : law26_swap x = some (cutS x) := by
  unfold law26_swap cutS
  have h1 := sTo_min x.From 60
  have h2 := sTo_min x.To 60
  rw [show ((60 : Nat) : Int) = 60 from rfl] at h1 h2
  rw [h1, Option.bind_some, h2, Option.bind_some]
theorem Few_L6_eq (e : api_Env) (a b c d : Str) (l : List api_Swap) (hl : e.Locations.length < 1000000000) : law26_Few_L6 e fuel [] a b c d l 0 = some ⟨a, b, c, d, l, (e.Locations.take 6).map cutS⟩ := by
  have key : ∀ (n i : Nat) (out : List api_Swap), i ≤ e.Locations.length → i ≤ 6 → e.Locations.length - i < n → out.length = i → law26_Few_L6 e n out a b c d l (i : Int) = some ⟨a, b, c, d, l, out ++ ((e.Locations.drop i).take (6 - i)).map cutS⟩ := by
    intro n
    induction n with
    | zero => intro i _ _ _ h; omega
    | succ n ih =>
      intro i out hi h6 hn ho
      rw [law26_Few_L6]
      unfold law26_Few_j7 law26_Few_j8
      by_cases hlt : i < e.Locations.length
      · have g : e.Locations[i]? = some e.Locations[i] := List.getElem?_eq_getElem hlt
        rw [decide_eq_true (show (i : Int) < (e.Locations.length : Int) by omega), if_pos rfl]
        by_cases h2 : i < 6
        · rw [decide_eq_true (show (i : Int) < 6 by omega), if_pos rfl, lAt_nat, g, Option.bind_some, law26_swap_eq, Option.bind_some, if_pos (fits_ok (by omega) (by omega)), iAdd_one (by omega), Option.bind_some, ih (i + 1) _ (by omega) (by omega) (by omega) (by simp; omega), List.drop_eq_getElem_cons hlt, show 6 - i = (6 - (i + 1)) + 1 by omega, List.take_succ_cons]
          simp
        · have : i = 6 := by omega
          subst this
          rw [decide_eq_false (by omega), if_neg (by decide)]
          simp
      · have : i = e.Locations.length := by omega
        rw [decide_eq_false (by omega), if_neg (by decide), if_neg (by decide), this, List.drop_length]
        simp
  have := key fuel 0 [] (Nat.zero_le _) (by decide) (by unfold fuel; omega) rfl
  exact this
theorem Few_L3_eq (e : api_Env) (a b c d : Str) (hl : e.Domains.length < 1000000000) (hl2 : e.Locations.length < 1000000000) : law26_Few_L3 e fuel [] a b c d [] 0 = some ⟨a, b, c, d, (e.Domains.take 6).map cutS, (e.Locations.take 6).map cutS⟩ := by
  have key : ∀ (n i : Nat) (out : List api_Swap), i ≤ e.Domains.length → i ≤ 6 → e.Domains.length - i < n → out.length = i → law26_Few_L3 e n out a b c d [] (i : Int) = some ⟨a, b, c, d, out ++ ((e.Domains.drop i).take (6 - i)).map cutS, (e.Locations.take 6).map cutS⟩ := by
    intro n
    induction n with
    | zero => intro i _ _ _ h; omega
    | succ n ih =>
      intro i out hi h6 hn ho
      rw [law26_Few_L3]
      unfold law26_Few_j4 law26_Few_j5
      by_cases hlt : i < e.Domains.length
      · have g : e.Domains[i]? = some e.Domains[i] := List.getElem?_eq_getElem hlt
        rw [decide_eq_true (show (i : Int) < (e.Domains.length : Int) by omega), if_pos rfl]
        by_cases h2 : i < 6
        · rw [decide_eq_true (show (i : Int) < 6 by omega), if_pos rfl, lAt_nat, g, Option.bind_some, law26_swap_eq, Option.bind_some, if_pos (fits_ok (by omega) (by omega)), iAdd_one (by omega), Option.bind_some, ih (i + 1) _ (by omega) (by omega) (by omega) (by simp; omega), List.drop_eq_getElem_cons hlt, show 6 - i = (6 - (i + 1)) + 1 by omega, List.take_succ_cons]
          simp
        · have : i = 6 := by omega
          subst this
          rw [decide_eq_false (by omega), if_neg (by decide), Few_L6_eq e _ _ _ _ _ hl2]
          simp
      · have : i = e.Domains.length := by omega
        rw [decide_eq_false (by omega), if_neg (by decide), if_neg (by decide), Few_L6_eq e _ _ _ _ _ hl2, this, List.drop_length]
        simp
  have := key fuel 0 [] (Nat.zero_le _) (by decide) (by unfold fuel; omega) rfl
  exact this
theorem law26_Few_eq (e : api_Env) (hl : e.Domains.length < 1000000000) (hl2 : e.Locations.length < 1000000000) : law26_Few e = some (cutE e) := by
  unfold law26_Few
  have cut : ∀ s : Str, sTo s (min (s.length : Int) 60) = some (s.take 60) := fun s => by
    have := sTo_min s 60
    rwa [show ((60 : Nat) : Int) = 60 from rfl] at this
  have st : ∀ (n : Nat) (a b c d : Str) (i : Nat) (x : Str) (r : Str × Str × Str × Str), i < 4 → lAt [a, b, c, d] (i : Int) = some x → ((lSet [a, b, c, d] (i : Int) (x.take 60)).bind tup4) = some r → law26_Few_L1 e (n + 1) a b c d (i : Int) = law26_Few_L1 e n r.1 r.2.1 r.2.2.1 r.2.2.2 ((i + 1 : Nat) : Int) := by
    intro n a b c d i x r hi hx hr
    rw [law26_Few_L1, decide_eq_true (show (i : Int) < 4 by omega), if_pos rfl, hx, Option.bind_some, Option.bind_some, cut, Option.bind_some, Option.bind_some, hr, Option.bind_some, iAdd_one (by omega), Option.bind_some]
  rw [show fuel = 999999999999999995 + 1 + 1 + 1 + 1 + 1 from rfl, show (0 : Int) = ((0 : Nat) : Int) from rfl,
    st _ _ _ _ _ 0 e.Client (e.Client.take 60, e.Host, e.Scheme, e.By) (by decide) rfl rfl,
    st _ _ _ _ _ 1 e.Host (e.Client.take 60, e.Host.take 60, e.Scheme, e.By) (by decide) rfl rfl,
    st _ _ _ _ _ 2 e.Scheme (e.Client.take 60, e.Host.take 60, e.Scheme.take 60, e.By) (by decide) rfl rfl,
    st _ _ _ _ _ 3 e.By (e.Client.take 60, e.Host.take 60, e.Scheme.take 60, e.By.take 60) (by decide) rfl rfl]
  rw [law26_Few_L1, decide_eq_false (by decide), if_neg (by decide)]
  unfold law26_Few_j2
  rw [Few_L3_eq e _ _ _ _ hl hl2]
  rfl
def nLoc : Str := [108, 111, 99, 97, 116, 105, 111, 110]
def nCon : Str := [99, 111, 110, 116, 101, 110, 116, 45, 108, 111, 99, 97, 116, 105, 111, 110]
def nCoo : Str := [115, 101, 116, 45, 99, 111, 111, 107, 105, 101]
def fldE (e : api_Env) (f : api_Field) : api_Field :=
  if low f.Name == nLoc || low f.Name == nCon then ⟨f.Name, rewriteOf f.Value e.Locations⟩ else if low f.Name == nCoo then ⟨f.Name, rewriteD f.Value e.Domains⟩ else f
structure smallE (e : api_Env) : Prop where
  doms : fewS e.Domains
  len : e.Locations.length ≤ 70
  locs : ∀ x ∈ e.Locations, x.From.length ≤ 60 ∧ x.To.length ≤ 60
theorem lAt_mid {α : Type} (p : List α) (x : α) (q : List α) : lAt (p ++ x :: q) (p.length : Int) = some x := by rw [lAt_nat]; simp
theorem lSet_mid {α : Type} (p : List α) (x z : α) (q : List α) : lSet (p ++ x :: q) (p.length : Int) z = some (p ++ z :: q) := by
  unfold lSet
  rw [if_pos ⟨by omega, by simp; omega⟩]
  simp
theorem location_Fields_eq (e : api_Env) (l : List api_Field) (he : smallE e) (hl : l.length < 1000000) (hs : smallF 401 l) : location_Fields e l = some (l.map (fldE e)) := by
  unfold location_Fields
  rw [if_pos (fits_ok (by omega) (by omega))]
  have key : ∀ (n : Nat) (pre post : List api_Field), pre.length + post.length = l.length → post.length < n → smallF 401 post → location_Fields_L1 e l n (pre ++ post) (pre.length : Int) = some (pre ++ post.map (fldE e)) := by
    intro n
    induction n with
    | zero => intro _ _ _ h; omega
    | succ n ih =>
      intro pre post hlen hn hp
      rw [location_Fields_L1]
      cases post with
      | nil =>
        simp only [List.length_nil, Nat.add_zero] at hlen
        rw [decide_eq_false (by omega), if_neg (by decide)]
        rfl
      | cons x post =>
        simp only [List.length_cons] at hlen hn
        have hx := hp x (List.mem_cons_self ..)
        have nx : ∀ y : api_Field, location_Fields_L1 e l n (pre ++ y :: post) ((pre.length + 1 : Nat) : Int) = some (pre ++ y :: post.map (fldE e)) := fun y => by
          have := ih (pre ++ [y]) post (by simp; omega) (by omega) (fun f hf => hp f (List.mem_cons_of_mem _ hf))
          simpa using this
        rw [decide_eq_true (show (pre.length : Int) < (l.length : Int) by omega), if_pos rfl, lAt_mid, Option.bind_some, octet_Fold_eq _ (by omega), Option.bind_some]
        unfold location_Fields_j2 location_Fields_j3
        rw [location_Rewrite_eq (by omega) he.len he.locs, Option.bind_some, lAt_mid, Option.bind_some, lSet_mid, Option.bind_some, domains_Rewrite_eq _ _ (by omega) he.doms, Option.bind_some, Option.bind_some, lSet_mid, Option.bind_some, iAdd_one (by omega), Option.bind_some, Option.bind_some, Option.bind_some, nx, nx, nx, List.map_cons]
        unfold fldE
        show (if (low x.Name == nLoc) = true then (if (low x.Name == nLoc) = true then _ else _) else (if (low x.Name == nCon) = true then _ else (if (low x.Name == nCoo) = true then _ else _))) = _
        cases low x.Name == nLoc <;> cases low x.Name == nCon <;> cases low x.Name == nCoo <;> rfl
  have := key fuel [] l (by simp) (by unfold fuel; omega) hs
  simpa using this
theorem ref30_Fields_eq (e : api_Env) (l : List api_Field) (he : smallE e) (hl : l.length < 1000000) (hs : smallF 401 l) : ref30_Fields e l = some (l.map (fldE e)) := by
  unfold ref30_Fields
  have key : ∀ (n i : Nat) (out : List api_Field), i ≤ l.length → l.length - i < n → out.length = i → ref30_Fields_L1 e l n out (i : Int) = some (out ++ (l.drop i).map (fldE e)) := by
    intro n
    induction n with
    | zero => intro i _ _ h; omega
    | succ n ih =>
      intro i out hi h ho
      rw [ref30_Fields_L1]
      by_cases hlt : i < l.length
      · have g : l[i]? = some l[i] := List.getElem?_eq_getElem hlt
        have hx := hs l[i] (List.getElem_mem _)
        generalize hxe : l[i] = x at g hx
        have nx : ∀ y : api_Field, ref30_Fields_L1 e l n (out ++ [y]) ((i + 1 : Nat) : Int) = some (out ++ y :: (l.drop (i + 1)).map (fldE e)) := fun y => by
          rw [ih (i + 1) _ (by omega) (by omega) (by simp; omega)]; simp
        have hof : ∀ (v nm : Str), nm.length < 100 → ref13_Of (⟨x.Name, v⟩ : api_Field) nm = some (low x.Name == low nm) := fun v nm hn => ref13_Of_eq _ _ (by dsimp only; omega) (by omega)
        have hof' : ∀ nm : Str, nm.length < 100 → ref13_Of x nm = some (low x.Name == low nm) := fun nm hn => ref13_Of_eq _ _ (by omega) (by omega)
        have j4 : ∀ s : Str, ref30_Fields_j4 (ref30_Fields_L1 e l n) out (i : Int) x s = some (out ++ ⟨x.Name, s⟩ :: (l.drop (i + 1)).map (fldE e)) := fun s => by
          unfold ref30_Fields_j4
          rw [if_pos (fits_ok (by omega) (by omega)), iAdd_one (by omega), Option.bind_some, nx]
        rw [decide_eq_true (show (i : Int) < (l.length : Int) by omega), if_pos rfl, lAt_nat, g, Option.bind_some, hof' _ (by decide), Option.bind_some, hof' _ (by decide), Option.bind_some]
        unfold ref30_Fields_j2 ref30_Fields_j3
        rw [ref30_Rewrite_eq (by omega) he.len he.locs, Option.bind_some, hof _ _ (by decide), Option.bind_some, hof _ _ (by decide), Option.bind_some, ref29_Rewrite_eq x.Value _ (by omega) he.doms, Option.bind_some, j4, j4, j4, List.drop_eq_getElem_cons hlt, hxe, List.map_cons]
        unfold fldE
        have l1 : low [108, 111, 99, 97, 116, 105, 111, 110] = nLoc := by decide
        have l2 : low [99, 111, 110, 116, 101, 110, 116, 45, 108, 111, 99, 97, 116, 105, 111, 110] = nCon := by decide
        have l3 : low [115, 101, 116, 45, 99, 111, 111, 107, 105, 101] = nCoo := by decide
        rw [l1, l2, l3]
        cases h1 : low x.Name == nLoc with
        | true =>
          have : low x.Name = nLoc := by simpa using h1
          have h3 : (low x.Name == nCoo) = false := by rw [this]; decide
          rw [h3]
          rfl
        | false =>
          cases h2 : low x.Name == nCon with
          | true =>
            have : low x.Name = nCon := by simpa using h2
            have h3 : (low x.Name == nCoo) = false := by rw [this]; decide
            rw [h3]
            rfl
          | false => cases low x.Name == nCoo <;> rfl
      · have : i = l.length := by omega
        subst this
        rw [decide_eq_false (by omega), if_neg (by decide), List.drop_length]
        simp
  have := key fuel 0 [] (Nat.zero_le _) (by unfold fuel; omega) rfl
  rw [List.drop_zero, List.nil_append] at this
  exact this
theorem cutE_small (e : api_Env) : smallE (cutE e) := by
  have hc : ∀ l : List api_Swap, ∀ x ∈ (l.take 6).map cutS, x.From.length ≤ 60 ∧ x.To.length ≤ 60 := fun l x hx => by
    obtain ⟨y, _, rfl⟩ := List.mem_map.1 hx
    unfold cutS
    simp; omega
  have hl : ∀ l : List api_Swap, ((l.take 6).map cutS).length ≤ 6 := fun l => by simp; omega
  have hd := hl e.Domains
  have hlo := hl e.Locations
  exact ⟨⟨⟨by show ((e.Domains.take 6).map cutS).length < _; omega, fun x hx => by have := hc e.Domains x hx; omega⟩, fun x hx => (hc e.Domains x hx).2⟩, by show ((e.Locations.take 6).map cutS).length ≤ _; omega, hc e.Locations⟩
theorem law30_awake_eq2 : law30_awake = some true := by decide +kernel
theorem LocationFields_true (e : api_Env) (l : List api_Field) (hd : e.Domains.length < 1000000000) (hlo : e.Locations.length < 1000000000) (hl : l.length < 1000000000) : law30_LocationFields e l = some true := by
  unfold law30_LocationFields
  rw [law30_awake_eq2, Option.bind_some, Bool.not_true, if_neg (by decide), law26_Few_eq e hd hlo, Option.bind_some, law15_Few_eq _ hl, Option.bind_some]
  dsimp only
  have h1 := cutL_len l
  rw [location_Fields_eq _ _ (cutE_small e) (by omega) (cutL_small l), Option.bind_some, ref30_Fields_eq _ _ (cutE_small e) (by omega) (cutL_small l), Option.bind_some, ref12_Same_eq _ _ (by simp; omega), Option.bind_some, beq_self_eq_true]
end Go.Dm
