/-
  First lines: the document's, as the program's; written, and read again.
  First lines written, and read again.
  Blanks at a text's ends. No program in sight.
  Quoted texts, and lists between commas: what they come to. No program in sight.
  Rows of fields: the program's bag, and the document's. No program in sight.
  Two heads are the same just if all that they have is.
  A head's field read: the document's, as the program's.
  Heads read: lines between line ends, then what they are; the document's, as the program's.
  Heads printed: what may be, its text, and what is read of it again.
-/
import Derived.Test.YtoofmjmnhgdloaaGreatDoorT14P
section
namespace Go.Dm
theorem zrq (c : UInt8) : (!zN c || ((((c - 48).toNat : Int) == 1) == (c == 49))) = true := zI (fun c => !zN c || ((((c - 48).toNat : Int) == 1) == (c == 49))) (by decide +kernel) c
theorem dig_le (c : UInt8) : (!zN c || (decide (((c - 48).toNat : Int) ≤ 1) == (c == 48 || c == 49))) = true := zI (fun c => !zN c || (decide (((c - 48).toNat : Int) ≤ 1) == (c == 48 || c == 49))) (by decide +kernel) c
theorem zpU (a b : UInt8) (t : Str) (ha : zN a = true) (hb : zN b = true) : zeO (za5 ++ a :: 46 :: b :: t) = (((a - 48).toNat : Int), ((b - 48).toNat : Int), true, t) := by
  unfold zeO
  have hp : za5.isPrefixOf (za5 ++ a :: 46 :: b :: t) = true := List.isPrefixOf_iff_prefix.2 ⟨_, rfl⟩
  have hd : (za5 ++ a :: 46 :: b :: t).drop 5 = a :: 46 :: b :: t := rfl
  rw [if_pos hp, hd]
  have e1 : zhy (a :: 46 :: b :: t) = (((a - 48).toNat : Int), true, 46 :: b :: t) := by unfold zhy; dsimp only; rw [if_pos ha]
  have e2 : zhy (b :: t) = (((b - 48).toNat : Int), true, t) := by unfold zhy; dsimp only; rw [if_pos hb]
  rw [e1]
  dsimp only
  rw [zb5, zdH, e2]
  rfl
theorem zsA (a b : UInt8) (ha : zN a = true) (hb : zN b = true) : zbI (za5 ++ [a, 46, b]) = if ([a, 46, b] : Str) == [49, 46, 48] then 0 else if ([a, 46, b] : Str) == [49, 46, 49] then 1 else 2 := by
  unfold zbI
  rw [zpU a b [] ha hb]
  have h1 := zrq a
  have h2 := dig_le b
  rw [ha] at h1
  rw [hb] at h2
  have h1 : (((a - 48).toNat : Int) == 1) = (a == 49) := by simpa using h1
  have h2 : decide (((b - 48).toNat : Int) ≤ 1) = (b == 48 || b == 49) := by simpa using h2
  dsimp only
  rw [h1, h2]
  have e1 : (([a, 46, b] : Str) == [49, 46, 48]) = (a == 49 && b == 48) := by
    simp only [List.cons_beq_cons, beq_self_eq_true, Bool.true_and, Bool.and_true]
  have e2 : (([a, 46, b] : Str) == [49, 46, 49]) = (a == 49 && b == 49) := by
    simp only [List.cons_beq_cons, beq_self_eq_true, Bool.true_and, Bool.and_true]
  rw [e1, e2]
  cases a == 49 with
  | false => rfl
  | true =>
    cases h3 : b == 48 with
    | true => have : b = 48 := by simpa using h3
              subst this; rfl
    | false =>
      cases h4 : b == 49 with
      | true => have : b = 49 := by simpa using h4
                subst this; rfl
      | false => rfl
theorem zi1 {u : Str} (h : ∀ a b, u = za5 ++ [a, 46, b] → zN a = true → zN b = true → False) : zbI u = -1 := by
  unfold zbI
  cases hc : (zeO u).2.2.1 && (zeO u).2.2.2 == [] with
  | false => rfl
  | true =>
    exfalso
    simp only [Bool.and_eq_true] at hc
    obtain ⟨a, b, t, e, ha, hb, ev⟩ := zkG hc.1
    rw [ev] at hc
    have ht : t = [] := by simpa using hc.2
    subst ht
    exact h a b e ha hb
theorem zhW (u : Str) (hu : u.length < 1000000000) : zbY u = some (zbI u) := by
  unfold zbY za2
  by_cases h8 : u.length = 8
  · have e8 : ((u.length : Int) == 8) = true := by rw [h8]; rfl
    have t5 := zeM (l := u) (h := 5) (by omega)
    have f5 := zas (l := u) (i := 5) (by omega)
    have a5 : sAt u 5 = u[5]? := zak u 5
    have a6 : sAt u 6 = u[6]? := zak u 6
    have a7 : sAt u 7 = u[7]? := zak u 7
    have t5 : sTo u 5 = some (u.take 5) := t5
    have f5 : zbB u 5 = some (u.drop 5) := f5
    rw [e8, Bool.not_true, if_neg (by decide), t5, Option.bind_some, a5, a6, a7, f5, Option.bind_some, Option.bind_some]
    match u, h8 with
    | [c0, c1, c2, c3, c4, a, d, b], _ =>
      show (if (!(([c0, c1, c2, c3, c4] : Str) == za5)) = true then _ else (some a).bind fun b5 => (zcU b5).bind fun r6 => if (!r6) = true then _ else (some d).bind fun b8 => if (!(b8 == 46)) = true then _ else (some b).bind fun b10 => (zcU b10).bind fun r11 => if (!r11) = true then some (-1) else (if (([a, d, b] : Str) == [49, 46, 48]) = true then some 0 else if (([a, d, b] : Str) == [49, 46, 49]) = true then some 1 else some 2)) = _
      simp only [Option.bind_some, zm6]
      cases hp : ([c0, c1, c2, c3, c4] : Str) == za5 with
      | false =>
        rw [zi1 (fun x y e _ _ => by
          have := congrArg (List.take 5) e
          rw [show ([c0, c1, c2, c3, c4, a, d, b] : Str).take 5 = [c0, c1, c2, c3, c4] from rfl, show (za5 ++ [x, 46, y]).take 5 = za5 from rfl] at this
          rw [this, beq_self_eq_true] at hp
          cases hp)]
        rfl
      | true =>
        have hp' : ([c0, c1, c2, c3, c4] : Str) = za5 := by simpa using hp
        have hu : ([c0, c1, c2, c3, c4, a, d, b] : Str) = za5 ++ [a, d, b] := by rw [← hp']; rfl
        rw [hu]
        have hinj : ∀ x y, za5 ++ [a, d, b] = za5 ++ [x, 46, y] → a = x ∧ d = 46 ∧ b = y := fun x y e => by
          have := List.append_cancel_left e
          simpa using this
        cases ha : zN a with
        | false => rw [zi1 (fun x y e h1 _ => by obtain ⟨rfl, _, _⟩ := hinj x y e; rw [ha] at h1; cases h1)]; rfl
        | true =>
          cases hd : d == 46 with
          | false => rw [zi1 (fun x y e _ _ => by obtain ⟨_, h, _⟩ := hinj x y e; rw [h] at hd; exact absurd hd (by decide))]; rfl
          | true =>
            have hd' : d = 46 := by simpa using hd
            subst hd'
            cases hb : zN b with
            | false => rw [zi1 (fun x y e _ h2 => by obtain ⟨_, _, rfl⟩ := hinj x y e; rw [hb] at h2; cases h2)]; rfl
            | true =>
              rw [zsA a b ha hb]
              cases ([a, 46, b] : Str) == [49, 46, 48] <;> cases ([a, 46, b] : Str) == [49, 46, 49] <;> rfl
  · have e8 : ((u.length : Int) == 8) = false := beq_eq_false_iff_ne.2 (by omega)
    rw [e8, zi1 (fun a b e _ _ => h8 (by rw [e]; rfl))]
    rfl
theorem zpV {s : Str} {c : UInt8} : ∀ {k : Nat}, k ≤ s.length → zgp s c k = none → c ∉ s.take k
  | 0, _, _ => by simp
  | k + 1, hk, h => by
    rw [zgp] at h
    split at h
    · cases h
    · rename_i h2
      have ih := zpV (by omega) h
      rw [List.take_add_one]
      intro hm
      rcases List.mem_append.1 hm with hm | hm
      · exact ih hm
      · have g : s[k]? = some s[k] := List.getElem?_eq_getElem (by omega)
        rw [g] at hm h2
        have : c = s[k] := by simpa using hm
        exact h2 (by rw [this])
theorem zlV {s : Str} {c : UInt8} : ∀ {k i : Nat}, k ≤ s.length → zgp s c k = some i → c ∉ (s.take k).drop (i + 1)
  | 0, _, _, h => by cases h
  | k + 1, i, hk, h => by
    rw [zgp] at h
    split at h
    · cases h
      rw [List.drop_of_length_le (by rw [List.length_take]; omega)]
      simp
    · rename_i h2
      have ih := zlV (by omega) h
      have hlt := (zjb h).1
      have g : s[k]? = some s[k] := List.getElem?_eq_getElem (by omega)
      rw [List.take_add_one, g, List.drop_append_of_le_length (by simp; omega)]
      intro hm
      rcases List.mem_append.1 hm with hm | hm
      · exact ih hm
      · rw [g] at h2
        have : c = s[k] := by simpa using hm
        exact h2 (by rw [this])
theorem zmR (s : Str) : ∃ l, zh 32 s = l ++ [zi5 s] := by
  unfold zi5 zon
  cases h : zgp s 32 s.length with
  | none =>
    have := zpV (Nat.le_refl _) h
    rw [List.take_length] at this
    exact ⟨[], by rw [zff this]; rfl⟩
  | some k =>
    have h1 := zjb h
    have h2 := zlV (Nat.le_refl _) h
    rw [List.take_length] at h2
    have g : s[k]? = some s[k] := List.getElem?_eq_getElem h1.1
    rw [g] at h1
    have hc : s[k] = 32 := Option.some.inj h1.2
    have e : s = s.take k ++ 32 :: s.drop (k + 1) := by
      have := (List.take_append_drop k s).symm
      rw [List.drop_eq_getElem_cons h1.1, hc] at this
      exact this
    refine ⟨zh 32 (s.take k), ?_⟩
    conv => lhs; rw [e]
    rw [zkS, zff h2]
theorem zkg : ∀ {s m : Str} {l : List Str}, zh 32 s = m :: l → (l = [] ∧ s = m) ∨ ∃ r, s = m ++ 32 :: r ∧ zh 32 r = l
  | [], m, l, h => by rw [zh] at h; cases h; exact .inl ⟨rfl, rfl⟩
  | y :: s, m, l, h => by
    rw [zay] at h
    split at h
    · rename_i e
      injection h with h1 h2
      subst h1 e
      exact .inr ⟨s, rfl, h2⟩
    · cases h3 : zh 32 s with
      | nil => exact absurd h3 (zba 32 s)
      | cons a l' =>
        rw [h3] at h
        injection h with h1 h2
        subst h2
        rcases zkg h3 with ⟨h4, h5⟩ | ⟨r, h4, h5⟩
        · exact .inl ⟨h4, by rw [← h1, h5]; rfl⟩
        · exact .inr ⟨r, by rw [← h1, h4]; rfl, h5⟩
theorem zim {p : UInt8 → Bool} {c : UInt8} (hc : p c = false) : ∀ {m : Str} (r : Str), m.all p = true → (m ++ c :: r).takeWhile p = m ∧ (m ++ c :: r).dropWhile p = c :: r
  | [], r, _ => by simp [hc]
  | x :: m, r, h => by
    simp only [List.all_cons, Bool.and_eq_true] at h
    have ih := zim hc r h.2
    constructor
    · rw [List.cons_append, List.takeWhile_cons, if_pos h.1, ih.1]
    · rw [List.cons_append, List.dropWhile_cons, if_pos h.1, ih.2]
theorem zsB {t : Str} (h : (32 : UInt8) ∉ t) : t.all (fun b => !(b == 32)) = true :=
  List.all_eq_true.2 fun x hx => by
    have : x ≠ 32 := fun e => h (by rw [← e]; exact hx)
    simp [this]
theorem zsC {m t v : Str} (h1 : m.all za4 = true) (h2 : (32 : UInt8) ∉ t) : zkj (m ++ 32 :: (t ++ 32 :: v)) = m ∧ zmd (m ++ 32 :: (t ++ 32 :: v)) = t ∧ zlZ (m ++ 32 :: (t ++ 32 :: v)) = 32 :: (t ++ 32 :: v) ∧ zhz (m ++ 32 :: (t ++ 32 :: v)) = 32 :: v := by
  have a := zim (p := za4) (c := 32) (by decide) (t ++ 32 :: v) h1
  have b := zim (p := fun b => !(b == 32)) (c := 32) (by decide) v (zsB h2)
  unfold zkj zmd zhz zlZ
  rw [a.1, a.2, zb5, b.1, b.2]
  exact ⟨rfl, rfl, rfl, rfl⟩
def reqS (s : Str) : api_Head × Int :=
  if zbI (zi5 s) == 2 then (zcI, 26) else match zh 32 s with
  | [m, t, v] => if !decide (zbI v < 0) && zfw m && (zhb m t).2 == 0 then (⟨1, m, t, 0, [], zbI v, []⟩, 0) else (zcI, 20)
  | _ => (zcI, 20)
theorem zll (m : Str) : zfw m = true ↔ m ≠ [] ∧ m.all za4 = true := by
  unfold zfw
  cases m <;> simp
theorem zlW {s m t v : Str} (h : zh 32 s = [m, t, v]) : s = m ++ 32 :: (t ++ 32 :: v) ∧ (32 : UInt8) ∉ m ∧ (32 : UInt8) ∉ t ∧ (32 : UInt8) ∉ v ∧ zi5 s = v := by
  have hm := fun x (hx : x ∈ zh 32 s) => (zco hx).1
  rw [h] at hm
  refine ⟨?_, hm m (by simp), hm t (by simp), hm v (by simp), ?_⟩
  · rcases zkg h with ⟨h1, _⟩ | ⟨r, h1, h2⟩
    · cases h1
    · rcases zkg h2 with ⟨h3, _⟩ | ⟨r2, h3, h4⟩
      · cases h3
      · rw [h1, h3, zji h4]
  · obtain ⟨l, hl⟩ := zmR s
    rw [h] at hl
    have := congrArg List.getLast? hl
    simp at this
    exact this.symm
theorem zqR (s : Str) : zme s = reqS s := by
  unfold zme reqS
  cases h26 : zbI (zi5 s) == 2 with
  | true => rfl
  | false =>
    rw [if_neg Bool.false_ne_true, if_neg Bool.false_ne_true]
    cases hF : zp7 s with
    | true =>
      obtain ⟨v, e, n1, n2, h3, h4, k1, k2, k3, k4⟩ := zkk hF
      have hv := zsN k1 k2
      have hsp : zh 32 s = [zkj s, zmd s, v] := by
        have := zqd n1 n2 hv
        rw [← e] at this
        exact this
      rw [if_pos rfl, hsp, k3]
      dsimp only
      rw [decide_eq_false (show ¬ zbI v < 0 by omega), (zll _).2 ⟨h3, h4⟩, k4]
      rfl
    | false =>
      rw [if_neg (by decide)]
      split
      · rename_i m t v hsp
        split
        · rename_i hc
          exfalso
          simp only [Bool.and_eq_true, Bool.not_eq_true', decide_eq_false_iff_not] at hc
          obtain ⟨⟨c1, c2⟩, c3⟩ := hc
          obtain ⟨e, _, n2, _, hlast⟩ := zlW hsp
          obtain ⟨t1, t2⟩ := (zll _).1 c2
          obtain ⟨r1, r2, r3, r4⟩ := zsC (v := v) t2 n2
          rw [← e] at r1 r2 r3 r4
          have hm := (zom v).1
          rw [hlast] at h26
          rw [decide_eq_true (show 0 ≤ zbI v by omega), h26] at hm
          unfold zp7 at hF
          rw [r1, r2, r3, r4, zdH, zb5, zdH, hm, c3] at hF
          have : (m == []) = false := by simpa using t1
          rw [this] at hF
          revert hF
          decide
        · rfl
      · rfl
theorem zlX (w : List Str) (v : Int) (m t u : Str) (hw : w = [m, t, u]) (hb : t.length < 300000000) (q : Bool) :
    zav w v q = some (if q then (zcI, 20) else if (zhb m t).2 == 0 then (⟨1, m, t, 0, [], v, []⟩, 0) else (zcI, 20)) := by
  subst hw
  unfold zav
  have l0 : lAt [m, t, u] 0 = some m := rfl
  have l1 : lAt [m, t, u] 1 = some t := rfl
  rw [l0, l1, Option.bind_some, Option.bind_some, zmB m t hb, Option.bind_some, Option.bind_some, Option.bind_some]
  cases q <;> cases (zhb m t).2 == 0 <;> rfl
theorem zo1 (s : Str) (hs : s.length < 300000000) : ((zd8 ((zh 32 s).length : Int) 1).bind fun i28 => (lAt (zh 32 s) i28).bind fun x29 => (zbY x29).bind fun r32 =>
    if (r32 == 2) then (some (((⟨0, [], [], 0, [], 0, []⟩ : api_Head), 26))) else (if (!(((zh 32 s).length : Int) == 3)) then (zav (zh 32 s) r32 true) else (if (decide (r32 < 0)) then (zav (zh 32 s) r32 true) else ((lAt (zh 32 s) 0).bind fun x40 => (zdO x40).bind fun r43 => zav (zh 32 s) r32 (!r43))))) = some (reqS s) := by
  have hlen := zdE 32 s
  have hpos := List.length_pos_iff.2 (zba 32 s)
  obtain ⟨l, hl⟩ := zmR s
  have hlw : (zi5 s).length ≤ s.length := by unfold zi5; simp
  have e1 : zd8 ((zh 32 s).length : Int) 1 = some (((zh 32 s).length - 1 : Nat) : Int) := by rw [zcG (by omega) (by omega)]; congr 1; omega
  have e2 : (zh 32 s)[(zh 32 s).length - 1]? = some (zi5 s) := by rw [hl]; simp
  rw [e1, Option.bind_some, zbH, e2, Option.bind_some, zhW _ (by omega), Option.bind_some]
  unfold reqS
  cases zbI (zi5 s) == 2 with
  | true => rfl
  | false =>
    rw [if_neg Bool.false_ne_true, if_neg Bool.false_ne_true]
    by_cases h3 : (zh 32 s).length = 3
    · have e3 : (((zh 32 s).length : Int) == 3) = true := by rw [h3]; rfl
      obtain ⟨m, t, v, hsp⟩ : ∃ m t v, zh 32 s = [m, t, v] := by
        match zh 32 s, h3 with
        | [m, t, v], _ => exact ⟨m, t, v, rfl⟩
      have hmem := fun x (hx : x ∈ zh 32 s) => (zco hx).2.1
      obtain ⟨_, _, _, _, hlast⟩ := zlW hsp
      rw [e3, Bool.not_true, if_neg (by decide), hlast, hsp]
      rw [hsp] at hmem
      have hm := hmem m (by simp)
      have ht := hmem t (by simp)
      have l0 : lAt [m, t, v] 0 = some m := rfl
      rw [l0, Option.bind_some, zjh m (by omega), Option.bind_some, zlX [m, t, v] (zbI v) m t v rfl (by omega), zlX [m, t, v] (zbI v) m t v rfl (by omega)]
      dsimp only
      cases decide (zbI v < 0) <;> cases zfw m <;> cases (zhb m t).2 == 0 <;> rfl
    · have e3 : (((zh 32 s).length : Int) == 3) = false := beq_eq_false_iff_ne.2 (by omega)
      rw [e3, Bool.not_false, if_pos rfl]
      unfold zav
      rw [if_pos rfl]
      split
      · rename_i m t v hsp
        rw [hsp] at h3
        exact absurd rfl h3
      · rfl
theorem zof (s : Str) : zh 32 s = if (zK 32 s).2.2 then (zK 32 s).1 :: zh 32 (zK 32 s).2.1 else [s] := by
  have hno : (32 : UInt8) ∉ (zK 32 s).1 := fun hm => by
    have := zpF (cs := [32]) (s := s) 32 hm
    simp at this
  rcases zcg (zK 32 s).2.2 with h | h
  · rw [if_pos h]
    have := zm3 32 s h
    conv => lhs; rw [← this]
    exact zdD _ hno
  · have hn := zis 32 s h
    rw [if_neg (by rw [h]; decide)]
    rw [hn] at hno
    exact zff hno
theorem zpW (b : UInt8) (t : Str) (hb : b = 48 ∨ b = 49) : zdB (za5 ++ 49 :: 46 :: b :: t) = (((b - 48).toNat : Int), true, t) := by
  unfold zdB
  rw [zpU 49 b t (by decide) (by rcases hb with h | h <;> subst h <;> decide)]
  rcases hb with h | h <;> subst h <;> rfl
theorem zin {s : Str} {m : Int} (h : (zaj 10 s m).2 = 0) : s.all zN = true ∧ s ≠ [] := by
  unfold zaj at h
  split at h
  · cases h
  · rename_i h2
    simp only [Bool.or_eq_true, Bool.not_eq_true', not_or] at h2
    have h3 : s.all (zhJ 10) = true := by simpa using h2.2
    exact ⟨List.all_eq_true.2 fun x hx => (List.all_eq_true.1 h3 x hx : zhJ 10 x = true), by simpa using h2.1⟩
def zmS (s : Str) : Bool := match zh 32 s with
  | w0 :: w1 :: _ :: _ => !decide (zbI w0 < 0) && (w1.length : Int) == 3 && (zaj 10 w1 599).2 == 0 && !decide ((zaj 10 w1 599).1 < 100) && (s.drop 13).all zem
  | _ => false
theorem zkC {b : UInt8} {w r : Str} (hb : b = 48 ∨ b = 49) (hw : w.all zN = true) : (zdB (za5 ++ 49 :: 46 :: b :: 32 :: (w ++ 32 :: r))) = (((b - 48).toNat : Int), true, 32 :: (w ++ 32 :: r)) ∧ zmZ (za5 ++ 49 :: 46 :: b :: 32 :: (w ++ 32 :: r)) = w ∧ zkH (za5 ++ 49 :: 46 :: b :: 32 :: (w ++ 32 :: r)) = 32 :: r := by
  have h1 := zpW b (32 :: (w ++ 32 :: r)) hb
  have h2 := zim (p := zN) (c := 32) (by decide) r hw
  refine ⟨h1, ?_, ?_⟩
  · unfold zmZ; rw [h1]; dsimp only; rw [zb5, h2.1]
  · unfold zkH; rw [h1]; dsimp only; rw [zb5, h2.2]
theorem zog {w : Str} (h : w.all zN = true) : (32 : UInt8) ∉ w := fun hm => by
  have := List.all_eq_true.1 h 32 hm
  revert this; decide
theorem zio {s : Str} (h : zo6 s = true) : ∃ b w r, (b = 48 ∨ b = 49) ∧ s = za5 ++ 49 :: 46 :: b :: 32 :: (w ++ 32 :: r) ∧ w.all zN = true ∧ w.length = 3 := by
  unfold zo6 at h
  simp only [Bool.and_eq_true] at h
  obtain ⟨⟨⟨⟨⟨⟨h1, h2⟩, h3⟩, h4⟩, h5⟩, h6⟩, h7⟩ := h
  unfold zdB at h1
  simp only [Bool.and_eq_true, decide_eq_true_eq, beq_iff_eq] at h1
  obtain ⟨⟨a1, a2⟩, a3⟩ := h1
  obtain ⟨a, b, t, e, ha, hb, ev⟩ := zkG a1
  rw [ev] at a2 a3
  have hm : (zdB s).2.2 = t := by unfold zdB; rw [ev]
  rw [hm] at h2
  have ha1 : a = 49 := by
    have := zrq a
    rw [ha] at this
    have : (((a - 48).toNat : Int) == 1) = (a == 49) := by simpa using this
    rw [show (((a - 48).toNat : Int) == 1) = true from by simpa using a2] at this
    simpa using this.symm
  have hb1 := zi4 hb (by dsimp only at a3; omega)
  have e2 := zfQ h2
  have e4 := zfQ h3
  have e5 : zmZ s ++ zkH s = zaD 32 t := by
    unfold zmZ zkH; rw [hm]; exact List.takeWhile_append_dropWhile
  have hl3 : ((zmZ s).length : Int) = 3 := by simpa using h4
  refine ⟨b, zmZ s, zaD 32 (zkH s), hb1, ?_, (zin (by simpa using h5)).1, by omega⟩
  rw [← e4, e5, ← e2, ← ha1, e]
theorem ztL (s : Str) (h26 : (zbI (zK 32 s).1 == 2) = false) : zo6 s = zmS s := by
  rw [Bool.eq_iff_iff]
  constructor
  · intro h
    have h' := h
    obtain ⟨b, w, r, hb, e, hw, hl⟩ := zio h
    obtain ⟨m1, m2, m3⟩ := zkC (r := r) hb hw
    rw [← e] at m1 m2 m3
    unfold zo6 at h'
    rw [m1, m2, m3] at h'
    simp only [Bool.and_eq_true, zb5] at h'
    have h32 : (32 : UInt8) ∉ (za5 ++ [49, 46, b]) := by rcases hb with h | h <;> subst h <;> decide
    have hsp : zh 32 s = (za5 ++ [49, 46, b]) :: w :: zh 32 r := by
      have e' : s = (za5 ++ [49, 46, b]) ++ 32 :: (w ++ 32 :: r) := by rw [e]; simp
      rw [e', zdD _ h32, zdD _ (zog hw)]
    have hd : s.drop 13 = r := by
      rw [e]
      show (w ++ 32 :: r).drop 4 = r
      match w, hl with
      | [x, y, z], _ => rfl
    have hv : zbI (za5 ++ [49, 46, b]) = ((b - 48).toNat : Int) := by rcases hb with h | h <;> subst h <;> decide
    unfold zmS
    rw [hsp]
    cases hr : zh 32 r with
    | nil => exact absurd hr (zba 32 r)
    | cons x l =>
      dsimp only
      rw [hd, hv, decide_eq_false (by omega)]
      simp only [Bool.and_eq_true]
      exact ⟨⟨⟨⟨rfl, by rw [hl]; rfl⟩, h'.1.1.2⟩, h'.1.2⟩, h'.2⟩
  · intro h
    unfold zmS at h
    split at h
    · rename_i w0 w1 w2 l hsp
      simp only [Bool.and_eq_true, Bool.not_eq_true', decide_eq_false_iff_not] at h
      obtain ⟨⟨⟨⟨h1, h2⟩, h3⟩, h4⟩, h5⟩ := h
      have hc := zof s
      rw [hsp] at hc
      have h0 : (zK 32 s).1 = w0 := by
        split at hc
        · injection hc with hc _; exact hc.symm
        · cases hc
      rw [h0] at h26
      rcases zkg hsp with ⟨hx, _⟩ | ⟨r1, e1, hsp1⟩
      · cases hx
      rcases zkg hsp1 with ⟨hx, _⟩ | ⟨r, e2, hsp2⟩
      · cases hx
      have hb : ∃ b, (b = 48 ∨ b = 49) ∧ w0 = za5 ++ [49, 46, b] := by
        rcases zg9 (u := w0) (by omega) h26 with ⟨h, _⟩ | ⟨h, _⟩
        · exact ⟨48, .inl rfl, h⟩
        · exact ⟨49, .inr rfl, h⟩
      obtain ⟨b, hb, hw0⟩ := hb
      have hw := (zin (by simpa using h3)).1
      have e : s = za5 ++ 49 :: 46 :: b :: 32 :: (w1 ++ 32 :: r) := by rw [e1, hw0, e2]; simp
      obtain ⟨m1, m2, m3⟩ := zkC (r := r) hb hw
      rw [← e] at m1 m2 m3
      have hl : w1.length = 3 := by have : (w1.length : Int) = 3 := by simpa using h2
                                    omega
      have hd : s.drop 13 = r := by
        rw [e]
        show (w1 ++ 32 :: r).drop 4 = r
        match w1, hl with
        | [x, y, z], _ => rfl
      rw [hd] at h5
      unfold zo6
      rw [m1, m2, m3]
      simp only [Bool.and_eq_true, zb5, zdH]
      exact ⟨⟨⟨⟨⟨⟨by first | trivial | rfl, by first | trivial | rfl⟩, by first | trivial | rfl⟩, h2⟩, h3⟩, by rw [decide_eq_false (by omega)]; rfl⟩, h5⟩
    · cases h
theorem zpX (v : Int) (rd : Int × Int) (u : Str) (hu : u.length < 1000000000) : zbA v rd u fuel 0 = some (if u.all zem && rd.2 == 0 && !decide (rd.1 < 100) then (⟨2, [], [], rd.1, u, v, []⟩, 0) else (zcI, 20)) := by
  have key : ∀ (n i : Nat), i ≤ u.length → u.length - i < n → zbA v rd u n (i : Int) = some (if (u.drop i).all zem && rd.2 == 0 && !decide (rd.1 < 100) then (⟨2, [], [], rd.1, u, v, []⟩, 0) else (zcI, 20)) := by
    intro n
    induction n with
    | zero => intro i _ h; omega
    | succ n ih =>
      intro i hi h
      rw [zbA]
      by_cases hlt : i < u.length
      · have g : u[i]? = some u[i] := List.getElem?_eq_getElem hlt
        rw [decide_eq_true (show (i : Int) < (u.length : Int) by omega), if_pos rfl, zak, g, Option.bind_some, zjg, Option.bind_some, zq (by omega), Option.bind_some, ih (i + 1) (by omega) (by omega), List.drop_eq_getElem_cons hlt, List.all_cons]
        cases zem u[i] <;> rfl
      · have : i = u.length := by omega
        subst this
        unfold zd0
        rw [decide_eq_false (by omega), if_neg (by decide), List.drop_length]
        cases rd.2 == 0 <;> cases decide (rd.1 < 100) <;> rfl
  have := key fuel 0 (Nat.zero_le _) (by unfold fuel; omega)
  rw [List.drop_zero] at this
  exact this
theorem zo2 (s : Str) (hs : s.length < 300000000) : ((lAt (zh 32 s) 0).bind fun x69 => (zbY x69).bind fun r72 =>
    if (r72 == 2) then (some (((⟨0, [], [], 0, [], 0, []⟩ : api_Head), 26))) else (if (decide (((zh 32 s).length : Int) < 3)) then (zaw s (zh 32 s) r72 true) else (if (decide (r72 < 0)) then (zaw s (zh 32 s) r72 true) else ((lAt (zh 32 s) 1).bind fun x80 => zaw s (zh 32 s) r72 (!((x80.length : Int) == 3)))))) = some (znS s) := by
  have hc := zof s
  have hcl := zjy 32 s
  have h0 : ∃ l, zh 32 s = (zK 32 s).1 :: l := by
    rcases zcg (zK 32 s).2.2 with h | h
    · rw [if_pos h] at hc; exact ⟨_, hc⟩
    · rw [if_neg (by rw [h]; decide)] at hc
      have := zis 32 s h
      exact ⟨[], by rw [hc, this]⟩
  obtain ⟨l, hl⟩ := h0
  have l0 : lAt (zh 32 s) 0 = some (zK 32 s).1 := by rw [hl]; rfl
  rw [l0, Option.bind_some, zhW _ (by omega), Option.bind_some]
  unfold znS
  cases h26 : zbI (zK 32 s).1 == 2 with
  | true => rfl
  | false =>
    rw [if_neg Bool.false_ne_true, if_neg Bool.false_ne_true]
    have hok := ztL s h26
    have j5t : ∀ w, zaw s w (zbI (zK 32 s).1) true = some (zcI, 20) := fun w => by unfold zaw; rw [if_pos rfl]; rfl
    by_cases h3 : (zh 32 s).length < 3
    · rw [decide_eq_true (show ((zh 32 s).length : Int) < 3 by omega), if_pos rfl, j5t, hok]
      have : zmS s = false := by
        unfold zmS
        split
        · rename_i w0 w1 w2 l' hsp
          rw [hsp] at h3; simp only [List.length_cons] at h3; omega
        · rfl
      rw [this]; rfl
    · rw [decide_eq_false (show ¬ ((zh 32 s).length : Int) < 3 by omega), if_neg (by decide), j5t]
      obtain ⟨w1, w2, l', hsp⟩ : ∃ w1 w2 l', zh 32 s = (zK 32 s).1 :: w1 :: w2 :: l' := by
        rw [hl] at h3
        match l, h3 with
        | w1 :: w2 :: l', _ => exact ⟨w1, w2, l', hl⟩
        | [_], h => simp at h
        | [], h => simp at h
      have l1 : lAt (zh 32 s) 1 = some w1 := by rw [hsp]; rfl
      rw [l1, Option.bind_some, hok]
      have hst : zmS s = (!decide (zbI (zK 32 s).1 < 0) && (w1.length : Int) == 3 && (zaj 10 w1 599).2 == 0 && !decide ((zaj 10 w1 599).1 < 100) && (s.drop 13).all zem) := by
        unfold zmS; rw [hsp]
      cases hneg : decide (zbI (zK 32 s).1 < 0) with
      | true => rw [if_pos rfl, hst, hneg]; rfl
      | false =>
        rw [if_neg (by decide)]
        cases hl3 : (w1.length : Int) == 3 with
        | false => rw [Bool.not_false, j5t, hst, hneg, hl3]; rfl
        | true =>
          have hw3 : w1.length = 3 := by have : (w1.length : Int) = 3 := by simpa using hl3
                                         omega
          have h13 : 13 ≤ s.length := by
            have hneg' : ¬ zbI (zK 32 s).1 < 0 := by simpa using hneg
            rcases zkg hsp with ⟨hx, _⟩ | ⟨r1, e1, hsp1⟩
            · cases hx
            rcases zkg hsp1 with ⟨hx, _⟩ | ⟨r, e2, _⟩
            · cases hx
            have h8 : (zK 32 s).1.length = 8 := by
              rcases zg9 (u := (zK 32 s).1) (by omega) h26 with ⟨h, _⟩ | ⟨h, _⟩ <;> rw [h] <;> rfl
            rw [e2] at e1
            have := congrArg List.length e1
            simp only [List.length_append, List.length_cons] at this
            omega
          unfold zaw
          have hrd := zj8 (b := 10) (.inl rfl) w1 599 (by omega) (by decide) (by decide)
          rw [show ((10 : Nat) : Int) = 10 from rfl] at hrd
          have hfr : zbB s 13 = some (s.drop 13) := zas (i := 13) h13
          rw [Bool.not_true, if_neg (by decide), l1, Option.bind_some, hrd, Option.bind_some, hfr, Option.bind_some, zpX _ _ _ (by simp; omega), hst, hneg, hl3]
          cases hq : (s.drop 13).all zem && (zaj 10 w1 599).2 == 0 && !decide ((zaj 10 w1 599).1 < 100) with
          | false =>
            have : (!false && true && (zaj 10 w1 599).2 == 0 && !decide ((zaj 10 w1 599).1 < 100) && (s.drop 13).all zem) = false := by
              revert hq
              cases (s.drop 13).all zem <;> cases (zaj 10 w1 599).2 == 0 <;> cases decide ((zaj 10 w1 599).1 < 100) <;> decide
            rw [this]; rfl
          | true =>
            have ht : (!false && true && (zaj 10 w1 599).2 == 0 && !decide ((zaj 10 w1 599).1 < 100) && (s.drop 13).all zem) = true := by
              revert hq
              cases (s.drop 13).all zem <;> cases (zaj 10 w1 599).2 == 0 <;> cases decide ((zaj 10 w1 599).1 < 100) <;> decide
            have hF : zo6 s = true := by rw [hok, hst, hneg, hl3]; exact ht
            obtain ⟨b, w, r, hb, e, hw, hlw⟩ := zio hF
            obtain ⟨m1, m2, m3⟩ := zkC (r := r) hb hw
            rw [← e] at m1 m2 m3
            have h32 : (32 : UInt8) ∉ (za5 ++ [49, 46, b]) := by rcases hb with h | h <;> subst h <;> decide
            have hsp' : zh 32 s = (za5 ++ [49, 46, b]) :: w :: zh 32 r := by
              have e' : s = (za5 ++ [49, 46, b]) ++ 32 :: (w ++ 32 :: r) := by rw [e]; simp
              rw [e', zdD _ h32, zdD _ (zog hw)]
            rw [hsp] at hsp'
            injection hsp' with q1 q2
            injection q2 with q2 _
            have hd : s.drop 13 = r := by
              rw [e]
              show (w ++ 32 :: r).drop 4 = r
              match w, hlw with
              | [x, y, z], _ => rfl
            have hv : zbI (za5 ++ [49, 46, b]) = ((b - 48).toNat : Int) := by rcases hb with h | h <;> subst h <;> decide
            rw [ht, if_pos rfl, if_pos rfl, m1, m2, m3, zb5, q1, hv, hd, q2]
theorem zmT (kind : Int) (s : Str) (hs : s.length < 300000000) : zgu kind s = some (zb6 kind s) := by
  unfold zgu zd1 zb6
  have key : ∀ (n i : Nat), i ≤ s.length → s.length - i < n → (!(kind == 1) && !(kind == 2)) = false → zaJ kind s n (i : Int) = some (if (s.drop i).any ([13, 10] : Str).contains then (zcI, 24) else if kind == 1 then zme s else znS s) := by
    intro n
    induction n with
    | zero => intro i _ h; omega
    | succ n ih =>
      intro i hi h hk
      rw [zaJ]
      by_cases hlt : i < s.length
      · have g : s[i]? = some s[i] := List.getElem?_eq_getElem hlt
        unfold zdZ
        rw [decide_eq_true (show (i : Int) < (s.length : Int) by omega), if_pos rfl, zak, g, Option.bind_some, Option.bind_some, zq (by omega), Option.bind_some, ih (i + 1) (by omega) (by omega) hk, List.drop_eq_getElem_cons hlt, List.any_cons]
        have : ([13, 10] : Str).contains s[i] = (s[i] == 13 || s[i] == 10) := by simp only [List.contains_cons, List.contains_nil, Bool.or_false]
        rw [this]
        cases s[i] == 13 <;> cases s[i] == 10 <;> rfl
      · have : i = s.length := by omega
        subst this
        rw [decide_eq_false (by omega), if_neg (by decide), zg4 s 32 (by omega), Option.bind_some, List.drop_length, zo1 s hs, zo2 s hs, zqR]
        cases kind == 1 <;> rfl
  have := key fuel 0 (Nat.zero_le _) (by unfold fuel; omega)
  rw [List.drop_zero] at this
  have this : (!(kind == 1) && !(kind == 2)) = false → zaJ kind s fuel 0 = _ := this
  cases h1 : kind == 1 with
  | true => rw [h1] at this; rw [Bool.not_true, if_neg (by decide), if_neg (by decide), this rfl]; rfl
  | false =>
    cases h2 : kind == 2 with
    | true => rw [h1, h2] at this; rw [Bool.not_false, if_pos rfl, Bool.not_true, if_neg (by decide), this rfl]; rfl
    | false => rfl
end Go.Dm
end
section
namespace Go.Dm
def zkP (n : Int) : Str := za5 ++ 49 :: 46 :: zfL 10 n
def zgR (h : api_Head) : Str := if h.Kind == 2 then zkP h.Minor ++ 32 :: (zfL 10 h.Code ++ 32 :: h.Reason) else h.Method ++ 32 :: (h.Target ++ 32 :: zkP h.Minor)
def zrx (x h : api_Head) : Bool := x.Method == h.Method && x.Target == h.Target && x.Minor == h.Minor && x.Code == h.Code && x.Reason == h.Reason
def zfa (h : api_Head) : Str × Int := if (zb6 h.Kind (zgR h)).2 == 1 then ([], 1) else if (zb6 h.Kind (zgR h)).2 == 0 && zrx (zb6 h.Kind (zgR h)).1 h then (zgR h, 0) else ([], 20)
structure smallH (h : api_Head) : Prop where
  code : inI h.Code = true
  minor : inI h.Minor = true
  method : h.Method.length < 10000000
  target : h.Target.length < 10000000
  reason : h.Reason.length < 10000000
theorem zkQ {n : Int} (hn : inI n = true) : (zkP n).length ≤ 80 := by
  have := zf6 n hn
  unfold zkP
  simp only [List.length_append, List.length_cons]
  have : za5.length = 5 := rfl
  omega
theorem zna {h : api_Head} (hs : smallH h) : (zgR h).length < 100000000 := by
  have h1 := zkQ hs.minor
  have h2 := zf6 h.Code hs.code
  have h3 := hs.method
  have h4 := hs.target
  have h5 := hs.reason
  unfold zgR
  split <;> simp only [List.length_append, List.length_cons] <;> omega
theorem join3 (a b c : Str) (hl : (a ++ [32] ++ b ++ [32] ++ c).length < 4000000000) : zfW [32] [a, b, c] = some (a ++ 32 :: (b ++ 32 :: c)) := by
  unfold zfW strings_Join
  have e : Go.Lib.join [a, b, c] [32] = a ++ [32] ++ b ++ [32] ++ c := by
    rw [Go.Lib.join_cons]; simp [Go.Lib.joinTail]
  rw [e, if_pos ⟨by simp, by omega⟩]
  simp
theorem zhE (h : api_Head) (hs : smallH h) : zcQ h = some (zfa h) := by
  have hl := zna hs
  have h1 := zkQ hs.minor
  have h2 := zf6 h.Code hs.code
  have h2' := zf6 h.Minor hs.minor
  have h3 := hs.method
  have h4 := hs.target
  have h5 := hs.reason
  have j1 : zbF h (zgR h) = some (zfa h) := by
    unfold zbF zaF zcu
    rw [zeP _ _ (by omega), Option.bind_some]
    unfold zfa zrx
    generalize zgR h = u
    generalize zb6 h.Kind u = p
    obtain ⟨x, e⟩ := p
    dsimp only
    cases h1 : e == 1 with
    | true =>
      have : e = 1 := by simpa using h1
      subst this; rfl
    | false =>
      rw [if_neg Bool.false_ne_true, if_neg Bool.false_ne_true]
      cases e == 0 <;> cases x.Method == h.Method <;> cases x.Target == h.Target <;> cases x.Minor == h.Minor <;> cases x.Code == h.Code <;> cases x.Reason == h.Reason <;> rfl
  unfold zcQ
  have hv : ([72, 84, 84, 80, 47, 49, 46] : Str) ++ zfL 10 h.Minor = zkP h.Minor := rfl
  rw [zgK _ hs.minor, Option.bind_some, zal (by simp; omega), Option.bind_some, hv, join3 _ _ _ (by simp only [List.length_append, List.length_cons, List.length_nil]; omega), Option.bind_some, zgK _ hs.code, Option.bind_some, join3 _ _ _ (by simp only [List.length_append, List.length_cons, List.length_nil]; omega), Option.bind_some]
  unfold zgR at j1
  cases hk : h.Kind == 2 with
  | true => rw [hk, if_pos rfl] at j1; rw [if_pos rfl]; exact j1
  | false => rw [hk, if_neg Bool.false_ne_true] at j1; rw [if_neg Bool.false_ne_true]; exact j1
theorem zj3 (h : api_Head) (hs : smallH h) : zf0 h = some (zfa h) := by
  have hl := zna hs
  have h1 := zkQ hs.minor
  have h2 := zf6 h.Code hs.code
  have h2' := zf6 h.Minor hs.minor
  have h3 := hs.method
  have h4 := hs.target
  have h5 := hs.reason
  have j1 : zdo h (zgR h) = some (zfa h) := by
    unfold zdo zbs
    rw [zmT _ _ (by omega), Option.bind_some]
    unfold zfa zrx
    generalize zgR h = u
    generalize zb6 h.Kind u = p
    obtain ⟨x, e⟩ := p
    dsimp only
    cases e == 1 with
    | true => rfl
    | false =>
      rw [if_neg Bool.false_ne_true, if_neg Bool.false_ne_true]
      cases e == 0 <;> cases x.Method == h.Method <;> cases x.Target == h.Target <;> cases x.Minor == h.Minor <;> cases x.Code == h.Code <;> cases x.Reason == h.Reason <;> rfl
  unfold zf0
  have hv : ([72, 84, 84, 80, 47, 49, 46] : Str) ++ zfL 10 h.Minor = zkP h.Minor := rfl
  have r1 := zhS (b := 10) (.inl rfl) h.Minor hs.minor
  have r2 := zhS (b := 10) (.inl rfl) h.Code hs.code
  rw [show ((10 : Nat) : Int) = 10 from rfl] at r1 r2
  rw [r1, Option.bind_some, zal (by simp; omega), Option.bind_some, hv, zal (by simp; omega), Option.bind_some, zal (by simp; omega), Option.bind_some, zal (by simp; omega), Option.bind_some, zal (by simp only [List.length_append, List.length_cons, List.length_nil]; omega), Option.bind_some, zal (by simp; omega), Option.bind_some, r2, Option.bind_some, zal (by simp only [List.length_append, List.length_cons, List.length_nil]; omega), Option.bind_some, zal (by simp only [List.length_append, List.length_cons, List.length_nil]; omega), Option.bind_some, zal (by simp only [List.length_append, List.length_cons, List.length_nil]; omega), Option.bind_some]
  unfold zgR at j1
  cases hk : h.Kind == 2 with
  | true =>
    rw [hk, if_pos rfl] at j1
    rw [if_pos rfl]
    have e : zkP h.Minor ++ [32] ++ zfL 10 h.Code ++ [32] ++ h.Reason = zkP h.Minor ++ 32 :: (zfL 10 h.Code ++ 32 :: h.Reason) := by simp
    rw [e]; exact j1
  | false =>
    rw [hk, if_neg Bool.false_ne_true] at j1
    rw [if_neg Bool.false_ne_true]
    have e : h.Method ++ [32] ++ h.Target ++ [32] ++ zkP h.Minor = h.Method ++ 32 :: (h.Target ++ 32 :: zkP h.Minor) := by simp
    rw [e]; exact j1
theorem zpf : ∀ a, a < 10 → ∀ b, b < 10 → ∀ c, c < 10 → 100 ≤ a * 100 + b * 10 + c → zfG 10 (a * 100 + b * 10 + c) = [a, b, c] := by decide +kernel
theorem zpg (c : UInt8) : (!zN c || (decide ((c - 48).toNat < 10) && dch (c - 48).toNat == c && wor c == (c - 48).toNat)) = true := zI (fun c => !zN c || (decide ((c - 48).toNat < 10) && dch (c - 48).toNat == c && wor c == (c - 48).toNat)) (by decide +kernel) c
theorem zq2 {w : Str} (hl : w.length = 3) (h : (zaj 10 w 599).2 = 0) (h1 : ¬ (zaj 10 w 599).1 < 100) : zfL 10 (zaj 10 w 599).1 = w ∧ inI (zaj 10 w 599).1 = true := by
  have hin := zh5 h (by decide)
  refine ⟨?_, hin.2.2⟩
  have hd := (zin h).1
  match w, hl with
  | [x, y, z], _ =>
    simp only [List.all_cons, List.all_nil, Bool.and_true, Bool.and_eq_true] at hd
    have fx := zpg x
    have fy := zpg y
    have fz := zpg z
    rw [hd.1] at fx
    rw [hd.2.1] at fy
    rw [hd.2.2] at fz
    simp only [Bool.not_true, Bool.false_or, Bool.and_eq_true, decide_eq_true_eq, beq_iff_eq] at fx fy fz
    have hval : (zaj 10 [x, y, z] 599).1 = (((x - 48).toNat * 100 + (y - 48).toNat * 10 + (z - 48).toNat : Nat) : Int) := by
      unfold zaj at h ⊢
      split at h
      · cases h
      · rename_i g1
        rw [if_neg g1]
        split at h
        · cases h
        · rename_i g2
          rw [if_neg g2]
          have : zaR 10 (vals [x, y, z]) = (x - 48).toNat * 100 + (y - 48).toNat * 10 + (z - 48).toNat := by
            unfold vals zaR
            simp only [List.map_cons, List.map_nil, List.foldl_cons, List.foldl_nil, fx.2, fy.2, fz.2]
            omega
          rw [this]
    rw [hval] at h1 ⊢
    unfold zfL
    rw [if_neg (by omega), Int.toNat_natCast, zpf _ fx.1.1 _ fy.1.1 _ fz.1.1 (by omega)]
    unfold zu
    simp only [List.map_cons, List.map_nil, fx.1.2, fy.1.2, fz.1.2]
theorem znb {k : Int} {s : Str} {x : api_Head} (h : zb6 k s = (x, 0)) : (k = 1 ∧ zme s = (x, 0)) ∨ (k = 2 ∧ znS s = (x, 0)) := by
  unfold zb6 at h
  cases h1 : k == 1 with
  | true =>
    have hk : k = 1 := by simpa using h1
    rw [h1, Bool.not_true, Bool.false_and, if_neg Bool.false_ne_true] at h
    split at h
    · exact absurd (show (24 : Int) = 0 from congrArg Prod.snd h) (by decide)
    · rw [if_pos rfl] at h; exact .inl ⟨hk, h⟩
  | false =>
    cases h2 : k == 2 with
    | true =>
      have hk : k = 2 := by simpa using h2
      rw [h1, h2, Bool.not_true, Bool.and_false, if_neg Bool.false_ne_true] at h
      split at h
      · exact absurd (show (24 : Int) = 0 from congrArg Prod.snd h) (by decide)
      · rw [if_neg Bool.false_ne_true] at h; exact .inr ⟨hk, h⟩
    | false =>
      rw [h1, h2, Bool.not_false, Bool.true_and, if_pos rfl] at h
      exact absurd (show (1 : Int) = 0 from congrArg Prod.snd h) (by decide)
structure LineBack (k : Int) (s : Str) (x : api_Head) : Prop where
  kind : x.Kind = k
  raw : zgR x = s
  code : inI x.Code = true
  minor : inI x.Minor = true
  method : x.Method.length ≤ s.length
  target : x.Target.length ≤ s.length
  reason : x.Reason.length ≤ s.length
theorem zq3 {v : Str} (h : 0 ≤ zbI v) (h2 : (zbI v == 2) = false) : zkP (zbI v) = v ∧ inI (zbI v) = true := by
  rcases zg9 h h2 with ⟨e, e2⟩ | ⟨e, e2⟩ <;> rw [e2, e] <;> exact ⟨by decide, by decide⟩
theorem zlu {k : Int} {s : Str} {x : api_Head} (h : zb6 k s = (x, 0)) : LineBack k s x := by
  rcases znb h with ⟨hk, h⟩ | ⟨hk, h⟩
  · rcases znc s with (h1 | h1) | ⟨h1, h2⟩
    · rw [h1] at h; exact absurd (show (26 : Int) = 0 from congrArg Prod.snd h) (by decide)
    · rw [h1] at h; exact absurd (show (20 : Int) = 0 from congrArg Prod.snd h) (by decide)
    · obtain ⟨v, e, n1, n2, h3, h4, k1, k2, k3, k4⟩ := zkk h1
      rw [h2] at h
      have hx := congrArg Prod.fst h
      dsimp only at hx
      subst hx
      obtain ⟨q1, q2⟩ := zq3 k1 k2
      have hlen := congrArg List.length e
      simp only [List.length_append, List.length_cons] at hlen
      rw [k3]
      refine ⟨hk.symm, ?_, rfl, q2, by dsimp only; omega, by dsimp only; omega, by simp⟩
      show zkj s ++ 32 :: (zmd s ++ 32 :: zkP (zbI v)) = s
      rw [q1]; exact e.symm
  · unfold znS at h
    split at h
    · exact absurd (show (26 : Int) = 0 from congrArg Prod.snd h) (by decide)
    · split at h
      · rename_i h26 hF
        have hF' := hF
        obtain ⟨b, w, r, hb, e, hw, hl⟩ := zio hF
        obtain ⟨m1, m2, m3⟩ := zkC (r := r) hb hw
        rw [← e] at m1 m2 m3
        unfold zo6 at hF'
        rw [m1, m2, m3] at hF'
        simp only [Bool.and_eq_true, Bool.not_eq_true', decide_eq_false_iff_not] at hF'
        have hx := congrArg Prod.fst h
        dsimp only at hx
        subst hx
        obtain ⟨q1, q2⟩ := zq2 hl (by simpa using hF'.1.1.2) hF'.1.2
        have hlen := congrArg List.length e
        simp only [List.length_append, List.length_cons] at hlen
        rw [m1, m2, m3, zb5]
        have hv : zkP ((b - 48).toNat : Int) = za5 ++ [49, 46, b] ∧ inI ((b - 48).toNat : Int) = true := by rcases hb with h | h <;> subst h <;> exact ⟨by decide, by decide⟩
        refine ⟨hk.symm, ?_, q2, hv.2, by simp, by simp, by dsimp only; omega⟩
        show zkP ((b - 48).toNat : Int) ++ 32 :: (zfL 10 (zaj 10 w 599).1 ++ 32 :: r) = s
        rw [hv.1, q1, e]; simp
      · exact absurd (show (20 : Int) = 0 from congrArg Prod.snd h) (by decide)
theorem zkR (k : Int) (s : Str) : (zb6 k s).1.Fields = [] := by
  unfold zb6 zme znS
  split
  · rfl
  · split
    · rfl
    · split
      · split
        · rfl
        · split <;> rfl
      · split
        · rfl
        · split <;> rfl
end Go.Dm
end
section
namespace Go.Dm
def zaA (b : UInt8) : Bool := b == 32 || b == 9
def zgD (s : Str) : Str := s.dropWhile zaA
def zfN (s : Str) : Str := (s.reverse.dropWhile zaA).reverse
def zd6 (s : Str) : Str := zgD (zfN s)
theorem zqA (b : UInt8) : ([32, 9] : Str).contains b = zaA b := by
  simp only [zaA, List.contains_cons, List.contains_nil, Bool.or_false]
theorem zsi : zfN [] = [] := rfl
theorem zhx (s : Str) (c : UInt8) : zfN (s ++ [c]) = if zaA c then zfN s else s ++ [c] := by
  unfold zfN
  rw [List.reverse_append]
  simp only [List.reverse_cons, List.reverse_nil, List.nil_append, List.singleton_append, List.dropWhile_cons]
  split <;> simp
theorem zto (s : Str) : (zfN s).length ≤ s.length := by
  unfold zfN
  rw [List.length_reverse]
  have := (List.dropWhile_suffix (l := s.reverse) zaA).length_le
  simpa using this
theorem ztp (s : Str) : (zgD s).length ≤ s.length := (List.dropWhile_suffix zaA).length_le
theorem zrE (s : Str) : (zd6 s).length ≤ s.length := Nat.le_trans (ztp _) (zto _)
theorem zl9 (s : Str) : (s.all zaA = true ∧ zfN s = []) ∨ ∃ a c b, s = a ++ c :: b ∧ zaA c = false ∧ b.all zaA = true ∧ zfN s = a ++ [c] := by
  rw [← List.reverse_reverse s]
  generalize s.reverse = r
  induction r with
  | nil => left; exact ⟨rfl, rfl⟩
  | cons x r ih =>
    rw [List.reverse_cons, zhx]
    rcases zcg (zaA x) with h | h
    · rw [h]
      rcases ih with ⟨h1, h2⟩ | ⟨a, c, b, h1, h2, h3, h4⟩
      · left; refine ⟨?_, by simpa using h2⟩
        rw [List.all_append, h1]; simp [h]
      · right; refine ⟨a, c, b ++ [x], by rw [h1]; simp, h2, by rw [List.all_append, h3]; simp [h], by simpa using h4⟩
    · right; exact ⟨r.reverse, x, [], rfl, h, rfl, by simp [h]⟩
theorem zsj {s : Str} (h : s.all zaA = true) : zgD s = [] := by
  unfold zgD
  induction s with
  | nil => rfl
  | cons x s ih =>
    simp only [List.all_cons, Bool.and_eq_true] at h
    rw [List.dropWhile_cons, h.1]
    exact ih h.2
theorem zsk {a : Str} {c : UInt8} {b : Str} (hc : zaA c = false) : zgD (a ++ c :: b) = zgD (a ++ [c]) ++ b := by
  unfold zgD
  induction a with
  | nil => simp [List.dropWhile_cons, hc]
  | cons x a ih =>
    simp only [List.cons_append, List.dropWhile_cons]
    split
    · exact ih
    · simp
theorem ztq {a : Str} {c : UInt8} (hc : zaA c = false) : ∃ d, zgD (a ++ [c]) = d ++ [c] := by
  unfold zgD
  induction a with
  | nil => exact ⟨[], by simp [List.dropWhile_cons, hc]⟩
  | cons x a ih =>
    simp only [List.cons_append, List.dropWhile_cons]
    split
    · exact ih
    · exact ⟨x :: a, rfl⟩
theorem zsl {d : Str} {c : UInt8} {b : Str} (hc : zaA c = false) (hb : b.all zaA = true) : zfN (d ++ c :: b) = d ++ [c] := by
  rw [← List.reverse_reverse b] at *
  generalize b.reverse = r at *
  induction r with
  | nil => rw [List.reverse_nil, zhx, hc]; rfl
  | cons x r ih =>
    rw [List.reverse_cons, List.all_append] at hb
    simp only [Bool.and_eq_true, List.all_cons, List.all_nil, Bool.and_true] at hb
    rw [List.reverse_cons, ← List.cons_append, ← List.append_assoc, zhx, hb.2]
    exact ih hb.1
theorem zlJ (s : Str) : zfN (zgD s) = zd6 s := by
  unfold zd6
  rcases zl9 s with ⟨h1, h2⟩ | ⟨a, c, b, h1, h2, h3, h4⟩
  · rw [h2, zsj h1]; rfl
  · rw [h4, h1, zsk h2]
    obtain ⟨d, hd⟩ := ztq (a := a) h2
    rw [hd, List.append_assoc]
    exact zsl h2 h3
theorem zul {c : UInt8} (h : zaA c = true) (s : Str) : zd6 (c :: s) = zd6 s := by
  rw [← zlJ, ← zlJ]
  unfold zgD
  rw [List.dropWhile_cons, h]; rfl
theorem ztr (s : Str) : Go.Lib.trimS s [32, 9] = zd6 s := by
  unfold Go.Lib.trimS Go.Lib.trimLeftS Go.Lib.trimRightS zd6 zgD zfN
  have : (fun x => ([32, 9] : List UInt8).contains x) = zaA := by funext b; exact zqA b
  rw [this]
theorem ziQ (s : Str) (hs : s.length < 1000000000) : zd9 s [32, 9] = some (zd6 s) := by
  unfold zd9
  rw [if_pos ⟨by omega, by simp, by decide⟩, ztr]
theorem zjs (b : UInt8) : ze9 b = some (zaA b) :=
  of_decide_eq_true (zI (fun b => decide (ze9 b = some (zaA b))) (by decide +kernel) b)
theorem zf8 : ∀ (k n : Nat) (s : Str), s.length = k → k < n → k < 1000000000 → za8 n s = some (zfN s)
  | k, 0, s, _, h, _ => by omega
  | 0, n + 1, s, hk, h, _ => by
    have : s = [] := List.length_eq_zero_iff.1 hk
    subst this; rw [za8]; simp [zdm, zsi]
  | k + 1, n + 1, s, hk, h, hb => by
    obtain ⟨a, c, rfl⟩ : ∃ a c, s = a ++ [c] := by
      rcases List.eq_nil_or_concat s with rfl | ⟨a, c, rfl⟩
      · simp at hk
      · exact ⟨a, c, by simp⟩
    have hl : a.length = k := by simpa using hk
    have e : ((a ++ [c]).length : Int) - 1 = (a.length : Int) := by simp
    have h0 : (0 : Int) < ((a ++ [c]).length : Int) := by simp
    have e2 : sTo (a ++ [c]) (a.length : Int) = some a := by rw [zeM (by simp)]; simp
    rw [za8, zhx]
    rw [zcG (by omega) (by omega), e]
    simp only [h0, decide_true, if_true, Option.bind_some, zak, List.getElem?_concat_length, zjs, zdm]
    rcases zcg (zaA c) with h1 | h1
    · rw [h1]
      simp only [if_true, zcG (show -9223372036854775808 ≤ ((a ++ [c]).length : Int) - 1 by omega) (show ((a ++ [c]).length : Int) - 1 ≤ 9223372036854775807 by simp; omega), e, Option.bind_some, e2]
      exact zf8 k n a hl (by omega) (by omega)
    · rw [h1]; simp
theorem zig : ∀ (n : Nat) (s : Str), s.length < n → s.length < 1000000000 → za9 n s = some (zfN (zgD s))
  | 0, s, h, _ => by omega
  | n + 1, [], h, hb => by
    rw [za9]
    simp only [List.length_nil, Int.natCast_zero, Int.lt_irrefl, decide_false, Bool.false_eq_true, if_false, zdn]
    exact zf8 0 fuel [] rfl (by decide) (by decide)
  | n + 1, x :: s, h, hb => by
    rw [za9]
    have h0 : (0 : Int) < ((x :: s).length : Int) := by simp
    have e : zbB (x :: s) 1 = some s := by
      have := zas (l := x :: s) (i := 1) (by simp); simpa using this
    simp only [h0, decide_true, if_true, zkW, List.getElem?_cons_zero, Option.bind_some, zjs, zdn]
    rcases zcg (zaA x) with h1 | h1
    · rw [h1]
      simp only [if_true, e, Option.bind_some]
      rw [zig n s (by simp at h; omega) (by simp at hb; omega)]
      unfold zgD; simp [List.dropWhile_cons, h1]
    · rw [h1]
      simp only [Bool.false_eq_true, if_false]
      rw [zf8 _ fuel _ rfl (by unfold fuel; omega) hb]
      unfold zgD; simp [List.dropWhile_cons, h1]
theorem zn9 (s : Str) (hs : s.length < 1000000000) : zho s = some (zd6 s) := by
  unfold zho
  rw [zig fuel s (by unfold fuel; omega) hs, zlJ]
end Go.Dm
end
section
namespace Go.Dm
theorem zpw {a b : Str} (hb : b.all zaA = true) : zd6 (a ++ b) = zd6 a := by
  have : zfN (a ++ b) = zfN a := by
    rw [← List.reverse_reverse b] at *
    generalize b.reverse = r at *
    induction r with
    | nil => simp
    | cons x r ih =>
      rw [List.reverse_cons, List.all_append] at hb
      simp only [Bool.and_eq_true, List.all_cons, List.all_nil, Bool.and_true] at hb
      rw [List.reverse_cons, ← List.append_assoc, zhx, hb.2, if_pos rfl]
      exact ih hb.1
  unfold zd6; rw [this]
def elems (l : List Str) : List Str := (l.map zd6).filter (fun x => !(x == []))
end Go.Dm
end
section
namespace Go.Dm
def isN (nm : Str) (f : api_Field) : Bool := low f.Name == low nm
def zdr (m : Nat) (l : List api_Field) : Prop := ∀ f ∈ l, f.Name.length < m ∧ f.Value.length < m
theorem zpR (f : api_Field) (nm : Str) (hf : f.Name.length < 1000000000) (hn : nm.length < 1000000000) : zje f nm = some (isN nm f) := by
  unfold zje isN
  rw [zhO _ hf, Option.bind_some, zhO _ hn, Option.bind_some]
theorem zpS (l : List api_Field) (h : l.length < 1000000000) : zH l = some l := by
  unfold zH
  rw [if_pos (zgS (by omega) (by omega))]
theorem zmb (l : List api_Field) (nm : Str) (hn : nm.length < 1000000000) (hl : l.length < 1000000000) (hs : zdr 1000000000 l) : zei l nm = some ((l.filter (isN nm)).map (·.Value)) := by
  unfold zei
  have key : ∀ (n i : Nat) (out : List Str), i ≤ l.length → l.length - i < n → out.length ≤ i → zaQ l nm n out (i : Int) = some (out ++ ((l.drop i).filter (isN nm)).map (·.Value)) := by
    intro n
    induction n with
    | zero => intro i _ _ h; omega
    | succ n ih =>
      intro i out hi h ho
      rw [zaQ]
      by_cases hlt : i < l.length
      · have g : l[i]? = some l[i] := List.getElem?_eq_getElem hlt
        have hsm := hs l[i] (List.getElem_mem _)
        rw [decide_eq_true (show (i : Int) < (l.length : Int) by omega), if_pos rfl, zbH, g, Option.bind_some, zpR _ _ hsm.1 hn, Option.bind_some, Option.bind_some, if_pos (zgS (by omega) (by omega))]
        unfold zdb
        rw [zq (by omega), Option.bind_some, Option.bind_some, ih (i + 1) _ (by omega) (by omega) (by simp; omega), ih (i + 1) _ (by omega) (by omega) (by omega), List.drop_eq_getElem_cons hlt, List.filter_cons]
        cases isN nm l[i] with
        | true => simp
        | false => rfl
      · have : i = l.length := by omega
        subst this
        rw [decide_eq_false (by omega), if_neg (by decide), List.drop_length]
        simp
  have := key fuel 0 [] (Nat.zero_le _) (by unfold fuel; omega) (by simp)
  rw [List.drop_zero, List.nil_append] at this
  exact this
theorem zrP {α : Type} [BEq α] [LawfulBEq α] (a b : List α) (L : Nat → Int → Option Bool) (hl : a.length = b.length) (ha : a.length < 1000000000)
    (hE : ∀ n, L (n + 1) (a.length : Int) = some true) (hL : ∀ n (i : Nat) x y, i < a.length → a[i]? = some x → b[i]? = some y → L (n + 1) (i : Int) = if (x == y) = true then L n ((i + 1 : Nat) : Int) else some false) : L fuel 0 = some (a == b) := by
  have key : ∀ (n i : Nat), i ≤ a.length → a.length - i < n → L n (i : Int) = some (a.drop i == b.drop i) := by
    intro n
    induction n with
    | zero => intro i _ h; omega
    | succ n ih =>
      intro i hi h
      by_cases hlt : i < a.length
      · have g1 : a[i]? = some a[i] := List.getElem?_eq_getElem hlt
        have g2 : b[i]? = some (b[i]'(by omega)) := List.getElem?_eq_getElem (by omega)
        rw [hL n i _ _ hlt g1 g2, ih (i + 1) (by omega) (by omega), List.drop_eq_getElem_cons hlt, List.drop_eq_getElem_cons (show i < b.length by omega), List.cons_beq_cons]
        cases a[i] == b[i]'(by omega) <;> rfl
      · have : i = a.length := by omega
        subst this
        rw [hE, List.drop_length, List.drop_of_length_le (by omega)]
        rfl
  have := key fuel 0 (Nat.zero_le _) (by unfold fuel; omega)
  rw [List.drop_zero, List.drop_zero] at this
  exact this
theorem znN (a b : List api_Field) (ha : a.length < 1000000000) : zhi a b = some (a == b) := by
  unfold zhi
  by_cases hl : a.length = b.length
  · rw [hl, beq_self_eq_true, Bool.not_true, if_neg (by decide)]
    refine zrP a b (zbX a b) hl ha (fun n => ?_) (fun n i x y hi hx hy => ?_)
    · rw [zbX, decide_eq_false (by omega), if_neg (by decide)]
    · rw [zbX, decide_eq_true (by omega), if_pos rfl, zbH, hx, Option.bind_some, zbH, hy, Option.bind_some, zq (by omega), Option.bind_some]
      cases x == y <;> rfl
  · have : (((a.length : Int) == (b.length : Int))) = false := beq_eq_false_iff_ne.2 (by omega)
    have h2 : (a == b) = false := beq_eq_false_iff_ne.2 (fun e => hl (by rw [e]))
    rw [this, h2]; rfl
def cutF (f : api_Field) : api_Field := ⟨f.Name.take 400, f.Value.take 400⟩
def zqO (l : List api_Field) : List api_Field := (l.take 120).map cutF
theorem zfi (s : Str) : zel s = some (s.take 400) := by
  unfold zel
  have := ztS s 400
  rw [show ((400 : Nat) : Int) = 400 from rfl] at this
  rw [this, Option.bind_some]
theorem zoY (h : api_Head) (hl : h.Fields.length < 1000000000) : zh4 h = some ⟨h.Kind, h.Method.take 400, h.Target.take 400, h.Code, h.Reason.take 400, h.Minor, zqO h.Fields⟩ := by
  unfold zh4
  rw [zfi, Option.bind_some, zfi, Option.bind_some, zfi, Option.bind_some]
  have key : ∀ (n i : Nat) (out : List api_Field), i ≤ h.Fields.length → i ≤ 120 → h.Fields.length - i < n → out.length = i → zbU h (h.Method.take 400) (h.Target.take 400) (h.Reason.take 400) n out (i : Int) = some ⟨h.Kind, h.Method.take 400, h.Target.take 400, h.Code, h.Reason.take 400, h.Minor, out ++ ((h.Fields.drop i).take (120 - i)).map cutF⟩ := by
    intro n
    induction n with
    | zero => intro i _ _ _ h; omega
    | succ n ih =>
      intro i out hi h120 hn ho
      rw [zbU]
      unfold zft
      by_cases hlt : i < h.Fields.length
      · have g : h.Fields[i]? = some h.Fields[i] := List.getElem?_eq_getElem hlt
        rw [decide_eq_true (show (i : Int) < (h.Fields.length : Int) by omega), if_pos rfl]
        by_cases h2 : i < 120
        · rw [decide_eq_true (show (i : Int) < 120 by omega), if_pos rfl, zbH, g, Option.bind_some, zfi, Option.bind_some, Option.bind_some, zfi, Option.bind_some, if_pos (zgS (by omega) (by omega)), zq (by omega), Option.bind_some, ih (i + 1) _ (by omega) (by omega) (by omega) (by simp; omega), List.drop_eq_getElem_cons hlt, show 120 - i = (120 - (i + 1)) + 1 by omega, List.take_succ_cons]
          simp [cutF]
        · have : i = 120 := by omega
          subst this
          rw [decide_eq_false (by omega), if_neg (by decide)]
          simp
      · have : i = h.Fields.length := by omega
        rw [decide_eq_false (by omega), if_neg (by decide), if_neg (by decide), this, List.drop_length]
        simp
  have := key fuel 0 [] (Nat.zero_le _) (by decide) (by unfold fuel; omega) rfl
  exact this
theorem zsz (l : List api_Field) : (zqO l).length ≤ 120 := by unfold zqO; simp; omega
theorem zqP (l : List api_Field) : zdr 401 (zqO l) := by
  intro f hf
  unfold zqO at hf
  obtain ⟨g, _, rfl⟩ := List.mem_map.1 hf
  unfold cutF
  simp; omega
theorem zdG {m n : Nat} (h : m ≤ n) {l : List api_Field} (hs : zdr m l) : zdr n l := fun f hf => by have := hs f hf; omega
end Go.Dm
end
section
namespace Go.Dm
def zrH (a b : api_Head) : Bool := a.Kind == b.Kind && a.Method == b.Method && a.Target == b.Target && a.Minor == b.Minor && a.Code == b.Code && a.Reason == b.Reason && a.Fields == b.Fields
theorem zro (a : api_Head) : zrH a a = true := by unfold zrH; simp
theorem zoa (a b : api_Head) (ha : a.Fields.length < 1000000000) : zfT a b = some (zrH a b) := by
  unfold zfT zez ziu zbp zrH
  rw [znN _ _ ha, Option.bind_some]
  cases a.Kind == b.Kind <;> cases a.Method == b.Method <;> cases a.Target == b.Target <;> cases a.Minor == b.Minor <;> cases a.Code == b.Code <;> cases a.Reason == b.Reason <;> rfl
theorem znD : zhA = some true := by decide +kernel

end Go.Dm
end
section
namespace Go.Dm
theorem zhX (b : UInt8) : zcy b = some (zaA b) :=
  of_decide_eq_true (zI (fun b => decide (zcy b = some (zaA b))) (by decide +kernel) b)
def zg7 : api_Field := ⟨[], []⟩
def zo4 (s : Str) : api_Field × Int :=
  if s.any ([13, 10] : Str).contains then (zg7, 24) else if !(s.takeWhile zaA == []) then (zg7, 23)
  else if s.takeWhile za4 == [] || !zfI 58 ((s.dropWhile za4).dropWhile zaA) then (zg7, 21)
  else if !((s.dropWhile za4).takeWhile zaA == []) then (zg7, 22)
  else if !((zaD 58 ((s.dropWhile za4).dropWhile zaA)).all zem) then (zg7, 25)
  else (⟨s.takeWhile za4, zd6 (zaD 58 ((s.dropWhile za4).dropWhile zaA))⟩, 0)
theorem zjI (s : Str) (hs : s.length < 1000000000) : zcl s = some (zo4 s) := by
  unfold zcl zo4
  rw [zfg s _ hs (by decide) (by decide), Option.bind_some]
  cases s.any ([13, 10] : Str).contains with
  | true => rfl
  | false =>
    obtain ⟨k1, a1, e1⟩ := zi3 zhX hs (At.zero s)
    have b1 : zap (scn s 0) = some (s.takeWhile zaA, scn s k1) := by unfold zap; rw [e1]; rfl
    rw [if_neg Bool.false_ne_true, if_neg Bool.false_ne_true, zhH, Option.bind_some, b1, Option.bind_some]
    dsimp only
    cases hb : s.takeWhile zaA == [] with
    | false => rfl
    | true =>
      have hd : s.dropWhile zaA = s := by
        have := List.takeWhile_append_dropWhile (p := zaA) (l := s)
        have h0 : s.takeWhile zaA = [] := by simpa using hb
        rwa [h0, List.nil_append] at this
      rw [hd] at a1
      obtain ⟨k2, a2, e2⟩ := zp4 hs a1
      obtain ⟨k3, a3, e3⟩ := zi3 zhX hs a2
      have b3 : zap (scn s k2) = some ((s.dropWhile za4).takeWhile zaA, scn s k3) := by unfold zap; rw [e3]; rfl
      rw [Bool.not_true, if_neg Bool.false_ne_true, if_neg Bool.false_ne_true, e2, Option.bind_some, b3, Option.bind_some]
      dsimp only
      cases hn : s.takeWhile za4 == [] with
      | true => rfl
      | false =>
        obtain ⟨k4, a4, e4⟩ := zir hs 58 a3
        rw [Bool.not_false, Bool.not_true, if_neg Bool.false_ne_true, e4, Option.bind_some, Bool.false_or]
        have hl := a4.le_len
        generalize zaD 58 ((s.dropWhile za4).dropWhile zaA) = v at a4 hl
        unfold zcb
        show (if (!zfI 58 ((s.dropWhile za4).dropWhile zaA)) = true then _ else if (!((s.dropWhile za4).takeWhile zaA == [])) = true then _ else (zR (scn s k4)).bind _) = _
        rw [zml a4, Option.bind_some, zb2 zf2 v (by omega), Option.bind_some]
        cases zfI 58 ((s.dropWhile za4).dropWhile zaA) with
        | false => rfl
        | true =>
          rw [Bool.not_true, if_neg Bool.false_ne_true, if_neg Bool.false_ne_true]
          cases (s.dropWhile za4).takeWhile zaA == [] with
          | false => rfl
          | true =>
            rw [Bool.not_true, if_neg Bool.false_ne_true, if_neg Bool.false_ne_true]
            cases v.all zem with
            | false => rfl
            | true =>
              rw [Bool.not_true, if_neg Bool.false_ne_true, if_neg Bool.false_ne_true]
              rw [Option.bind_some, ziQ v (by omega), Option.bind_some]
def zlm : Str → Bool
  | [] => false
  | c :: _ => zaA c
def zdt (s : Str) : api_Field × Int :=
  if s.any ([13, 10] : Str).contains then (zg7, 24) else if zlm s then (zg7, 23)
  else if zaV [58] s == [] || !zfw (zd6 (upto [58] s)) then (zg7, 21)
  else if decide ((zd6 (upto [58] s)).length < (upto [58] s).length) then (zg7, 22)
  else if !(((zaV [58] s).drop 1).all zem) then (zg7, 25)
  else (⟨zd6 (upto [58] s), zd6 ((zaV [58] s).drop 1)⟩, 0)
theorem zqS (s : Str) : (!(s.takeWhile zaA == [])) = zlm s := by
  cases s with
  | nil => rfl
  | cons c s =>
    rw [List.takeWhile_cons]
    show _ = zaA c
    cases zaA c <;> rfl
theorem ztO (c : UInt8) : (!za4 c || (!zaA c && !(c == 58))) = true := zI (fun c => !za4 c || (!zaA c && !(c == 58))) (by decide +kernel) c
theorem zsD (c : UInt8) : (!zaA c || (!za4 c && !(c == 58))) = true := zI (fun c => !zaA c || (!za4 c && !(c == 58))) (by decide +kernel) c
theorem zln {n : Str} (h : n.all za4 = true) : (∀ x ∈ n, zaA x = false) ∧ (58 : UInt8) ∉ n := by
  have key : ∀ x ∈ n, zaA x = false ∧ (x == 58) = false := fun x hx => by
    have h1 := List.all_eq_true.1 h x hx
    have h2 := ztO x
    rw [h1] at h2
    simpa using h2
  exact ⟨fun x hx => (key x hx).1, fun hx => by have := (key _ hx).2; cases this⟩
theorem zsE {b : Str} (h : b.all zaA = true) : (58 : UInt8) ∉ b := fun hx => by
  have := List.all_eq_true.1 h _ hx
  cases this
theorem zrs (u v : Str) (h : (58 : UInt8) ∉ u) : upto [58] (u ++ 58 :: v) = u ∧ zaV [58] (u ++ 58 :: v) = 58 :: v := by
  induction u with
  | nil => exact ⟨zgh (by decide), zgi (by decide)⟩
  | cons c u ih =>
    have hc : ([58] : Str).contains c = false := by
      have : c ≠ 58 := fun e => h (by rw [e]; exact List.mem_cons_self ..)
      simpa using this
    have ih := ih (fun hx => h (List.mem_cons_of_mem _ hx))
    rw [List.cons_append, zgj hc, zgk hc, ih.1, ih.2]
    exact ⟨rfl, rfl⟩
theorem all_takeWhile (p : UInt8 → Bool) (s : Str) : (s.takeWhile p).all p = true := List.all_eq_true.2 fun _ hx => zgd hx
theorem zrQ {n b v : Str} (hn : n.all za4 = true) (hb : b.all zaA = true) :
    (n ++ (b ++ 58 :: v)).takeWhile za4 = n ∧ (n ++ (b ++ 58 :: v)).dropWhile za4 = b ++ 58 :: v ∧ (b ++ 58 :: v).takeWhile zaA = b ∧ (b ++ 58 :: v).dropWhile zaA = 58 :: v := by
  have h1 := zim (p := zaA) (c := 58) (by decide) v hb
  refine ⟨?_, ?_, h1.1, h1.2⟩
  · cases b with
    | nil => exact (zim (p := za4) (c := 58) (by decide) v hn).1
    | cons c b =>
      have hc : za4 c = false := by
        rw [List.all_cons, Bool.and_eq_true] at hb
        have := zsD c
        rw [hb.1] at this
        simp only [Bool.not_true, Bool.false_or, Bool.and_eq_true, Bool.not_eq_true'] at this
        exact this.1
      exact (zim hc _ hn).1
  · cases b with
    | nil => exact (zim (p := za4) (c := 58) (by decide) v hn).2
    | cons c b =>
      have hc : za4 c = false := by
        rw [List.all_cons, Bool.and_eq_true] at hb
        have := zsD c
        rw [hb.1] at this
        simp only [Bool.not_true, Bool.false_or, Bool.and_eq_true, Bool.not_eq_true'] at this
        exact this.1
      exact (zim hc _ hn).2
theorem zp1 {s : Str} (h : ∀ x ∈ s, zaA x = false) : zd6 s = s := by
  have hl : ∀ t : Str, (∀ x ∈ t, zaA x = false) → t.dropWhile zaA = t := by
    intro t ht
    cases t with
    | nil => rfl
    | cons y t => rw [List.dropWhile_cons, ht y (List.mem_cons_self ..)]; rfl
  have hr : zfN s = s := by unfold zfN; rw [hl _ (fun x hx => h x (List.mem_reverse.1 hx)), List.reverse_reverse]
  unfold zd6 zgD
  rw [hr, hl s h]
theorem zrR {n b : Str} (hn : n.all za4 = true) (hb : b.all zaA = true) : zd6 (n ++ b) = n := by
  rw [zpw hb]
  exact zp1 (zln hn).1
theorem zrS {u : Str} (h : zlm u = false) (ht : zfw (zd6 u) = true) : ∃ b, u = zd6 u ++ b ∧ b.all zaA = true := by
  rcases zl9 u with ⟨h1, h2⟩ | ⟨a, c, b, h1, h2, h3, h4⟩
  · have : zd6 u = [] := by unfold zd6; rw [h2]; rfl
    rw [this] at ht; cases ht
  · refine ⟨b, ?_, h3⟩
    have e : zd6 u = a ++ [c] := by
      unfold zd6
      rw [h4]
      unfold zgD
      cases a with
      | nil => show [c].dropWhile zaA = _; rw [List.dropWhile_cons, h2, if_neg Bool.false_ne_true]; rfl
      | cons x a =>
        rw [h1] at h
        have hx : zaA x = false := h
        rw [List.cons_append, List.dropWhile_cons, hx, if_neg Bool.false_ne_true]
    rw [e, h1]; simp
theorem zsF (s : Str) : zo4 s = zdt s := by
  unfold zo4 zdt
  rw [zqS]
  cases s.any ([13, 10] : Str).contains with
  | true => rfl
  | false =>
    cases hb : zlm s with
    | true => rfl
    | false =>
      rw [if_neg Bool.false_ne_true, if_neg Bool.false_ne_true, if_neg Bool.false_ne_true, if_neg Bool.false_ne_true]
      have e1 := List.takeWhile_append_dropWhile (p := za4) (l := s)
      have e2 := List.takeWhile_append_dropWhile (p := zaA) (l := s.dropWhile za4)
      have hn := all_takeWhile za4 s
      have hbb := all_takeWhile zaA (s.dropWhile za4)
      cases hc : zfI 58 ((s.dropWhile za4).dropWhile zaA) with
      | true =>
        have e3 := zfQ hc
        generalize zaD 58 ((s.dropWhile za4).dropWhile zaA) = v at e3
        generalize s.takeWhile za4 = n at e1 hn
        generalize (s.dropWhile za4).takeWhile zaA = b at e2 hbb
        have es : s = (n ++ b) ++ 58 :: v := by rw [← e1, ← e2, e3, List.append_assoc]
        have hno : (58 : UInt8) ∉ n ++ b := fun hx => by
          rcases List.mem_append.1 hx with h | h
          · exact (zln hn).2 h
          · exact zsE hbb h
        obtain ⟨u1, u2⟩ := zrs (n ++ b) v hno
        rw [es, u1, u2, zrR hn hbb]
        have ht : zfw n = !(n == []) := by unfold zfw; rw [hn, Bool.true_and]
        rw [ht]
        have hlt : decide (n.length < (n ++ b).length) = !(b == []) := by
          cases b with
          | nil => simp
          | cons x b => simp
        rw [hlt]
        show (if (n == [] || false) = true then _ else _) = if (false || !(!(n == []))) = true then _ else _
        rw [Bool.or_false, Bool.false_or, Bool.not_not]
        rfl
      | false =>
        rw [Bool.not_false, Bool.or_true, if_pos rfl]
        cases hf : zaV [58] s with
        | nil => rfl
        | cons c v =>
          have hc58 : c = 58 := by simpa using zlk hf
          subst hc58
          cases ht : zfw (zd6 (upto [58] s)) with
          | false => rfl
          | true =>
            exfalso
            have es := zb3 [58] s
            rw [hf] at es
            have hub : zlm (upto [58] s) = false := by
              cases hu : upto [58] s with
              | nil => rfl
              | cons x u => rw [hu] at es; rw [← es] at hb; exact hb
            obtain ⟨b, eb, hbl⟩ := zrS hub ht
            unfold zfw at ht
            rw [Bool.and_eq_true] at ht
            have es2 : s = zd6 (upto [58] s) ++ (b ++ 58 :: v) := by
              rw [← List.append_assoc, ← eb]; exact es.symm
            obtain ⟨_, q2, _, q4⟩ := zrQ (v := v) ht.1 hbl
            rw [es2, q2, q4] at hc
            cases hc
theorem zkh (s : Str) (hs : s.length < 1000000000) : zcl s = some (zdt s) := by rw [zjI s hs, zsF]
theorem zmc (s : Str) (hs : s.length < 1000000000) : zfs s = some (s.all zem) := by
  unfold zfs
  have key : ∀ (n i : Nat), i ≤ s.length → s.length - i < n → zbM s n (i : Int) = some ((s.drop i).all zem) := by
    intro n
    induction n with
    | zero => intro i _ h; omega
    | succ n ih =>
      intro i hi h
      rw [zbM]
      by_cases hlt : i < s.length
      · have g : s[i]? = some s[i] := List.getElem?_eq_getElem hlt
        rw [decide_eq_true (show (i : Int) < (s.length : Int) by omega), if_pos rfl, zak, g, Option.bind_some, zjg, Option.bind_some, zq (by omega), Option.bind_some, ih (i + 1) (by omega) (by omega), List.drop_eq_getElem_cons hlt, List.all_cons]
        cases zem s[i] <;> rfl
      · have : i = s.length := by omega
        subst this
        rw [decide_eq_false (by omega), if_neg Bool.false_ne_true, List.drop_length]
        rfl
  have := key fuel 0 (Nat.zero_le _) (by unfold fuel; omega)
  rw [List.drop_zero] at this
  exact this
end Go.Dm
end
section
namespace Go.Dm
def lines : Str → List Str
  | [] => [[]]
  | [c] => [[c]]
  | c :: d :: r => if c == 13 && d == 10 then [] :: lines r else zdq [c] (lines (d :: r))
theorem zoh (c d : UInt8) (r : Str) : lines (c :: d :: r) = if c == 13 && d == 10 then [] :: lines r else zdq [c] (lines (d :: r)) := by rw [lines]
theorem zp2 (c d : UInt8) (r : Str) : ([13, 10] : Str).isPrefixOf (c :: d :: r) = (c == 13 && d == 10) := by
  show ((13 : UInt8) == c && ((10 : UInt8) == d && ([] : Str).isPrefixOf r)) = _
  have : ([] : Str).isPrefixOf r = true := by simp
  rw [this, Bool.and_true, show ((13 : UInt8) == c) = (c == 13) from by rw [Bool.eq_iff_iff, beq_iff_eq, beq_iff_eq]; exact eq_comm, show ((10 : UInt8) == d) = (d == 10) from by rw [Bool.eq_iff_iff, beq_iff_eq, beq_iff_eq]; exact eq_comm]
theorem zp3 : ∀ (n : Nat) (s : Str), s.length < n → lines s ≠ []
  | 0, _, h => by omega
  | n + 1, [], _ => by simp [lines]
  | n + 1, [c], _ => by simp [lines]
  | n + 1, c :: d :: r, h => by
    rw [zoh]
    split
    · simp
    · simp only [List.length_cons] at h
      cases hl : lines (d :: r) with
      | nil => exact absurd hl (zp3 n _ (by simp only [List.length_cons]; omega))
      | cons a t => simp [zdq]
theorem zsG (s : Str) : lines s ≠ [] := zp3 _ s (Nat.lt_succ_self _)
theorem zoi : ∀ (n : Nat) (s : Str), s.length < n → lines s = match zac [13, 10] s with | none => [s] | some p => p.1 :: lines p.2
  | 0, _, h => by omega
  | n + 1, [], _ => by simp [lines, zac]
  | n + 1, [c], _ => by
    have : ([13, 10] : Str).isPrefixOf [c] = false := by
      show ((13 : UInt8) == c && false) = false
      rw [Bool.and_false]
    rw [zac, this, if_neg Bool.false_ne_true]
    simp [lines, zac]
  | n + 1, c :: d :: r, h => by
    simp only [List.length_cons] at h
    have ih := zoi n (d :: r) (by simp only [List.length_cons]; omega)
    rw [zoh, zac, zp2]
    cases hc : (c == 13 && d == 10) with
    | true => rfl
    | false =>
      rw [if_neg Bool.false_ne_true, if_neg Bool.false_ne_true, ih]
      cases zac [13, 10] (d :: r) with
      | none => rfl
      | some p => rfl
theorem zkD (s : Str) : lines s = match zac [13, 10] s with | none => [s] | some p => p.1 :: lines p.2 := zoi _ s (Nat.lt_succ_self _)
theorem zlY : ∀ (k : Nat) (s : Str), Go.Lib.count s [13, 10] = k → Go.Lib.splitK [13, 10] 0 k s = lines s
  | k, s, h => by
    have hi := zjC (t := [13, 10]) (by decide) s
    rw [zkD]
    cases hc : zac [13, 10] s with
    | none =>
      rw [hc] at hi
      have h0 := Go.Lib.count_miss hi
      have : k = 0 := by omega
      subst this
      rfl
    | some p =>
      rw [hc] at hi
      have e := zcf (a := p.1) (b := p.2) hc
      have e1 : s.take p.1.length = p.1 := by rw [e, List.append_assoc, List.take_left']; rfl
      have e2 : s.drop (p.1.length + 2) = p.2 := by rw [e, List.drop_left']; simp
      have hh := Go.Lib.count_hit (i := p.1.length) (by decide) hi
      rw [show ([13, 10] : Str).length = 2 from rfl, e2] at hh
      obtain ⟨m, rfl⟩ : ∃ m, k = m + 1 := ⟨k - 1, by omega⟩
      have ih := zlY m p.2 (by omega)
      unfold Go.Lib.splitK
      have hn : (((p.1.length : Int)) == -1) = false := beq_eq_false_iff_ne.2 (by omega)
      rw [hi]
      dsimp only
      rw [hn, if_neg Bool.false_ne_true, Int.toNat_natCast, Nat.add_zero, e1, show ([13, 10] : Str).length = 2 from rfl, e2, ih]
theorem zki (s : Str) (hs : s.length < 1000000000) : strings_Split s [13, 10] = some (lines s) := by
  unfold strings_Split
  rw [if_pos ⟨by omega, by decide⟩]
  exact congrArg some (zlY _ s rfl)
theorem zoj : ∀ (n : Nat) (s : Str), s.length < n → (lines s).length ≤ s.length + 1 ∧ ∀ l ∈ lines s, l.length ≤ s.length
  | 0, _, h => by omega
  | n + 1, s, h => by
    rw [zkD]
    cases hc : zac [13, 10] s with
    | none => simp
    | some p =>
      have e := congrArg List.length (zcf (a := p.1) (b := p.2) hc)
      simp only [List.length_append, List.length_cons, List.length_nil] at e
      obtain ⟨h1, h2⟩ := zoj n p.2 (by omega)
      dsimp only
      refine ⟨by simp only [List.length_cons]; omega, fun l hl => ?_⟩
      rcases List.mem_cons.1 hl with h | h
      · rw [h]; omega
      · have := h2 l h; omega
theorem zkE (s t : Str) (hs : s.length < 1000000000) (ht : t ≠ []) : strings_Index s t = some (match zac t s with | none => -1 | some p => (p.1.length : Int)) := by
  unfold strings_Index
  rw [if_pos (by omega), zmH, zjC ht]
  cases zac t s <;> rfl
def zes (h : api_Head) : List Str := (h.Fields.filter (isN [104, 111, 115, 116])).map (·.Value)
def zkF (h : api_Head) : Bool := if h.Kind == 1 then (if decide (1 < (zes h).length) || decide (((zes h).length : Int) < h.Minor) then false else (zes h).all (fun x => x == [] || (zbC x).2 == 0)) else true
def zg8 (h : api_Head) : Int := if decide (100 < h.Fields.length) then 3 else if zkF h then 0 else 27
theorem zsH : isN ([72, 111, 115, 116] : Str) = isN [104, 111, 115, 116] := by
  funext f
  unfold isN
  have : low ([72, 111, 115, 116] : Str) = low ([104, 111, 115, 116] : Str) := by decide
  rw [this]
theorem znP (l : List api_Field) (nm : Str) (hn : nm.length < 1000000000) (hl : l.length < 1000000000) (hs : zdr 1000000000 l) : zdL ⟨l⟩ nm = some ((l.filter (isN nm)).map (·.Value)) := by
  unfold zdL zgQ
  rw [zpS l hl, Option.bind_some, Option.bind_some]
  have key : ∀ (n i : Nat) (out : List Str), i ≤ l.length → l.length - i < n → out.length ≤ i → zar nm l n out (i : Int) = some (out ++ ((l.drop i).filter (isN nm)).map (·.Value)) := by
    intro n
    induction n with
    | zero => intro i _ _ h; omega
    | succ n ih =>
      intro i out hi h ho
      rw [zar]
      by_cases hlt : i < l.length
      · have g : l[i]? = some l[i] := List.getElem?_eq_getElem hlt
        have hsm := hs l[i] (List.getElem_mem _)
        rw [decide_eq_true (show (i : Int) < (l.length : Int) by omega), if_pos rfl, zbH, g, Option.bind_some, znV _ _ hsm.1 hn, Option.bind_some, if_pos (zgS (by omega) (by omega))]
        unfold zcr
        rw [zq (by omega), Option.bind_some, Option.bind_some, ih (i + 1) _ (by omega) (by omega) (by simp; omega), ih (i + 1) _ (by omega) (by omega) (by omega), List.drop_eq_getElem_cons hlt, List.filter_cons]
        show (if (isN nm l[i]) = true then _ else _) = _
        cases isN nm l[i] with
        | true => simp
        | false => rfl
      · have : i = l.length := by omega
        subst this
        rw [decide_eq_false (by omega), if_neg Bool.false_ne_true, List.drop_length]
        simp
  have := key fuel 0 [] (Nat.zero_le _) (by unfold fuel; omega) (by simp)
  rw [List.drop_zero, List.nil_append] at this
  exact this
theorem znQ (h : api_Head) (hl : h.Fields.length < 1000000000) (hs : zdr 400000000 h.Fields) : zhh h = some (zkF h) := by
  unfold zhh zkF
  cases h.Kind == 1 with
  | false => rfl
  | true =>
    have hvl : (zes h).length ≤ h.Fields.length := by unfold zes; rw [List.length_map]; exact List.length_filter_le _ _
    have hvm : ∀ v ∈ zes h, v.length < 400000000 := fun v hv => by
      obtain ⟨f, hf, rfl⟩ := List.mem_map.1 hv
      exact (hs f (List.mem_filter.1 hf).1).2
    rw [Bool.not_true, if_neg Bool.false_ne_true, if_pos rfl]
    unfold zmm
    rw [zpS _ hl, Option.bind_some, Option.bind_some, znP _ _ (by decide) hl (zdG (by decide) hs), Option.bind_some, zsH]
    show (if decide (1 < ((zes h).length : Int)) = true then zcz (zes h) true else zcz (zes h) (decide (((zes h).length : Int) < h.Minor))) = _
    generalize zes h = vs at hvl hvm
    have key : ∀ (n i : Nat), i ≤ vs.length → vs.length - i < n → zbo vs n (i : Int) = some ((vs.drop i).all (fun x => x == [] || (zbC x).2 == 0)) := by
      intro n
      induction n with
      | zero => intro i _ h; omega
      | succ n ih =>
        intro i hi h
        rw [zbo]
        by_cases hlt : i < vs.length
        · have g : vs[i]? = some vs[i] := List.getElem?_eq_getElem hlt
          have hsm := hvm vs[i] (List.getElem_mem _)
          unfold zex
          rw [decide_eq_true (show (i : Int) < (vs.length : Int) by omega), if_pos rfl, zbH, g, Option.bind_some, zfj _ hsm, Option.bind_some, zq (by omega), Option.bind_some, ih (i + 1) (by omega) (by omega), List.drop_eq_getElem_cons hlt, List.all_cons]
          cases (zbC vs[i]).2 == 0 <;> cases vs[i] == [] <;> rfl
        · have : i = vs.length := by omega
          subst this
          rw [decide_eq_false (by omega), if_neg Bool.false_ne_true, List.drop_length]
          rfl
    have hk := key fuel 0 (Nat.zero_le _) (by unfold fuel; omega)
    rw [List.drop_zero] at hk
    unfold zcz
    by_cases h1 : 1 < vs.length
    · rw [decide_eq_true (show 1 < (vs.length : Int) by omega), decide_eq_true h1]; rfl
    · rw [decide_eq_false (show ¬ 1 < (vs.length : Int) by omega), decide_eq_false h1, if_neg Bool.false_ne_true, Bool.false_or]
      cases decide ((vs.length : Int) < h.Minor) with
      | true => rfl
      | false => exact hk
theorem zjZ (h : api_Head) (hl : h.Fields.length < 1000000000) (hs : zdr 400000000 h.Fields) : zfR h = some (zg8 h) := by
  unfold zfR zg8
  rw [znQ h hl hs, Option.bind_some]
  by_cases h1 : 100 < h.Fields.length
  · rw [decide_eq_true (show 100 < (h.Fields.length : Int) by omega), decide_eq_true h1]; rfl
  · rw [decide_eq_false (show ¬ 100 < (h.Fields.length : Int) by omega), decide_eq_false h1]
    cases zkF h <;> rfl
structure GoodH (h : api_Head) : Prop where
  kind : h.Kind = 1 ∨ h.Kind = 2
  minor : h.Minor = 0 ∨ h.Minor = 1
theorem hostE (x : Str) : (zbC x).2 = 0 ∨ (zbC x).2 = 27 := by
  unfold zbC
  split
  · exact .inl rfl
  · split
    · exact .inr rfl
    · split
      · exact .inl rfl
      · exact .inr rfl
theorem zmW (h : api_Head) (hg : GoodH h) (hl : h.Fields.length < 1000000000) (hs : zdr 400000000 h.Fields) : zgv h = some (zg8 h) := by
  unfold zgv zg8
  by_cases h1 : 100 < h.Fields.length
  · rw [decide_eq_true (show 100 < (h.Fields.length : Int) by omega), decide_eq_true h1]; rfl
  · rw [decide_eq_false (show ¬ 100 < (h.Fields.length : Int) by omega), decide_eq_false h1, if_neg Bool.false_ne_true, if_neg Bool.false_ne_true]
    unfold zkF
    rcases hg.kind with hk | hk
    · rw [hk]
      show ((zei h.Fields [104, 111, 115, 116]).bind _) = _
      rw [zmb _ _ (by decide) hl (zdG (by decide) hs), Option.bind_some]
      have hvm : ∀ v ∈ zes h, v.length < 400000000 := fun v hv => by
        obtain ⟨f, hf, rfl⟩ := List.mem_map.1 hv
        exact (hs f (List.mem_filter.1 hf).1).2
      show (if decide (1 < ((zes h).length : Int)) = true then zah (zes h) true else if (h.Minor == 1) = true then zah (zes h) (((zes h).length : Int) == 0) else zah (zes h) false) = some (if (if decide (1 < (zes h).length) || decide (((zes h).length : Int) < h.Minor) then false else (zes h).all (fun x => x == [] || (zbC x).2 == 0)) = true then (0 : Int) else 27)
      generalize zes h = vs at hvm
      match vs, hvm with
      | [], _ => rcases hg.minor with hm | hm <;> rw [hm] <;> rfl
      | [x], hvm =>
        have hx := hvm x (List.mem_cons_self ..)
        have j : zah [x] false = some (if ([x] : List Str).all (fun x => x == [] || (zbC x).2 == 0) then 0 else 27) := by
          unfold zah zd2
          show (if (!(x == [])) = true then (zcW x).bind _ else _) = _
          rw [zhc x hx, Option.bind_some, List.all_cons, List.all_nil, Bool.and_true]
          cases hx0 : x == [] with
          | true => rfl
          | false =>
            rcases hostE x with h | h <;> rw [h] <;> rfl
        have e1 : ∀ m : Int, m = 0 ∨ m = 1 → decide ((([x] : List Str).length : Int) < m) = false := fun m h => by
          rcases h with h | h <;> rw [h] <;> rfl
        rw [e1 _ hg.minor]
        show (if (h.Minor == 1) = true then zah [x] false else zah [x] false) = some (if ([x] : List Str).all (fun x => x == [] || (zbC x).2 == 0) = true then (0 : Int) else 27)
        rw [j]
        cases h.Minor == 1 <;> cases ([x] : List Str).all (fun x => x == [] || (zbC x).2 == 0) <;> rfl
      | x :: y :: l, _ =>
        have e1 : decide (1 < ((x :: y :: l : List Str).length : Int)) = true := decide_eq_true (by simp only [List.length_cons]; omega)
        have e2 : decide (1 < (x :: y :: l : List Str).length) = true := decide_eq_true (by simp)
        rw [e1, e2]; rfl
    · rw [hk]; rfl
theorem zqU {k : Int} {s : Str} {x : api_Head} (h : zb6 k s = (x, 0)) : GoodH x := by
  have hb := zlu h
  rcases znb h with ⟨hk, h⟩ | ⟨hk, h⟩
  · refine ⟨.inl (hb.kind.trans hk), ?_⟩
    rcases znc s with (h1 | h1) | ⟨h1, h2⟩
    · rw [h1] at h; exact absurd (show (26 : Int) = 0 from congrArg Prod.snd h) (by decide)
    · rw [h1] at h; exact absurd (show (20 : Int) = 0 from congrArg Prod.snd h) (by decide)
    · obtain ⟨v, _, _, _, _, _, k1, k2, k3, _⟩ := zkk h1
      rw [h2] at h
      have hx := congrArg Prod.fst h
      dsimp only at hx
      rw [← hx]
      dsimp only
      rw [k3]
      rcases zg9 k1 k2 with ⟨_, e⟩ | ⟨_, e⟩
      · exact .inl e
      · exact .inr e
  · refine ⟨.inr (hb.kind.trans hk), ?_⟩
    unfold znS at h
    split at h
    · exact absurd (show (26 : Int) = 0 from congrArg Prod.snd h) (by decide)
    · split at h
      · rename_i h1
        obtain ⟨b, w, r, e1, e2, _, _⟩ := zio h1
        have hx := congrArg Prod.fst h
        dsimp only at hx
        rw [← hx]
        dsimp only
        rw [e2, zpW b _ e1]
        rcases e1 with e | e <;> subst e
        · exact .inl rfl
        · exact .inr rfl
      · exact absurd (show (20 : Int) = 0 from congrArg Prod.snd h) (by decide)
def zok (h : api_Head) (f : api_Field) : api_Head := ⟨h.Kind, h.Method, h.Target, h.Code, h.Reason, h.Minor, h.Fields ++ [f]⟩
def ziI : api_Head → List Str → api_Head × Int
  | h, [] => if zg8 h == 0 then (h, 0) else (zcI, zg8 h)
  | h, l :: ls => if (zdt l).2 == 0 then ziI (zok h (zdt l).1) ls else (zcI, (zdt l).2)
def zsI (k : Int) : List Str → api_Head × Int
  | [] => (zcI, 6)
  | l :: ls => if (zb6 k l).2 == 0 then ziI (zb6 k l).1 ls else (zcI, (zb6 k l).2)
def zrt (k : Int) (s : Str) (lim : Int) : api_Head × Int :=
  if !(k == 1) && !(k == 2) then (zcI, 1) else if decide (lim < (s.length : Int)) then (zcI, 3) else match zac [13, 10, 13, 10] s with
  | none => (zcI, 6)
  | some p => if p.2 == [] then zsI k (lines p.1) else (zcI, 6)
theorem zqV (l : Str) : (zdt l).1.Name.length ≤ l.length ∧ (zdt l).1.Value.length ≤ l.length := by
  unfold zdt
  have h1 := zrE (upto [58] l)
  have h2 := zjw [58] l
  have h3 := zrE ((zaV [58] l).drop 1)
  have h4 := congrArg List.length (zb3 [58] l)
  simp only [List.length_append] at h4
  simp only [List.length_drop] at h3
  split
  · simp [zg7]
  · split
    · simp [zg7]
    · split
      · simp [zg7]
      · split
        · simp [zg7]
        · split
          · simp [zg7]
          · dsimp only; omega
theorem zqW {h : api_Head} {l : Str} (hs : zdr 400000000 h.Fields) (hl : l.length < 400000000) : zdr 400000000 (zok h (zdt l).1).Fields := by
  intro f hf
  rcases List.mem_append.1 hf with h1 | h1
  · exact hs f h1
  · have := zqV l
    have e : f = (zdt l).1 := by simpa using h1
    rw [e]; omega
theorem zqX (h : api_Head) (hl : h.Fields.length < 1000000000) (hs : zdr 400000000 h.Fields) : zey h.Kind h.Method h.Target h.Code h.Reason h.Minor h.Fields = some (ziI h []) := by
  unfold zey
  rw [zjZ _ hl hs, Option.bind_some, ziI]
  cases zg8 h == 0 <;> rfl
theorem zmX (ls : List Str) (hln : ls.length < 100000000) (hls : ∀ l ∈ ls, l.length < 400000000) : ∀ (n i : Nat) (h : api_Head), i ≤ ls.length → ls.length - i < n → zdr 400000000 h.Fields → h.Fields.length ≤ i →
    zcA ls n h.Kind h.Method h.Target h.Code h.Reason h.Minor h.Fields (i : Int) = some (ziI h (ls.drop i))
  | 0, _, _, _, h, _, _ => by omega
  | n + 1, i, h, hi, hn, hs, hfl => by
    rw [zcA]
    by_cases hlt : i < ls.length
    · have g : ls[i]? = some ls[i] := List.getElem?_eq_getElem hlt
      have hsm := hls ls[i] (List.getElem_mem _)
      have ih := zmX ls hln hls n (i + 1) (zok h (zdt ls[i]).1) (by omega) (by omega) (zqW hs hsm) (by unfold zok; simp; omega)
      rw [decide_eq_true (show (i : Int) < (ls.length : Int) by omega), if_pos rfl, zbH, g, Option.bind_some, zkh _ (by omega), Option.bind_some, if_pos (zgS (by omega) (by omega)), zq (by omega), Option.bind_some, List.drop_eq_getElem_cons hlt, ziI]
      cases (zdt ls[i]).2 == 0 with
      | false => rfl
      | true => exact ih
    · have : i = ls.length := by omega
      subst this
      rw [decide_eq_false (by omega), if_neg Bool.false_ne_true, List.drop_length]
      exact zqX h (by omega) hs
theorem zol (k : Int) : ((zb6 k []).2 == 1) = (!(k == 1) && !(k == 2)) := by
  unfold zb6
  cases h1 : k == 1 with
  | true => rfl
  | false =>
    cases h2 : k == 2 with
    | true => rfl
    | false => rfl
theorem zqY (k : Int) (h : (!(k == 1) && !(k == 2)) = true) : (zb6 k []).2 = 1 := by
  have := zol k
  rw [h] at this
  simpa using this
theorem znR (k : Int) (s : Str) (lim : Int) (hs : s.length < 90000000) : zfS k s lim = some (zrt k s lim) := by
  unfold zfS zrt
  rw [zeP k [] (by decide), Option.bind_some, zol]
  cases hk : (!(k == 1) && !(k == 2)) with
  | true => rw [if_pos rfl, if_pos rfl, zqY k hk]; rfl
  | false =>
    rw [if_neg Bool.false_ne_true, if_neg Bool.false_ne_true, zkE s _ (by omega) (by decide), Option.bind_some]
    cases decide (lim < (s.length : Int)) with
    | true => rfl
    | false =>
      rw [if_neg Bool.false_ne_true, if_neg Bool.false_ne_true]
      have j1t : ∀ r, zdh k s r true = some (zcI, 6) := fun r => rfl
      cases hc : zac [13, 10, 13, 10] s with
      | none => exact j1t (-1)
      | some p =>
        have e := zcf (a := p.1) (b := p.2) hc
        have el := congrArg List.length e
        simp only [List.length_append, List.length_cons, List.length_nil] at el
        have a4 : zO (p.1.length : Int) 4 = some ((p.1.length + 4 : Nat) : Int) := by rw [zcF (by omega) (by omega)]; exact congrArg some (by omega)
        dsimp only
        rw [decide_eq_false (show ¬ (p.1.length : Int) < 0 by omega), if_neg Bool.false_ne_true, a4, Option.bind_some]
        cases hp : p.2 == [] with
        | false =>
          have hne : p.2 ≠ [] := by simpa using hp
          have hpl : 0 < p.2.length := List.length_pos_iff.2 hne
          have : (((p.1.length + 4 : Nat) : Int) == (s.length : Int)) = false := beq_eq_false_iff_ne.2 (by omega)
          rw [this]
          exact j1t _
        | true =>
          have hp0 : p.2 = [] := by simpa using hp
          rw [hp0] at el
          simp only [List.length_nil] at el
          have : (((p.1.length + 4 : Nat) : Int) == (s.length : Int)) = true := by rw [beq_iff_eq]; omega
          rw [this, Bool.not_true, if_pos rfl]
          unfold zdh
          have st : s.take p.1.length = p.1 := by rw [e, List.append_assoc, List.take_left']; rfl
          rw [if_neg Bool.false_ne_true, zeM (by omega), Option.bind_some, st, zki _ (by omega), Option.bind_some]
          obtain ⟨m1, m2⟩ := zoj _ p.1 (Nat.lt_succ_self _)
          cases hl : lines p.1 with
          | nil => exact absurd hl (zsG _)
          | cons l ls =>
            rw [hl] at m1 m2
            have hll := m2 l (List.mem_cons_self ..)
            rw [zsO, List.getElem?_cons_zero, Option.bind_some, zeP k l (by omega), Option.bind_some, zsI]
            cases h0 : (zb6 k l).2 == 0 with
            | false => rfl
            | true =>
              have hf : zpT (l :: ls) 1 = some ls := by
                unfold zpT
                rw [if_pos ⟨by decide, by simp only [List.length_cons]; omega⟩]
                rfl
              rw [Bool.not_true, if_neg Bool.false_ne_true, hf, Option.bind_some, if_pos rfl]
              have hfs := zkR k l
              have := zmX ls (by simp only [List.length_cons] at m1; omega) (fun x hx => by have := m2 x (List.mem_cons_of_mem _ hx); omega) fuel 0 (zb6 k l).1 (Nat.zero_le _) (by simp only [List.length_cons] at m1; unfold fuel; omega) (by rw [hfs]; intro f hf; cases hf) (by rw [hfs]; simp)
              rw [List.drop_zero] at this
              exact this
end Go.Dm
end
section
namespace Go.Dm
def zdC (f : api_Field) : Int := if zfw f.Name then (if f.Value.all zem && zd6 f.Value == f.Value then 0 else 25) else 21
theorem zg2 (f : api_Field) (h1 : f.Name.length < 1000000000) (h2 : f.Value.length < 1000000000) : zcn f = some (zdC f) := by
  unfold zcn zdC
  rw [zm8 _ h1, Option.bind_some, zb2 zf2 _ h2, Option.bind_some, ziQ _ h2, Option.bind_some]
  cases zfw f.Name <;> cases f.Value.all zem <;> cases zd6 f.Value == f.Value <;> rfl
theorem zmo (f : api_Field) (h1 : f.Name.length < 1000000000) (h2 : f.Value.length < 1000000000) : zgx f = some (zdC f) := by
  unfold zgx zdC
  rw [zjh _ h1, Option.bind_some, zmc _ h2, Option.bind_some, zn9 _ h2, Option.bind_some]
  cases zfw f.Name <;> cases f.Value.all zem <;> cases zd6 f.Value == f.Value <;> rfl
def ziU (w : Int) : List api_Field → Int
  | [] => w
  | f :: fs => if zdC f == 0 then ziU w fs else zdC f
def zfe (h : api_Head) : Int := if (zfa h).2 == 0 then ziU (zg8 h) h.Fields else (zfa h).2
theorem zmp {h : api_Head} (ht : ((zfa h).2 == 0) = true) : zfa h = (zgR h, 0) ∧ ∃ x, zb6 h.Kind (zgR h) = (x, 0) ∧ x.Kind = h.Kind ∧ x.Method = h.Method ∧ x.Target = h.Target ∧ x.Minor = h.Minor ∧ x.Code = h.Code ∧ x.Reason = h.Reason := by
  unfold zfa at ht ⊢
  split
  · rename_i h1; rw [if_pos h1] at ht; cases ht
  · rename_i h1
    rw [if_neg h1] at ht
    split
    · rename_i h2
      refine ⟨rfl, (zb6 h.Kind (zgR h)).1, ?_, ?_⟩
      · rw [Bool.and_eq_true] at h2
        have : (zb6 h.Kind (zgR h)).2 = 0 := by simpa using h2.1
        rw [← this]
      · rw [Bool.and_eq_true] at h2
        have h0 : (zb6 h.Kind (zgR h)).2 = 0 := by simpa using h2.1
        have hb := zlu (k := h.Kind) (s := zgR h) (x := (zb6 h.Kind (zgR h)).1) (by rw [← h0])
        have hs := h2.2
        unfold zrx at hs
        simp only [Bool.and_eq_true, beq_iff_eq] at hs
        exact ⟨hb.kind, hs.1.1.1.1, hs.1.1.1.2, hs.1.1.2, hs.1.2, hs.2⟩
    · rename_i h2; rw [if_neg h2] at ht; cases ht
theorem zkb {h : api_Head} (ht : ((zfa h).2 == 0) = true) : GoodH h := by
  obtain ⟨_, x, e, k1, _, _, k4, _, _⟩ := zmp ht
  have := zqU e
  exact ⟨k1 ▸ this.kind, k4 ▸ this.minor⟩
theorem zjM (h : api_Head) (hs : smallH h) (hl : h.Fields.length < 1000000000) (hf : zdr 400000000 h.Fields) : zfX h = some (zfe h) := by
  unfold zfX zfe
  rw [zhE h hs, Option.bind_some]
  cases ht : (zfa h).2 == 0 with
  | false => rfl
  | true =>
    rw [Bool.not_true, if_neg Bool.false_ne_true, if_pos rfl]
    have key : ∀ (n i : Nat), i ≤ h.Fields.length → h.Fields.length - i < n → zcB h n (i : Int) = some (ziU (zg8 h) (h.Fields.drop i)) := by
      intro n
      induction n with
      | zero => intro i _ h; omega
      | succ n ih =>
        intro i hi hn
        rw [zcB]
        by_cases hlt : i < h.Fields.length
        · have g : h.Fields[i]? = some h.Fields[i] := List.getElem?_eq_getElem hlt
          have hsm := hf h.Fields[i] (List.getElem_mem _)
          rw [decide_eq_true (show (i : Int) < (h.Fields.length : Int) by omega), if_pos rfl, zbH, g, Option.bind_some, zg2 _ (by omega) (by omega), Option.bind_some, zq (by omega), Option.bind_some, ih (i + 1) (by omega) (by omega), List.drop_eq_getElem_cons hlt, ziU]
          cases zdC h.Fields[i] == 0 <;> rfl
        · have : i = h.Fields.length := by omega
          subst this
          rw [decide_eq_false (by omega), if_neg Bool.false_ne_true, List.drop_length, zjZ h hl hf, Option.bind_some]
          rfl
    have := key fuel 0 (Nat.zero_le _) (by unfold fuel; omega)
    rw [List.drop_zero] at this
    exact this
theorem zmq (h : api_Head) (hs : smallH h) (hl : h.Fields.length < 1000000000) (hf : zdr 400000000 h.Fields) : zgy h = some (zfe h) := by
  unfold zgy zfe
  rw [zj3 h hs, Option.bind_some]
  cases ht : (zfa h).2 == 0 with
  | false => rfl
  | true =>
    have hg := zkb ht
    rw [Bool.not_true, if_neg Bool.false_ne_true, if_pos rfl]
    have key : ∀ (n i : Nat), i ≤ h.Fields.length → h.Fields.length - i < n → zcd h n (i : Int) = some (ziU (zg8 h) (h.Fields.drop i)) := by
      intro n
      induction n with
      | zero => intro i _ h; omega
      | succ n ih =>
        intro i hi hn
        rw [zcd]
        by_cases hlt : i < h.Fields.length
        · have g : h.Fields[i]? = some h.Fields[i] := List.getElem?_eq_getElem hlt
          have hsm := hf h.Fields[i] (List.getElem_mem _)
          rw [decide_eq_true (show (i : Int) < (h.Fields.length : Int) by omega), if_pos rfl, zbH, g, Option.bind_some, zmo _ (by omega) (by omega), Option.bind_some, zq (by omega), Option.bind_some, ih (i + 1) (by omega) (by omega), List.drop_eq_getElem_cons hlt, ziU]
          cases zdC h.Fields[i] == 0 <;> rfl
        · have : i = h.Fields.length := by omega
          subst this
          rw [decide_eq_false (by omega), if_neg Bool.false_ne_true, List.drop_length, zmW h hg hl hf, Option.bind_some]
          rfl
    have := key fuel 0 (Nat.zero_le _) (by unfold fuel; omega)
    rw [List.drop_zero] at this
    exact this
theorem ziV {w : Int} : ∀ {fs : List api_Field}, ziU w fs = 0 → w = 0 ∧ ∀ f ∈ fs, zdC f = 0
  | [], h => ⟨h, fun f hf => by cases hf⟩
  | f :: fs, h => by
    rw [ziU] at h
    split at h
    · rename_i h0
      obtain ⟨a, b⟩ := ziV h
      refine ⟨a, fun g hg => ?_⟩
      rcases List.mem_cons.1 hg with e | e
      · rw [e]; simpa using h0
      · exact b g e
    · rename_i h0; rw [h] at h0; exact absurd rfl h0
def zcR (f : api_Field) : Str := if f.Value == [] then f.Name ++ [58] else f.Name ++ [58, 32] ++ f.Value
def zc5 : List api_Field → Str
  | [] => [13, 10]
  | f :: fs => zcR f ++ 13 :: 10 :: zc5 fs
def zgL (h : api_Head) : Str := (zfa h).1 ++ 13 :: 10 :: zc5 h.Fields
theorem zlg (f : api_Field) : (zcR f).length ≤ f.Name.length + f.Value.length + 2 := by
  unfold zcR
  split <;> simp <;> omega
theorem zlh {m : Nat} : ∀ {fs : List api_Field}, zdr m fs → (zc5 fs).length ≤ fs.length * (2 * m + 4) + 2
  | [], _ => by simp [zc5]
  | f :: fs, h => by
    have h1 := h f (List.mem_cons_self ..)
    have ih := zlh (m := m) (fs := fs) (fun g hg => h g (List.mem_cons_of_mem _ hg))
    have := zlg f
    simp only [zc5, List.length_append, List.length_cons, Nat.add_mul]
    omega
theorem zli {h : api_Head} (hs : smallH h) : (zfa h).1.length < 100000000 := by
  have := zna hs
  unfold zfa
  split
  · simp
  · split
    · exact this
    · simp
theorem znE (f : api_Field) (h1 : f.Name.length < 100000000) (h2 : f.Value.length < 100000000) : zhp f = some (zcR f) := by
  unfold zhp zcR
  rw [zal (by simp; omega), Option.bind_some, zal (by simp; omega), Option.bind_some, zal (by simp; omega), Option.bind_some]
  cases f.Value == [] <;> rfl
theorem znF (h : api_Head) (hs : smallH h) (hl : h.Fields.length ≤ 200) (hf : zdr 4000 h.Fields) : zhq h = some (zgL h) := by
  have htl := zli hs
  unfold zhq zgL
  rw [zj3 h hs, Option.bind_some, zal (by simp; omega), Option.bind_some]
  have key : ∀ (n i : Nat) (u : Str), i ≤ h.Fields.length → h.Fields.length - i < n → u.length ≤ 200000000 + i * 8004 → zcD h n u (i : Int) = some (u ++ zc5 (h.Fields.drop i)) := by
    intro n
    induction n with
    | zero => intro i _ _ h; omega
    | succ n ih =>
      intro i u hi hn hu
      rw [zcD]
      by_cases hlt : i < h.Fields.length
      · have g : h.Fields[i]? = some h.Fields[i] := List.getElem?_eq_getElem hlt
        have hsm := hf h.Fields[i] (List.getElem_mem _)
        have := zlg h.Fields[i]
        rw [decide_eq_true (show (i : Int) < (h.Fields.length : Int) by omega), if_pos rfl, zbH, g, Option.bind_some, znE _ (by omega) (by omega), Option.bind_some, zal (by omega), Option.bind_some, zal (by simp only [List.length_append, List.length_cons, List.length_nil]; omega), Option.bind_some, zq (by omega), Option.bind_some, ih (i + 1) _ (by omega) (by omega) (by simp only [List.length_append, List.length_cons, List.length_nil]; omega), List.drop_eq_getElem_cons hlt, zc5]
        simp
      · have : i = h.Fields.length := by omega
        subst this
        rw [decide_eq_false (by omega), if_neg Bool.false_ne_true, List.drop_length, zal (by simp only [List.length_append, List.length_cons, List.length_nil]; omega), Option.bind_some]
        rfl
  have := key fuel 0 ((zfa h).1 ++ [13, 10]) (Nat.zero_le _) (by unfold fuel; omega) (by simp; omega)
  rw [List.drop_zero, List.append_assoc] at this
  exact this
theorem zkw (f : api_Field) (h1 : f.Name.length < 100000000) (h2 : f.Value.length < 100000000) (hc : zdC f = 0) : zd4 f = some (zcR f, 0) := by
  unfold zd4 zcR
  rw [zg2 f (by omega) (by omega), Option.bind_some, hc, zal (by simp; omega), Option.bind_some, zal (by simp; omega), Option.bind_some, zal (by simp; omega), Option.bind_some]
  cases f.Value == [] <;> rfl
theorem zgE (b s : Str) (most : Int) (full : Bool) (hb : (b.length : Int) ≤ most) (hm : most ≤ 9223372036854775807) (hs : s.length < 1000000000) (hbl : b.length < 1000000000) :
    zbc ⟨⟨b, most⟩, full⟩ s = some (if ((b.length + s.length + 2 : Nat) : Int) ≤ most then ⟨⟨b ++ s ++ [13, 10], most⟩, full⟩ else ⟨⟨b, most⟩, true⟩) := by
  unfold zbc zek zeL zej
  dsimp only
  have hsub : zd8 most (b.length : Int) = some (most - (b.length : Int)) := zcG (by omega) (by omega)
  rw [if_pos (show zaO 0 ([s] : List Str).length 16 = true from rfl), if_pos (show zaO ([s] : List Str).length 1 16 = true from rfl), hsub, Option.bind_some, Option.bind_some]
  rw [show fuel = 999999999999999997 + 1 + 1 + 1 from rfl]
  show ((zag ⟨b, most⟩ [s, [13, 10]] (999999999999999997 + 1 + 1 + 1) (most - (b.length : Int)) ((0 : Nat) : Int)).bind _).bind _ = _
  have L2 : zY [s, [13, 10]] fuel b most 0 = some (0, ⟨b ++ s ++ [13, 10], most⟩) := by
    rw [show fuel = 999999999999999997 + 1 + 1 + 1 from rfl, show (0 : Int) = ((0 : Nat) : Int) from rfl]
    rw [zY, decide_eq_true (by simp), if_pos rfl, zbH, show ([s, [13, 10]] : List Str)[0]? = some s from rfl, Option.bind_some, if_pos (zgS (by omega) (by omega)), zq (by decide), Option.bind_some]
    rw [zY, decide_eq_true (by simp), if_pos rfl, zbH, show ([s, [13, 10]] : List Str)[0 + 1]? = some [13, 10] from rfl, Option.bind_some, if_pos (zgS (by simp; omega) (by simp; omega)), zq (by decide), Option.bind_some]
    rw [zY, decide_eq_false (by simp), if_neg Bool.false_ne_true]
    rfl
  rw [zag, decide_eq_true (by simp), if_pos rfl, zbH, show ([s, [13, 10]] : List Str)[0]? = some s from rfl, Option.bind_some]
  by_cases h1 : most - (b.length : Int) < (s.length : Int)
  · rw [decide_eq_true h1, if_pos rfl, Option.bind_some, Option.bind_some, if_neg (show ¬ ((b.length + s.length + 2 : Nat) : Int) ≤ most by omega)]
    rfl
  · rw [decide_eq_false h1, if_neg Bool.false_ne_true, zcG (by omega) (by omega), Option.bind_some, zq (by decide), Option.bind_some]
    rw [zag, decide_eq_true (by simp), if_pos rfl, zbH, show ([s, [13, 10]] : List Str)[0 + 1]? = some [13, 10] from rfl, Option.bind_some]
    by_cases h2 : most - (b.length : Int) - (s.length : Int) < 2
    · rw [decide_eq_true (show most - (b.length : Int) - (s.length : Int) < (([13, 10] : Str).length : Int) from h2), if_pos rfl, Option.bind_some, Option.bind_some, if_neg (show ¬ ((b.length + s.length + 2 : Nat) : Int) ≤ most by omega)]
      rfl
    · rw [decide_eq_false (show ¬ most - (b.length : Int) - (s.length : Int) < (([13, 10] : Str).length : Int) from h2), if_neg Bool.false_ne_true, show (([13, 10] : Str).length : Int) = 2 from rfl, zcG (by omega) (by omega), Option.bind_some, zq (by decide), Option.bind_some]
      rw [zag, decide_eq_false (by simp), if_neg Bool.false_ne_true]
      show ((zY [s, [13, 10]] fuel b most 0).bind _).bind _ = _
      rw [L2, Option.bind_some, Option.bind_some, if_pos (show ((b.length + s.length + 2 : Nat) : Int) ≤ most by omega)]
      rfl
def zqH (h : api_Head) (most : Int) : Str × Int := if ((zgL h).length : Int) ≤ most then (zgL h, 0) else ([], 3)
theorem znG (h : api_Head) (lim : Int) (hli : inI lim = true) (hs : smallH h) (hl : h.Fields.length ≤ 200) (hf : zdr 4000 h.Fields) :
    zfZ h lim = some (if zfe h == 0 then zqH h lim else ([], zfe h)) := by
  have htl := zli hs
  have hrl := zlh hf
  rw [zgc] at hli
  unfold zfZ
  rw [zjM h hs (by omega) (zdG (by decide) hf), Option.bind_some]
  cases hck : zfe h == 0 with
  | false => rfl
  | true =>
    have hc0 : zfe h = 0 := by simpa using hck
    unfold zjz
    rw [Bool.not_true, if_neg Bool.false_ne_true, if_pos rfl, Option.bind_some, zhE h hs, Option.bind_some]
    have hfc : ∀ f ∈ h.Fields, zdC f = 0 := by
      unfold zfe at hc0
      split at hc0
      · exact (ziV hc0).2
      · rename_i hh; rw [hc0] at hh; exact absurd rfl hh
    obtain ⟨most, hmost⟩ : ∃ m, m = max lim 0 := ⟨_, rfl⟩
    have hm0 : 0 ≤ most := by omega
    have hm1 : most ≤ 9223372036854775807 := by omega
    rw [← hmost]
    -- the loop
    have fin : ∀ (t : Bool) (b : Str), (b.length : Int) ≤ most → b.length < 900000000 → zeE t b most = some (if t then ([], 3) else if ((b.length + 2 : Nat) : Int) ≤ most then (b ++ [13, 10], 0) else ([], 3)) := by
      intro t b hb hbl
      unfold zeE
      rw [zgE b [] most t hb hm1 (by decide) (by omega), Option.bind_some]
      simp only [List.length_nil, Nat.add_zero, List.append_nil]
      split
      · cases t <;> rfl
      · cases t <;> rfl
    have key : ∀ (n i : Nat) (t : Bool) (b : Str), i ≤ h.Fields.length → h.Fields.length - i < n → (b.length : Int) ≤ most → b.length ≤ 200000000 + i * 8004 →
        zcC h n t b most (i : Int) = some (if t then ([], 3) else if ((b.length + (zc5 (h.Fields.drop i)).length : Nat) : Int) ≤ most then (b ++ zc5 (h.Fields.drop i), 0) else ([], 3)) := by
      intro n
      induction n with
      | zero => intro i _ _ _ h; omega
      | succ n ih =>
        intro i t b hi hn hb hbl
        rw [zcC]
        by_cases hlt : i < h.Fields.length
        · have g : h.Fields[i]? = some h.Fields[i] := List.getElem?_eq_getElem hlt
          have hsm := hf h.Fields[i] (List.getElem_mem _)
          have htf := zlg h.Fields[i]
          rw [decide_eq_true (show (i : Int) < (h.Fields.length : Int) by omega), if_pos rfl, zbH, g, Option.bind_some, zkw _ (by omega) (by omega) (hfc _ (List.getElem_mem _)), Option.bind_some, zgE b _ most t hb hm1 (by dsimp only; omega) (by omega), Option.bind_some, zq (by omega), Option.bind_some, List.drop_eq_getElem_cons hlt, zc5]
          dsimp only
          generalize zcR h.Fields[i] = x at htf
          by_cases hfit : ((b.length + x.length + 2 : Nat) : Int) ≤ most
          · rw [if_pos hfit]
            have := ih (i + 1) t (b ++ x ++ [13, 10]) (by omega) (by omega) (by simp only [List.length_append, List.length_cons, List.length_nil]; omega) (by simp only [List.length_append, List.length_cons, List.length_nil]; omega)
            refine this.trans ?_
            have e1 : (b ++ x ++ [13, 10]).length + (zc5 (h.Fields.drop (i + 1))).length = b.length + (x ++ 13 :: 10 :: zc5 (h.Fields.drop (i + 1))).length := by simp only [List.length_append, List.length_cons, List.length_nil]; omega
            have e2 : b ++ x ++ [13, 10] ++ zc5 (h.Fields.drop (i + 1)) = b ++ (x ++ 13 :: 10 :: zc5 (h.Fields.drop (i + 1))) := by simp
            rw [e1, e2]
          · rw [if_neg hfit]
            have := ih (i + 1) true b (by omega) (by omega) hb (Nat.le_trans hbl (Nat.add_le_add_left (Nat.mul_le_mul_right _ (Nat.le_succ i)) _))
            refine this.trans ?_
            rw [if_pos rfl]
            have hno : ¬ ((b.length + (x ++ 13 :: 10 :: zc5 (h.Fields.drop (i + 1))).length : Nat) : Int) ≤ most := by simp only [List.length_append, List.length_cons]; omega
            rw [if_neg hno]
            cases t <;> rfl
        · have : i = h.Fields.length := by omega
          subst this
          rw [decide_eq_false (by omega), if_neg Bool.false_ne_true, List.drop_length]
          exact fin t b hb (by omega)
    rw [zgE [] _ most false (by simpa using hm0) hm1 (by omega) (by decide), Option.bind_some]
    unfold zqH zgL
    generalize (zfa h).1 = l at htl
    simp only [List.length_nil, Nat.zero_add, List.nil_append]
    have hpos : (((l ++ 13 :: 10 :: zc5 h.Fields).length : Int) ≤ lim) ↔ (((l ++ 13 :: 10 :: zc5 h.Fields).length : Int) ≤ most) := by
      simp only [List.length_append, List.length_cons]
      omega
    by_cases hfit : ((l.length + 2 : Nat) : Int) ≤ most
    · rw [if_pos hfit]
      have := key fuel 0 false (l ++ [13, 10]) (Nat.zero_le _) (by unfold fuel; omega) (by simp only [List.length_append, List.length_cons, List.length_nil]; omega) (by simp only [List.length_append, List.length_cons, List.length_nil]; omega)
      refine this.trans ?_
      rw [if_neg Bool.false_ne_true, List.drop_zero]
      have e1 : (l ++ [13, 10]).length + (zc5 h.Fields).length = (l ++ 13 :: 10 :: zc5 h.Fields).length := by simp only [List.length_append, List.length_cons, List.length_nil]; omega
      have e2 : l ++ [13, 10] ++ zc5 h.Fields = l ++ 13 :: 10 :: zc5 h.Fields := by simp
      rw [e1, e2]
      by_cases hq : ((l ++ 13 :: 10 :: zc5 h.Fields).length : Int) ≤ most
      · rw [if_pos hq, if_pos (hpos.2 hq)]
      · rw [if_neg hq, if_neg (fun h => hq (hpos.1 h))]
    · rw [if_neg hfit]
      have := key fuel 0 true [] (Nat.zero_le _) (by unfold fuel; omega) (by simpa using hm0) (by simp)
      refine this.trans ?_
      rw [if_pos rfl, if_neg]
      intro hh
      have := hpos.1 hh
      simp only [List.length_append, List.length_cons] at this
      omega
def zjF : Str → List Str → Str
  | l, [] => l
  | l, m :: ms => l ++ 13 :: 10 :: zjF m ms
theorem zg3 {t : Str} {c : UInt8} (ht : t.head? = some c) : ∀ {l : Str} (r : Str), c ∉ l → zac t (l ++ r) = (zac t r).map fun p => (l ++ p.1, p.2)
  | [], r, _ => by
    cases h : zac t r with
    | none => rw [List.nil_append, h]; rfl
    | some p => rw [List.nil_append, h]; rfl
  | x :: l, r, h => by
    have hx : c ≠ x := fun e => h (by rw [e]; exact List.mem_cons_self ..)
    have hp : t.isPrefixOf (x :: (l ++ r)) = false := by
      cases t with
      | nil => cases ht
      | cons a t =>
        have : a = c := by simpa using ht
        subst this
        show ((a == x) && _) = false
        rw [beq_eq_false_iff_ne.2 hx, Bool.false_and]
    rw [List.cons_append, zac, hp, if_neg Bool.false_ne_true, zg3 ht r (fun hm => h (List.mem_cons_of_mem _ hm)), Option.map_map]
    rfl
theorem zmr : ∀ (ms : List Str) (l : Str), (13 : UInt8) ∉ l → (∀ m ∈ ms, (13 : UInt8) ∉ m) → lines (zjF l ms) = l :: ms
  | [], l, hl, _ => by
    have h := zg3 (t := [13, 10]) (c := 13) rfl [] hl
    rw [List.append_nil] at h
    rw [zjF, zkD, h]; rfl
  | m :: ms, l, hl, hm => by
    have h := zg3 (t := [13, 10]) (c := 13) rfl (13 :: 10 :: zjF m ms) hl
    have hp : zac [13, 10] (13 :: 10 :: zjF m ms) = some ([], zjF m ms) := by
      rw [zac, if_pos (by rw [zp2]; rfl)]; rfl
    rw [hp] at h
    rw [zjF, zkD, h]
    dsimp only [Option.map_some]
    rw [List.append_nil, zmr ms m (hm m (List.mem_cons_self ..)) (fun x hx => hm x (List.mem_cons_of_mem _ hx))]
theorem zpB : ∀ (ms : List Str) (l : Str), (13 : UInt8) ∉ l → (∀ m ∈ ms, (13 : UInt8) ∉ m ∧ m ≠ []) → zac [13, 10, 13, 10] (zjF l ms ++ [13, 10, 13, 10]) = some (zjF l ms, [])
  | [], l, hl, _ => by
    rw [zjF, zg3 (c := 13) rfl _ hl]
    have : zac [13, 10, 13, 10] [13, 10, 13, 10] = some ([], []) := by decide
    rw [this]
    dsimp only [Option.map_some]
    rw [List.append_nil]
  | m :: ms, l, hl, hm => by
    obtain ⟨h1, h2⟩ := hm m (List.mem_cons_self ..)
    have ih := zpB ms m h1 (fun x hx => hm x (List.mem_cons_of_mem _ hx))
    obtain ⟨y, m', rfl⟩ : ∃ y m', m = y :: m' := by
      cases m with
      | nil => exact absurd rfl h2
      | cons y m' => exact ⟨y, m', rfl⟩
    have hy : (13 == y) = false := beq_eq_false_iff_ne.2 (fun e => h1 (by rw [e]; exact List.mem_cons_self ..))
    obtain ⟨g, hg⟩ : ∃ g, zjF (y :: m') ms ++ [13, 10, 13, 10] = y :: g := by
      cases ms with
      | nil => exact ⟨_, rfl⟩
      | cons z zs => exact ⟨_, rfl⟩
    rw [zjF, List.append_assoc, zg3 (c := 13) rfl _ hl, List.cons_append, List.cons_append, hg]
    have e1 : ([13, 10, 13, 10] : Str).isPrefixOf (13 :: 10 :: y :: g) = false := by
      show ((13 : UInt8) == 13 && ((10 : UInt8) == 10 && ((13 : UInt8) == y && _))) = false
      rw [hy]; rfl
    have e2 : ([13, 10, 13, 10] : Str).isPrefixOf (10 :: y :: g) = false := rfl
    rw [zac, e1, if_neg Bool.false_ne_true, zac, e2, if_neg Bool.false_ne_true, ← hg, ih]
    rfl
theorem zms (l : Str) : ∀ fs : List api_Field, l ++ 13 :: 10 :: zc5 fs = zjF l (fs.map zcR) ++ [13, 10, 13, 10]
  | [] => by simp [zc5, zjF]
  | f :: fs => by
    have ih := zms (zcR f) fs
    rw [zc5, List.map_cons, zjF, ih]; simp
theorem zsn {v : Str} (h : v.all zem = true) : (13 : UInt8) ∉ v ∧ (10 : UInt8) ∉ v := by
  constructor <;> intro hm <;> have := List.all_eq_true.1 h _ hm <;> cases this
theorem ztC (c : UInt8) : (!za4 c || zem c) = true := zI (fun c => !za4 c || zem c) (by decide +kernel) c
theorem ztD {p q : UInt8 → Bool} (h : ∀ c, (!p c || q c) = true) {s : Str} (hs : s.all p = true) : s.all q = true := by
  refine List.all_eq_true.2 fun x hx => ?_
  have h1 := List.all_eq_true.1 hs x hx
  have h2 := h x
  rw [h1] at h2
  exact h2
theorem zob {f : api_Field} (h : zdC f = 0) : zfw f.Name = true ∧ f.Value.all zem = true ∧ zd6 f.Value = f.Value := by
  unfold zdC at h
  split at h
  · rename_i h1
    split at h
    · rename_i h2
      rw [Bool.and_eq_true, beq_iff_eq] at h2
      exact ⟨h1, h2.1, h2.2⟩
    · exact absurd h (by decide)
  · exact absurd h (by decide)
theorem zoc {f : api_Field} (h : zdC f = 0) : (zcR f).all zem = true ∧ zcR f ≠ [] := by
  obtain ⟨h1, h2, _⟩ := zob h
  unfold zfw at h1
  rw [Bool.and_eq_true] at h1
  have hn := ztD ztC h1.1
  unfold zcR
  split
  · exact ⟨by rw [List.all_append, hn]; decide, by simp⟩
  · exact ⟨by rw [List.all_append, List.all_append, hn, h2]; decide, by simp⟩
theorem zso {s : Str} (h : s.all zem = true) : s.any ([13, 10] : Str).contains = false := by
  refine List.any_eq_false.2 fun x hx => ?_
  have := List.all_eq_true.1 h x hx
  intro hc
  have hc' : x = 13 ∨ x = 10 := by simpa using hc
  rcases hc' with e | e <;> subst e <;> cases this
theorem zpC {f : api_Field} (h : zdC f = 0) : zdt (zcR f) = (f, 0) := by
  obtain ⟨h1, h2, h3⟩ := zob h
  have hv := (zoc h).1
  have ht := h1
  unfold zfw at h1
  rw [Bool.and_eq_true] at h1
  obtain ⟨n1, n2⟩ := zln h1.1
  obtain ⟨v, hu, hva, hvt⟩ : ∃ v, zcR f = f.Name ++ 58 :: v ∧ v.all zem = true ∧ zd6 v = f.Value := by
    unfold zcR
    cases hx : f.Value == [] with
    | true =>
      have : f.Value = [] := by simpa using hx
      exact ⟨[], by rw [if_pos rfl], rfl, by rw [this]; rfl⟩
    | false =>
      refine ⟨32 :: f.Value, by rw [if_neg Bool.false_ne_true]; simp, by rw [List.all_cons, h2]; decide, ?_⟩
      rw [zul (by decide), h3]
  obtain ⟨u1, u2⟩ := zrs f.Name v n2
  have hne : f.Name ≠ [] := ((zll _).1 ht).1
  have hhb : zlm (zcR f) = false := by
    rw [hu]
    cases hn : f.Name with
    | nil => exact absurd hn hne
    | cons c n => rw [hn] at n1; exact n1 c (List.mem_cons_self ..)
  unfold zdt
  rw [zso hv, if_neg Bool.false_ne_true, hhb, if_neg Bool.false_ne_true, hu, u1, u2, zp1 n1, ht]
  show (if false = true then _ else if decide (f.Name.length < f.Name.length) = true then _ else if (!v.all zem) = true then _ else _) = _
  rw [if_neg Bool.false_ne_true, decide_eq_false (Nat.lt_irrefl _), if_neg Bool.false_ne_true, hva, Bool.not_true, if_neg Bool.false_ne_true]
  show ((⟨f.Name, zd6 v⟩, 0) : api_Field × Int) = _
  rw [hvt]
theorem zlP : ∀ (fs : List api_Field) (h : api_Head), (∀ f ∈ fs, zdC f = 0) → ziI h (fs.map zcR) = ziI ⟨h.Kind, h.Method, h.Target, h.Code, h.Reason, h.Minor, h.Fields ++ fs⟩ []
  | [], h, _ => by rw [List.map_nil, List.append_nil]
  | f :: fs, h, hc => by
    have e : ziI h (zcR f :: fs.map zcR) = if (zdt (zcR f)).2 == 0 then ziI (zok h (zdt (zcR f)).1) (fs.map zcR) else (zcI, (zdt (zcR f)).2) := rfl
    rw [List.map_cons, e, zpC (hc f (List.mem_cons_self ..)), beq_self_eq_true, if_pos rfl, zlP fs _ (fun g hg => hc g (List.mem_cons_of_mem _ hg))]
    unfold zok
    simp only [List.append_assoc, List.singleton_append]
theorem zkx {h : api_Head} (hc : zfe h = 0) : ((zfa h).2 == 0) = true ∧ zg8 h = 0 ∧ ∀ f ∈ h.Fields, zdC f = 0 := by
  unfold zfe at hc
  split at hc
  · rename_i h1
    exact ⟨h1, ziV hc⟩
  · rename_i h1; rw [hc] at h1; exact absurd rfl h1
theorem zrI {k : Int} {s : Str} {x : api_Head} (h : zb6 k s = (x, 0)) : (13 : UInt8) ∉ s ∧ s ≠ [] := by
  constructor
  · intro hm
    have hany : s.any ([13, 10] : Str).contains = true := List.any_eq_true.2 ⟨13, hm, by decide⟩
    unfold zb6 at h
    split at h
    · exact absurd (show (1 : Int) = 0 from congrArg Prod.snd h) (by decide)
    · exact absurd (show (24 : Int) = 0 from congrArg Prod.snd h) (by decide)
  · rintro rfl
    unfold zb6 at h
    split at h
    · exact absurd (show (1 : Int) = 0 from congrArg Prod.snd h) (by decide)
    · rw [show ([] : Str).any ([13, 10] : Str).contains = false from rfl, if_neg Bool.false_ne_true] at h
      split at h
      · exact absurd (show (20 : Int) = 0 from congrArg Prod.snd h) (by decide)
      · exact absurd (show (20 : Int) = 0 from congrArg Prod.snd h) (by decide)
theorem zrJ {h : api_Head} (hc : zfe h = 0) (lim : Int) (hl : ((zgL h).length : Int) ≤ lim) : zrt h.Kind (zgL h) lim = (h, 0) := by
  obtain ⟨h1, h2, h3⟩ := zkx hc
  have hg := zkb h1
  obtain ⟨e, x, k0, k1, k2, k3, k4, k5, k6⟩ := zmp h1
  obtain ⟨l1, l2⟩ := zrI k0
  have hraw : zgL h = zjF (zgR h) (h.Fields.map zcR) ++ [13, 10, 13, 10] := by
    unfold zgL
    rw [e, zms]
  have hms : ∀ m ∈ h.Fields.map zcR, (13 : UInt8) ∉ m ∧ m ≠ [] := fun m hm => by
    obtain ⟨f, hf, rfl⟩ := List.mem_map.1 hm
    obtain ⟨a, b⟩ := zoc (h3 f hf)
    exact ⟨(zsn a).1, b⟩
  have hk : (!(h.Kind == 1) && !(h.Kind == 2)) = false := by rcases hg.kind with hh | hh <;> rw [hh] <;> rfl
  have hfx := zkR h.Kind (zgR h)
  rw [k0] at hfx
  unfold zrt
  rw [hk, if_neg Bool.false_ne_true, decide_eq_false (by omega), if_neg Bool.false_ne_true, hraw, zpB _ _ l1 hms]
  dsimp only
  rw [show (([] : Str) == []) = true from rfl, if_pos rfl, zmr _ _ l1 (fun m hm => (hms m hm).1), zsI, k0, beq_self_eq_true, if_pos rfl, zlP _ _ h3]
  dsimp only at hfx
  have hx : (⟨x.Kind, x.Method, x.Target, x.Code, x.Reason, x.Minor, x.Fields ++ h.Fields⟩ : api_Head) = h := by
    rw [k1, k2, k3, k4, k5, k6, hfx, List.nil_append]
  show ziI (⟨x.Kind, x.Method, x.Target, x.Code, x.Reason, x.Minor, x.Fields ++ h.Fields⟩ : api_Head) [] = _
  rw [hx, ziI, h2]
  rfl
theorem znH (h : api_Head) (limit : Int) (_ : inI h.Kind = true) (hc : inI h.Code = true) (hm : inI h.Minor = true) (hl : h.Fields.length < 1000000000) (hli : inI limit = true) : zfv h limit = some true := by
  unfold zfv
  rw [znD, Option.bind_some, Bool.not_true, if_neg Bool.false_ne_true, zoY h hl, Option.bind_some]
  have hll := zsz h.Fields
  have hsl := zqP h.Fields
  have hsm : smallH ⟨h.Kind, h.Method.take 400, h.Target.take 400, h.Code, h.Reason.take 400, h.Minor, zqO h.Fields⟩ := ⟨hc, hm, by simp; omega, by simp; omega, by simp; omega⟩
  generalize hq : (⟨h.Kind, h.Method.take 400, h.Target.take 400, h.Code, h.Reason.take 400, h.Minor, zqO h.Fields⟩ : api_Head) = g at hsm
  have hgl : g.Fields.length ≤ 120 := by rw [← hq]; exact hll
  have hgs : zdr 401 g.Fields := by rw [← hq]; exact hsl
  have hck := zmq g hsm (by omega) (zdG (by decide) hgs)
  have hck2 := zjM g hsm (by omega) (zdG (by decide) hgs)
  have htx := znF g hsm (by omega) (zdG (by decide) hgs)
  have hpr := znG g limit hli hsm (by omega) (zdG (by decide) hgs)
  rw [hpr, Option.bind_some, hck, Option.bind_some, hck2, Option.bind_some, beq_self_eq_true, Bool.not_true, if_neg Bool.false_ne_true]
  have htl := zli hsm
  have hrl := zlh hgs
  have hlen : (zgL g).length < 90000000 + 20000000 := by
    unfold zgL
    simp only [List.length_append, List.length_cons]
    omega
  cases h0 : zfe g == 0 with
  | false =>
    rw [Bool.not_false, if_pos rfl, if_neg Bool.false_ne_true]
    dsimp only
    rw [show (([] : Str) == []) = true from rfl, if_pos rfl, beq_self_eq_true]
    rfl
  | true =>
    have hc0 : zfe g = 0 := by simpa using h0
    rw [Bool.not_true, if_neg Bool.false_ne_true, if_pos rfl, htx, Option.bind_some]
    unfold zqH
    by_cases hfit : ((zgL g).length : Int) ≤ limit
    · rw [decide_eq_false (show ¬ limit < ((zgL g).length : Int) by omega), if_neg Bool.false_ne_true, if_pos hfit]
      dsimp only
      obtain ⟨h1, h2, h3⟩ := zkx hc0
      obtain ⟨e, x, k0, _⟩ := zmp h1
      have hrb := zlu k0
      have hsmall : (zgL g).length < 90000000 := by
        have hraw : (zgR g).length ≤ 100000 := by
          have hk := zkb h1
          have t1 : g.Method.length ≤ 400 := by rw [← hq]; simp; omega
          have t2 : g.Target.length ≤ 400 := by rw [← hq]; simp; omega
          have t3 : g.Reason.length ≤ 400 := by rw [← hq]; simp; omega
          have v := zkQ hsm.minor
          have c := zf6 g.Code hsm.code
          unfold zgR
          split
          · simp only [List.length_append, List.length_cons]; omega
          · simp only [List.length_append, List.length_cons]; omega
        unfold zgL
        rw [e]
        simp only [List.length_append, List.length_cons]
        omega
      rw [znR _ _ _ hsmall, Option.bind_some, zrJ hc0 limit hfit, beq_self_eq_true, if_pos rfl]
      show (zfT g g).bind _ = _
      rw [zoa _ _ (by omega), Option.bind_some, zro]
      rfl
    · rw [decide_eq_true (show limit < ((zgL g).length : Int) by omega), if_pos rfl, if_neg hfit]
      rfl
def bare (s : Str) : Str := s.filter fun b => !zaA b
end Go.Dm
end
