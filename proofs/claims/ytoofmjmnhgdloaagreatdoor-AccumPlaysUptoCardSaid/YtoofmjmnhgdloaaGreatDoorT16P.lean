/-
  First lines: the document's, as the program's; written, and read again.
  First lines written, and read again.
  Blanks at a text's ends. No program in sight.
  Quoted texts, and lists between commas: what they come to. No program in sight.
  Rows of fields: the program's bag, and the document's. No program in sight.
  Two heads are the same just if all that they have is.
  A head's field read: the document's, as the program's.
  Heads read: lines between line ends, then what they are; the document's, as the program's.
  Heads that come piece by piece: what a byte does; pieces play no part.

-/
import Derived.Test.YtoofmjmnhgdloaaGreatDoorT14P
section
namespace Go.Dm
theorem zrx (c : UInt8) : (!zT c || ((((c - 48).toNat : Int) == 1) == (c == 49))) = true := zP (fun c => !zT c || ((((c - 48).toNat : Int) == 1) == (c == 49))) (by decide +kernel) c
theorem dig_le (c : UInt8) : (!zT c || (decide (((c - 48).toNat : Int) ≤ 1) == (c == 48 || c == 49))) = true := zP (fun c => !zT c || (decide (((c - 48).toNat : Int) ≤ 1) == (c == 48 || c == 49))) (by decide +kernel) c
theorem zp4 (a b : UInt8) (t : Str) (ha : zT a = true) (hb : zT b = true) : zfb (zbo ++ a :: 46 :: b :: t) = (((a - 48).toNat : Int), ((b - 48).toNat : Int), true, t) := by
  unfold zfb
  have hp : zbo.isPrefixOf (zbo ++ a :: 46 :: b :: t) = true := List.isPrefixOf_iff_prefix.2 ⟨_, rfl⟩
  have hd : (zbo ++ a :: 46 :: b :: t).drop 5 = a :: 46 :: b :: t := rfl
  rw [if_pos hp, hd]
  have e1 : zhE (a :: 46 :: b :: t) = (((a - 48).toNat : Int), true, 46 :: b :: t) := by unfold zhE; dsimp only; rw [if_pos ha]
  have e2 : zhE (b :: t) = (((b - 48).toNat : Int), true, t) := by unfold zhE; dsimp only; rw [if_pos hb]
  rw [e1]
  dsimp only
  rw [zcy, zd9, e2]
  rfl
theorem zsX (a b : UInt8) (ha : zT a = true) (hb : zT b = true) : zb5 (zbo ++ [a, 46, b]) = if ([a, 46, b] : Str) == [49, 46, 48] then 0 else if ([a, 46, b] : Str) == [49, 46, 49] then 1 else 2 := by
  unfold zb5
  rw [zp4 a b [] ha hb]
  have h1 := zrx a
  have h2 := dig_le b
  rw [ha] at h1
  rw [hb] at h2
  have h1 : (((a - 48).toNat : Int) == 1) = (a == 49) := by simpa using h1
  have h2 : decide (((b - 48).toNat : Int) ≤ 1) = (b == 48 || b == 49) := by simpa using h2
  dsimp only
  rw [h1, h2]
  have e1 : (([a, 46, b] : Str) == [49, 46, 48]) = (a == 49 && b == 48) := by
    simp only [List.cons_beq_cons, beq_self_eq_true, Bool.true_and, Bool.and_true]
  have e2 : (([a, 46, b] : Str) == [49, 46, 49]) = (a == 49 && b == 49) := by
    simp only [List.cons_beq_cons, beq_self_eq_true, Bool.true_and, Bool.and_true]
  rw [e1, e2]
  cases a == 49 with
  | false => rfl
  | true =>
    cases h3 : b == 48 with
    | true => have : b = 48 := by simpa using h3
              subst this; rfl
    | false =>
      cases h4 : b == 49 with
      | true => have : b = 49 := by simpa using h4
                subst this; rfl
      | false => rfl
theorem zjc {u : Str} (h : ∀ a b, u = zbo ++ [a, 46, b] → zT a = true → zT b = true → False) : zb5 u = -1 := by
  unfold zb5
  cases hc : (zfb u).2.2.1 && (zfb u).2.2.2 == [] with
  | false => rfl
  | true =>
    exfalso
    simp only [Bool.and_eq_true] at hc
    obtain ⟨a, b, t, e, ha, hb, ev⟩ := zkU hc.1
    rw [ev] at hc
    have ht : t = [] := by simpa using hc.2
    subst ht
    exact h a b e ha hb
theorem zh7 (u : Str) (hu : u.length < 1000000000) : zcr u = some (zb5 u) := by
  unfold zcr zbd
  by_cases h8 : u.length = 8
  · have e8 : ((u.length : Int) == 8) = true := by rw [h8]; rfl
    have t5 := zdC (l := u) (h := 5) (by omega)
    have f5 := zan (l := u) (i := 5) (by omega)
    have a5 : sAt u 5 = u[5]? := zZ u 5
    have a6 : sAt u 6 = u[6]? := zZ u 6
    have a7 : sAt u 7 = u[7]? := zZ u 7
    have t5 : sTo u 5 = some (u.take 5) := t5
    have f5 : zbD u 5 = some (u.drop 5) := f5
    rw [e8, Bool.not_true, if_neg (by decide), t5, Option.bind_some, a5, a6, a7, f5, Option.bind_some, Option.bind_some]
    match u, h8 with
    | [c0, c1, c2, c3, c4, a, d, b], _ =>
      show (if (!(([c0, c1, c2, c3, c4] : Str) == zbo)) = true then _ else (some a).bind fun b5 => (zdt b5).bind fun r6 => if (!r6) = true then _ else (some d).bind fun b8 => if (!(b8 == 46)) = true then _ else (some b).bind fun b10 => (zdt b10).bind fun r11 => if (!r11) = true then some (-1) else (if (([a, d, b] : Str) == [49, 46, 48]) = true then some 0 else if (([a, d, b] : Str) == [49, 46, 49]) = true then some 1 else some 2)) = _
      simp only [Option.bind_some, znm]
      cases hp : ([c0, c1, c2, c3, c4] : Str) == zbo with
      | false =>
        rw [zjc (fun x y e _ _ => by
          have := congrArg (List.take 5) e
          rw [show ([c0, c1, c2, c3, c4, a, d, b] : Str).take 5 = [c0, c1, c2, c3, c4] from rfl, show (zbo ++ [x, 46, y]).take 5 = zbo from rfl] at this
          rw [this, beq_self_eq_true] at hp
          cases hp)]
        rfl
      | true =>
        have hp' : ([c0, c1, c2, c3, c4] : Str) = zbo := by simpa using hp
        have hu : ([c0, c1, c2, c3, c4, a, d, b] : Str) = zbo ++ [a, d, b] := by rw [← hp']; rfl
        rw [hu]
        have hinj : ∀ x y, zbo ++ [a, d, b] = zbo ++ [x, 46, y] → a = x ∧ d = 46 ∧ b = y := fun x y e => by
          have := List.append_cancel_left e
          simpa using this
        cases ha : zT a with
        | false => rw [zjc (fun x y e h1 _ => by obtain ⟨rfl, _, _⟩ := hinj x y e; rw [ha] at h1; cases h1)]; rfl
        | true =>
          cases hd : d == 46 with
          | false => rw [zjc (fun x y e _ _ => by obtain ⟨_, h, _⟩ := hinj x y e; rw [h] at hd; exact absurd hd (by decide))]; rfl
          | true =>
            have hd' : d = 46 := by simpa using hd
            subst hd'
            cases hb : zT b with
            | false => rw [zjc (fun x y e _ h2 => by obtain ⟨_, _, rfl⟩ := hinj x y e; rw [hb] at h2; cases h2)]; rfl
            | true =>
              rw [zsX a b ha hb]
              cases ([a, 46, b] : Str) == [49, 46, 48] <;> cases ([a, 46, b] : Str) == [49, 46, 49] <;> rfl
  · have e8 : ((u.length : Int) == 8) = false := beq_eq_false_iff_ne.2 (by omega)
    rw [e8, zjc (fun a b e _ _ => h8 (by rw [e]; rfl))]
    rfl
theorem zp5 {s : Str} {c : UInt8} : ∀ {k : Nat}, k ≤ s.length → zgy s c k = none → c ∉ s.take k
  | 0, _, _ => by simp
  | k + 1, hk, h => by
    rw [zgy] at h
    split at h
    · cases h
    · rename_i h2
      have ih := zp5 (by omega) h
      rw [List.take_add_one]
      intro hm
      rcases List.mem_append.1 hm with hm | hm
      · exact ih hm
      · have g : s[k]? = some s[k] := List.getElem?_eq_getElem (by omega)
        rw [g] at hm h2
        have : c = s[k] := by simpa using hm
        exact h2 (by rw [this])
theorem zlZ {s : Str} {c : UInt8} : ∀ {k i : Nat}, k ≤ s.length → zgy s c k = some i → c ∉ (s.take k).drop (i + 1)
  | 0, _, _, h => by cases h
  | k + 1, i, hk, h => by
    rw [zgy] at h
    split at h
    · cases h
      rw [List.drop_of_length_le (by rw [List.length_take]; omega)]
      simp
    · rename_i h2
      have ih := zlZ (by omega) h
      have hlt := (zjp h).1
      have g : s[k]? = some s[k] := List.getElem?_eq_getElem (by omega)
      rw [List.take_add_one, g, List.drop_append_of_le_length (by simp; omega)]
      intro hm
      rcases List.mem_append.1 hm with hm | hm
      · exact ih hm
      · rw [g] at h2
        have : c = s[k] := by simpa using hm
        exact h2 (by rw [this])
theorem zm3 (s : Str) : ∃ l, zi 32 s = l ++ [zjj s] := by
  unfold zjj zow
  cases h : zgy s 32 s.length with
  | none =>
    have := zp5 (Nat.le_refl _) h
    rw [List.take_length] at this
    exact ⟨[], by rw [zfA this]; rfl⟩
  | some k =>
    have h1 := zjp h
    have h2 := zlZ (Nat.le_refl _) h
    rw [List.take_length] at h2
    have g : s[k]? = some s[k] := List.getElem?_eq_getElem h1.1
    rw [g] at h1
    have hc : s[k] = 32 := Option.some.inj h1.2
    have e : s = s.take k ++ 32 :: s.drop (k + 1) := by
      have := (List.take_append_drop k s).symm
      rw [List.drop_eq_getElem_cons h1.1, hc] at this
      exact this
    refine ⟨zi 32 (s.take k), ?_⟩
    conv => lhs; rw [e]
    rw [zk0, zfA h2]
theorem zkr : ∀ {s m : Str} {l : List Str}, zi 32 s = m :: l → (l = [] ∧ s = m) ∨ ∃ r, s = m ++ 32 :: r ∧ zi 32 r = l
  | [], m, l, h => by rw [zi] at h; cases h; exact .inl ⟨rfl, rfl⟩
  | y :: s, m, l, h => by
    rw [zaN] at h
    split at h
    · rename_i e
      injection h with h1 h2
      subst h1 e
      exact .inr ⟨s, rfl, h2⟩
    · cases h3 : zi 32 s with
      | nil => exact absurd h3 (zbn 32 s)
      | cons a l' =>
        rw [h3] at h
        injection h with h1 h2
        subst h2
        rcases zkr h3 with ⟨h4, h5⟩ | ⟨r, h4, h5⟩
        · exact .inl ⟨h4, by rw [← h1, h5]; rfl⟩
        · exact .inr ⟨r, by rw [← h1, h4]; rfl, h5⟩
theorem ziy {p : UInt8 → Bool} {c : UInt8} (hc : p c = false) : ∀ {m : Str} (r : Str), m.all p = true → (m ++ c :: r).takeWhile p = m ∧ (m ++ c :: r).dropWhile p = c :: r
  | [], r, _ => by simp [hc]
  | x :: m, r, h => by
    simp only [List.all_cons, Bool.and_eq_true] at h
    have ih := ziy hc r h.2
    constructor
    · rw [List.cons_append, List.takeWhile_cons, if_pos h.1, ih.1]
    · rw [List.cons_append, List.dropWhile_cons, if_pos h.1, ih.2]
theorem zsY {t : Str} (h : (32 : UInt8) ∉ t) : t.all (fun b => !(b == 32)) = true :=
  List.all_eq_true.2 fun x hx => by
    have : x ≠ 32 := fun e => h (by rw [← e]; exact hx)
    simp [this]
theorem zsZ {m t v : Str} (h1 : m.all zbs = true) (h2 : (32 : UInt8) ∉ t) : zku (m ++ 32 :: (t ++ 32 :: v)) = m ∧ zml (m ++ 32 :: (t ++ 32 :: v)) = t ∧ zl4 (m ++ 32 :: (t ++ 32 :: v)) = 32 :: (t ++ 32 :: v) ∧ zhI (m ++ 32 :: (t ++ 32 :: v)) = 32 :: v := by
  have a := ziy (p := zbs) (c := 32) (by decide) (t ++ 32 :: v) h1
  have b := ziy (p := fun b => !(b == 32)) (c := 32) (by decide) v (zsY h2)
  unfold zku zml zhI zl4
  rw [a.1, a.2, zcy, b.1, b.2]
  exact ⟨rfl, rfl, rfl, rfl⟩
def reqS (s : Str) : api_Head × Int :=
  if zb5 (zjj s) == 2 then (zz, 26) else match zi 32 s with
  | [m, t, v] => if !decide (zb5 v < 0) && zgF m && (zhe m t).2 == 0 then (⟨1, m, t, 0, [], zb5 v, []⟩, 0) else (zz, 20)
  | _ => (zz, 20)
theorem zom (m : Str) : zgF m = true ↔ m ≠ [] ∧ m.all zbs = true := by
  unfold zgF
  cases m <;> simp
theorem zl0 {s m t v : Str} (h : zi 32 s = [m, t, v]) : s = m ++ 32 :: (t ++ 32 :: v) ∧ (32 : UInt8) ∉ m ∧ (32 : UInt8) ∉ t ∧ (32 : UInt8) ∉ v ∧ zjj s = v := by
  have hm := fun x (hx : x ∈ zi 32 s) => (zcQ hx).1
  rw [h] at hm
  refine ⟨?_, hm m (by simp), hm t (by simp), hm v (by simp), ?_⟩
  · rcases zkr h with ⟨h1, _⟩ | ⟨r, h1, h2⟩
    · cases h1
    · rcases zkr h2 with ⟨h3, _⟩ | ⟨r2, h3, h4⟩
      · cases h3
      · rw [h1, h3, zjw h4]
  · obtain ⟨l, hl⟩ := zm3 s
    rw [h] at hl
    have := congrArg List.getLast? hl
    simp at this
    exact this.symm
theorem zqU (s : Str) : zlt s = reqS s := by
  unfold zlt reqS
  cases h26 : zb5 (zjj s) == 2 with
  | true => rfl
  | false =>
    rw [if_neg Bool.false_ne_true, if_neg Bool.false_ne_true]
    cases hF : zqj s with
    | true =>
      obtain ⟨v, e, n1, n2, h3, h4, k1, k2, k3, k4⟩ := zkv hF
      have hv := zte k1 k2
      have hsp : zi 32 s = [zku s, zml s, v] := by
        have := zqn n1 n2 hv
        rw [← e] at this
        exact this
      rw [if_pos rfl, hsp, k3]
      dsimp only
      rw [decide_eq_false (show ¬ zb5 v < 0 by omega), (zom _).2 ⟨h3, h4⟩, k4]
      rfl
    | false =>
      rw [if_neg (by decide)]
      split
      · rename_i m t v hsp
        split
        · rename_i hc
          exfalso
          simp only [Bool.and_eq_true, Bool.not_eq_true', decide_eq_false_iff_not] at hc
          obtain ⟨⟨c1, c2⟩, c3⟩ := hc
          obtain ⟨e, _, n2, _, hlast⟩ := zl0 hsp
          obtain ⟨t1, t2⟩ := (zom _).1 c2
          obtain ⟨r1, r2, r3, r4⟩ := zsZ (v := v) t2 n2
          rw [← e] at r1 r2 r3 r4
          have hm := (zov v).1
          rw [hlast] at h26
          rw [decide_eq_true (show 0 ≤ zb5 v by omega), h26] at hm
          unfold zqj at hF
          rw [r1, r2, r3, r4, zd9, zcy, zd9, hm, c3] at hF
          have : (m == []) = false := by simpa using t1
          rw [this] at hF
          revert hF
          decide
        · rfl
      · rfl
theorem zl1 (w : List Str) (v : Int) (m t u : Str) (hw : w = [m, t, u]) (hb : t.length < 300000000) (q : Bool) :
    zaH w v q = some (if q then (zz, 20) else if (zhe m t).2 == 0 then (⟨1, m, t, 0, [], v, []⟩, 0) else (zz, 20)) := by
  subst hw
  unfold zaH
  have l0 : lAt [m, t, u] 0 = some m := rfl
  have l1 : lAt [m, t, u] 1 = some t := rfl
  rw [l0, l1, Option.bind_some, Option.bind_some, zmK m t hb, Option.bind_some, Option.bind_some, Option.bind_some]
  cases q <;> cases (zhe m t).2 == 0 <;> rfl
theorem zpa (s : Str) (hs : s.length < 300000000) : ((zdb ((zi 32 s).length : Int) 1).bind fun i28 => (lAt (zi 32 s) i28).bind fun x29 => (zcr x29).bind fun r32 =>
    if (r32 == 2) then (some (((⟨0, [], [], 0, [], 0, []⟩ : api_Head), 26))) else (if (!(((zi 32 s).length : Int) == 3)) then (zaH (zi 32 s) r32 true) else (if (decide (r32 < 0)) then (zaH (zi 32 s) r32 true) else ((lAt (zi 32 s) 0).bind fun x40 => (zeg x40).bind fun r43 => zaH (zi 32 s) r32 (!r43))))) = some (reqS s) := by
  have hlen := zd7 32 s
  have hpos := List.length_pos_iff.2 (zbn 32 s)
  obtain ⟨l, hl⟩ := zm3 s
  have hlw : (zjj s).length ≤ s.length := by unfold zjj; simp
  have e1 : zdb ((zi 32 s).length : Int) 1 = some (((zi 32 s).length - 1 : Nat) : Int) := by rw [zcn (by omega) (by omega)]; congr 1; omega
  have e2 : (zi 32 s)[(zi 32 s).length - 1]? = some (zjj s) := by rw [hl]; simp
  rw [e1, Option.bind_some, zc1, e2, Option.bind_some, zh7 _ (by omega), Option.bind_some]
  unfold reqS
  cases zb5 (zjj s) == 2 with
  | true => rfl
  | false =>
    rw [if_neg Bool.false_ne_true, if_neg Bool.false_ne_true]
    by_cases h3 : (zi 32 s).length = 3
    · have e3 : (((zi 32 s).length : Int) == 3) = true := by rw [h3]; rfl
      obtain ⟨m, t, v, hsp⟩ : ∃ m t v, zi 32 s = [m, t, v] := by
        match zi 32 s, h3 with
        | [m, t, v], _ => exact ⟨m, t, v, rfl⟩
      have hmem := fun x (hx : x ∈ zi 32 s) => (zcQ hx).2.1
      obtain ⟨_, _, _, _, hlast⟩ := zl0 hsp
      rw [e3, Bool.not_true, if_neg (by decide), hlast, hsp]
      rw [hsp] at hmem
      have hm := hmem m (by simp)
      have ht := hmem t (by simp)
      have l0 : lAt [m, t, v] 0 = some m := rfl
      rw [l0, Option.bind_some, zjv m (by omega), Option.bind_some, zl1 [m, t, v] (zb5 v) m t v rfl (by omega), zl1 [m, t, v] (zb5 v) m t v rfl (by omega)]
      dsimp only
      cases decide (zb5 v < 0) <;> cases zgF m <;> cases (zhe m t).2 == 0 <;> rfl
    · have e3 : (((zi 32 s).length : Int) == 3) = false := beq_eq_false_iff_ne.2 (by omega)
      rw [e3, Bool.not_false, if_pos rfl]
      unfold zaH
      rw [if_pos rfl]
      split
      · rename_i m t v hsp
        rw [hsp] at h3
        exact absurd rfl h3
      · rfl
theorem zon (s : Str) : zi 32 s = if (zO 32 s).2.2 then (zO 32 s).1 :: zi 32 (zO 32 s).2.1 else [s] := by
  have hno : (32 : UInt8) ∉ (zO 32 s).1 := fun hm => by
    have := zmH (cs := [32]) (s := s) 32 hm
    simp at this
  rcases zbN (zO 32 s).2.2 with h | h
  · rw [if_pos h]
    have := zni 32 s h
    conv => lhs; rw [← this]
    exact zd6 _ hno
  · have hn := ziD 32 s h
    rw [if_neg (by rw [h]; decide)]
    rw [hn] at hno
    exact zfA hno
theorem zp6 (b : UInt8) (t : Str) (hb : b = 48 ∨ b = 49) : zd5 (zbo ++ 49 :: 46 :: b :: t) = (((b - 48).toNat : Int), true, t) := by
  unfold zd5
  rw [zp4 49 b t (by decide) (by rcases hb with h | h <;> subst h <;> decide)]
  rcases hb with h | h <;> subst h <;> rfl
theorem ziz {s : Str} {m : Int} (h : (zav 10 s m).2 = 0) : s.all zT = true ∧ s ≠ [] := by
  unfold zav at h
  split at h
  · cases h
  · rename_i h2
    simp only [Bool.or_eq_true, Bool.not_eq_true', not_or] at h2
    have h3 : s.all (zhS 10) = true := by simpa using h2.2
    exact ⟨List.all_eq_true.2 fun x hx => (List.all_eq_true.1 h3 x hx : zhS 10 x = true), by simpa using h2.1⟩
def zm4 (s : Str) : Bool := match zi 32 s with
  | w0 :: w1 :: _ :: _ => !decide (zb5 w0 < 0) && (w1.length : Int) == 3 && (zav 10 w1 599).2 == 0 && !decide ((zav 10 w1 599).1 < 100) && (s.drop 13).all zf0
  | _ => false
theorem zkP {b : UInt8} {w r : Str} (hb : b = 48 ∨ b = 49) (hw : w.all zT = true) : (zd5 (zbo ++ 49 :: 46 :: b :: 32 :: (w ++ 32 :: r))) = (((b - 48).toNat : Int), true, 32 :: (w ++ 32 :: r)) ∧ znd (zbo ++ 49 :: 46 :: b :: 32 :: (w ++ 32 :: r)) = w ∧ zkV (zbo ++ 49 :: 46 :: b :: 32 :: (w ++ 32 :: r)) = 32 :: r := by
  have h1 := zp6 b (32 :: (w ++ 32 :: r)) hb
  have h2 := ziy (p := zT) (c := 32) (by decide) r hw
  refine ⟨h1, ?_, ?_⟩
  · unfold znd; rw [h1]; dsimp only; rw [zcy, h2.1]
  · unfold zkV; rw [h1]; dsimp only; rw [zcy, h2.2]
theorem zoo {w : Str} (h : w.all zT = true) : (32 : UInt8) ∉ w := fun hm => by
  have := List.all_eq_true.1 h 32 hm
  revert this; decide
theorem ziA {s : Str} (h : zpf s = true) : ∃ b w r, (b = 48 ∨ b = 49) ∧ s = zbo ++ 49 :: 46 :: b :: 32 :: (w ++ 32 :: r) ∧ w.all zT = true ∧ w.length = 3 := by
  unfold zpf at h
  simp only [Bool.and_eq_true] at h
  obtain ⟨⟨⟨⟨⟨⟨h1, h2⟩, h3⟩, h4⟩, h5⟩, h6⟩, h7⟩ := h
  unfold zd5 at h1
  simp only [Bool.and_eq_true, decide_eq_true_eq, beq_iff_eq] at h1
  obtain ⟨⟨a1, a2⟩, a3⟩ := h1
  obtain ⟨a, b, t, e, ha, hb, ev⟩ := zkU a1
  rw [ev] at a2 a3
  have hm : (zd5 s).2.2 = t := by unfold zd5; rw [ev]
  rw [hm] at h2
  have ha1 : a = 49 := by
    have := zrx a
    rw [ha] at this
    have : (((a - 48).toNat : Int) == 1) = (a == 49) := by simpa using this
    rw [show (((a - 48).toNat : Int) == 1) = true from by simpa using a2] at this
    simpa using this.symm
  have hb1 := zji hb (by dsimp only at a3; omega)
  have e2 := zga h2
  have e4 := zga h3
  have e5 : znd s ++ zkV s = zaS 32 t := by
    unfold znd zkV; rw [hm]; exact List.takeWhile_append_dropWhile
  have hl3 : ((znd s).length : Int) = 3 := by simpa using h4
  refine ⟨b, znd s, zaS 32 (zkV s), hb1, ?_, (ziz (by simpa using h5)).1, by omega⟩
  rw [← e4, e5, ← e2, ← ha1, e]
theorem zum (s : Str) (h26 : (zb5 (zO 32 s).1 == 2) = false) : zpf s = zm4 s := by
  rw [Bool.eq_iff_iff]
  constructor
  · intro h
    have h' := h
    obtain ⟨b, w, r, hb, e, hw, hl⟩ := ziA h
    obtain ⟨m1, m2, m3⟩ := zkP (r := r) hb hw
    rw [← e] at m1 m2 m3
    unfold zpf at h'
    rw [m1, m2, m3] at h'
    simp only [Bool.and_eq_true, zcy] at h'
    have h32 : (32 : UInt8) ∉ (zbo ++ [49, 46, b]) := by rcases hb with h | h <;> subst h <;> decide
    have hsp : zi 32 s = (zbo ++ [49, 46, b]) :: w :: zi 32 r := by
      have e' : s = (zbo ++ [49, 46, b]) ++ 32 :: (w ++ 32 :: r) := by rw [e]; simp
      rw [e', zd6 _ h32, zd6 _ (zoo hw)]
    have hd : s.drop 13 = r := by
      rw [e]
      show (w ++ 32 :: r).drop 4 = r
      match w, hl with
      | [x, y, z], _ => rfl
    have hv : zb5 (zbo ++ [49, 46, b]) = ((b - 48).toNat : Int) := by rcases hb with h | h <;> subst h <;> decide
    unfold zm4
    rw [hsp]
    cases hr : zi 32 r with
    | nil => exact absurd hr (zbn 32 r)
    | cons x l =>
      dsimp only
      rw [hd, hv, decide_eq_false (by omega)]
      simp only [Bool.and_eq_true]
      exact ⟨⟨⟨⟨rfl, by rw [hl]; rfl⟩, h'.1.1.2⟩, h'.1.2⟩, h'.2⟩
  · intro h
    unfold zm4 at h
    split at h
    · rename_i w0 w1 w2 l hsp
      simp only [Bool.and_eq_true, Bool.not_eq_true', decide_eq_false_iff_not] at h
      obtain ⟨⟨⟨⟨h1, h2⟩, h3⟩, h4⟩, h5⟩ := h
      have hc := zon s
      rw [hsp] at hc
      have h0 : (zO 32 s).1 = w0 := by
        split at hc
        · injection hc with hc _; exact hc.symm
        · cases hc
      rw [h0] at h26
      rcases zkr hsp with ⟨hx, _⟩ | ⟨r1, e1, hsp1⟩
      · cases hx
      rcases zkr hsp1 with ⟨hx, _⟩ | ⟨r, e2, hsp2⟩
      · cases hx
      have hb : ∃ b, (b = 48 ∨ b = 49) ∧ w0 = zbo ++ [49, 46, b] := by
        rcases zhc (u := w0) (by omega) h26 with ⟨h, _⟩ | ⟨h, _⟩
        · exact ⟨48, .inl rfl, h⟩
        · exact ⟨49, .inr rfl, h⟩
      obtain ⟨b, hb, hw0⟩ := hb
      have hw := (ziz (by simpa using h3)).1
      have e : s = zbo ++ 49 :: 46 :: b :: 32 :: (w1 ++ 32 :: r) := by rw [e1, hw0, e2]; simp
      obtain ⟨m1, m2, m3⟩ := zkP (r := r) hb hw
      rw [← e] at m1 m2 m3
      have hl : w1.length = 3 := by have : (w1.length : Int) = 3 := by simpa using h2
                                    omega
      have hd : s.drop 13 = r := by
        rw [e]
        show (w1 ++ 32 :: r).drop 4 = r
        match w1, hl with
        | [x, y, z], _ => rfl
      rw [hd] at h5
      unfold zpf
      rw [m1, m2, m3]
      simp only [Bool.and_eq_true, zcy, zd9]
      exact ⟨⟨⟨⟨⟨⟨by first | trivial | rfl, by first | trivial | rfl⟩, by first | trivial | rfl⟩, h2⟩, h3⟩, by rw [decide_eq_false (by omega)]; rfl⟩, h5⟩
    · cases h
theorem zp7 (v : Int) (rd : Int × Int) (u : Str) (hu : u.length < 1000000000) : zb0 v rd u fuel 0 = some (if u.all zf0 && rd.2 == 0 && !decide (rd.1 < 100) then (⟨2, [], [], rd.1, u, v, []⟩, 0) else (zz, 20)) := by
  have key : ∀ (n i : Nat), i ≤ u.length → u.length - i < n → zb0 v rd u n (i : Int) = some (if (u.drop i).all zf0 && rd.2 == 0 && !decide (rd.1 < 100) then (⟨2, [], [], rd.1, u, v, []⟩, 0) else (zz, 20)) := by
    intro n
    induction n with
    | zero => intro i _ h; omega
    | succ n ih =>
      intro i hi h
      rw [zb0]
      by_cases hlt : i < u.length
      · have g : u[i]? = some u[i] := List.getElem?_eq_getElem hlt
        rw [decide_eq_true (show (i : Int) < (u.length : Int) by omega), if_pos rfl, zZ, g, Option.bind_some, zju, Option.bind_some, zr (by omega), Option.bind_some, ih (i + 1) (by omega) (by omega), List.drop_eq_getElem_cons hlt, List.all_cons]
        cases zf0 u[i] <;> rfl
      · have : i = u.length := by omega
        subst this
        unfold zes
        rw [decide_eq_false (by omega), if_neg (by decide), List.drop_length]
        cases rd.2 == 0 <;> cases decide (rd.1 < 100) <;> rfl
  have := key fuel 0 (Nat.zero_le _) (by unfold fuel; omega)
  rw [List.drop_zero] at this
  exact this
theorem zpb (s : Str) (hs : s.length < 300000000) : ((lAt (zi 32 s) 0).bind fun x69 => (zcr x69).bind fun r72 =>
    if (r72 == 2) then (some (((⟨0, [], [], 0, [], 0, []⟩ : api_Head), 26))) else (if (decide (((zi 32 s).length : Int) < 3)) then (zaI s (zi 32 s) r72 true) else (if (decide (r72 < 0)) then (zaI s (zi 32 s) r72 true) else ((lAt (zi 32 s) 1).bind fun x80 => zaI s (zi 32 s) r72 (!((x80.length : Int) == 3)))))) = some (zne s) := by
  have hc := zon s
  have hcl := zjP 32 s
  have h0 : ∃ l, zi 32 s = (zO 32 s).1 :: l := by
    rcases zbN (zO 32 s).2.2 with h | h
    · rw [if_pos h] at hc; exact ⟨_, hc⟩
    · rw [if_neg (by rw [h]; decide)] at hc
      have := ziD 32 s h
      exact ⟨[], by rw [hc, this]⟩
  obtain ⟨l, hl⟩ := h0
  have l0 : lAt (zi 32 s) 0 = some (zO 32 s).1 := by rw [hl]; rfl
  rw [l0, Option.bind_some, zh7 _ (by omega), Option.bind_some]
  unfold zne
  cases h26 : zb5 (zO 32 s).1 == 2 with
  | true => rfl
  | false =>
    rw [if_neg Bool.false_ne_true, if_neg Bool.false_ne_true]
    have hok := zum s h26
    have j5t : ∀ w, zaI s w (zb5 (zO 32 s).1) true = some (zz, 20) := fun w => by unfold zaI; rw [if_pos rfl]; rfl
    by_cases h3 : (zi 32 s).length < 3
    · rw [decide_eq_true (show ((zi 32 s).length : Int) < 3 by omega), if_pos rfl, j5t, hok]
      have : zm4 s = false := by
        unfold zm4
        split
        · rename_i w0 w1 w2 l' hsp
          rw [hsp] at h3; simp only [List.length_cons] at h3; omega
        · rfl
      rw [this]; rfl
    · rw [decide_eq_false (show ¬ ((zi 32 s).length : Int) < 3 by omega), if_neg (by decide), j5t]
      obtain ⟨w1, w2, l', hsp⟩ : ∃ w1 w2 l', zi 32 s = (zO 32 s).1 :: w1 :: w2 :: l' := by
        rw [hl] at h3
        match l, h3 with
        | w1 :: w2 :: l', _ => exact ⟨w1, w2, l', hl⟩
        | [_], h => simp at h
        | [], h => simp at h
      have l1 : lAt (zi 32 s) 1 = some w1 := by rw [hsp]; rfl
      rw [l1, Option.bind_some, hok]
      have hst : zm4 s = (!decide (zb5 (zO 32 s).1 < 0) && (w1.length : Int) == 3 && (zav 10 w1 599).2 == 0 && !decide ((zav 10 w1 599).1 < 100) && (s.drop 13).all zf0) := by
        unfold zm4; rw [hsp]
      cases hneg : decide (zb5 (zO 32 s).1 < 0) with
      | true => rw [if_pos rfl, hst, hneg]; rfl
      | false =>
        rw [if_neg (by decide)]
        cases hl3 : (w1.length : Int) == 3 with
        | false => rw [Bool.not_false, j5t, hst, hneg, hl3]; rfl
        | true =>
          have hw3 : w1.length = 3 := by have : (w1.length : Int) = 3 := by simpa using hl3
                                         omega
          have h13 : 13 ≤ s.length := by
            have hneg' : ¬ zb5 (zO 32 s).1 < 0 := by simpa using hneg
            rcases zkr hsp with ⟨hx, _⟩ | ⟨r1, e1, hsp1⟩
            · cases hx
            rcases zkr hsp1 with ⟨hx, _⟩ | ⟨r, e2, _⟩
            · cases hx
            have h8 : (zO 32 s).1.length = 8 := by
              rcases zhc (u := (zO 32 s).1) (by omega) h26 with ⟨h, _⟩ | ⟨h, _⟩ <;> rw [h] <;> rfl
            rw [e2] at e1
            have := congrArg List.length e1
            simp only [List.length_append, List.length_cons] at this
            omega
          unfold zaI
          have hrd := zkk (b := 10) (.inl rfl) w1 599 (by omega) (by decide) (by decide)
          rw [show ((10 : Nat) : Int) = 10 from rfl] at hrd
          have hfr : zbD s 13 = some (s.drop 13) := zan (i := 13) h13
          rw [Bool.not_true, if_neg (by decide), l1, Option.bind_some, hrd, Option.bind_some, hfr, Option.bind_some, zp7 _ _ _ (by simp; omega), hst, hneg, hl3]
          cases hq : (s.drop 13).all zf0 && (zav 10 w1 599).2 == 0 && !decide ((zav 10 w1 599).1 < 100) with
          | false =>
            have : (!false && true && (zav 10 w1 599).2 == 0 && !decide ((zav 10 w1 599).1 < 100) && (s.drop 13).all zf0) = false := by
              revert hq
              cases (s.drop 13).all zf0 <;> cases (zav 10 w1 599).2 == 0 <;> cases decide ((zav 10 w1 599).1 < 100) <;> decide
            rw [this]; rfl
          | true =>
            have ht : (!false && true && (zav 10 w1 599).2 == 0 && !decide ((zav 10 w1 599).1 < 100) && (s.drop 13).all zf0) = true := by
              revert hq
              cases (s.drop 13).all zf0 <;> cases (zav 10 w1 599).2 == 0 <;> cases decide ((zav 10 w1 599).1 < 100) <;> decide
            have hF : zpf s = true := by rw [hok, hst, hneg, hl3]; exact ht
            obtain ⟨b, w, r, hb, e, hw, hlw⟩ := ziA hF
            obtain ⟨m1, m2, m3⟩ := zkP (r := r) hb hw
            rw [← e] at m1 m2 m3
            have h32 : (32 : UInt8) ∉ (zbo ++ [49, 46, b]) := by rcases hb with h | h <;> subst h <;> decide
            have hsp' : zi 32 s = (zbo ++ [49, 46, b]) :: w :: zi 32 r := by
              have e' : s = (zbo ++ [49, 46, b]) ++ 32 :: (w ++ 32 :: r) := by rw [e]; simp
              rw [e', zd6 _ h32, zd6 _ (zoo hw)]
            rw [hsp] at hsp'
            injection hsp' with q1 q2
            injection q2 with q2 _
            have hd : s.drop 13 = r := by
              rw [e]
              show (w ++ 32 :: r).drop 4 = r
              match w, hlw with
              | [x, y, z], _ => rfl
            have hv : zb5 (zbo ++ [49, 46, b]) = ((b - 48).toNat : Int) := by rcases hb with h | h <;> subst h <;> decide
            rw [ht, if_pos rfl, if_pos rfl, m1, m2, m3, zcy, q1, hv, hd, q2]
theorem zjd (kind : Int) (s : Str) (hs : s.length < 300000000) : zfs kind s = some (zbE kind s) := by
  unfold zfs zet zbE
  have key : ∀ (n i : Nat), i ≤ s.length → s.length - i < n → (!(kind == 1) && !(kind == 2)) = false → zaX kind s n (i : Int) = some (if (s.drop i).any ([13, 10] : Str).contains then (zz, 24) else if kind == 1 then zlt s else zne s) := by
    intro n
    induction n with
    | zero => intro i _ h; omega
    | succ n ih =>
      intro i hi h hk
      rw [zaX]
      by_cases hlt : i < s.length
      · have g : s[i]? = some s[i] := List.getElem?_eq_getElem hlt
        unfold zer
        rw [decide_eq_true (show (i : Int) < (s.length : Int) by omega), if_pos rfl, zZ, g, Option.bind_some, Option.bind_some, zr (by omega), Option.bind_some, ih (i + 1) (by omega) (by omega) hk, List.drop_eq_getElem_cons hlt, List.any_cons]
        have : ([13, 10] : Str).contains s[i] = (s[i] == 13 || s[i] == 10) := by simp only [List.contains_cons, List.contains_nil, Bool.or_false]
        rw [this]
        cases s[i] == 13 <;> cases s[i] == 10 <;> rfl
      · have : i = s.length := by omega
        subst this
        rw [decide_eq_false (by omega), if_neg (by decide), zg5 s 32 (by omega), Option.bind_some, List.drop_length, zpa s hs, zpb s hs, zqU]
        cases kind == 1 <;> rfl
  have := key fuel 0 (Nat.zero_le _) (by unfold fuel; omega)
  rw [List.drop_zero] at this
  have this : (!(kind == 1) && !(kind == 2)) = false → zaX kind s fuel 0 = _ := this
  cases h1 : kind == 1 with
  | true => rw [h1] at this; rw [Bool.not_true, if_neg (by decide), if_neg (by decide), this rfl]; rfl
  | false =>
    cases h2 : kind == 2 with
    | true => rw [h1, h2] at this; rw [Bool.not_false, if_pos rfl, Bool.not_true, if_neg (by decide), this rfl]; rfl
    | false => rfl
end Go.Dm
end
section
namespace Go.Dm
def verT (n : Int) : Str := zbo ++ 49 :: 46 :: zi3 10 n
def rawL (h : api_Head) : Str := if h.Kind == 2 then verT h.Minor ++ 32 :: (zi3 10 h.Code ++ 32 :: h.Reason) else h.Method ++ 32 :: (h.Target ++ 32 :: verT h.Minor)
theorem zpo : ∀ a, a < 10 → ∀ b, b < 10 → ∀ c, c < 10 → 100 ≤ a * 100 + b * 10 + c → zfZ 10 (a * 100 + b * 10 + c) = [a, b, c] := by decide +kernel
theorem zpp (c : UInt8) : (!zT c || (decide ((c - 48).toNat < 10) && dch (c - 48).toNat == c && wor c == (c - 48).toNat)) = true := zP (fun c => !zT c || (decide ((c - 48).toNat < 10) && dch (c - 48).toNat == c && wor c == (c - 48).toNat)) (by decide +kernel) c
theorem zq5 {w : Str} (hl : w.length = 3) (h : (zav 10 w 599).2 = 0) (h1 : ¬ (zav 10 w 599).1 < 100) : zi3 10 (zav 10 w 599).1 = w ∧ inI (zav 10 w 599).1 = true := by
  have hin := zih h (by decide)
  refine ⟨?_, hin.2.2⟩
  have hd := (ziz h).1
  match w, hl with
  | [x, y, z], _ =>
    simp only [List.all_cons, List.all_nil, Bool.and_true, Bool.and_eq_true] at hd
    have fx := zpp x
    have fy := zpp y
    have fz := zpp z
    rw [hd.1] at fx
    rw [hd.2.1] at fy
    rw [hd.2.2] at fz
    simp only [Bool.not_true, Bool.false_or, Bool.and_eq_true, decide_eq_true_eq, beq_iff_eq] at fx fy fz
    have hval : (zav 10 [x, y, z] 599).1 = (((x - 48).toNat * 100 + (y - 48).toNat * 10 + (z - 48).toNat : Nat) : Int) := by
      unfold zav at h ⊢
      split at h
      · cases h
      · rename_i g1
        rw [if_neg g1]
        split at h
        · cases h
        · rename_i g2
          rw [if_neg g2]
          have : za2 10 (vals [x, y, z]) = (x - 48).toNat * 100 + (y - 48).toNat * 10 + (z - 48).toNat := by
            unfold vals za2
            simp only [List.map_cons, List.map_nil, List.foldl_cons, List.foldl_nil, fx.2, fy.2, fz.2]
            omega
          rw [this]
    rw [hval] at h1 ⊢
    unfold zi3
    rw [if_neg (by omega), Int.toNat_natCast, zpo _ fx.1.1 _ fy.1.1 _ fz.1.1 (by omega)]
    unfold zC
    simp only [List.map_cons, List.map_nil, fx.1.2, fy.1.2, fz.1.2]
theorem znp {k : Int} {s : Str} {x : api_Head} (h : zbE k s = (x, 0)) : (k = 1 ∧ zlt s = (x, 0)) ∨ (k = 2 ∧ zne s = (x, 0)) := by
  unfold zbE at h
  cases h1 : k == 1 with
  | true =>
    have hk : k = 1 := by simpa using h1
    rw [h1, Bool.not_true, Bool.false_and, if_neg Bool.false_ne_true] at h
    split at h
    · exact absurd (show (24 : Int) = 0 from congrArg Prod.snd h) (by decide)
    · rw [if_pos rfl] at h; exact .inl ⟨hk, h⟩
  | false =>
    cases h2 : k == 2 with
    | true =>
      have hk : k = 2 := by simpa using h2
      rw [h1, h2, Bool.not_true, Bool.and_false, if_neg Bool.false_ne_true] at h
      split at h
      · exact absurd (show (24 : Int) = 0 from congrArg Prod.snd h) (by decide)
      · rw [if_neg Bool.false_ne_true] at h; exact .inr ⟨hk, h⟩
    | false =>
      rw [h1, h2, Bool.not_false, Bool.true_and, if_pos rfl] at h
      exact absurd (show (1 : Int) = 0 from congrArg Prod.snd h) (by decide)
structure LineBack (k : Int) (s : Str) (x : api_Head) : Prop where
  kind : x.Kind = k
  raw : rawL x = s
  code : inI x.Code = true
  minor : inI x.Minor = true
  method : x.Method.length ≤ s.length
  target : x.Target.length ≤ s.length
  reason : x.Reason.length ≤ s.length
theorem zq6 {v : Str} (h : 0 ≤ zb5 v) (h2 : (zb5 v == 2) = false) : verT (zb5 v) = v ∧ inI (zb5 v) = true := by
  rcases zhc h h2 with ⟨e, e2⟩ | ⟨e, e2⟩ <;> rw [e2, e] <;> exact ⟨by decide, by decide⟩
theorem zsb {k : Int} {s : Str} {x : api_Head} (h : zbE k s = (x, 0)) : LineBack k s x := by
  rcases znp h with ⟨hk, h⟩ | ⟨hk, h⟩
  · rcases znq s with (h1 | h1) | ⟨h1, h2⟩
    · rw [h1] at h; exact absurd (show (26 : Int) = 0 from congrArg Prod.snd h) (by decide)
    · rw [h1] at h; exact absurd (show (20 : Int) = 0 from congrArg Prod.snd h) (by decide)
    · obtain ⟨v, e, n1, n2, h3, h4, k1, k2, k3, k4⟩ := zkv h1
      rw [h2] at h
      have hx := congrArg Prod.fst h
      dsimp only at hx
      subst hx
      obtain ⟨q1, q2⟩ := zq6 k1 k2
      have hlen := congrArg List.length e
      simp only [List.length_append, List.length_cons] at hlen
      rw [k3]
      refine ⟨hk.symm, ?_, rfl, q2, by dsimp only; omega, by dsimp only; omega, by simp⟩
      show zku s ++ 32 :: (zml s ++ 32 :: verT (zb5 v)) = s
      rw [q1]; exact e.symm
  · unfold zne at h
    split at h
    · exact absurd (show (26 : Int) = 0 from congrArg Prod.snd h) (by decide)
    · split at h
      · rename_i h26 hF
        have hF' := hF
        obtain ⟨b, w, r, hb, e, hw, hl⟩ := ziA hF
        obtain ⟨m1, m2, m3⟩ := zkP (r := r) hb hw
        rw [← e] at m1 m2 m3
        unfold zpf at hF'
        rw [m1, m2, m3] at hF'
        simp only [Bool.and_eq_true, Bool.not_eq_true', decide_eq_false_iff_not] at hF'
        have hx := congrArg Prod.fst h
        dsimp only at hx
        subst hx
        obtain ⟨q1, q2⟩ := zq5 hl (by simpa using hF'.1.1.2) hF'.1.2
        have hlen := congrArg List.length e
        simp only [List.length_append, List.length_cons] at hlen
        rw [m1, m2, m3, zcy]
        have hv : verT ((b - 48).toNat : Int) = zbo ++ [49, 46, b] ∧ inI ((b - 48).toNat : Int) = true := by rcases hb with h | h <;> subst h <;> exact ⟨by decide, by decide⟩
        refine ⟨hk.symm, ?_, q2, hv.2, by simp, by simp, by dsimp only; omega⟩
        show verT ((b - 48).toNat : Int) ++ 32 :: (zi3 10 (zav 10 w 599).1 ++ 32 :: r) = s
        rw [hv.1, q1, e]; simp
      · exact absurd (show (20 : Int) = 0 from congrArg Prod.snd h) (by decide)
theorem zgV (k : Int) (s : Str) : (zbE k s).1.Fields = [] := by
  unfold zbE zlt zne
  split
  · rfl
  · split
    · rfl
    · split
      · split
        · rfl
        · split <;> rfl
      · split
        · rfl
        · split <;> rfl
end Go.Dm
end
section
namespace Go.Dm
def zaP (b : UInt8) : Bool := b == 32 || b == 9
def zgR (s : Str) : Str := s.dropWhile zaP
def zf6 (s : Str) : Str := (s.reverse.dropWhile zaP).reverse
def zcx (s : Str) : Str := zgR (zf6 s)
theorem zqH (b : UInt8) : ([32, 9] : Str).contains b = zaP b := by
  simp only [zaP, List.contains_cons, List.contains_nil, Bool.or_false]
theorem zsy : zf6 [] = [] := rfl
theorem zhC (s : Str) (c : UInt8) : zf6 (s ++ [c]) = if zaP c then zf6 s else s ++ [c] := by
  unfold zf6
  rw [List.reverse_append]
  simp only [List.reverse_cons, List.reverse_nil, List.nil_append, List.singleton_append, List.dropWhile_cons]
  split <;> simp
theorem ztS (s : Str) : (zf6 s).length ≤ s.length := by
  unfold zf6
  rw [List.length_reverse]
  have := (List.dropWhile_suffix (l := s.reverse) zaP).length_le
  simpa using this
theorem ztT (s : Str) : (zgR s).length ≤ s.length := (List.dropWhile_suffix zaP).length_le
theorem zpC (s : Str) : (zcx s).length ≤ s.length := Nat.le_trans (ztT _) (ztS _)
theorem zmg (s : Str) : (s.all zaP = true ∧ zf6 s = []) ∨ ∃ a c b, s = a ++ c :: b ∧ zaP c = false ∧ b.all zaP = true ∧ zf6 s = a ++ [c] := by
  rw [← List.reverse_reverse s]
  generalize s.reverse = r
  induction r with
  | nil => left; exact ⟨rfl, rfl⟩
  | cons x r ih =>
    rw [List.reverse_cons, zhC]
    rcases zbN (zaP x) with h | h
    · rw [h]
      rcases ih with ⟨h1, h2⟩ | ⟨a, c, b, h1, h2, h3, h4⟩
      · left; refine ⟨?_, by simpa using h2⟩
        rw [List.all_append, h1]; simp [h]
      · right; refine ⟨a, c, b ++ [x], by rw [h1]; simp, h2, by rw [List.all_append, h3]; simp [h], by simpa using h4⟩
    · right; exact ⟨r.reverse, x, [], rfl, h, rfl, by simp [h]⟩
theorem zsz {s : Str} (h : s.all zaP = true) : zgR s = [] := by
  unfold zgR
  induction s with
  | nil => rfl
  | cons x s ih =>
    simp only [List.all_cons, Bool.and_eq_true] at h
    rw [List.dropWhile_cons, h.1]
    exact ih h.2
theorem zsA {a : Str} {c : UInt8} {b : Str} (hc : zaP c = false) : zgR (a ++ c :: b) = zgR (a ++ [c]) ++ b := by
  unfold zgR
  induction a with
  | nil => simp [List.dropWhile_cons, hc]
  | cons x a ih =>
    simp only [List.cons_append, List.dropWhile_cons]
    split
    · exact ih
    · simp
theorem ztU {a : Str} {c : UInt8} (hc : zaP c = false) : ∃ d, zgR (a ++ [c]) = d ++ [c] := by
  unfold zgR
  induction a with
  | nil => exact ⟨[], by simp [List.dropWhile_cons, hc]⟩
  | cons x a ih =>
    simp only [List.cons_append, List.dropWhile_cons]
    split
    · exact ih
    · exact ⟨x :: a, rfl⟩
theorem zsB {d : Str} {c : UInt8} {b : Str} (hc : zaP c = false) (hb : b.all zaP = true) : zf6 (d ++ c :: b) = d ++ [c] := by
  rw [← List.reverse_reverse b] at *
  generalize b.reverse = r at *
  induction r with
  | nil => rw [List.reverse_nil, zhC, hc]; rfl
  | cons x r ih =>
    rw [List.reverse_cons, List.all_append] at hb
    simp only [Bool.and_eq_true, List.all_cons, List.all_nil, Bool.and_true] at hb
    rw [List.reverse_cons, ← List.cons_append, ← List.append_assoc, zhC, hb.2]
    exact ih hb.1
theorem zsC (s : Str) : zf6 (zgR s) = zcx s := by
  unfold zcx
  rcases zmg s with ⟨h1, h2⟩ | ⟨a, c, b, h1, h2, h3, h4⟩
  · rw [h2, zsz h1]; rfl
  · rw [h4, h1, zsA h2]
    obtain ⟨d, hd⟩ := ztU (a := a) h2
    rw [hd, List.append_assoc]
    exact zsB h2 h3
theorem ztV (s : Str) : Go.Lib.trimS s [32, 9] = zcx s := by
  unfold Go.Lib.trimS Go.Lib.trimLeftS Go.Lib.trimRightS zcx zgR zf6
  have : (fun x => ([32, 9] : List UInt8).contains x) = zaP := by funext b; exact zqH b
  rw [this]
theorem zms (s : Str) (hs : s.length < 1000000000) : zfE s [32, 9] = some (zcx s) := by
  unfold zfE
  rw [if_pos ⟨by omega, by simp, by decide⟩, ztV]
theorem zhD (b : UInt8) : zeu b = some (zaP b) :=
  of_decide_eq_true (zP (fun b => decide (zeu b = some (zaP b))) (by decide +kernel) b)
theorem zgi : ∀ (k n : Nat) (s : Str), s.length = k → k < n → k < 1000000000 → zbl n s = some (zf6 s)
  | k, 0, s, _, h, _ => by omega
  | 0, n + 1, s, hk, h, _ => by
    have : s = [] := List.length_eq_zero_iff.1 hk
    subst this; rw [zbl]; simp [zdW, zsy]
  | k + 1, n + 1, s, hk, h, hb => by
    obtain ⟨a, c, rfl⟩ : ∃ a c, s = a ++ [c] := by
      rcases List.eq_nil_or_concat s with rfl | ⟨a, c, rfl⟩
      · simp at hk
      · exact ⟨a, c, by simp⟩
    have hl : a.length = k := by simpa using hk
    have e : ((a ++ [c]).length : Int) - 1 = (a.length : Int) := by simp
    have h0 : (0 : Int) < ((a ++ [c]).length : Int) := by simp
    have e2 : sTo (a ++ [c]) (a.length : Int) = some a := by rw [zdC (by simp)]; simp
    rw [zbl, zhC]
    rw [zcn (by omega) (by omega), e]
    simp only [h0, decide_true, if_true, Option.bind_some, zZ, List.getElem?_concat_length, zhD, zdW]
    rcases zbN (zaP c) with h1 | h1
    · rw [h1]
      simp only [if_true, zcn (show -9223372036854775808 ≤ ((a ++ [c]).length : Int) - 1 by omega) (show ((a ++ [c]).length : Int) - 1 ≤ 9223372036854775807 by simp; omega), e, Option.bind_some, e2]
      exact zgi k n a hl (by omega) (by omega)
    · rw [h1]; simp
theorem ziq : ∀ (n : Nat) (s : Str), s.length < n → s.length < 1000000000 → zbm n s = some (zf6 (zgR s))
  | 0, s, h, _ => by omega
  | n + 1, [], h, hb => by
    rw [zbm]
    simp only [List.length_nil, Int.natCast_zero, Int.lt_irrefl, decide_false, Bool.false_eq_true, if_false, zdX]
    exact zgi 0 fuel [] rfl (by decide) (by decide)
  | n + 1, x :: s, h, hb => by
    rw [zbm]
    have h0 : (0 : Int) < ((x :: s).length : Int) := by simp
    have e : zbD (x :: s) 1 = some s := by
      have := zan (l := x :: s) (i := 1) (by simp); simpa using this
    simp only [h0, decide_true, if_true, zjx, List.getElem?_cons_zero, Option.bind_some, zhD, zdX]
    rcases zbN (zaP x) with h1 | h1
    · rw [h1]
      simp only [if_true, e, Option.bind_some]
      rw [ziq n s (by simp at h; omega) (by simp at hb; omega)]
      unfold zgR; simp [List.dropWhile_cons, h1]
    · rw [h1]
      simp only [Bool.false_eq_true, if_false]
      rw [zgi _ fuel _ rfl (by unfold fuel; omega) hb]
      unfold zgR; simp [List.dropWhile_cons, h1]
theorem zkm (s : Str) (hs : s.length < 1000000000) : zgd s = some (zcx s) := by
  unfold zgd
  rw [ziq fuel s (by unfold fuel; omega) hs, zsC]
end Go.Dm
end
section
namespace Go.Dm
theorem zpA {a b : Str} (hb : b.all zaP = true) : zcx (a ++ b) = zcx a := by
  have : zf6 (a ++ b) = zf6 a := by
    rw [← List.reverse_reverse b] at *
    generalize b.reverse = r at *
    induction r with
    | nil => simp
    | cons x r ih =>
      rw [List.reverse_cons, List.all_append] at hb
      simp only [Bool.and_eq_true, List.all_cons, List.all_nil, Bool.and_true] at hb
      rw [List.reverse_cons, ← List.append_assoc, zhC, hb.2, if_pos rfl]
      exact ih hb.1
  unfold zcx; rw [this]
def elems (l : List Str) : List Str := (l.map zcx).filter (fun x => !(x == []))
end Go.Dm
end
section
namespace Go.Dm
def isN (nm : Str) (f : api_Field) : Bool := low f.Name == low nm
def zfa (m : Nat) (l : List api_Field) : Prop := ∀ f ∈ l, f.Name.length < m ∧ f.Value.length < m
theorem zp1 (f : api_Field) (nm : Str) (hf : f.Name.length < 1000000000) (hn : nm.length < 1000000000) : zjs f nm = some (isN nm f) := by
  unfold zjs isN
  rw [zhZ _ hf, Option.bind_some, zhZ _ hn, Option.bind_some]
theorem zp2 (l : List api_Field) (h : l.length < 1000000000) : zM l = some l := by
  unfold zM
  rw [if_pos (zfS (by omega) (by omega))]
theorem zmj (l : List api_Field) (nm : Str) (hn : nm.length < 1000000000) (hl : l.length < 1000000000) (hs : zfa 1000000000 l) : zeL l nm = some ((l.filter (isN nm)).map (·.Value)) := by
  unfold zeL
  have key : ∀ (n i : Nat) (out : List Str), i ≤ l.length → l.length - i < n → out.length ≤ i → za0 l nm n out (i : Int) = some (out ++ ((l.drop i).filter (isN nm)).map (·.Value)) := by
    intro n
    induction n with
    | zero => intro i _ _ h; omega
    | succ n ih =>
      intro i out hi h ho
      rw [za0]
      by_cases hlt : i < l.length
      · have g : l[i]? = some l[i] := List.getElem?_eq_getElem hlt
        have hsm := hs l[i] (List.getElem_mem _)
        rw [decide_eq_true (show (i : Int) < (l.length : Int) by omega), if_pos rfl, zc1, g, Option.bind_some, zp1 _ _ hsm.1 hn, Option.bind_some, Option.bind_some, if_pos (zfS (by omega) (by omega))]
        unfold zdL
        rw [zr (by omega), Option.bind_some, Option.bind_some, ih (i + 1) _ (by omega) (by omega) (by simp; omega), ih (i + 1) _ (by omega) (by omega) (by omega), List.drop_eq_getElem_cons hlt, List.filter_cons]
        cases isN nm l[i] with
        | true => simp
        | false => rfl
      · have : i = l.length := by omega
        subst this
        rw [decide_eq_false (by omega), if_neg (by decide), List.drop_length]
        simp
  have := key fuel 0 [] (Nat.zero_le _) (by unfold fuel; omega) (by simp)
  rw [List.drop_zero, List.nil_append] at this
  exact this
theorem zr0 {α : Type} [BEq α] [LawfulBEq α] (a b : List α) (L : Nat → Int → Option Bool) (hl : a.length = b.length) (ha : a.length < 1000000000)
    (hE : ∀ n, L (n + 1) (a.length : Int) = some true) (hL : ∀ n (i : Nat) x y, i < a.length → a[i]? = some x → b[i]? = some y → L (n + 1) (i : Int) = if (x == y) = true then L n ((i + 1 : Nat) : Int) else some false) : L fuel 0 = some (a == b) := by
  have key : ∀ (n i : Nat), i ≤ a.length → a.length - i < n → L n (i : Int) = some (a.drop i == b.drop i) := by
    intro n
    induction n with
    | zero => intro i _ h; omega
    | succ n ih =>
      intro i hi h
      by_cases hlt : i < a.length
      · have g1 : a[i]? = some a[i] := List.getElem?_eq_getElem hlt
        have g2 : b[i]? = some (b[i]'(by omega)) := List.getElem?_eq_getElem (by omega)
        rw [hL n i _ _ hlt g1 g2, ih (i + 1) (by omega) (by omega), List.drop_eq_getElem_cons hlt, List.drop_eq_getElem_cons (show i < b.length by omega), List.cons_beq_cons]
        cases a[i] == b[i]'(by omega) <;> rfl
      · have : i = a.length := by omega
        subst this
        rw [hE, List.drop_length, List.drop_of_length_le (by omega)]
        rfl
  have := key fuel 0 (Nat.zero_le _) (by unfold fuel; omega)
  rw [List.drop_zero, List.drop_zero] at this
  exact this
theorem znY (a b : List api_Field) (ha : a.length < 1000000000) : zhp a b = some (a == b) := by
  unfold zhp
  by_cases hl : a.length = b.length
  · rw [hl, beq_self_eq_true, Bool.not_true, if_neg (by decide)]
    refine zr0 a b (zcq a b) hl ha (fun n => ?_) (fun n i x y hi hx hy => ?_)
    · rw [zcq, decide_eq_false (by omega), if_neg (by decide)]
    · rw [zcq, decide_eq_true (by omega), if_pos rfl, zc1, hx, Option.bind_some, zc1, hy, Option.bind_some, zr (by omega), Option.bind_some]
      cases x == y <;> rfl
  · have : (((a.length : Int) == (b.length : Int))) = false := beq_eq_false_iff_ne.2 (by omega)
    have h2 : (a == b) = false := beq_eq_false_iff_ne.2 (fun e => hl (by rw [e]))
    rw [this, h2]; rfl
theorem zlX {m n : Nat} (h : m ≤ n) {l : List api_Field} (hs : zfa m l) : zfa n l := fun f hf => by have := hs f hf; omega
end Go.Dm
end
section
namespace Go.Dm
def zrT (a b : api_Head) : Bool := a.Kind == b.Kind && a.Method == b.Method && a.Target == b.Target && a.Minor == b.Minor && a.Code == b.Code && a.Reason == b.Reason && a.Fields == b.Fields
theorem zru (a : api_Head) : zrT a a = true := by unfold zrT; simp
theorem zoh (a b : api_Head) (ha : a.Fields.length < 1000000000) : zhq a b = some (zrT a b) := by
  unfold zhq ze1 ziF zbQ zrT
  rw [znY _ _ ha, Option.bind_some]
  cases a.Kind == b.Kind <;> cases a.Method == b.Method <;> cases a.Target == b.Target <;> cases a.Minor == b.Minor <;> cases a.Code == b.Code <;> cases a.Reason == b.Reason <;> rfl
end Go.Dm
end
section
namespace Go.Dm
theorem zh8 (b : UInt8) : zc6 b = some (zaP b) :=
  of_decide_eq_true (zP (fun b => decide (zc6 b = some (zaP b))) (by decide +kernel) b)
def zcL : api_Field := ⟨[], []⟩
def zpd (s : Str) : api_Field × Int :=
  if s.any ([13, 10] : Str).contains then (zcL, 24) else if !(s.takeWhile zaP == []) then (zcL, 23)
  else if s.takeWhile zbs == [] || !zf2 58 ((s.dropWhile zbs).dropWhile zaP) then (zcL, 21)
  else if !((s.dropWhile zbs).takeWhile zaP == []) then (zcL, 22)
  else if !((zaS 58 ((s.dropWhile zbs).dropWhile zaP)).all zf0) then (zcL, 25)
  else (⟨s.takeWhile zbs, zcx (zaS 58 ((s.dropWhile zbs).dropWhile zaP))⟩, 0)
theorem zjW (s : Str) (hs : s.length < 1000000000) : zb9 s = some (zpd s) := by
  unfold zb9 zpd
  rw [zfB s _ hs (by decide) (by decide), Option.bind_some]
  cases s.any ([13, 10] : Str).contains with
  | true => rfl
  | false =>
    obtain ⟨k1, a1, e1⟩ := zjh zh8 hs (At.zero s)
    have b1 : zaz (scn s 0) = some (s.takeWhile zaP, scn s k1) := by unfold zaz; rw [e1]; rfl
    rw [if_neg Bool.false_ne_true, if_neg Bool.false_ne_true, zhQ, Option.bind_some, b1, Option.bind_some]
    dsimp only
    cases hb : s.takeWhile zaP == [] with
    | false => rfl
    | true =>
      have hd : s.dropWhile zaP = s := by
        have := List.takeWhile_append_dropWhile (p := zaP) (l := s)
        have h0 : s.takeWhile zaP = [] := by simpa using hb
        rwa [h0, List.nil_append] at this
      rw [hd] at a1
      obtain ⟨k2, a2, e2⟩ := zqg hs a1
      obtain ⟨k3, a3, e3⟩ := zjh zh8 hs a2
      have b3 : zaz (scn s k2) = some ((s.dropWhile zbs).takeWhile zaP, scn s k3) := by unfold zaz; rw [e3]; rfl
      rw [Bool.not_true, if_neg Bool.false_ne_true, if_neg Bool.false_ne_true, e2, Option.bind_some, b3, Option.bind_some]
      dsimp only
      cases hn : s.takeWhile zbs == [] with
      | true => rfl
      | false =>
        obtain ⟨k4, a4, e4⟩ := ziC hs 58 a3
        rw [Bool.not_false, Bool.not_true, if_neg Bool.false_ne_true, e4, Option.bind_some, Bool.false_or]
        have hl := a4.le_len
        generalize zaS 58 ((s.dropWhile zbs).dropWhile zaP) = v at a4 hl
        unfold zcD
        show (if (!zf2 58 ((s.dropWhile zbs).dropWhile zaP)) = true then _ else if (!((s.dropWhile zbs).takeWhile zaP == [])) = true then _ else (zX (scn s k4)).bind _) = _
        rw [zmw a4, Option.bind_some, zdY zik v (by omega), Option.bind_some]
        cases zf2 58 ((s.dropWhile zbs).dropWhile zaP) with
        | false => rfl
        | true =>
          rw [Bool.not_true, if_neg Bool.false_ne_true, if_neg Bool.false_ne_true]
          cases (s.dropWhile zbs).takeWhile zaP == [] with
          | false => rfl
          | true =>
            rw [Bool.not_true, if_neg Bool.false_ne_true, if_neg Bool.false_ne_true]
            cases v.all zf0 with
            | false => rfl
            | true =>
              rw [Bool.not_true, if_neg Bool.false_ne_true, if_neg Bool.false_ne_true]
              rw [Option.bind_some, zms v (by omega), Option.bind_some]
def zlq : Str → Bool
  | [] => false
  | c :: _ => zaP c
def zbC (s : Str) : api_Field × Int :=
  if s.any ([13, 10] : Str).contains then (zcL, 24) else if zlq s then (zcL, 23)
  else if zaf [58] s == [] || !zgF (zcx (upto [58] s)) then (zcL, 21)
  else if decide ((zcx (upto [58] s)).length < (upto [58] s).length) then (zcL, 22)
  else if !(((zaf [58] s).drop 1).all zf0) then (zcL, 25)
  else (⟨zcx (upto [58] s), zcx ((zaf [58] s).drop 1)⟩, 0)
theorem zqV (s : Str) : (!(s.takeWhile zaP == [])) = zlq s := by
  cases s with
  | nil => rfl
  | cons c s =>
    rw [List.takeWhile_cons]
    show _ = zaP c
    cases zaP c <;> rfl
theorem zup (c : UInt8) : (!zbs c || (!zaP c && !(c == 58))) = true := zP (fun c => !zbs c || (!zaP c && !(c == 58))) (by decide +kernel) c
theorem zs0 (c : UInt8) : (!zaP c || (!zbs c && !(c == 58))) = true := zP (fun c => !zaP c || (!zbs c && !(c == 58))) (by decide +kernel) c
theorem zop {n : Str} (h : n.all zbs = true) : (∀ x ∈ n, zaP x = false) ∧ (58 : UInt8) ∉ n := by
  have key : ∀ x ∈ n, zaP x = false ∧ (x == 58) = false := fun x hx => by
    have h1 := List.all_eq_true.1 h x hx
    have h2 := zup x
    rw [h1] at h2
    simpa using h2
  exact ⟨fun x hx => (key x hx).1, fun hx => by have := (key _ hx).2; cases this⟩
theorem zs1 {b : Str} (h : b.all zaP = true) : (58 : UInt8) ∉ b := fun hx => by
  have := List.all_eq_true.1 h _ hx
  cases this
theorem zuq (u v : Str) (h : (58 : UInt8) ∉ u) : upto [58] (u ++ 58 :: v) = u ∧ zaf [58] (u ++ 58 :: v) = 58 :: v := by
  induction u with
  | nil => exact ⟨zgq (by decide), zgr (by decide)⟩
  | cons c u ih =>
    have hc : ([58] : Str).contains c = false := by
      have : c ≠ 58 := fun e => h (by rw [e]; exact List.mem_cons_self ..)
      simpa using this
    have ih := ih (fun hx => h (List.mem_cons_of_mem _ hx))
    rw [List.cons_append, zgs hc, zgt hc, ih.1, ih.2]
    exact ⟨rfl, rfl⟩
theorem all_takeWhile (p : UInt8 → Bool) (s : Str) : (s.takeWhile p).all p = true := List.all_eq_true.2 fun _ hx => zgk hx
theorem zr1 {n b v : Str} (hn : n.all zbs = true) (hb : b.all zaP = true) :
    (n ++ (b ++ 58 :: v)).takeWhile zbs = n ∧ (n ++ (b ++ 58 :: v)).dropWhile zbs = b ++ 58 :: v ∧ (b ++ 58 :: v).takeWhile zaP = b ∧ (b ++ 58 :: v).dropWhile zaP = 58 :: v := by
  have h1 := ziy (p := zaP) (c := 58) (by decide) v hb
  refine ⟨?_, ?_, h1.1, h1.2⟩
  · cases b with
    | nil => exact (ziy (p := zbs) (c := 58) (by decide) v hn).1
    | cons c b =>
      have hc : zbs c = false := by
        rw [List.all_cons, Bool.and_eq_true] at hb
        have := zs0 c
        rw [hb.1] at this
        simp only [Bool.not_true, Bool.false_or, Bool.and_eq_true, Bool.not_eq_true'] at this
        exact this.1
      exact (ziy hc _ hn).1
  · cases b with
    | nil => exact (ziy (p := zbs) (c := 58) (by decide) v hn).2
    | cons c b =>
      have hc : zbs c = false := by
        rw [List.all_cons, Bool.and_eq_true] at hb
        have := zs0 c
        rw [hb.1] at this
        simp only [Bool.not_true, Bool.false_or, Bool.and_eq_true, Bool.not_eq_true'] at this
        exact this.1
      exact (ziy hc _ hn).2
theorem zs2 {s : Str} (h : ∀ x ∈ s, zaP x = false) : zcx s = s := by
  have hl : ∀ t : Str, (∀ x ∈ t, zaP x = false) → t.dropWhile zaP = t := by
    intro t ht
    cases t with
    | nil => rfl
    | cons y t => rw [List.dropWhile_cons, ht y (List.mem_cons_self ..)]; rfl
  have hr : zf6 s = s := by unfold zf6; rw [hl _ (fun x hx => h x (List.mem_reverse.1 hx)), List.reverse_reverse]
  unfold zcx zgR
  rw [hr, hl s h]
theorem zr2 {n b : Str} (hn : n.all zbs = true) (hb : b.all zaP = true) : zcx (n ++ b) = n := by
  rw [zpA hb]
  exact zs2 (zop hn).1
theorem zr3 {u : Str} (h : zlq u = false) (ht : zgF (zcx u) = true) : ∃ b, u = zcx u ++ b ∧ b.all zaP = true := by
  rcases zmg u with ⟨h1, h2⟩ | ⟨a, c, b, h1, h2, h3, h4⟩
  · have : zcx u = [] := by unfold zcx; rw [h2]; rfl
    rw [this] at ht; cases ht
  · refine ⟨b, ?_, h3⟩
    have e : zcx u = a ++ [c] := by
      unfold zcx
      rw [h4]
      unfold zgR
      cases a with
      | nil => show [c].dropWhile zaP = _; rw [List.dropWhile_cons, h2, if_neg Bool.false_ne_true]; rfl
      | cons x a =>
        rw [h1] at h
        have hx : zaP x = false := h
        rw [List.cons_append, List.dropWhile_cons, hx, if_neg Bool.false_ne_true]
    rw [e, h1]; simp
theorem zs3 (s : Str) : zpd s = zbC s := by
  unfold zpd zbC
  rw [zqV]
  cases s.any ([13, 10] : Str).contains with
  | true => rfl
  | false =>
    cases hb : zlq s with
    | true => rfl
    | false =>
      rw [if_neg Bool.false_ne_true, if_neg Bool.false_ne_true, if_neg Bool.false_ne_true, if_neg Bool.false_ne_true]
      have e1 := List.takeWhile_append_dropWhile (p := zbs) (l := s)
      have e2 := List.takeWhile_append_dropWhile (p := zaP) (l := s.dropWhile zbs)
      have hn := all_takeWhile zbs s
      have hbb := all_takeWhile zaP (s.dropWhile zbs)
      cases hc : zf2 58 ((s.dropWhile zbs).dropWhile zaP) with
      | true =>
        have e3 := zga hc
        generalize zaS 58 ((s.dropWhile zbs).dropWhile zaP) = v at e3
        generalize s.takeWhile zbs = n at e1 hn
        generalize (s.dropWhile zbs).takeWhile zaP = b at e2 hbb
        have es : s = (n ++ b) ++ 58 :: v := by rw [← e1, ← e2, e3, List.append_assoc]
        have hno : (58 : UInt8) ∉ n ++ b := fun hx => by
          rcases List.mem_append.1 hx with h | h
          · exact (zop hn).2 h
          · exact zs1 hbb h
        obtain ⟨u1, u2⟩ := zuq (n ++ b) v hno
        rw [es, u1, u2, zr2 hn hbb]
        have ht : zgF n = !(n == []) := by unfold zgF; rw [hn, Bool.true_and]
        rw [ht]
        have hlt : decide (n.length < (n ++ b).length) = !(b == []) := by
          cases b with
          | nil => simp
          | cons x b => simp
        rw [hlt]
        show (if (n == [] || false) = true then _ else _) = if (false || !(!(n == []))) = true then _ else _
        rw [Bool.or_false, Bool.false_or, Bool.not_not]
        rfl
      | false =>
        rw [Bool.not_false, Bool.or_true, if_pos rfl]
        cases hf : zaf [58] s with
        | nil => rfl
        | cons c v =>
          have hc58 : c = 58 := by simpa using zjN hf
          subst hc58
          cases ht : zgF (zcx (upto [58] s)) with
          | false => rfl
          | true =>
            exfalso
            have es := zbH [58] s
            rw [hf] at es
            have hub : zlq (upto [58] s) = false := by
              cases hu : upto [58] s with
              | nil => rfl
              | cons x u => rw [hu] at es; rw [← es] at hb; exact hb
            obtain ⟨b, eb, hbl⟩ := zr3 hub ht
            unfold zgF at ht
            rw [Bool.and_eq_true] at ht
            have es2 : s = zcx (upto [58] s) ++ (b ++ 58 :: v) := by
              rw [← List.append_assoc, ← eb]; exact es.symm
            obtain ⟨_, q2, _, q4⟩ := zr1 (v := v) ht.1 hbl
            rw [es2, q2, q4] at hc
            cases hc
theorem zg9 (s : Str) (hs : s.length < 1000000000) : zb9 s = some (zbC s) := by rw [zjW s hs, zs3]
theorem zmk (s : Str) (hs : s.length < 1000000000) : zfQ s = some (s.all zf0) := by
  unfold zfQ
  have key : ∀ (n i : Nat), i ≤ s.length → s.length - i < n → zca s n (i : Int) = some ((s.drop i).all zf0) := by
    intro n
    induction n with
    | zero => intro i _ h; omega
    | succ n ih =>
      intro i hi h
      rw [zca]
      by_cases hlt : i < s.length
      · have g : s[i]? = some s[i] := List.getElem?_eq_getElem hlt
        rw [decide_eq_true (show (i : Int) < (s.length : Int) by omega), if_pos rfl, zZ, g, Option.bind_some, zju, Option.bind_some, zr (by omega), Option.bind_some, ih (i + 1) (by omega) (by omega), List.drop_eq_getElem_cons hlt, List.all_cons]
        cases zf0 s[i] <;> rfl
      · have : i = s.length := by omega
        subst this
        rw [decide_eq_false (by omega), if_neg Bool.false_ne_true, List.drop_length]
        rfl
  have := key fuel 0 (Nat.zero_le _) (by unfold fuel; omega)
  rw [List.drop_zero] at this
  exact this
theorem zqb (s : Str) (hs : s.length < 1000000000) : zcG s false = some (if zaf [58] s == [] || !zgF (zcx (upto [58] s)) then (zcL, 21)
  else if decide ((zcx (upto [58] s)).length < (upto [58] s).length) then (zcL, 22)
  else if !(((zaf [58] s).drop 1).all zf0) then (zcL, 25)
  else ((⟨zcx (upto [58] s), zcx ((zaf [58] s).drop 1)⟩, 0) : api_Field × Int)) := by
  unfold zcG
  rw [if_neg Bool.false_ne_true]
  have hu := ziu [58] s
  have htu := zpC (upto [58] s)
  have fin : ∀ rec4, zcF rec4 s ((upto [58] s).length : Int) false = some (if zaf [58] s == [] || !zgF (zcx (upto [58] s)) then (zcL, 21)
      else if decide ((zcx (upto [58] s)).length < (upto [58] s).length) then (zcL, 22)
      else if !(((zaf [58] s).drop 1).all zf0) then (zcL, 25)
      else ((⟨zcx (upto [58] s), zcx ((zaf [58] s).drop 1)⟩, 0) : api_Field × Int)) := by
    intro rec4
    unfold zcF
    rw [if_neg Bool.false_ne_true, zdC hu, Option.bind_some, zh5, zkm _ (by omega), Option.bind_some, zjv _ (by omega), Option.bind_some]
    cases hf : zaf [58] s with
    | nil =>
      have hl : (upto [58] s).length = s.length := (zcR [58] s).1 hf
      rw [hl, beq_self_eq_true, if_pos rfl]
      rfl
    | cons c v =>
      have hl := congrArg List.length (zbH [58] s)
      rw [hf, List.length_append, List.length_cons] at hl
      have hne : (((upto [58] s).length : Int) == (s.length : Int)) = false := beq_eq_false_iff_ne.2 (by omega)
      have hd : s.drop ((upto [58] s).length + 1) = v := by rw [← List.drop_drop, zf8, hf]; rfl
      rw [hne, if_neg Bool.false_ne_true]
      unfold zew
      show _ = some (if (false || !zgF (zcx (upto [58] s))) = true then _ else _)
      rw [Bool.false_or]
      cases zgF (zcx (upto [58] s)) with
      | false => rfl
      | true =>
        rw [Bool.not_true, if_neg Bool.false_ne_true, if_neg Bool.false_ne_true]
        by_cases hlt : (zcx (upto [58] s)).length < (upto [58] s).length
        · rw [decide_eq_true (show ((zcx (upto [58] s)).length : Int) < ((upto [58] s).length : Int) by omega), decide_eq_true hlt]; rfl
        · rw [decide_eq_false (show ¬ ((zcx (upto [58] s)).length : Int) < ((upto [58] s).length : Int) by omega), decide_eq_false hlt, if_neg Bool.false_ne_true, if_neg Bool.false_ne_true, zr (by omega), Option.bind_some, zan (by omega), Option.bind_some, hd, zmk v (by omega), Option.bind_some, Option.bind_some, zan (by omega), Option.bind_some, hd, zkm v (by omega), Option.bind_some]
          show _ = some (if (!v.all zf0) = true then _ else _)
          cases v.all zf0 <;> rfl
  have key : ∀ (n i : Nat), i ≤ (upto [58] s).length → (upto [58] s).length - i < n → zaJ s n (i : Int) = some (if zaf [58] s == [] || !zgF (zcx (upto [58] s)) then (zcL, 21)
      else if decide ((zcx (upto [58] s)).length < (upto [58] s).length) then (zcL, 22)
      else if !(((zaf [58] s).drop 1).all zf0) then (zcL, 25)
      else ((⟨zcx (upto [58] s), zcx ((zaf [58] s).drop 1)⟩, 0) : api_Field × Int)) := by
    intro n
    induction n with
    | zero => intro i _ h; omega
    | succ n ih =>
      intro i hi h
      rw [zaJ]
      by_cases hlt : i < (upto [58] s).length
      · have g : s[i]? = some (upto [58] s)[i] := by
          have e := List.getElem?_append_left (l₂ := zaf [58] s) hlt
          rw [zbH] at e; rw [e]; exact List.getElem?_eq_getElem hlt
        have hno := zmH (upto [58] s)[i] (List.getElem_mem hlt)
        generalize (upto [58] s)[i] = c at g hno
        have h1 : (c == 58) = false := by simpa using hno
        unfold zcF
        rw [decide_eq_true (show (i : Int) < (s.length : Int) by omega), if_pos rfl, zZ, g, Option.bind_some, h1, Bool.not_false, if_pos rfl, zr (by omega), Option.bind_some]
        exact ih (i + 1) (by omega) (by omega)
      · have hie : i = (upto [58] s).length := by omega
        subst hie
        cases hf : zaf [58] s with
        | nil =>
          have hl : (upto [58] s).length = s.length := (zcR [58] s).1 hf
          rw [decide_eq_false (by omega), if_neg Bool.false_ne_true]
          have := fin (zaJ s n)
          rw [hf] at this
          exact this
        | cons c v =>
          have hc : c = 58 := by simpa using zjN hf
          subst hc
          have hd := zf8 [58] s
          rw [hf] at hd
          have hlt2 := (ziN hd).1
          have g : s[(upto [58] s).length]? = some 58 := by have := congrArg (·[0]?) hd; simpa using this
          rw [decide_eq_true (by omega), if_pos rfl, zZ, g, Option.bind_some]
          have := fin (zaJ s n)
          rw [hf] at this
          exact this
  exact key fuel 0 (Nat.zero_le _) (by unfold fuel; omega)
theorem zje (s : Str) (hs : s.length < 1000000000) : zft s = some (zbC s) := by
  unfold zft
  have key : ∀ (n i : Nat), i ≤ s.length → s.length - i < n → zbr s n (i : Int) = some (if (s.drop i).any ([13, 10] : Str).contains then (zcL, 24) else if zlq s then (zcL, 23)
      else if zaf [58] s == [] || !zgF (zcx (upto [58] s)) then (zcL, 21)
      else if decide ((zcx (upto [58] s)).length < (upto [58] s).length) then (zcL, 22)
      else if !(((zaf [58] s).drop 1).all zf0) then (zcL, 25)
      else ((⟨zcx (upto [58] s), zcx ((zaf [58] s).drop 1)⟩, 0) : api_Field × Int)) := by
    intro n
    induction n with
    | zero => intro i _ h; omega
    | succ n ih =>
      intro i hi h
      rw [zbr]
      by_cases hlt : i < s.length
      · have g : s[i]? = some s[i] := List.getElem?_eq_getElem hlt
        have hcc : ([13, 10] : Str).contains s[i] = (s[i] == 13 || s[i] == 10) := by simp only [List.contains_cons, List.contains_nil, Bool.or_false]
        have ihh := ih (i + 1) (by omega) (by omega)
        unfold zev
        rw [decide_eq_true (show (i : Int) < (s.length : Int) by omega), if_pos rfl, zZ, g, Option.bind_some, Option.bind_some, zr (by omega), Option.bind_some, ihh, List.drop_eq_getElem_cons hlt, List.any_cons, hcc]
        cases s[i] == 13 with
        | true => rfl
        | false =>
          rw [if_neg Bool.false_ne_true, Bool.false_or]
          cases s[i] == 10 <;> rfl
      · have : i = s.length := by omega
        subst this
        rw [decide_eq_false (by omega), if_neg Bool.false_ne_true, List.drop_length, List.any_nil, if_neg Bool.false_ne_true]
        have j3 := zqb s hs
        have j3t : zcG s true = some (zcL, 23) := rfl
        cases s with
        | nil => rw [decide_eq_false (by decide), if_neg Bool.false_ne_true, j3]; rfl
        | cons c t =>
          rw [decide_eq_true (by simp only [List.length_cons]; omega), if_pos rfl, zjx, List.getElem?_cons_zero, Option.bind_some, zhD, Option.bind_some]
          show _ = some (if zaP c = true then _ else _)
          cases zaP c with
          | true => exact j3t
          | false => rw [j3]; rfl
  have := key fuel 0 (Nat.zero_le _) (by unfold fuel; omega)
  rw [List.drop_zero] at this
  exact this
end Go.Dm
end
section
namespace Go.Dm
def lines : Str → List Str
  | [] => [[]]
  | [c] => [[c]]
  | c :: d :: r => if c == 13 && d == 10 then [] :: lines r else zc4 [c] (lines (d :: r))
theorem zjO (c d : UInt8) (r : Str) : lines (c :: d :: r) = if c == 13 && d == 10 then [] :: lines r else zc4 [c] (lines (d :: r)) := by rw [lines]
theorem zs4 (c d : UInt8) (r : Str) : ([13, 10] : Str).isPrefixOf (c :: d :: r) = (c == 13 && d == 10) := by
  show ((13 : UInt8) == c && ((10 : UInt8) == d && ([] : Str).isPrefixOf r)) = _
  have : ([] : Str).isPrefixOf r = true := by simp
  rw [this, Bool.and_true, show ((13 : UInt8) == c) = (c == 13) from by rw [Bool.eq_iff_iff, beq_iff_eq, beq_iff_eq]; exact eq_comm, show ((10 : UInt8) == d) = (d == 10) from by rw [Bool.eq_iff_iff, beq_iff_eq, beq_iff_eq]; exact eq_comm]
theorem zqd : ∀ (n : Nat) (s : Str), s.length < n → lines s ≠ []
  | 0, _, h => by omega
  | n + 1, [], _ => by simp [lines]
  | n + 1, [c], _ => by simp [lines]
  | n + 1, c :: d :: r, h => by
    rw [zjO]
    split
    · simp
    · simp only [List.length_cons] at h
      cases hl : lines (d :: r) with
      | nil => exact absurd hl (zqd n _ (by simp only [List.length_cons]; omega))
      | cons a t => simp [zc4]
theorem zkR (s : Str) : lines s ≠ [] := zqd _ s (Nat.lt_succ_self _)
theorem zoq : ∀ (n : Nat) (s : Str), s.length < n → lines s = match zaq [13, 10] s with | none => [s] | some p => p.1 :: lines p.2
  | 0, _, h => by omega
  | n + 1, [], _ => by simp [lines, zaq]
  | n + 1, [c], _ => by
    have : ([13, 10] : Str).isPrefixOf [c] = false := by
      show ((13 : UInt8) == c && false) = false
      rw [Bool.and_false]
    rw [zaq, this, if_neg Bool.false_ne_true]
    simp [lines, zaq]
  | n + 1, c :: d :: r, h => by
    simp only [List.length_cons] at h
    have ih := zoq n (d :: r) (by simp only [List.length_cons]; omega)
    rw [zjO, zaq, zs4]
    cases hc : (c == 13 && d == 10) with
    | true => rfl
    | false =>
      rw [if_neg Bool.false_ne_true, if_neg Bool.false_ne_true, ih]
      cases zaq [13, 10] (d :: r) with
      | none => rfl
      | some p => rfl
theorem zqe (s : Str) : lines s = match zaq [13, 10] s with | none => [s] | some p => p.1 :: lines p.2 := zoq _ s (Nat.lt_succ_self _)
theorem zl2 : ∀ (k : Nat) (s : Str), Go.Lib.count s [13, 10] = k → Go.Lib.splitK [13, 10] 0 k s = lines s
  | k, s, h => by
    have hi := zjQ (t := [13, 10]) (by decide) s
    rw [zqe]
    cases hc : zaq [13, 10] s with
    | none =>
      rw [hc] at hi
      have h0 := Go.Lib.count_miss hi
      have : k = 0 := by omega
      subst this
      rfl
    | some p =>
      rw [hc] at hi
      have e := zbu (a := p.1) (b := p.2) hc
      have e1 : s.take p.1.length = p.1 := by rw [e, List.append_assoc, List.take_left']; rfl
      have e2 : s.drop (p.1.length + 2) = p.2 := by rw [e, List.drop_left']; simp
      have hh := Go.Lib.count_hit (i := p.1.length) (by decide) hi
      rw [show ([13, 10] : Str).length = 2 from rfl, e2] at hh
      obtain ⟨m, rfl⟩ : ∃ m, k = m + 1 := ⟨k - 1, by omega⟩
      have ih := zl2 m p.2 (by omega)
      unfold Go.Lib.splitK
      have hn : (((p.1.length : Int)) == -1) = false := beq_eq_false_iff_ne.2 (by omega)
      rw [hi]
      dsimp only
      rw [hn, if_neg Bool.false_ne_true, Int.toNat_natCast, Nat.add_zero, e1, show ([13, 10] : Str).length = 2 from rfl, e2, ih]
theorem zks (s : Str) (hs : s.length < 1000000000) : strings_Split s [13, 10] = some (lines s) := by
  unfold strings_Split
  rw [if_pos ⟨by omega, by decide⟩]
  exact congrArg some (zl2 _ s rfl)
theorem zls : ∀ (n : Nat) (s : Str), s.length < n → (lines s).length ≤ s.length + 1 ∧ ∀ l ∈ lines s, l.length ≤ s.length
  | 0, _, h => by omega
  | n + 1, s, h => by
    rw [zqe]
    cases hc : zaq [13, 10] s with
    | none => simp
    | some p =>
      have e := congrArg List.length (zbu (a := p.1) (b := p.2) hc)
      simp only [List.length_append, List.length_cons, List.length_nil] at e
      obtain ⟨h1, h2⟩ := zls n p.2 (by omega)
      dsimp only
      refine ⟨by simp only [List.length_cons]; omega, fun l hl => ?_⟩
      rcases List.mem_cons.1 hl with h | h
      · rw [h]; omega
      · have := h2 l h; omega
theorem zl3 {t : Str} : ∀ {s : Str}, s.length < t.length → zaq t s = none := fun {s} h => by
  cases hc : zaq t s with
  | none => rfl
  | some p =>
    have e := congrArg List.length (zbu (a := p.1) (b := p.2) hc)
    simp only [List.length_append] at e
    omega
theorem zkS (s t : Str) (hs : s.length < 1000000000) (ht : t ≠ []) : strings_Index s t = some (match zaq t s with | none => -1 | some p => (p.1.length : Int)) := by
  unfold strings_Index
  rw [if_pos (by omega), zmQ, zjQ ht]
  first | done | (cases zaq t s <;> rfl)
theorem zpe (s : Str) (hs : s.length < 1000000000) : zig s = some (match zaq [13, 10, 13, 10] s with | none => -1 | some p => ((p.1.length + 4 : Nat) : Int)) := by
  unfold zig
  have key : ∀ (n i : Nat), i ≤ s.length → s.length - i < n → zdA s n (i : Int) = some (match zaq [13, 10, 13, 10] (s.drop i) with | none => -1 | some p => ((i + p.1.length + 4 : Nat) : Int)) := by
    intro n
    induction n with
    | zero => intro i _ h; omega
    | succ n ih =>
      intro i hi h
      have a4 : zE (i : Int) 4 = some ((i + 4 : Nat) : Int) := by rw [za1 (by omega) (by omega)]; exact congrArg some (by omega)
      rw [zdA, a4, Option.bind_some, Option.bind_some, Option.bind_some]
      by_cases hle : i + 4 ≤ s.length
      · have hlt : i < s.length := by omega
        have sb : zeC s (i : Int) ((i + 4 : Nat) : Int) = some ((s.drop i).take 4) := by
          rw [zc2 (by omega) hle, ← List.take_drop]
        have hpre : ((s.drop i).take 4 == ([13, 10, 13, 10] : Str)) = ([13, 10, 13, 10] : Str).isPrefixOf (s.drop i) := by
          rw [Bool.eq_iff_iff, List.isPrefixOf_iff_prefix, beq_iff_eq, List.prefix_iff_eq_take]
          exact eq_comm
        rw [decide_eq_true (show ((i + 4 : Nat) : Int) ≤ (s.length : Int) by omega), if_pos rfl, sb, Option.bind_some, hpre, List.drop_eq_getElem_cons hlt, zaq]
        split
        · rfl
        · rw [zr (by omega), Option.bind_some, ih (i + 1) (by omega) (by omega)]
          cases zaq [13, 10, 13, 10] (s.drop (i + 1)) with
          | none => rfl
          | some p =>
            show some ((i + 1 + p.1.length + 4 : Nat) : Int) = some ((i + (p.1.length + 1) + 4 : Nat) : Int)
            exact congrArg some (by omega)
      · rw [decide_eq_false (show ¬ ((i + 4 : Nat) : Int) ≤ (s.length : Int) by omega), if_neg Bool.false_ne_true, zl3 (by rw [List.length_drop, show ([13, 10, 13, 10] : Str).length = 4 from rfl]; omega)]
  have := key fuel 0 (Nat.zero_le _) (by unfold fuel; omega)
  rw [List.drop_zero] at this
  rw [show (0 : Int) = ((0 : Nat) : Int) from rfl, this]
  cases zaq [13, 10, 13, 10] s with
  | none => rfl
  | some p =>
    show some ((0 + p.1.length + 4 : Nat) : Int) = some ((p.1.length + 4 : Nat) : Int)
    exact congrArg some (by omega)
def zeU (h : api_Head) : List Str := (h.Fields.filter (isN [104, 111, 115, 116])).map (·.Value)
def zkT (h : api_Head) : Bool := if h.Kind == 1 then (if decide (1 < (zeU h).length) || decide (((zeU h).length : Int) < h.Minor) then false else (zeU h).all (fun x => x == [] || (zb2 x).2 == 0)) else true
def zha (h : api_Head) : Int := if decide (100 < h.Fields.length) then 3 else if zkT h then 0 else 27
theorem zs5 : isN ([72, 111, 115, 116] : Str) = isN [104, 111, 115, 116] := by
  funext f
  unfold isN
  have : low ([72, 111, 115, 116] : Str) = low ([104, 111, 115, 116] : Str) := by decide
  rw [this]
theorem znZ (l : List api_Field) (nm : Str) (hn : nm.length < 1000000000) (hl : l.length < 1000000000) (hs : zfa 1000000000 l) : zed ⟨l⟩ nm = some ((l.filter (isN nm)).map (·.Value)) := by
  unfold zed zgU
  rw [zp2 l hl, Option.bind_some, Option.bind_some]
  have key : ∀ (n i : Nat) (out : List Str), i ≤ l.length → l.length - i < n → out.length ≤ i → zaD nm l n out (i : Int) = some (out ++ ((l.drop i).filter (isN nm)).map (·.Value)) := by
    intro n
    induction n with
    | zero => intro i _ _ h; omega
    | succ n ih =>
      intro i out hi h ho
      rw [zaD]
      by_cases hlt : i < l.length
      · have g : l[i]? = some l[i] := List.getElem?_eq_getElem hlt
        have hsm := hs l[i] (List.getElem_mem _)
        rw [decide_eq_true (show (i : Int) < (l.length : Int) by omega), if_pos rfl, zc1, g, Option.bind_some, zn3 _ _ hsm.1 hn, Option.bind_some, if_pos (zfS (by omega) (by omega))]
        unfold zcV
        rw [zr (by omega), Option.bind_some, Option.bind_some, ih (i + 1) _ (by omega) (by omega) (by simp; omega), ih (i + 1) _ (by omega) (by omega) (by omega), List.drop_eq_getElem_cons hlt, List.filter_cons]
        show (if (isN nm l[i]) = true then _ else _) = _
        cases isN nm l[i] with
        | true => simp
        | false => rfl
      · have : i = l.length := by omega
        subst this
        rw [decide_eq_false (by omega), if_neg Bool.false_ne_true, List.drop_length]
        simp
  have := key fuel 0 [] (Nat.zero_le _) (by unfold fuel; omega) (by simp)
  rw [List.drop_zero, List.nil_append] at this
  exact this
theorem zn0 (h : api_Head) (hl : h.Fields.length < 1000000000) (hs : zfa 400000000 h.Fields) : zhk h = some (zkT h) := by
  unfold zhk zkT
  cases h.Kind == 1 with
  | false => rfl
  | true =>
    have hvl : (zeU h).length ≤ h.Fields.length := by unfold zeU; rw [List.length_map]; exact List.length_filter_le _ _
    have hvm : ∀ v ∈ zeU h, v.length < 400000000 := fun v hv => by
      obtain ⟨f, hf, rfl⟩ := List.mem_map.1 hv
      exact (hs f (List.mem_filter.1 hf).1).2
    rw [Bool.not_true, if_neg Bool.false_ne_true, if_pos rfl]
    unfold zmx
    rw [zp2 _ hl, Option.bind_some, Option.bind_some, znZ _ _ (by decide) hl (zlX (by decide) hs), Option.bind_some, zs5]
    show (if decide (1 < ((zeU h).length : Int)) = true then zc7 (zeU h) true else zc7 (zeU h) (decide (((zeU h).length : Int) < h.Minor))) = _
    generalize zeU h = vs at hvl hvm
    have key : ∀ (n i : Nat), i ≤ vs.length → vs.length - i < n → zbO vs n (i : Int) = some ((vs.drop i).all (fun x => x == [] || (zb2 x).2 == 0)) := by
      intro n
      induction n with
      | zero => intro i _ h; omega
      | succ n ih =>
        intro i hi h
        rw [zbO]
        by_cases hlt : i < vs.length
        · have g : vs[i]? = some vs[i] := List.getElem?_eq_getElem hlt
          have hsm := hvm vs[i] (List.getElem_mem _)
          unfold zeZ
          rw [decide_eq_true (show (i : Int) < (vs.length : Int) by omega), if_pos rfl, zc1, g, Option.bind_some, zfD _ hsm, Option.bind_some, zr (by omega), Option.bind_some, ih (i + 1) (by omega) (by omega), List.drop_eq_getElem_cons hlt, List.all_cons]
          cases (zb2 vs[i]).2 == 0 <;> cases vs[i] == [] <;> rfl
        · have : i = vs.length := by omega
          subst this
          rw [decide_eq_false (by omega), if_neg Bool.false_ne_true, List.drop_length]
          rfl
    have hk := key fuel 0 (Nat.zero_le _) (by unfold fuel; omega)
    rw [List.drop_zero] at hk
    unfold zc7
    by_cases h1 : 1 < vs.length
    · rw [decide_eq_true (show 1 < (vs.length : Int) by omega), decide_eq_true h1]; rfl
    · rw [decide_eq_false (show ¬ 1 < (vs.length : Int) by omega), decide_eq_false h1, if_neg Bool.false_ne_true, Bool.false_or]
      cases decide ((vs.length : Int) < h.Minor) with
      | true => rfl
      | false => exact hk
theorem zn1 (h : api_Head) (hl : h.Fields.length < 1000000000) (hs : zfa 400000000 h.Fields) : zhl h = some (zha h) := by
  unfold zhl zha
  rw [zn0 h hl hs, Option.bind_some]
  by_cases h1 : 100 < h.Fields.length
  · rw [decide_eq_true (show 100 < (h.Fields.length : Int) by omega), decide_eq_true h1]; rfl
  · rw [decide_eq_false (show ¬ 100 < (h.Fields.length : Int) by omega), decide_eq_false h1]
    cases zkT h <;> rfl
structure GoodH (h : api_Head) : Prop where
  kind : h.Kind = 1 ∨ h.Kind = 2
  minor : h.Minor = 0 ∨ h.Minor = 1
theorem hostE (x : Str) : (zb2 x).2 = 0 ∨ (zb2 x).2 = 27 := by
  unfold zb2
  split
  · exact .inl rfl
  · split
    · exact .inr rfl
    · split
      · exact .inl rfl
      · exact .inr rfl
theorem zm7 (h : api_Head) (hg : GoodH h) (hl : h.Fields.length < 1000000000) (hs : zfa 400000000 h.Fields) : zgD h = some (zha h) := by
  unfold zgD zha
  by_cases h1 : 100 < h.Fields.length
  · rw [decide_eq_true (show 100 < (h.Fields.length : Int) by omega), decide_eq_true h1]; rfl
  · rw [decide_eq_false (show ¬ 100 < (h.Fields.length : Int) by omega), decide_eq_false h1, if_neg Bool.false_ne_true, if_neg Bool.false_ne_true]
    unfold zkT
    rcases hg.kind with hk | hk
    · rw [hk]
      show ((zeL h.Fields [104, 111, 115, 116]).bind _) = _
      rw [zmj _ _ (by decide) hl (zlX (by decide) hs), Option.bind_some]
      have hvm : ∀ v ∈ zeU h, v.length < 400000000 := fun v hv => by
        obtain ⟨f, hf, rfl⟩ := List.mem_map.1 hv
        exact (hs f (List.mem_filter.1 hf).1).2
      show (if decide (1 < ((zeU h).length : Int)) = true then zat (zeU h) true else if (h.Minor == 1) = true then zat (zeU h) (((zeU h).length : Int) == 0) else zat (zeU h) false) = some (if (if decide (1 < (zeU h).length) || decide (((zeU h).length : Int) < h.Minor) then false else (zeU h).all (fun x => x == [] || (zb2 x).2 == 0)) = true then (0 : Int) else 27)
      generalize zeU h = vs at hvm
      match vs, hvm with
      | [], _ => rcases hg.minor with hm | hm <;> rw [hm] <;> rfl
      | [x], hvm =>
        have hx := hvm x (List.mem_cons_self ..)
        have j : zat [x] false = some (if ([x] : List Str).all (fun x => x == [] || (zb2 x).2 == 0) then 0 else 27) := by
          unfold zat zex
          show (if (!(x == [])) = true then (zdv x).bind _ else _) = _
          rw [zhf x hx, Option.bind_some, List.all_cons, List.all_nil, Bool.and_true]
          cases hx0 : x == [] with
          | true => rfl
          | false =>
            rcases hostE x with h | h <;> rw [h] <;> rfl
        have e1 : ∀ m : Int, m = 0 ∨ m = 1 → decide ((([x] : List Str).length : Int) < m) = false := fun m h => by
          rcases h with h | h <;> rw [h] <;> rfl
        rw [e1 _ hg.minor]
        show (if (h.Minor == 1) = true then zat [x] false else zat [x] false) = some (if ([x] : List Str).all (fun x => x == [] || (zb2 x).2 == 0) = true then (0 : Int) else 27)
        rw [j]
        cases h.Minor == 1 <;> cases ([x] : List Str).all (fun x => x == [] || (zb2 x).2 == 0) <;> rfl
      | x :: y :: l, _ =>
        have e1 : decide (1 < ((x :: y :: l : List Str).length : Int)) = true := decide_eq_true (by simp only [List.length_cons]; omega)
        have e2 : decide (1 < (x :: y :: l : List Str).length) = true := decide_eq_true (by simp)
        rw [e1, e2]; rfl
    · rw [hk]; rfl
theorem zm8 {k : Int} {s : Str} {x : api_Head} (h : zbE k s = (x, 0)) : GoodH x := by
  have hb := zsb h
  rcases znp h with ⟨hk, h⟩ | ⟨hk, h⟩
  · refine ⟨.inl (hb.kind.trans hk), ?_⟩
    rcases znq s with (h1 | h1) | ⟨h1, h2⟩
    · rw [h1] at h; exact absurd (show (26 : Int) = 0 from congrArg Prod.snd h) (by decide)
    · rw [h1] at h; exact absurd (show (20 : Int) = 0 from congrArg Prod.snd h) (by decide)
    · obtain ⟨v, _, _, _, _, _, k1, k2, k3, _⟩ := zkv h1
      rw [h2] at h
      have hx := congrArg Prod.fst h
      dsimp only at hx
      rw [← hx]
      dsimp only
      rw [k3]
      rcases zhc k1 k2 with ⟨_, e⟩ | ⟨_, e⟩
      · exact .inl e
      · exact .inr e
  · refine ⟨.inr (hb.kind.trans hk), ?_⟩
    unfold zne at h
    split at h
    · exact absurd (show (26 : Int) = 0 from congrArg Prod.snd h) (by decide)
    · split at h
      · rename_i h1
        obtain ⟨b, w, r, e1, e2, _, _⟩ := ziA h1
        have hx := congrArg Prod.fst h
        dsimp only at hx
        rw [← hx]
        dsimp only
        rw [e2, zp6 b _ e1]
        rcases e1 with e | e <;> subst e
        · exact .inl rfl
        · exact .inr rfl
      · exact absurd (show (20 : Int) = 0 from congrArg Prod.snd h) (by decide)
def zjg (h : api_Head) (f : api_Field) : api_Head := ⟨h.Kind, h.Method, h.Target, h.Code, h.Reason, h.Minor, h.Fields ++ [f]⟩
def zdp : api_Head → List Str → api_Head × Int
  | h, [] => if zha h == 0 then (h, 0) else (zz, zha h)
  | h, l :: ls => if (zbC l).2 == 0 then zdp (zjg h (zbC l).1) ls else (zz, (zbC l).2)
def zhH (k : Int) : List Str → api_Head × Int
  | [] => (zz, 6)
  | l :: ls => if (zbE k l).2 == 0 then zdp (zbE k l).1 ls else (zz, (zbE k l).2)
def zdq (k : Int) (s : Str) (lim : Int) : api_Head × Int :=
  if !(k == 1) && !(k == 2) then (zz, 1) else if decide (lim < (s.length : Int)) then (zz, 3) else match zaq [13, 10, 13, 10] s with
  | none => (zz, 6)
  | some p => if p.2 == [] then zhH k (lines p.1) else (zz, 6)
theorem zqX (l : Str) : (zbC l).1.Name.length ≤ l.length ∧ (zbC l).1.Value.length ≤ l.length := by
  unfold zbC
  have h1 := zpC (upto [58] l)
  have h2 := ziu [58] l
  have h3 := zpC ((zaf [58] l).drop 1)
  have h4 := congrArg List.length (zbH [58] l)
  simp only [List.length_append] at h4
  simp only [List.length_drop] at h3
  split
  · simp [zcL]
  · split
    · simp [zcL]
    · split
      · simp [zcL]
      · split
        · simp [zcL]
        · split
          · simp [zcL]
          · dsimp only; omega
theorem zor {h : api_Head} (hg : GoodH h) (f : api_Field) : GoodH (zjg h f) := ⟨hg.kind, hg.minor⟩
theorem zkt {h : api_Head} {l : Str} (hs : zfa 400000000 h.Fields) (hl : l.length < 400000000) : zfa 400000000 (zjg h (zbC l).1).Fields := by
  intro f hf
  rcases List.mem_append.1 hf with h1 | h1
  · exact hs f h1
  · have := zqX l
    have e : f = (zbC l).1 := by simpa using h1
    rw [e]; omega
theorem zqY (h : api_Head) (hl : h.Fields.length < 1000000000) (hs : zfa 400000000 h.Fields) : ze0 h.Kind h.Method h.Target h.Code h.Reason h.Minor h.Fields = some (zdp h []) := by
  unfold ze0
  rw [zn1 _ hl hs, Option.bind_some, zdp]
  cases zha h == 0 <;> rfl
theorem zm9 (ls : List Str) (hln : ls.length < 100000000) (hls : ∀ l ∈ ls, l.length < 400000000) : ∀ (n i : Nat) (h : api_Head), i ≤ ls.length → ls.length - i < n → zfa 400000000 h.Fields → h.Fields.length ≤ i →
    zc8 ls n h.Kind h.Method h.Target h.Code h.Reason h.Minor h.Fields (i : Int) = some (zdp h (ls.drop i))
  | 0, _, _, _, h, _, _ => by omega
  | n + 1, i, h, hi, hn, hs, hfl => by
    rw [zc8]
    by_cases hlt : i < ls.length
    · have g : ls[i]? = some ls[i] := List.getElem?_eq_getElem hlt
      have hsm := hls ls[i] (List.getElem_mem _)
      have ih := zm9 ls hln hls n (i + 1) (zjg h (zbC ls[i]).1) (by omega) (by omega) (zkt hs hsm) (by unfold zjg; simp; omega)
      rw [decide_eq_true (show (i : Int) < (ls.length : Int) by omega), if_pos rfl, zc1, g, Option.bind_some, zg9 _ (by omega), Option.bind_some, if_pos (zfS (by omega) (by omega)), zr (by omega), Option.bind_some, List.drop_eq_getElem_cons hlt, zdp]
      cases (zbC ls[i]).2 == 0 with
      | false => rfl
      | true => exact ih
    · have : i = ls.length := by omega
      subst this
      rw [decide_eq_false (by omega), if_neg Bool.false_ne_true, List.drop_length]
      exact zqY h (by omega) hs
theorem zos (k : Int) : ((zbE k []).2 == 1) = (!(k == 1) && !(k == 2)) := by
  unfold zbE
  cases h1 : k == 1 with
  | true => rfl
  | false =>
    cases h2 : k == 2 with
    | true => rfl
    | false => rfl
theorem zqZ (k : Int) (h : (!(k == 1) && !(k == 2)) = true) : (zbE k []).2 = 1 := by
  have := zos k
  rw [h] at this
  simpa using this
theorem zn2 (k : Int) (s : Str) (lim : Int) (hs : s.length < 90000000) : zhm k s lim = some (zdq k s lim) := by
  unfold zhm zdq
  rw [zfc k [] (by decide), Option.bind_some, zos]
  cases hk : (!(k == 1) && !(k == 2)) with
  | true => rw [if_pos rfl, if_pos rfl, zqZ k hk]; rfl
  | false =>
    rw [if_neg Bool.false_ne_true, if_neg Bool.false_ne_true, zkS s _ (by omega) (by decide), Option.bind_some]
    cases decide (lim < (s.length : Int)) with
    | true => rfl
    | false =>
      rw [if_neg Bool.false_ne_true, if_neg Bool.false_ne_true]
      have j1t : ∀ r, zdR k s r true = some (zz, 6) := fun r => rfl
      cases hc : zaq [13, 10, 13, 10] s with
      | none => exact j1t (-1)
      | some p =>
        have e := zbu (a := p.1) (b := p.2) hc
        have el := congrArg List.length e
        simp only [List.length_append, List.length_cons, List.length_nil] at el
        have a4 : zE (p.1.length : Int) 4 = some ((p.1.length + 4 : Nat) : Int) := by rw [za1 (by omega) (by omega)]; exact congrArg some (by omega)
        dsimp only
        rw [decide_eq_false (show ¬ (p.1.length : Int) < 0 by omega), if_neg Bool.false_ne_true, a4, Option.bind_some]
        cases hp : p.2 == [] with
        | false =>
          have hne : p.2 ≠ [] := by simpa using hp
          have hpl : 0 < p.2.length := List.length_pos_iff.2 hne
          have : (((p.1.length + 4 : Nat) : Int) == (s.length : Int)) = false := beq_eq_false_iff_ne.2 (by omega)
          rw [this]
          exact j1t _
        | true =>
          have hp0 : p.2 = [] := by simpa using hp
          rw [hp0] at el
          simp only [List.length_nil] at el
          have : (((p.1.length + 4 : Nat) : Int) == (s.length : Int)) = true := by rw [beq_iff_eq]; omega
          rw [this, Bool.not_true, if_pos rfl]
          unfold zdR
          have st : s.take p.1.length = p.1 := by rw [e, List.append_assoc, List.take_left']; rfl
          rw [if_neg Bool.false_ne_true, zdC (by omega), Option.bind_some, st, zks _ (by omega), Option.bind_some]
          obtain ⟨m1, m2⟩ := zls _ p.1 (Nat.lt_succ_self _)
          cases hl : lines p.1 with
          | nil => exact absurd hl (zkR _)
          | cons l ls =>
            rw [hl] at m1 m2
            have hll := m2 l (List.mem_cons_self ..)
            rw [ztf, List.getElem?_cons_zero, Option.bind_some, zfc k l (by omega), Option.bind_some, zhH]
            cases h0 : (zbE k l).2 == 0 with
            | false => rfl
            | true =>
              have hf : zp3 (l :: ls) 1 = some ls := by
                unfold zp3
                rw [if_pos ⟨by decide, by simp only [List.length_cons]; omega⟩]
                rfl
              rw [Bool.not_true, if_neg Bool.false_ne_true, hf, Option.bind_some, if_pos rfl]
              have hfs := zgV k l
              have := zm9 ls (by simp only [List.length_cons] at m1; omega) (fun x hx => by have := m2 x (List.mem_cons_of_mem _ hx); omega) fuel 0 (zbE k l).1 (Nat.zero_le _) (by simp only [List.length_cons] at m1; unfold fuel; omega) (by rw [hfs]; intro f hf; cases hf) (by rw [hfs]; simp)
              rw [List.drop_zero] at this
              exact this
def zhb (s : Str) (a b : Nat) : Str := (s.take b).drop a
theorem zot (s : Str) (a : Nat) : zhb s a a = [] := by unfold zhb; simp
theorem zna (s : Str) (a b : Nat) : (zhb s a b).length ≤ s.length := by unfold zhb; simp; omega
theorem zr4 {s : Str} {a i : Nat} (hai : a ≤ i) (hi : i < s.length) : zhb s a (i + 1) = zhb s a i ++ [s[i]] := by
  unfold zhb
  rw [List.take_succ_eq_append_getElem hi, List.drop_append_of_le_length (by simp; omega)]
theorem zqf (h : api_Head) (hg : GoodH h) (hl : h.Fields.length < 1000000000) (hs : zfa 400000000 h.Fields) : zey h.Kind h.Method h.Target h.Code h.Reason h.Minor h.Fields = some (zdp h []) := by
  unfold zey
  rw [zm7 _ ⟨hg.kind, hg.minor⟩ hl hs, Option.bind_some, zdp]
  cases zha h == 0 <;> rfl
theorem zs6 {T s : Str} (hsT : s = T ++ [13, 10, 13, 10]) {i : Nat} (hi : i ≤ T.length) : ∃ x y, s[i]? = some x ∧ s[i + 1]? = some y ∧ zeC s (i : Int) ((i + 2 : Nat) : Int) = some [x, y] := by
  have hl := congrArg List.length hsT
  simp only [List.length_append, List.length_cons, List.length_nil] at hl
  have g0 : s[i]? = some s[i] := List.getElem?_eq_getElem (by omega)
  have g1 : s[i + 1]? = some s[i + 1] := List.getElem?_eq_getElem (by omega)
  refine ⟨_, _, g0, g1, ?_⟩
  rw [zc2 (by omega) (by omega), ← List.take_drop, List.drop_eq_getElem_cons (show i < s.length by omega), List.drop_eq_getElem_cons (show i + 1 < s.length by omega)]
  rfl
theorem zrz {k : Int} {T s : Str} (hsT : s = T ++ [13, 10, 13, 10]) (hs : s.length < 90000000) {i : Nat} (hi : i ≤ T.length) (n : Nat) (first : Bool) (h : api_Head) (a : Nat) {x y : UInt8} (h0 : s[i]? = some x) (h1 : s[i + 1]? = some y) (hne : (x == 13 && y == 10) = false) :
    zI k s (n + 1) h.Fields h.Kind h.Method h.Target h.Code h.Reason h.Minor first (a : Int) (i : Int) = zI k s n h.Fields h.Kind h.Method h.Target h.Code h.Reason h.Minor first (a : Int) ((i + 1 : Nat) : Int) := by
  have hl := congrArg List.length hsT
  simp only [List.length_append, List.length_cons, List.length_nil] at hl
  obtain ⟨x', y', g0, g1, g2⟩ := zs6 hsT hi
  rw [h0] at g0; cases g0
  rw [h1] at g1; cases g1
  have a3 : zE (i : Int) 3 = some ((i + 3 : Nat) : Int) := by rw [za1 (by omega) (by omega)]; exact congrArg some (by omega)
  have a2 : zE (i : Int) 2 = some ((i + 2 : Nat) : Int) := by rw [za1 (by omega) (by omega)]; exact congrArg some (by omega)
  have hb : (([x, y] : Str) == [13, 10]) = false := by
    show (x == 13 && (y == 10 && true)) = false
    rw [Bool.and_true]; exact hne
  rw [zI, a3, Option.bind_some, decide_eq_true (show ((i + 3 : Nat) : Int) < (s.length : Int) by omega), if_pos rfl, a2, Option.bind_some, g2, Option.bind_some, hb, Bool.not_false, if_pos rfl]
  unfold zcH
  rw [zr (by omega), Option.bind_some]
theorem zrA {k : Int} {T s : Str} (hsT : s = T ++ [13, 10, 13, 10]) (hs : s.length < 90000000) {i : Nat} (hi : i ≤ T.length) (n : Nat) (first : Bool) (h : api_Head) (a : Nat) (ha : a ≤ i) (hf : h.Fields.length < 100000000) (h0 : s[i]? = some 13) (h1 : s[i + 1]? = some 10) :
    zI k s (n + 1) h.Fields h.Kind h.Method h.Target h.Code h.Reason h.Minor first (a : Int) (i : Int) =
      if first then (if (zbE k (zhb s a i)).2 == 0 then (let r := (zbE k (zhb s a i)).1; zI k s n r.Fields r.Kind r.Method r.Target r.Code r.Reason r.Minor false ((i + 2 : Nat) : Int) ((i + 1 : Nat) : Int)) else some (zz, (zbE k (zhb s a i)).2))
      else (if (zbC (zhb s a i)).2 == 0 then (let r := zjg h (zbC (zhb s a i)).1; zI k s n r.Fields r.Kind r.Method r.Target r.Code r.Reason r.Minor false ((i + 2 : Nat) : Int) ((i + 1 : Nat) : Int)) else some (zz, (zbC (zhb s a i)).2)) := by
  have hl := congrArg List.length hsT
  simp only [List.length_append, List.length_cons, List.length_nil] at hl
  obtain ⟨x', y', g0, g1, g2⟩ := zs6 hsT hi
  rw [h0] at g0; cases g0
  rw [h1] at g1; cases g1
  have a3 : zE (i : Int) 3 = some ((i + 3 : Nat) : Int) := by rw [za1 (by omega) (by omega)]; exact congrArg some (by omega)
  have a2 : zE (i : Int) 2 = some ((i + 2 : Nat) : Int) := by rw [za1 (by omega) (by omega)]; exact congrArg some (by omega)
  have hml := zna s a i
  have hsb : zeC s (a : Int) (i : Int) = some (zhb s a i) := zc2 ha (by omega)
  rw [zI, a3, Option.bind_some, decide_eq_true (show ((i + 3 : Nat) : Int) < (s.length : Int) by omega), if_pos rfl, a2, Option.bind_some, g2, Option.bind_some, show (!(([13, 10] : Str) == [13, 10])) = false from rfl, if_neg Bool.false_ne_true, hsb, Option.bind_some, Option.bind_some]
  generalize zhb s a i = m at hml
  rw [zjd k m (by omega), Option.bind_some, zje m (by omega), Option.bind_some, if_pos (zfS (by omega) (by omega))]
  unfold zcH
  rw [zr (by omega), Option.bind_some, Option.bind_some]
  cases first with
  | true => cases (zbE k m).2 == 0 <;> rfl
  | false => cases (zbC m).2 == 0 <;> rfl
theorem zs7 {k : Int} {T s : Str} (hsT : s = T ++ [13, 10, 13, 10]) (hs : s.length < 90000000) (n : Nat) (h : api_Head) (hg : GoodH h) (hf : h.Fields.length < 100000000) (hsm : zfa 400000000 h.Fields) (a : Int) :
    zI k s (n + 1) h.Fields h.Kind h.Method h.Target h.Code h.Reason h.Minor false a ((T.length + 1 : Nat) : Int) = some (zdp h []) := by
  have hl := congrArg List.length hsT
  simp only [List.length_append, List.length_cons, List.length_nil] at hl
  have a3 : zE ((T.length + 1 : Nat) : Int) 3 = some ((T.length + 4 : Nat) : Int) := by rw [za1 (by omega) (by omega)]; exact congrArg some (by omega)
  rw [zI, a3, Option.bind_some, decide_eq_false (show ¬ ((T.length + 4 : Nat) : Int) < (s.length : Int) by omega), if_neg Bool.false_ne_true]
  exact zqf h hg (by omega) hsm
theorem L3_eq {k : Int} {T s : Str} (hsT : s = T ++ [13, 10, 13, 10]) (hs : s.length < 90000000) : ∀ (d i : Nat), i ≤ T.length → T.length - i ≤ d → ∀ (n : Nat) (first : Bool) (h : api_Head) (a : Nat), T.length - i + 3 ≤ n → a ≤ i → (first = false → GoodH h) → h.Fields.length ≤ i → zfa 400000000 h.Fields →
    zI k s n h.Fields h.Kind h.Method h.Target h.Code h.Reason h.Minor first (a : Int) (i : Int) = some (if first then zhH k (zc4 (zhb s a i) (lines (T.drop i))) else zdp h (zc4 (zhb s a i) (lines (T.drop i)))) := by
  intro d
  have hl := congrArg List.length hsT
  simp only [List.length_append, List.length_cons, List.length_nil] at hl
  induction d with
  | zero =>
    intro i hi hd n first h a hn ha hg hfl hsm
    have hie : i = T.length := by omega
    subst hie
    obtain ⟨n, rfl⟩ : ∃ m, n = m + 2 := ⟨n - 2, by omega⟩
    have h0 : s[T.length]? = some 13 := by rw [hsT]; simp
    have h1 : s[T.length + 1]? = some 10 := by rw [hsT]; simp
    have hml := zna s a T.length
    rw [zrA hsT hs (Nat.le_refl _) (n + 1) first h a ha (by omega) h0 h1, List.drop_length]
    show _ = some (if first = true then zhH k [zhb s a T.length ++ []] else zdp h [zhb s a T.length ++ []])
    rw [List.append_nil]
    generalize zhb s a T.length = m at hml
    cases first with
    | true =>
      rw [if_pos rfl, if_pos rfl, zhH]
      cases h0 : (zbE k m).2 == 0 with
      | false => rfl
      | true =>
        rw [if_pos rfl, if_pos rfl]
        have hfs := zgV k m
        have hgx : GoodH (zbE k m).1 := zm8 (k := k) (s := m) (by rw [show (0 : Int) = (zbE k m).2 from (by simpa using h0 : (zbE k m).2 = 0).symm])
        exact zs7 hsT hs n _ hgx (by rw [hfs]; decide) (by rw [hfs]; intro f hf; cases hf) _
    | false =>
      rw [if_neg Bool.false_ne_true, if_neg Bool.false_ne_true, zdp]
      cases h0 : (zbC m).2 == 0 with
      | false => rfl
      | true =>
        rw [if_pos rfl, if_pos rfl]
        exact zs7 hsT hs n _ (zor (hg rfl) _) (by unfold zjg; simp; omega) (zkt hsm (by omega)) _
  | succ d ih =>
    intro i hi hd n first h a hn ha hg hfl hsm
    by_cases hie : T.length - i ≤ d
    · exact ih i hi hie n first h a (by omega) ha hg hfl hsm
    · have hlt : i < T.length := by omega
      obtain ⟨n, rfl⟩ : ∃ m, n = m + 1 := ⟨n - 1, by omega⟩
      have hsi : s[i]? = some T[i] := by rw [hsT, List.getElem?_append_left hlt]; exact List.getElem?_eq_getElem hlt
      obtain ⟨y, hy⟩ : ∃ y, s[i + 1]? = some y := ⟨s[i + 1]'(by omega), List.getElem?_eq_getElem _⟩
      have hsi' : s[i]'(by omega) = T[i] := by have := List.getElem?_eq_getElem (show i < s.length by omega); rw [hsi] at this; exact (Option.some.inj this).symm
      by_cases hc : (T[i] == 13 && y == 10) = true
      · -- a line's end
        have hc' := hc
        simp only [Bool.and_eq_true, beq_iff_eq] at hc'
        obtain ⟨c1, c2⟩ := hc'
        have h0 : s[i]? = some 13 := by rw [hsi, c1]
        have h1 : s[i + 1]? = some 10 := by rw [hy, c2]
        have hlt2 : i + 1 < T.length := by
          by_cases hh : i + 1 < T.length
          · exact hh
          · exfalso
            have e : i + 1 = T.length := by omega
            rw [e, hsT, List.getElem?_append_right (Nat.le_refl _)] at h1
            simp at h1
        have hT1 : T[i + 1] = 10 := by
          have : s[i + 1]? = some T[i + 1] := by rw [hsT, List.getElem?_append_left hlt2]; exact List.getElem?_eq_getElem hlt2
          rw [h1] at this; exact (Option.some.inj this).symm
        have hlines : lines (T.drop i) = [] :: lines (T.drop (i + 2)) := by
          rw [List.drop_eq_getElem_cons hlt, List.drop_eq_getElem_cons hlt2, zjO, c1, hT1]; rfl
        obtain ⟨n, rfl⟩ : ∃ m, n = m + 1 := ⟨n - 1, by omega⟩
        have hml := zna s a i
        rw [zrA hsT hs hi (n + 1) first h a ha (by omega) h0 h1, hlines]
        show _ = some (if first = true then zhH k ((zhb s a i ++ []) :: lines (T.drop (i + 2))) else zdp h ((zhb s a i ++ []) :: lines (T.drop (i + 2))))
        rw [List.append_nil]
        generalize zhb s a i = m at hml
        -- behind it
        have nxt : ∀ r : api_Head, GoodH r → r.Fields.length ≤ i + 1 → zfa 400000000 r.Fields → zI k s (n + 1) r.Fields r.Kind r.Method r.Target r.Code r.Reason r.Minor false ((i + 2 : Nat) : Int) ((i + 1 : Nat) : Int) = some (zdp r (lines (T.drop (i + 2)))) := by
          intro r hgr hrl hrs
          obtain ⟨z, hz⟩ : ∃ z, s[i + 1 + 1]? = some z := ⟨s[i + 1 + 1]'(by omega), List.getElem?_eq_getElem _⟩
          rw [zrz hsT hs (by omega) n false r (i + 2) h1 hz (by rfl)]
          have := ih (i + 2) (by omega) (by omega) n false r (i + 2) (by omega) (Nat.le_refl _) (fun _ => hgr) (by omega) hrs
          rw [zot, zg4 _ (zkR _), if_neg Bool.false_ne_true] at this
          exact this
        cases first with
        | true =>
          rw [if_pos rfl, if_pos rfl, zhH]
          cases h0 : (zbE k m).2 == 0 with
          | false => rfl
          | true =>
            rw [if_pos rfl, if_pos rfl]
            have hfs := zgV k m
            have hgx : GoodH (zbE k m).1 := zm8 (k := k) (s := m) (by rw [show (0 : Int) = (zbE k m).2 from (by simpa using h0 : (zbE k m).2 = 0).symm])
            exact nxt _ hgx (by rw [hfs]; simp) (by rw [hfs]; intro f hf; cases hf)
        | false =>
          rw [if_neg Bool.false_ne_true, if_neg Bool.false_ne_true, zdp]
          cases h0 : (zbC m).2 == 0 with
          | false => rfl
          | true =>
            rw [if_pos rfl, if_pos rfl]
            exact nxt _ (zor (hg rfl) _) (by unfold zjg; simp; omega) (zkt hsm (by omega))
      · have hc' : (T[i] == 13 && y == 10) = false := by simpa using hc
        rw [zrz hsT hs hi n first h a hsi hy hc']
        have := ih (i + 1) (by omega) (by omega) n first h a (by omega) (by omega) hg (by omega) hsm
        rw [this, zr4 ha (by omega), hsi']
        have hlines : lines (T.drop i) = zc4 [T[i]] (lines (T.drop (i + 1))) := by
          rw [List.drop_eq_getElem_cons hlt]
          by_cases hlt2 : i + 1 < T.length
          · have hy2 : y = T[i + 1] := by
              have : s[i + 1]? = some T[i + 1] := by rw [hsT, List.getElem?_append_left hlt2]; exact List.getElem?_eq_getElem hlt2
              rw [hy] at this; exact Option.some.inj this
            rw [List.drop_eq_getElem_cons hlt2, zjO, ← hy2, hc', if_neg Bool.false_ne_true]
          · have : T.drop (i + 1) = [] := List.drop_of_length_le (by omega)
            rw [this]; rfl
        rw [hlines, zhV _ _ _ (zkR _)]
theorem znb (k : Int) (s : Str) (lim : Int) (hs : s.length < 90000000) : zgE k s lim = some (zdq k s lim) := by
  have j1 : zdm k s lim (!(k == 1) && !(k == 2)) = some (zdq k s lim) := by
    unfold zdm zdq
    cases hk : (!(k == 1) && !(k == 2)) with
    | true => rfl
    | false =>
      rw [if_neg Bool.false_ne_true, if_neg Bool.false_ne_true]
      cases decide (lim < (s.length : Int)) with
      | true => rfl
      | false =>
        rw [if_neg Bool.false_ne_true, if_neg Bool.false_ne_true, zpe s (by omega), Option.bind_some]
        have j2t : zdl k s true = some (zz, 6) := rfl
        by_cases h4 : s.length < 4
        · rw [decide_eq_true (show (s.length : Int) < 4 by omega), if_pos rfl, j2t, zl3 (by simpa using h4)]
        · rw [decide_eq_false (show ¬ (s.length : Int) < 4 by omega), if_neg Bool.false_ne_true]
          cases hc : zaq [13, 10, 13, 10] s with
          | none =>
            have : ((-1 : Int) == (s.length : Int)) = false := beq_eq_false_iff_ne.2 (by omega)
            dsimp only
            rw [this]
            exact j2t
          | some p =>
            have e := zbu (a := p.1) (b := p.2) hc
            have el := congrArg List.length e
            simp only [List.length_append, List.length_cons, List.length_nil] at el
            dsimp only
            cases hp : p.2 == [] with
            | false =>
              have hne : p.2 ≠ [] := by simpa using hp
              have hpl : 0 < p.2.length := List.length_pos_iff.2 hne
              have : (((p.1.length + 4 : Nat) : Int) == (s.length : Int)) = false := beq_eq_false_iff_ne.2 (by omega)
              rw [this]
              exact j2t
            | true =>
              have hp0 : p.2 = [] := by simpa using hp
              rw [hp0] at el
              rw [hp0, List.append_nil] at e
              simp only [List.length_nil] at el
              have : (((p.1.length + 4 : Nat) : Int) == (s.length : Int)) = true := by rw [beq_iff_eq]; omega
              rw [this, Bool.not_true, if_pos rfl]
              unfold zdl
              rw [if_neg Bool.false_ne_true]
              have := L3_eq (k := k) e hs p.1.length 0 (Nat.zero_le _) (by omega) fuel true zz 0 (by unfold fuel; omega) (Nat.le_refl _) (fun h => by cases h) (Nat.le_refl _) (fun f hf => by cases hf)
              rw [zot, List.drop_zero, zg4 _ (zkR _), if_pos rfl] at this
              exact this
  unfold zgE
  cases h1 : k == 1 with
  | true => rw [h1] at j1; exact j1
  | false => rw [h1] at j1; exact j1
theorem zou : ∀ (ls : List Str) (h : api_Head), (zdp h ls).1.Fields.length ≤ h.Fields.length + ls.length
  | [], h => by
    rw [zdp]
    split
    · simp
    · simp [zz]
  | l :: ls, h => by
    rw [zdp]
    split
    · have := zou ls (zjg h (zbC l).1)
      have e : (zjg h (zbC l).1).Fields.length = h.Fields.length + 1 := by unfold zjg; simp
      simp only [List.length_cons]
      omega
    · simp [zz]
theorem zr5 (k : Int) (s : Str) (lim : Int) : (zdq k s lim).1.Fields.length ≤ s.length + 1 := by
  unfold zdq
  split
  · simp [zz]
  · split
    · simp [zz]
    · cases hc : zaq [13, 10, 13, 10] s with
      | none => simp [zz]
      | some p =>
        have el := congrArg List.length (zbu (a := p.1) (b := p.2) hc)
        simp only [List.length_append, List.length_cons, List.length_nil] at el
        dsimp only
        split
        · have hm := (zls _ p.1 (Nat.lt_succ_self _)).1
          cases hl : lines p.1 with
          | nil => simp [zhH, zz]
          | cons l ls =>
            rw [hl] at hm
            simp only [List.length_cons] at hm
            rw [zhH]
            split
            · have := zou ls (zbE k l).1
              rw [zgV] at this
              simp only [List.length_nil] at this
              omega
            · simp [zz]
        · simp [zz]
theorem zq0 {k : Int} {s : Str} {lim : Int} (h : ((zdq k s lim).2 == 0) = false) : (zdq k s lim).1 = zz := by
  have pF : ∀ (ls : List Str) (h : api_Head), ((zdp h ls).2 == 0) = false → (zdp h ls).1 = zz := by
    intro ls
    induction ls with
    | nil =>
      intro h hh
      rw [zdp] at hh ⊢
      split
      · rename_i h1; rw [if_pos h1] at hh; cases hh
      · rfl
    | cons l ls ih =>
      intro h hh
      rw [zdp] at hh ⊢
      split
      · rename_i h1; rw [if_pos h1] at hh; exact ih _ hh
      · rfl
  unfold zdq at h ⊢
  split
  · rfl
  · rename_i h1
    rw [if_neg h1] at h
    split
    · rfl
    · rename_i h2
      rw [if_neg h2] at h
      split
      · rfl
      · rename_i p hp
        rw [hp] at h
        dsimp only at h
        split
        · rename_i h3
          rw [if_pos h3] at h
          cases hl : lines p.1 with
          | nil => rfl
          | cons l ls =>
            rw [hl] at h
            rw [zhH] at h ⊢
            split
            · rename_i h4; rw [if_pos h4] at h; exact pF _ _ h
            · rfl
        · rfl
end Go.Dm
end
section
namespace Go.Dm
theorem zmR : zhJ = some true := by decide +kernel
structure StepR where
  w : Bool
  e : Int
  v : Str
  f : Nat
  g : api_Head
def zgu (u : Str) (frm : Nat) : Str := (u.take (u.length - 1)).drop frm
def zjT (u : Str) : Bool := u[u.length - 1]? == some 13
def zap (k L : Int) (u : Str) (frm : Nat) (g : api_Head) (c : UInt8) : StepR :=
  if decide (L ≤ (u.length : Int)) then ⟨false, 3, u, frm, g⟩
  else if !((c == 10) == zjT u) then ⟨false, 24, u ++ [c], frm, g⟩
  else if !(c == 10) then ⟨false, 0, u ++ [c], frm, g⟩
  else if frm == 0 then ⟨false, (zbE k (zgu u frm)).2, u ++ [c], u.length + 1, g⟩
  else if !(zgu u frm == []) then ⟨false, (zbC (zgu u frm)).2, u ++ [c], u.length + 1, g⟩
  else ⟨(zdq k (u ++ [c]) L).2 == 0, (zdq k (u ++ [c]) L).2, u ++ [c], frm, (zdq k (u ++ [c]) L).1⟩
def zko (u : Str) (frm : Nat) : Prop := frm ≤ u.length ∧ (0 < u.length → frm = u.length → u[u.length - 1]? = some 10)
theorem zmS {u : Str} (h : zjT u = true) : 0 < u.length ∧ u[u.length - 1]? = some 13 := by
  unfold zjT at h
  have : u[u.length - 1]? = some 13 := by simpa using h
  refine ⟨?_, this⟩
  cases u with
  | nil => cases this
  | cons c u => simp
theorem zsO {u : Str} {frm : Nat} (hi : zko u frm) (h : zjT u = true) : frm ≤ u.length - 1 := by
  obtain ⟨h1, h2⟩ := zmS h
  by_cases he : frm = u.length
  · have := hi.2 h1 he
    rw [h2] at this; cases this
  · have := hi.1; omega
theorem zuf (k L : Int) (u : Str) (c : UInt8) (f : Int) (t : Bool) (b : Int) (w : Bool) (g : api_Head) (hu : u.length < 80000000) : zdc ⟨k, L, u ++ [c], f, t, b, w, g⟩ = some (!((c == 10) == zjT u)) := by
  have hl : ((u ++ [c]).length : Int) = (u.length : Int) + 1 := by simp
  have j1 : ∀ q, zbv ⟨k, L, u ++ [c], f, t, b, w, g⟩ q = some (!((c == 10) == q)) := by
    intro q
    unfold zbv
    dsimp only
    have e1 : zdb ((u ++ [c]).length : Int) 1 = some (u.length : Int) := by rw [hl, zcn (by omega) (by omega)]; exact congrArg some (by omega)
    rw [e1, Option.bind_some, zc1, show (u ++ [c])[u.length]? = some c by simp, Option.bind_some]
  unfold zdc
  dsimp only
  by_cases h : 0 < u.length
  · have e2 : zdb ((u ++ [c]).length : Int) 2 = some ((u.length - 1 : Nat) : Int) := by rw [hl, zcn (by omega) (by omega)]; exact congrArg some (by omega)
    have g2 : u[u.length - 1]? = some (u[u.length - 1]'(by omega)) := List.getElem?_eq_getElem (by omega)
    have g1 : (u ++ [c])[u.length - 1]? = some (u[u.length - 1]'(by omega)) := by rw [List.getElem?_append_left (by omega), g2]
    rw [decide_eq_true (show 1 < ((u ++ [c]).length : Int) by omega), if_pos rfl, e2, Option.bind_some, zc1, g1, Option.bind_some, j1]
    unfold zjT
    rw [g2, znk]
  · have hu0 : u = [] := List.length_eq_zero_iff.1 (by omega)
    subst hu0
    rw [decide_eq_false (by simp), if_neg Bool.false_ne_true, j1]
    rfl
theorem zug (k L : Int) (v : Str) (f : Nat) (t : Bool) (b : Int) (w : Bool) (g : api_Head) (s : Str) (hv : v.length < 80000000) (hs : s.length < 80000000) :
    zdh ⟨k, L, v, (f : Int), t, b, w, g⟩ s = some (if f == 0 then (false, (zbE k s).2, ⟨k, L, v, (v.length : Int), t, b, w, g⟩) else if !(s == []) then (false, (zbC s).2, ⟨k, L, v, (v.length : Int), t, b, w, g⟩) else ((zdq k v L).2 == 0, (zdq k v L).2, (⟨k, L, v, (f : Int), t, b, w, (zdq k v L).1⟩ : accum_Accum))) := by
  unfold zdh zcd
  dsimp only
  have hf : ((f : Int) == 0) = (f == 0) := by rw [Bool.eq_iff_iff]; simp
  rw [hf, zfc k s (by omega), Option.bind_some, zg9 s (by omega), Option.bind_some, zn2 k v L (by omega), Option.bind_some]
  cases f == 0 <;> cases s == [] <;> rfl
theorem zuh (k L : Int) (u : Str) (f : Nat) (t : Bool) (b : Int) (w : Bool) (g : api_Head) (c : UInt8) (hu : u.length < 70000000) (hi : zko u f) :
    zcv ⟨k, L, u, (f : Int), t, b, w, g⟩ c = some ((zap k L u f g c).w, (zap k L u f g c).e, ⟨k, L, (zap k L u f g c).v, ((zap k L u f g c).f : Int), t, b, w, (zap k L u f g c).g⟩) := by
  unfold zcv zap
  dsimp only
  cases decide (L ≤ (u.length : Int)) with
  | true => rfl
  | false =>
    rw [if_neg Bool.false_ne_true, if_neg Bool.false_ne_true, if_pos (zfS (by omega) (by omega)), zuf k L u c _ _ _ _ _ (by omega), Option.bind_some]
    cases hb : !((c == 10) == zjT u) with
    | true => rfl
    | false =>
      rw [if_neg Bool.false_ne_true, if_neg Bool.false_ne_true]
      cases hc : c == 10 with
      | false => rfl
      | true =>
        rw [hc] at hb
        have h13 : zjT u = true := by cases h : zjT u with
          | true => rfl
          | false => rw [h] at hb; cases hb
        obtain ⟨hp, _⟩ := zmS h13
        have hf := zsO hi h13
        have hl : ((u ++ [c]).length : Int) = (u.length : Int) + 1 := by simp
        have e2 : zdb ((u ++ [c]).length : Int) 2 = some ((u.length - 1 : Nat) : Int) := by rw [hl, zcn (by omega) (by omega)]; exact congrArg some (by omega)
        have e3 : lSub (u ++ [c]) (f : Int) ((u.length - 1 : Nat) : Int) = some (zgu u f) := by
          have := zc2 (l := u ++ [c]) (i := f) (h := u.length - 1) hf (by simp; omega)
          have hta : (u ++ [c]).take (u.length - 1) = u.take (u.length - 1) := List.take_append_of_le_length (by omega)
          unfold zeC at this
          unfold lSub zgu
          rw [← hta]
          exact this
        have hll : (zgu u f).length ≤ u.length := by unfold zgu; simp; omega
        rw [Bool.not_true, if_neg Bool.false_ne_true, if_neg Bool.false_ne_true, e2, Option.bind_some, e3, Option.bind_some, zug k L _ f t b w g _ (by simp; omega) (by omega), Option.bind_some]
        have hn : (u ++ [c]).length = u.length + 1 := by simp
        rw [hn]
        cases f == 0 <;> cases zgu u f == [] <;> rfl
theorem zmv {k L : Int} {u : Str} {f : Nat} {g : api_Head} {c : UInt8} (hi : zko u f) (hw : ((zap k L u f g c).w || !((zap k L u f g c).e == 0)) = false) :
    (zap k L u f g c).v = u ++ [c] ∧ (zap k L u f g c).g = g ∧ zko (u ++ [c]) (zap k L u f g c).f ∧ (u.length : Int) < L := by
  have key : ∀ f', f' ≤ u.length → zko (u ++ [c]) f' := fun f' h => ⟨by simp; omega, fun _ h2 => by simp at h2; omega⟩
  have key2 : c = 10 → zko (u ++ [c]) (u.length + 1) := fun h => ⟨by simp, fun _ _ => by rw [h]; simp⟩
  unfold zap at hw ⊢
  cases hL : decide (L ≤ (u.length : Int)) with
  | true => rw [hL, if_pos rfl] at hw; cases hw
  | false =>
    have hL' : (u.length : Int) < L := by have := of_decide_eq_false hL; omega
    rw [hL, if_neg Bool.false_ne_true] at hw
    rw [if_neg Bool.false_ne_true]
    cases hb : !((c == 10) == zjT u) with
    | true => rw [hb, if_pos rfl] at hw; cases hw
    | false =>
      rw [hb, if_neg Bool.false_ne_true] at hw
      rw [if_neg Bool.false_ne_true]
      cases hc : c == 10 with
      | false => exact ⟨rfl, rfl, key f hi.1, hL'⟩
      | true =>
        have hc' : c = 10 := by simpa using hc
        rw [hc, Bool.not_true, if_neg Bool.false_ne_true] at hw
        rw [Bool.not_true, if_neg Bool.false_ne_true]
        cases h0 : f == 0 with
        | true => exact ⟨rfl, rfl, key2 hc', hL'⟩
        | false =>
          rw [h0, if_neg Bool.false_ne_true] at hw
          rw [if_neg Bool.false_ne_true]
          cases hl : !(zgu u f == []) with
          | true => exact ⟨rfl, rfl, key2 hc', hL'⟩
          | false =>
            rw [hl, if_neg Bool.false_ne_true] at hw
            exfalso
            dsimp only at hw
            cases hh : (zdq k (u ++ [c]) L).2 == 0 with
            | true => rw [hh] at hw; cases hw
            | false => rw [hh] at hw; cases hw
theorem zsP {k L : Int} {u : Str} {f : Nat} {g : api_Head} {c : UInt8} (hw : ((zap k L u f g c).w || !((zap k L u f g c).e == 0)) = true) :
    (zap k L u f g c).w = ((zap k L u f g c).e == 0) ∧ ((zap k L u f g c).w = true → zdq k (u ++ [c]) L = ((zap k L u f g c).g, 0)) ∧ ((zap k L u f g c).w = false → g = zz → (zap k L u f g c).g = zz) ∧ (zap k L u f g c).g.Fields.length ≤ g.Fields.length + u.length + 2 := by
  have nz : ∀ {e : Int}, ((false : Bool) || !(e == 0)) = true → (false : Bool) = (e == 0) := fun {e} h => by
    cases he : e == 0 with
    | true => rw [he] at h; cases h
    | false => rfl
  unfold zap at hw ⊢
  split
  · exact ⟨rfl, (fun h => by cases h), (fun _ h => h), by dsimp only; omega⟩
  · rename_i h1
    rw [if_neg h1] at hw
    split
    · exact ⟨rfl, (fun h => by cases h), (fun _ h => h), by dsimp only; omega⟩
    · rename_i h2
      rw [if_neg h2] at hw
      split
      · rename_i h3; rw [if_pos h3] at hw; cases hw
      · rename_i h3
        rw [if_neg h3] at hw
        split
        · rename_i h4; rw [if_pos h4] at hw; exact ⟨nz hw, (fun h => by cases h), (fun _ h => h), by dsimp only; omega⟩
        · rename_i h4
          rw [if_neg h4] at hw
          split
          · rename_i h5; rw [if_pos h5] at hw; exact ⟨nz hw, (fun h => by cases h), (fun _ h => h), by dsimp only; omega⟩
          · have hl := zr5 k (u ++ [c]) L
            refine ⟨rfl, fun h => ?_, fun h _ => zq0 h, ?_⟩
            · have : (zdq k (u ++ [c]) L).2 = 0 := by simpa using h
              exact Prod.ext rfl this
            · dsimp only; simp only [List.length_append, List.length_cons, List.length_nil] at hl; omega
def zc5 (k L : Int) (g : api_Head) : Str → Str → Nat → Nat → Option (Nat × StepR) × Nat
  | [], _, f, _ => (none, f)
  | c :: r, u, f, i => if (zap k L u f g c).w || !((zap k L u f g c).e == 0) then (some (i + 1, zap k L u f g c), f) else zc5 k L g r (u ++ [c]) (zap k L u f g c).f (i + 1)
def feedR (k L : Int) (g : api_Head) (u : Str) (f : Nat) (t : Bool) (s : Str) : Int × Bool × Int × accum_Accum := match zc5 k L g s u f 0 with
  | (some z, _) => ((z.1 : Int), z.2.w, z.2.e, ⟨k, L, [], (z.2.f : Int), true, z.2.e, z.2.w, z.2.g⟩)
  | (none, f') => ((s.length : Int), false, 0, ⟨k, L, u ++ s, (f' : Int), t || !(s == []), 0, false, g⟩)
theorem zmT (k L : Int) (g : api_Head) (s : Str) (hs : s.length < 30000000) : ∀ (r : Str) (n i : Nat) (u : Str) (f : Nat) (t : Bool), s.drop i = r → i ≤ s.length → r.length < n → u.length + r.length < 60000000 → zko u f →
    z7 s n k L u (f : Int) t 0 false g.Kind g.Method g.Target g.Code g.Reason g.Minor g.Fields (i : Int) = some (match zc5 k L g r u f i with
      | (some z, _) => ((z.1 : Int), z.2.w, z.2.e, ⟨k, L, [], (z.2.f : Int), true, z.2.e, z.2.w, z.2.g⟩)
      | (none, f') => ((s.length : Int), false, 0, ⟨k, L, u ++ r, (f' : Int), t || !(r == []), 0, false, g⟩))
  | [], n, i, u, f, t, hd, hi, hn, hu, hv => by
    obtain ⟨n, rfl⟩ : ∃ m, n = m + 1 := ⟨n - 1, by simp at hn; omega⟩
    have : i = s.length := by have := congrArg List.length hd; simp at this; omega
    subst this
    rw [z7, decide_eq_false (by omega), if_neg Bool.false_ne_true]
    unfold zc9 zc5
    dsimp only
    rw [List.append_nil, show (([] : Str) == []) = true from rfl, Bool.not_true, Bool.or_false]
  | c :: r, n, i, u, f, t, hd, hi, hn, hu, hv => by
    simp only [List.length_cons] at hn hu
    obtain ⟨n, rfl⟩ : ∃ m, n = m + 1 := ⟨n - 1, by omega⟩
    obtain ⟨hlt, hdr⟩ := ziN hd
    have hg : s[i]? = some c := by have := congrArg (·[0]?) hd; simpa using this
    have ht := zuh k L u f true 0 false g c (by omega) hv
    rw [z7, decide_eq_true (by omega), if_pos rfl, zZ, hg, Option.bind_some]
    show ((zcv ⟨k, L, u, (f : Int), true, 0, false, g⟩ c).bind _) = _
    rw [ht, Option.bind_some, zc5]
    have hon := fun h => zmv (k := k) (L := L) (g := g) (c := c) hv h
    generalize zap k L u f g c = q at hon
    obtain ⟨qw, qe, qv, qf, qg⟩ := q
    dsimp only at hon ⊢
    unfold zce
    dsimp only
    cases qw with
    | true =>
      rw [Bool.true_or, if_pos rfl, if_pos rfl, if_pos rfl, zr (by omega), Option.bind_some]
    | false =>
      cases h0 : qe == 0 with
      | false =>
        rw [Bool.false_or, Bool.not_false, if_pos rfl, if_neg Bool.false_ne_true, if_pos rfl, zr (by omega), Option.bind_some]
      | true =>
        have he : qe = 0 := by simpa using h0
        subst he
        obtain ⟨h1, h2, h3, _⟩ := hon (by rfl)
        subst h1
        subst h2
        rw [Bool.false_or, Bool.not_true, if_neg Bool.false_ne_true, if_neg Bool.false_ne_true, if_neg Bool.false_ne_true, zr (by omega), Option.bind_some]
        have ih := zmT k L qg s hs r n (i + 1) (u ++ [c]) qf true hdr (by omega) (by omega) (by simp; omega) h3
        rw [ih]
        have e1 : u ++ [c] ++ r = u ++ c :: r := by simp
        have e2 : ((true : Bool) || !(r == [])) = (t || !((c :: r : Str) == [])) := by
          have : ((c :: r : Str) == []) = false := rfl
          rw [this]; cases t <;> rfl
        rw [e1, e2]
theorem zui (k L : Int) (g : api_Head) (u : Str) (f : Nat) (t : Bool) (s : Str) (hs : s.length < 30000000) (hu : u.length < 30000000) (hi : zko u f) : zak ⟨k, L, u, (f : Int), t, 0, false, g⟩ s = some (feedR k L g u f t s) := by
  unfold zak zbw
  exact zmT k L g s hs s fuel 0 u f t rfl (Nat.zero_le _) (by unfold fuel; omega) (by omega) hi
theorem zsQ (a : accum_Accum) (s : Str) (h : (!(a.f_bad == 0) || a.f_whole) = true) : zak a s = some (0, false, 8, a) := by
  unfold zak zbw
  cases hb : a.f_bad == 0 with
  | false => rfl
  | true =>
    rw [hb, Bool.not_true, Bool.false_or] at h
    rw [h]; rfl
theorem zkJ (k L : Int) (g : api_Head) (y : Str) : ∀ (x u : Str) (f i : Nat), zc5 k L g (x ++ y) u f i = match zc5 k L g x u f i with
    | (some z, f') => (some z, f')
    | (none, f') => zc5 k L g y (u ++ x) f' (i + x.length)
  | [], u, f, i => by rw [List.nil_append, zc5]; simp
  | c :: x, u, f, i => by
    rw [List.cons_append, zc5, zc5]
    split
    · rfl
    · rw [zkJ k L g y x, List.append_assoc, List.singleton_append, List.length_cons, show i + 1 + x.length = i + (x.length + 1) by omega]
theorem zmU (k L : Int) (g : api_Head) (j : Nat) : ∀ (x u : Str) (f i : Nat), zc5 k L g x u f (i + j) = ((zc5 k L g x u f i).1.map fun z => (z.1 + j, z.2), (zc5 k L g x u f i).2)
  | [], u, f, i => rfl
  | c :: x, u, f, i => by
    rw [zc5, zc5]
    split
    · show (some (i + j + 1, _), _) = (some (i + 1 + j, _), _)
      rw [show i + j + 1 = i + 1 + j by omega]
    · rw [show i + j + 1 = i + 1 + j by omega, zmU k L g j x]
theorem zlm {k L : Int} {g : api_Head} : ∀ {s u : Str} {f i : Nat} {z : Nat × StepR} {f' : Nat}, zko u f → zc5 k L g s u f i = (some z, f') →
    i < z.1 ∧ z.1 ≤ i + s.length ∧ z.2.w = (z.2.e == 0) ∧ (z.2.w = true → zdq k ((u ++ s).take (u.length + (z.1 - i))) L = (z.2.g, 0)) ∧ (z.2.w = false → g = zz → z.2.g = zz) ∧ z.2.g.Fields.length ≤ g.Fields.length + u.length + s.length + 2
  | [], u, f, i, z, f', _, h => by cases h
  | c :: s, u, f, i, z, f', hi, h => by
    rw [zc5] at h
    cases hw : (zap k L u f g c).w || !((zap k L u f g c).e == 0) with
    | true =>
      rw [hw, if_pos rfl] at h
      have hz := congrArg Prod.fst h
      dsimp only at hz
      obtain rfl := Option.some.inj hz
      obtain ⟨a, b, c', d⟩ := zsP hw
      refine ⟨by dsimp only; omega, by dsimp only [List.length_cons]; omega, a, fun h => ?_, c', by simp only [List.length_cons]; omega⟩
      have e : (u ++ c :: s).take (u.length + (i + 1 - i)) = u ++ [c] := by
        rw [show u.length + (i + 1 - i) = (u ++ [c]).length by simp, show u ++ c :: s = (u ++ [c]) ++ s by simp, List.take_left']; rfl
      dsimp only
      rw [e]
      exact b h
    | false =>
      rw [hw, if_neg Bool.false_ne_true] at h
      obtain ⟨_, _, h3, _⟩ := zmv hi hw
      obtain ⟨a, b, c', d, e', l'⟩ := zlm h3 h
      refine ⟨by omega, by simp only [List.length_cons]; omega, c', fun hh => ?_, e', by simp only [List.length_append, List.length_cons, List.length_nil] at l' ⊢; omega⟩
      have := d hh
      rw [show u ++ [c] ++ s = u ++ c :: s by simp, show (u ++ [c]).length + (z.1 - (i + 1)) = u.length + (z.1 - i) by simp; omega] at this
      exact this
theorem zok {k L : Int} {g : api_Head} : ∀ {s u : Str} {f i f' : Nat}, zko u f → zc5 k L g s u f i = (none, f') → zko (u ++ s) f' ∧ (s ≠ [] → ((u ++ s).length : Int) ≤ L)
  | [], u, f, i, f', hi, h => by
    have := congrArg Prod.snd h
    rw [zc5] at this
    dsimp only at this
    rw [List.append_nil, ← this]
    exact ⟨hi, fun h => absurd rfl h⟩
  | c :: s, u, f, i, f', hi, h => by
    rw [zc5] at h
    cases hw : (zap k L u f g c).w || !((zap k L u f g c).e == 0) with
    | true =>
      rw [hw, if_pos rfl] at h
      cases congrArg Prod.fst h
    | false =>
      rw [hw, if_neg Bool.false_ne_true] at h
      obtain ⟨_, _, h3, h4⟩ := zmv hi hw
      have := zok h3 h
      rw [List.append_assoc, List.singleton_append] at this
      refine ⟨this.1, fun _ => ?_⟩
      cases s with
      | nil => simp only [List.length_append, List.length_cons, List.length_nil]; omega
      | cons d s => exact this.2 (by simp)
theorem zpS : zko [] 0 := ⟨Nat.le_refl _, fun h => absurd h (by decide)⟩
theorem zsR (s : Str) (by_ : List UInt8) (hs : s.length < 100000) (hb : by_.length < 1000000000) : ∃ l, zid s by_ = some l ∧ l.flatten = s ∧ l.length ≤ 61 := by
  unfold zid
  have key : ∀ (n i : Nat) (r : Str) (out : List Str), i ≤ by_.length → i ≤ 60 → 60 - i < n → out.length = i → r.length < 100000 → ∃ l, zbP by_ n r out (i : Int) = some l ∧ l.flatten = out.flatten ++ r ∧ l.length ≤ 61 := by
    intro n
    induction n with
    | zero => intro i r out _ _ h; omega
    | succ n ih =>
      intro i r out hi h60 hn ho hr
      rw [zbP]
      have fin : zdx (zbP by_ n) by_ r out (i : Int) false = some (out ++ [r]) := by
        unfold zdx
        rw [if_neg Bool.false_ne_true, if_pos (zfS (by omega) (by omega))]
      by_cases hlt : i < by_.length
      · rw [decide_eq_true (show (i : Int) < (by_.length : Int) by omega), if_pos rfl]
        by_cases h6 : i < 60
        · have g : by_[i]? = some by_[i] := List.getElem?_eq_getElem hlt
          have hmin : ∃ m : Nat, min (((by_[i] % 17).toNat : Int)) (r.length : Int) = (m : Int) ∧ m ≤ r.length := ⟨min (by_[i] % 17).toNat r.length, by omega, by omega⟩
          obtain ⟨m, hm, hml⟩ := hmin
          unfold zdx
          rw [decide_eq_true (show (i : Int) < 60 by omega), if_pos rfl, zc1, g, Option.bind_some, hm, zdC hml, Option.bind_some, if_pos (zfS (by omega) (by omega)), zan hml, Option.bind_some, zr (by omega), Option.bind_some]
          obtain ⟨l, e1, e2, e3⟩ := ih (i + 1) (r.drop m) (out ++ [r.take m]) (by omega) (by omega) (by omega) (by simp; omega) (by simp; omega)
          exact ⟨l, e1, by rw [e2]; simp, e3⟩
        · rw [decide_eq_false (show ¬ (i : Int) < 60 by omega), fin]
          exact ⟨_, rfl, by simp, by simp; omega⟩
      · rw [decide_eq_false (show ¬ (i : Int) < (by_.length : Int) by omega), if_neg Bool.false_ne_true, fin]
        exact ⟨_, rfl, by simp, by simp; omega⟩
  have := key fuel 0 s [] (Nat.zero_le _) (by omega) (by unfold fuel; omega) rfl hs
  simpa using this
theorem New_eq (k L : Int) : zgY k L = some (if !((k == 1) || (k == 2)) || decide (L < 0) || decide (65536 < L) then (none, 1) else (some ⟨k, L, [], 0, false, 0, false, zz⟩, 0)) := by
  unfold zgY zcS
  cases k == 1 <;> cases k == 2 <;> cases decide (L < 0) <;> cases decide (65536 < L) <;> rfl
def zlT (a : accum_Accum) : api_Head × Bool := if a.f_whole then (a.f_got, true) else (zz, false)
theorem zuj (a : accum_Accum) (h : a.f_got.Fields.length < 1000000) : zbM a = some (zlT a) := by
  unfold zbM zlT
  cases a.f_whole with
  | false => rfl
  | true => rw [Bool.not_true, if_neg Bool.false_ne_true, if_pos rfl, if_pos (zfS (by omega) (by omega))]
end Go.Dm
end
section
namespace Go.Dm
theorem zpV (k : Int) (s : Str) : 0 ≤ (zbE k s).2 ∧ (zbE k s).2 ≤ 100 := by
  unfold zbE zlt zne
  repeat' split
  all_goals (constructor <;> dsimp only <;> omega)
theorem zol (s : Str) : 0 ≤ (zbC s).2 ∧ (zbC s).2 ≤ 100 := by
  unfold zbC
  repeat' split
  all_goals (constructor <;> dsimp only <;> omega)
theorem zrZ (h : api_Head) : 0 ≤ zha h ∧ zha h ≤ 100 := by
  unfold zha
  repeat' split
  all_goals omega
theorem zpW : ∀ (ls : List Str) (h : api_Head), 0 ≤ (zdp h ls).2 ∧ (zdp h ls).2 ≤ 100
  | [], h => by
    rw [zdp]
    split
    · constructor <;> dsimp only <;> omega
    · exact zrZ h
  | l :: ls, h => by
    rw [zdp]
    split
    · exact zpW ls _
    · exact zol l
theorem zsS (k : Int) (ls : List Str) : 0 ≤ (zhH k ls).2 ∧ (zhH k ls).2 ≤ 100 := by
  cases ls with
  | nil => rw [zhH]; constructor <;> dsimp only <;> omega
  | cons l ls =>
    rw [zhH]
    split
    · exact zpW ls _
    · exact zpV k l
theorem zsT (k : Int) (s : Str) (L : Int) : 0 ≤ (zdq k s L).2 ∧ (zdq k s L).2 ≤ 100 := by
  unfold zdq
  split
  · constructor <;> dsimp only <;> omega
  · split
    · constructor <;> dsimp only <;> omega
    · split
      · constructor <;> dsimp only <;> omega
      · split
        · exact zsS k _
        · constructor <;> dsimp only <;> omega
theorem zsU (k L : Int) (u : Str) (f : Nat) (g : api_Head) (c : UInt8) : 0 ≤ (zap k L u f g c).e ∧ (zap k L u f g c).e ≤ 100 := by
  unfold zap
  split
  · constructor <;> dsimp only <;> omega
  · split
    · constructor <;> dsimp only <;> omega
    · split
      · constructor <;> dsimp only <;> omega
      · split
        · exact zpV k _
        · split
          · exact zol _
          · exact zsT k _ L
theorem zrw (k L : Int) (g : api_Head) : ∀ (s u : Str) (f i : Nat) (z : Nat × StepR) (f' : Nat), zc5 k L g s u f i = (some z, f') → 0 ≤ z.2.e ∧ z.2.e ≤ 100
  | [], u, f, i, z, f', h => by cases h
  | c :: s, u, f, i, z, f', h => by
    rw [zc5] at h
    split at h
    · cases h; exact zsU ..
    · exact zrw k L g s _ _ _ z f' h

def zi9 : Option (Nat × StepR) × Nat → ref16_Fate
  | (some z, _) => ⟨(z.1 : Int), z.2.e, z.2.g⟩
  | (none, _) => ⟨0, 0, zz⟩
theorem zpX (k L : Int) (s : Str) (hs : s.length < 80000) : ∀ (r : Str) (n i f : Nat), s.drop i = r → i ≤ s.length → r.length < n → zko (s.take i) f →
    zaK k L s n (f : Int) (i : Int) = some (zi9 (zc5 k L zz r (s.take i) f i)) := by
  intro r
  induction r with
  | nil =>
    intro n i f hd hi hn _
    have hl : i = s.length := by have := congrArg List.length hd; simp at this; omega
    obtain ⟨n, rfl⟩ : ∃ m, n = m + 1 := ⟨n - 1, by simp at hn; omega⟩
    rw [zaK, decide_eq_false (show ¬ (i : Int) < (s.length : Int) by omega), if_neg Bool.false_ne_true]
    rfl
  | cons c r ihr =>
    intro n i f hd hi hn hv
    have hlt : i < s.length := by have := congrArg List.length hd; simp at this; omega
    have hg : s[i]? = some c := by have := congrArg (·[0]?) hd; simpa using this
    have hn' : r.length + 1 < n := by simpa using hn
    obtain ⟨n, rfl⟩ : ∃ m, n = m + 1 := ⟨n - 1, by omega⟩
    have hul : (s.take i).length = i := by simp; omega
    have htk : s.take (i + 1) = s.take i ++ [c] := by rw [List.take_add_one, hg]; rfl
    have hdr : s.drop (i + 1) = r := by rw [← List.drop_drop, hd]; rfl
    have ih : ∀ f', zko (s.take i ++ [c]) f' → zaK k L s n (f' : Int) ((i + 1 : Nat) : Int) = some (zi9 (zc5 k L zz r (s.take i ++ [c]) f' (i + 1))) := fun f' hv' => by
      rw [← htk] at hv' ⊢
      exact ihr n (i + 1) f' hdr (by omega) (by omega) hv'
    rw [zaK, decide_eq_true (show (i : Int) < (s.length : Int) by omega), if_pos rfl, zc5]
    generalize hrec : zaK k L s n = rec at ih ⊢
    have hon : ∀ f', zap k L (s.take i) f zz c = ⟨false, 0, s.take i ++ [c], f', zz⟩ → rec (f' : Int) ((i + 1 : Nat) : Int) = some (zi9 (if (zap k L (s.take i) f zz c).w || !((zap k L (s.take i) f zz c).e == 0) then (some (i + 1, zap k L (s.take i) f zz c), f) else zc5 k L zz r (s.take i ++ [c]) (zap k L (s.take i) f zz c).f (i + 1))) := fun f' h => by
      have hi2 := (zmv (k := k) (L := L) (g := zz) (c := c) hv (by rw [h]; rfl)).2.2.1
      rw [h] at hi2 ⊢
      exact ih f' hi2
    have hoff : ∀ e g', zap k L (s.take i) f zz c = ⟨e == 0, e, s.take i ++ [c], f, g'⟩ ∨ (∃ u' f', e ≠ 0 ∧ zap k L (s.take i) f zz c = ⟨false, e, u', f', g'⟩) → some ((⟨((i + 1 : Nat) : Int), e, g'⟩ : ref16_Fate)) = some (zi9 (if (zap k L (s.take i) f zz c).w || !((zap k L (s.take i) f zz c).e == 0) then (some (i + 1, zap k L (s.take i) f zz c), f) else zc5 k L zz r (s.take i ++ [c]) (zap k L (s.take i) f zz c).f (i + 1))) := fun e g' h => by
      rcases h with h | ⟨u', f', he, h⟩
      · rw [h]; cases e == 0 <;> rfl
      · rw [h]
        have : (e == 0) = false := beq_eq_false_iff_ne.2 he
        dsimp only
        rw [this]; rfl
    by_cases hL : L ≤ (i : Int)
    · rw [decide_eq_true hL, if_pos rfl, zr (by omega), Option.bind_some]
      exact hoff 3 zz (.inr ⟨_, _, by decide, by unfold zap; rw [hul, decide_eq_true hL, if_pos rfl]⟩)
    · rw [decide_eq_false hL, if_neg Bool.false_ne_true]
      have h13 : ∀ (X : Bool → Option ref16_Fate), (if decide ((0 : Int) < (i : Int)) = true then ((zdb (i : Int) 1).bind fun i16 => (sAt s i16).bind fun b17 => X (b17 == 13)) else X false) = X (zjT (s.take i)) := fun X => by
        unfold zjT
        rw [hul]
        by_cases h0 : 0 < i
        · have hp : i - 1 < s.length := by omega
          rw [decide_eq_true (show (0 : Int) < (i : Int) by omega), if_pos rfl, zcn (by omega) (by omega), Option.bind_some, show (i : Int) - 1 = ((i - 1 : Nat) : Int) by omega, zZ, List.getElem?_eq_getElem hp, Option.bind_some, List.getElem?_take, if_pos (by omega), List.getElem?_eq_getElem hp]
          congr 1
        · obtain rfl : i = 0 := by omega
          rw [decide_eq_false (by omega), if_neg Bool.false_ne_true]
          rfl
      rw [h13 (fun t => zez rec k L s (f : Int) (i : Int) t)]
      have hj2 : ∀ t, zez rec k L s (f : Int) (i : Int) t = zcY rec k L s (f : Int) (i : Int) (!((c == 10) == t)) := fun t => by
        unfold zez
        simp only [zZ, hg, Option.bind_some]
        have b1 : ∀ t, (!(true == t)) = !t := by decide
        have b2 : ∀ t, (!(false == t)) = t := by decide
        cases c == 10 with
        | true =>
          rw [b1, if_pos rfl, Bool.not_true, if_neg Bool.false_ne_true]
          cases t with
          | true => rw [Bool.not_true, if_neg Bool.false_ne_true]
          | false => rw [Bool.not_false, if_pos rfl]
        | false => rw [b2, if_neg Bool.false_ne_true, Bool.not_false, if_pos rfl]
      rw [hj2]
      unfold zcY
      have hsA : zap k L (s.take i) f zz c = if !((c == 10) == zjT (s.take i)) then ⟨false, 24, s.take i ++ [c], f, zz⟩
          else if !(c == 10) then ⟨false, 0, s.take i ++ [c], f, zz⟩
          else if f == 0 then ⟨false, (zbE k (zgu (s.take i) f)).2, s.take i ++ [c], (s.take i).length + 1, zz⟩
          else if !(zgu (s.take i) f == []) then ⟨false, (zbC (zgu (s.take i) f)).2, s.take i ++ [c], (s.take i).length + 1, zz⟩
          else ⟨(zdq k (s.take i ++ [c]) L).2 == 0, (zdq k (s.take i ++ [c]) L).2, s.take i ++ [c], f, (zdq k (s.take i ++ [c]) L).1⟩ := by
        conv => lhs; unfold zap
        rw [hul, decide_eq_false hL, if_neg Bool.false_ne_true]
      cases hb : !((c == 10) == zjT (s.take i)) with
      | true =>
        rw [if_pos rfl, zr (by omega), Option.bind_some]
        exact hoff 24 zz (.inr ⟨_, _, by decide, by rw [hsA, hb, if_pos rfl]⟩)
      | false =>
        rw [if_neg Bool.false_ne_true, zZ, hg, Option.bind_some]
        rw [hb, if_neg Bool.false_ne_true] at hsA
        cases hc : c == 10 with
        | false =>
          rw [hc, Bool.not_false, if_pos rfl] at hsA
          rw [Bool.not_false, if_pos rfl]
          unfold zfu
          rw [zr (by omega), Option.bind_some]
          exact hon f hsA
        | true =>
          rw [hc] at hb
          rw [hc, Bool.not_true, if_neg Bool.false_ne_true] at hsA
          have h13t : zjT (s.take i) = true := by cases h : zjT (s.take i) with
            | true => rfl
            | false => rw [h] at hb; cases hb
          obtain ⟨hp, _⟩ := zmS h13t
          have hf := zsO hv h13t
          rw [hul] at hp hf
          have e3 : zeC s (f : Int) ((i - 1 : Nat) : Int) = some (zgu (s.take i) f) := by
            rw [zc2 hf (by omega)]
            unfold zgu
            rw [hul, List.take_take, Nat.min_eq_left (by omega)]
          have hll : (zgu (s.take i) f).length ≤ s.length := by unfold zgu; simp; omega
          rw [Bool.not_true, if_neg Bool.false_ne_true, zcn (by omega) (by omega), Option.bind_some, show (i : Int) - 1 = ((i - 1 : Nat) : Int) by omega, e3, Option.bind_some]
          have j4 : ∀ e : Int, zap k L (s.take i) f zz c = ⟨false, e, s.take i ++ [c], (s.take i).length + 1, zz⟩ → zfv rec (i : Int) e = some (zi9 (if (zap k L (s.take i) f zz c).w || !((zap k L (s.take i) f zz c).e == 0) then (some (i + 1, zap k L (s.take i) f zz c), f) else zc5 k L zz r (s.take i ++ [c]) (zap k L (s.take i) f zz c).f (i + 1))) := fun e h => by
            unfold zfv
            cases he : e == 0 with
            | false =>
              rw [Bool.not_false, if_pos rfl, zr (by omega), Option.bind_some]
              exact hoff e zz (.inr ⟨_, _, beq_eq_false_iff_ne.1 he, h⟩)
            | true =>
              obtain rfl : e = 0 := by simpa using he
              rw [Bool.not_true, if_neg Bool.false_ne_true, zr (by omega), Option.bind_some]
              unfold zfu
              rw [zr (by omega), Option.bind_some]
              rw [hul] at h
              exact hon (i + 1) h
          have hfz : ((f : Int) == 0) = (f == 0) := by rw [Bool.eq_iff_iff, beq_iff_eq, beq_iff_eq]; omega
          rw [hfz]
          cases hf0 : f == 0 with
          | true =>
            rw [hf0, if_pos rfl] at hsA
            rw [if_pos rfl, zjd _ _ (by omega), Option.bind_some]
            exact j4 _ hsA
          | false =>
            rw [hf0, if_neg Bool.false_ne_true] at hsA
            rw [if_neg Bool.false_ne_true]
            cases hle : zgu (s.take i) f == [] with
            | false =>
              rw [hle, Bool.not_false, if_pos rfl] at hsA
              rw [Bool.not_false, if_pos rfl, zje _ (by omega), Option.bind_some]
              exact j4 _ hsA
            | true =>
              rw [hle, Bool.not_true, if_neg Bool.false_ne_true] at hsA
              rw [Bool.not_true, if_neg Bool.false_ne_true, zr (by omega), Option.bind_some, zdC (by omega), Option.bind_some, htk, znb _ _ _ (by simp; omega), Option.bind_some, Option.bind_some]
              exact hoff _ _ (.inl hsA)
theorem zpY (k L : Int) (s : Str) (hs : s.length < 80000) : zkX k L s = some (zi9 (zc5 k L zz s [] 0 0)) :=
  zpX k L s hs s fuel 0 0 rfl (Nat.zero_le _) (by unfold fuel; omega) zpS

def zlU (L : Int) (want : ref16_Fate) (l : List Str) (n : Nat) (a : accum_Accum) (m i : Int) : Option Bool :=
  zs L want l n a.f_kind a.f_limit a.f_buf a.f_from a.f_took a.f_bad a.f_whole a.f_got.Kind a.f_got.Method a.f_got.Target a.f_got.Code a.f_got.Reason a.f_got.Minor a.f_got.Fields m i
theorem zln (L : Int) (want : ref16_Fate) (l : List Str) (n : Nat) (a : accum_Accum) (m : Int) (i : Nat) (x : Str) (r : Int × Bool × Int × accum_Accum) (hx : l[i]? = some x) (hr : zak a x = some r) :
    zlU L want l (n + 1) a m (i : Int) = zaB (zs L want l n) L want l m (i : Int) r (decide (0 < want.At) && decide (want.At ≤ m)) := by
  have hlt : i < l.length := (List.getElem?_eq_some_iff.1 hx).1
  unfold zlU
  rw [zs, decide_eq_true (show (i : Int) < (l.length : Int) by omega), if_pos rfl, zc1, hx, Option.bind_some]
  show (zak a x).bind _ = _
  rw [hr, Option.bind_some]
  cases decide (0 < want.At) <;> rfl
theorem zlo (L : Int) (want : ref16_Fate) (l : List Str) (n i : Nat) (hi : i < 1000) (m : Int) (r : Int × Bool × Int × accum_Accum) :
    zbe (zs L want l n) (i : Int) m r.2.2.2.f_kind r.2.2.2.f_limit r.2.2.2.f_buf r.2.2.2.f_from r.2.2.2.f_took r.2.2.2.f_bad r.2.2.2.f_whole r.2.2.2.f_got.Kind r.2.2.2.f_got.Method r.2.2.2.f_got.Target r.2.2.2.f_got.Code r.2.2.2.f_got.Reason r.2.2.2.f_got.Minor r.2.2.2.f_got.Fields = zlU L want l n r.2.2.2 m ((i + 1 : Nat) : Int) := by
  unfold zbe zlU
  rw [zr (by omega), Option.bind_some]
theorem zpZ (L : Int) (want : ref16_Fate) (l : List Str) (n : Nat) (a : accum_Accum) (m : Int) (hf : a.f_got.Fields.length < 1000000)
    (h1 : (zlT a).2 = (decide (0 < want.At) && (want.Err == 0))) (h2 : (zlT a).1 = want.Head) (hl : want.Head.Fields.length < 1000000) : zlU L want l (n + 1) a m (l.length : Int) = some true := by
  unfold zlU
  rw [zs, decide_eq_false (by omega), if_neg Bool.false_ne_true]
  unfold zcZ
  show (zbM a).bind _ = _
  rw [zuj a hf, Option.bind_some]
  have fin : ∀ t, (zlT a).2 = t → zbh want (zlT a) t = some true := fun t ht => by
    unfold zbh zb1
    rw [ht, beq_self_eq_true, if_pos rfl, h2, zoh _ _ (by omega), Option.bind_some, zru]
  cases hd : decide (0 < want.At) with
  | true => rw [if_pos rfl]; exact fin _ (by rw [h1, hd, Bool.true_and])
  | false => rw [if_neg Bool.false_ne_true]; exact fin _ (by rw [h1, hd, Bool.false_and])
theorem zsV (k L : Int) (z : Nat × StepR) (l : List Str) (hl : l.length ≤ 1000) (hz : 0 < z.1) (hw : z.2.w = (z.2.e == 0)) (hg : z.2.w = false → z.2.g = zz) (hf : z.2.g.Fields.length < 1000000) :
    ∀ (n i : Nat), i ≤ l.length → l.length - i < n → zlU L ⟨(z.1 : Int), z.2.e, z.2.g⟩ l n ⟨k, L, [], (z.2.f : Int), true, z.2.e, z.2.w, z.2.g⟩ (z.1 : Int) (i : Int) = some true := by
  intro n
  induction n with
  | zero => intro i _ h; omega
  | succ n ih =>
    intro i hi h
    by_cases hlt : i < l.length
    · have hx : l[i]? = some l[i] := List.getElem?_eq_getElem hlt
      rw [zln L _ l n _ _ i l[i] _ hx (zsQ _ _ (by dsimp only; rw [hw]; cases z.2.e == 0 <;> rfl))]
      dsimp only
      rw [decide_eq_true (show (0 : Int) < (z.1 : Int) by omega), decide_eq_true (Int.le_refl _)]
      unfold zaB zbx
      dsimp only
      rw [Bool.and_self, if_pos rfl, beq_self_eq_true, Bool.not_true, if_neg Bool.false_ne_true, if_neg Bool.false_ne_true, beq_self_eq_true, Bool.not_true, if_neg Bool.false_ne_true]
      have e := zlo L ⟨(z.1 : Int), z.2.e, z.2.g⟩ l n i (by omega) (z.1 : Int) (0, false, 8, ⟨k, L, [], (z.2.f : Int), true, z.2.e, z.2.w, z.2.g⟩)
      dsimp only at e
      rw [e]
      exact ih (i + 1) (by omega) (by omega)
    · obtain rfl : i = l.length := by omega
      refine zpZ L _ l n _ _ hf ?_ ?_ hf
      · unfold zlT
        dsimp only
        rw [decide_eq_true (show (0 : Int) < (z.1 : Int) by omega), Bool.true_and, ← hw]
        cases z.2.w <;> rfl
      · unfold zlT
        dsimp only
        cases hh : z.2.w with
        | true => rfl
        | false => exact (hg hh).symm
theorem zuk (k L : Int) (s : Str) (l : List Str) (hs : s.length < 80000) (hl : l.length ≤ 1000) (hfl : l.flatten = s) (hL : 0 ≤ L) :
    ∀ (n i : Nat) (p : Str) (f : Nat), i ≤ l.length → l.length - i < n → (l.take i).flatten = p → zc5 k L zz p [] 0 0 = (none, f) → (p.length : Int) ≤ L → zko p f →
      zlU L (zi9 (zc5 k L zz s [] 0 0)) l n ⟨k, L, p, (f : Int), !(p == []), 0, false, zz⟩ (p.length : Int) (i : Int) = some true := by
  intro n
  induction n with
  | zero => intro i p f _ h; omega
  | succ n ih =>
    intro i p f hi h hp hrun hpl hv
    by_cases hlt : i < l.length
    · have hx : l[i]? = some l[i] := List.getElem?_eq_getElem hlt
      have htk : (l.take (i + 1)).flatten = p ++ l[i] := by rw [List.take_add_one, hx, List.flatten_append, hp]; simp
      have hsp : s = (p ++ l[i]) ++ (l.drop (i + 1)).flatten := by rw [← hfl, ← htk, ← List.flatten_append, List.take_append_drop]
      have hlen : p.length + l[i].length ≤ s.length := by rw [hsp]; simp
      have hpx : zc5 k L zz (p ++ l[i]) [] 0 0 = ((zc5 k L zz l[i] p f 0).1.map fun z => (z.1 + p.length, z.2), (zc5 k L zz l[i] p f 0).2) := by
        rw [zkJ, hrun]
        exact zmU k L zz p.length l[i] p f 0
      generalize l[i] = x at hx htk hsp hlen hpx
      have hfe := zui k L zz p f (!(p == [])) x (by omega) (by omega) hv
      unfold feedR at hfe
      rcases hr : zc5 k L zz x p f 0 with ⟨_ | z, f2⟩
      · -- more may come
        rw [hr] at hfe hpx
        have hno := zok hv hr
        have hpx' : zc5 k L zz (p ++ x) [] 0 0 = (none, f2) := hpx
        have hle : ((p ++ x).length : Int) ≤ L := by
          cases x with
          | nil => simpa using hpl
          | cons c x => exact hno.2 (by simp)
        have hat : (0 : Int) < (zi9 (zc5 k L zz s [] 0 0)).At → ((p ++ x).length : Int) < (zi9 (zc5 k L zz s [] 0 0)).At := by
          rw [hsp, zkJ, hpx']
          dsimp only
          rcases hr3 : zc5 k L zz (l.drop (i + 1)).flatten ([] ++ (p ++ x)) f2 (0 + (p ++ x).length) with ⟨_ | z3, f3⟩
          · intro h; exact absurd h (by show ¬ (0 : Int) < 0; omega)
          · intro _
            have := (zlm (by rw [List.nil_append]; exact hno.1) hr3).1
            show ((p ++ x).length : Int) < (z3.1 : Int)
            omega
        generalize hW : zi9 (zc5 k L zz s [] 0 0) = want at hat ih ⊢
        rw [zln L want l n _ _ i x _ hx hfe]
        have c1 : (decide (0 < want.At) && decide (want.At ≤ (p.length : Int))) = false := by
          by_cases h0 : 0 < want.At
          · have := hat h0
            rw [decide_eq_true h0, Bool.true_and, decide_eq_false]
            simp at this; omega
          · rw [decide_eq_false h0, Bool.false_and]
        have hadd : zE (p.length : Int) (x.length : Int) = some ((p ++ x).length : Int) := by rw [za1 (by omega) (by omega)]; simp
        have c2 : (if decide (0 < want.At) = true then ((zE (p.length : Int) (x.length : Int)).bind fun i126 => zai (zs L want l n) L want (p.length : Int) (i : Int) ((x.length : Int), false, 0, ⟨k, L, p ++ x, (f2 : Int), !(p == []) || !(x == []), 0, false, zz⟩) x (decide (want.At ≤ i126))) else zai (zs L want l n) L want (p.length : Int) (i : Int) ((x.length : Int), false, 0, ⟨k, L, p ++ x, (f2 : Int), !(p == []) || !(x == []), 0, false, zz⟩) x false) = zai (zs L want l n) L want (p.length : Int) (i : Int) ((x.length : Int), false, 0, ⟨k, L, p ++ x, (f2 : Int), !(p == []) || !(x == []), 0, false, zz⟩) x false := by
          by_cases h0 : 0 < want.At
          · have := hat h0
            rw [decide_eq_true h0, if_pos rfl, hadd, Option.bind_some, decide_eq_false (by omega)]
          · rw [decide_eq_false h0, if_neg Bool.false_ne_true]
        unfold zaB
        rw [c1, if_neg Bool.false_ne_true, zc1, hx, Option.bind_some, c2]
        unfold zai zbg
        rw [if_neg Bool.false_ne_true, hadd, Option.bind_some, if_neg Bool.false_ne_true]
        have hem : (!(p == []) || !(x == [])) = !(p ++ x == []) := by cases p <;> cases x <;> rfl
        have hem2 : ((!(!(p ++ x == []))) == (((p ++ x).length : Int) == 0)) = true := by
          cases p ++ x with
          | nil => rfl
          | cons c t =>
            have : ((((c :: t : Str).length : Nat) : Int) == 0) = false := beq_eq_false_iff_ne.2 (by simp only [List.length_cons]; omega)
            rw [this]; rfl
        have hmul : zlp want.Err 0 = some 0 := by rw [zmy (by omega) (by omega), Int.mul_zero]
        unfold zbf zF zdn zbp zg2
        dsimp only
        rw [beq_self_eq_true, Bool.not_true, if_neg Bool.false_ne_true, Option.bind_some, beq_self_eq_true, Bool.not_true, if_neg Bool.false_ne_true, decide_eq_false (show ¬ L < ((p ++ x).length : Int) by omega), if_neg Bool.false_ne_true, if_neg Bool.false_ne_true, beq_self_eq_true, Bool.not_true, if_neg Bool.false_ne_true, if_neg Bool.false_ne_true, Option.bind_some, hmul, Option.bind_some, beq_self_eq_true, Bool.not_true, if_neg Bool.false_ne_true, Option.bind_some, hem, hem2, Bool.not_true, if_neg Bool.false_ne_true]
        have e := zlo L want l n i (by omega) ((p ++ x).length : Int) ((x.length : Int), false, 0, ⟨k, L, p ++ x, (f2 : Int), !(p ++ x == []), 0, false, zz⟩)
        dsimp only at e
        rw [e]
        exact ih (i + 1) (p ++ x) f2 (by omega) (by omega) htk hpx' hle hno.1
      · -- its end
        rw [hr] at hfe hpx
        obtain ⟨g1, g2, g3, g4, g5, g6⟩ := zlm hv hr
        have hlo := zrw k L zz x p f 0 z f2 hr
        have hpx' : zc5 k L zz (p ++ x) [] 0 0 = (some (z.1 + p.length, z.2), f2) := hpx
        have hW : zi9 (zc5 k L zz s [] 0 0) = ⟨((z.1 + p.length : Nat) : Int), z.2.e, z.2.g⟩ := by
          rw [hsp, zkJ, hpx']; rfl
        have hz0 : z.2.g.Fields.length < 1000000 := by
          have : zz.Fields.length = 0 := rfl
          omega
        rw [hW, zln L _ l n _ _ i x _ hx hfe]
        have hadd : zE (p.length : Int) (x.length : Int) = some ((p.length + x.length : Nat) : Int) := by rw [za1 (by omega) (by omega)]; simp
        unfold zaB
        dsimp only
        rw [decide_eq_true (show (0 : Int) < ((z.1 + p.length : Nat) : Int) by omega), decide_eq_false (show ¬ ((z.1 + p.length : Nat) : Int) ≤ (p.length : Int) by omega), Bool.true_and, if_neg Bool.false_ne_true, zc1, hx, Option.bind_some, if_pos rfl, hadd, Option.bind_some, decide_eq_true (show ((z.1 + p.length : Nat) : Int) ≤ ((p.length + x.length : Nat) : Int) by omega)]
        unfold zai zbg
        dsimp only
        rw [if_pos rfl, zcn (by omega) (by omega), Option.bind_some, show ((z.1 + p.length : Nat) : Int) - (p.length : Int) = (z.1 : Int) by omega, za1 (by omega) (by omega), Option.bind_some, if_pos rfl, show (p.length : Int) + (z.1 : Int) = ((z.1 + p.length : Nat) : Int) by omega]
        have hmul : zlp z.2.e 1 = some z.2.e := by rw [zmy (by omega) (by omega), Int.mul_one]
        have hzz : (((z.1 + p.length : Nat) : Int) == 0) = false := beq_eq_false_iff_ne.2 (by omega)
        unfold zbf zF zdn zbp zg2
        dsimp only
        have hz1 : ((([] : List UInt8).length : Nat) : Int) = 0 := rfl
        rw [g3, beq_self_eq_true, Bool.not_true, if_neg Bool.false_ne_true, Option.bind_some, hz1, beq_self_eq_true, Bool.not_true, if_neg Bool.false_ne_true, decide_eq_false (show ¬ L < (0 : Int) by omega), if_neg Bool.false_ne_true, if_pos rfl, beq_self_eq_true, Bool.not_true, if_neg Bool.false_ne_true, if_pos rfl, Option.bind_some, hmul, Option.bind_some, beq_self_eq_true, Bool.not_true, if_neg Bool.false_ne_true, Option.bind_some, hzz, show (!(false == false)) = false from rfl, if_neg Bool.false_ne_true]
        have e := zlo L ⟨((z.1 + p.length : Nat) : Int), z.2.e, z.2.g⟩ l n i (by omega) ((z.1 + p.length : Nat) : Int) ((z.1 : Int), z.2.w, z.2.e, ⟨k, L, [], (z.2.f : Int), true, z.2.e, z.2.e == 0, z.2.g⟩)
        dsimp only at e
        rw [e]
        have := zsV k L (z.1 + p.length, z.2) l hl (by dsimp only; omega) g3 (fun h => g5 h rfl) hz0 n (i + 1) (by omega) (by omega)
        dsimp only at this
        rw [g3] at this
        exact this
    · obtain rfl : i = l.length := by omega
      rw [List.take_length, hfl] at hp
      subst hp
      rw [hrun]
      refine zpZ L _ l n _ _ (by show ([] : List api_Field).length < 1000000; decide) ?_ ?_ (by show ([] : List api_Field).length < 1000000; decide)
      · rfl
      · rfl
theorem zmi (kind limit : Int) (both : Str × Str) (_ : inI kind = true) (_ : inI limit = true) : zeM kind limit both = some true := by
  unfold zeM
  obtain ⟨s0, b0⟩ := both
  have c1 : ∀ (s : Str) (m : Nat), m < 100000 → sTo s (min (s.length : Int) (m : Int)) = some (s.take m) := fun s m _ => by
    have : min (s.length : Int) (m : Int) = ((min s.length m : Nat) : Int) := by omega
    rw [this, zdC (by omega)]
    congr 1
    rcases Nat.le_total s.length m with h | h
    · rw [Nat.min_eq_left h, List.take_length, List.take_of_length_le h]
    · rw [Nat.min_eq_right h]
  have hA := c1 s0 3000 (by decide)
  have hB := c1 b0 60 (by decide)
  rw [zmR, Option.bind_some, Bool.not_true, if_neg Bool.false_ne_true]
  dsimp only
  rw [show ((3000 : Nat) : Int) = 3000 from rfl] at hA
  rw [show ((60 : Nat) : Int) = 60 from rfl] at hB
  rw [hA, Option.bind_some, New_eq, Option.bind_some]
  have hs : (s0.take 3000).length < 80000 := by simp; omega
  generalize s0.take 3000 = s at hs
  cases hq : !((kind == 1) || (kind == 2)) || decide (limit < 0) || decide (65536 < limit) with
  | true =>
    rw [if_pos rfl]
    show zcf kind limit 1 = some true
    unfold zcf zaA
    revert hq
    cases kind == 1 <;> cases kind == 2 <;> cases decide (limit < 0) <;> cases decide (65536 < limit) <;> intro hq <;> first | rfl | cases hq
  | false =>
    rw [if_neg Bool.false_ne_true]
    show zcg kind limit (s0, b0) s 0 kind limit [] 0 false 0 false 0 [] [] 0 [] 0 [] = some true
    have hL : 0 ≤ limit := by
      cases h : decide (limit < 0) with
      | true => rw [h] at hq; simp at hq
      | false => simpa using h
    have h5 : zby kind limit (s0, b0) s kind limit [] 0 false 0 false 0 [] [] 0 [] 0 [] false = some true := by
      unfold zby
      obtain ⟨l, e1, e2, e3⟩ := zsR s (b0.take 60) (by omega) (by simp; omega)
      rw [if_neg Bool.false_ne_true, zpY kind limit s hs, Option.bind_some]
      dsimp only
      rw [hB, Option.bind_some, e1, Option.bind_some]
      exact zuk kind limit s l hs (by omega) e2 hL fuel 0 [] 0 (Nat.zero_le _) (by unfold fuel; omega) rfl rfl hL zpS
    have h4 : zaj kind limit (s0, b0) s 0 kind limit [] 0 false 0 false 0 [] [] 0 [] 0 [] false = some true := by
      unfold zaj
      rw [if_neg Bool.false_ne_true]
      exact h5
    unfold zcg
    revert hq
    cases kind == 1 <;> cases kind == 2 <;> cases decide (limit < 0) <;> cases decide (65536 < limit) <;> intro hq <;> first | exact h4 | cases hq
end Go.Dm
end
