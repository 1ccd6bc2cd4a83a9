/-
  First lines: the document's, as the program's; written, and read again.
  First lines written, and read again.
  Blanks at a text's ends. No program in sight.
  Quoted texts, and lists between commas: what they come to. No program in sight.
  Rows of fields: the program's bag, and the document's. No program in sight.
  Two heads are the same just if all that they have is.
  A head's field read: the document's, as the program's.
  Heads read: lines between line ends, then what they are; the document's, as the program's.
-/
import Derived.Test.YtoofmjmnhgdloaaGreatDoorT14P
section
namespace Go.Dm
theorem zqM (c : UInt8) : (!zO c || ((((c - 48).toNat : Int) == 1) == (c == 49))) = true := zM (fun c => !zO c || ((((c - 48).toNat : Int) == 1) == (c == 49))) (by decide +kernel) c
theorem dig_le (c : UInt8) : (!zO c || (decide (((c - 48).toNat : Int) ≤ 1) == (c == 48 || c == 49))) = true := zM (fun c => !zO c || (decide (((c - 48).toNat : Int) ≤ 1) == (c == 48 || c == 49))) (by decide +kernel) c
theorem zpk (a b : UInt8) (t : Str) (ha : zO a = true) (hb : zO b = true) : zeL (za8 ++ a :: 46 :: b :: t) = (((a - 48).toNat : Int), ((b - 48).toNat : Int), true, t) := by
  unfold zeL
  have hp : za8.isPrefixOf (za8 ++ a :: 46 :: b :: t) = true := List.isPrefixOf_iff_prefix.2 ⟨_, rfl⟩
  have hd : (za8 ++ a :: 46 :: b :: t).drop 5 = a :: 46 :: b :: t := rfl
  rw [if_pos hp, hd]
  have e1 : zhb (a :: 46 :: b :: t) = (((a - 48).toNat : Int), true, 46 :: b :: t) := by unfold zhb; dsimp only; rw [if_pos ha]
  have e2 : zhb (b :: t) = (((b - 48).toNat : Int), true, t) := by unfold zhb; dsimp only; rw [if_pos hb]
  rw [e1]
  dsimp only
  rw [zb4, zdA, e2]
  rfl
theorem zrR (a b : UInt8) (ha : zO a = true) (hb : zO b = true) : zbI (za8 ++ [a, 46, b]) = if ([a, 46, b] : Str) == [49, 46, 48] then 0 else if ([a, 46, b] : Str) == [49, 46, 49] then 1 else 2 := by
  unfold zbI
  rw [zpk a b [] ha hb]
  have h1 := zqM a
  have h2 := dig_le b
  rw [ha] at h1
  rw [hb] at h2
  have h1 : (((a - 48).toNat : Int) == 1) = (a == 49) := by simpa using h1
  have h2 : decide (((b - 48).toNat : Int) ≤ 1) = (b == 48 || b == 49) := by simpa using h2
  dsimp only
  rw [h1, h2]
  have e1 : (([a, 46, b] : Str) == [49, 46, 48]) = (a == 49 && b == 48) := by
    simp only [List.cons_beq_cons, beq_self_eq_true, Bool.true_and, Bool.and_true]
  have e2 : (([a, 46, b] : Str) == [49, 46, 49]) = (a == 49 && b == 49) := by
    simp only [List.cons_beq_cons, beq_self_eq_true, Bool.true_and, Bool.and_true]
  rw [e1, e2]
  cases a == 49 with
  | false => rfl
  | true =>
    cases h3 : b == 48 with
    | true => have : b = 48 := by simpa using h3
              subst this; rfl
    | false =>
      cases h4 : b == 49 with
      | true => have : b = 49 := by simpa using h4
                subst this; rfl
      | false => rfl
theorem ziK {u : Str} (h : ∀ a b, u = za8 ++ [a, 46, b] → zO a = true → zO b = true → False) : zbI u = -1 := by
  unfold zbI
  cases hc : (zeL u).2.2.1 && (zeL u).2.2.2 == [] with
  | false => rfl
  | true =>
    exfalso
    simp only [Bool.and_eq_true] at hc
    obtain ⟨a, b, t, e, ha, hb, ev⟩ := zkl hc.1
    rw [ev] at hc
    have ht : t = [] := by simpa using hc.2
    subst ht
    exact h a b e ha hb
theorem zhE (u : Str) (hu : u.length < 1000000000) : zbY u = some (zbI u) := by
  unfold zbY za0
  by_cases h8 : u.length = 8
  · have e8 : ((u.length : Int) == 8) = true := by rw [h8]; rfl
    have t5 := zef (l := u) (h := 5) (by omega)
    have f5 := zag (l := u) (i := 5) (by omega)
    have a5 : sAt u 5 = u[5]? := zab u 5
    have a6 : sAt u 6 = u[6]? := zab u 6
    have a7 : sAt u 7 = u[7]? := zab u 7
    have t5 : sTo u 5 = some (u.take 5) := t5
    have f5 : zbq u 5 = some (u.drop 5) := f5
    rw [e8, Bool.not_true, if_neg (by decide), t5, Option.bind_some, a5, a6, a7, f5, Option.bind_some, Option.bind_some]
    match u, h8 with
    | [c0, c1, c2, c3, c4, a, d, b], _ =>
      show (if (!(([c0, c1, c2, c3, c4] : Str) == za8)) = true then _ else (some a).bind fun b5 => (zcU b5).bind fun r6 => if (!r6) = true then _ else (some d).bind fun b8 => if (!(b8 == 46)) = true then _ else (some b).bind fun b10 => (zcU b10).bind fun r11 => if (!r11) = true then some (-1) else (if (([a, d, b] : Str) == [49, 46, 48]) = true then some 0 else if (([a, d, b] : Str) == [49, 46, 49]) = true then some 1 else some 2)) = _
      simp only [Option.bind_some, zmC]
      cases hp : ([c0, c1, c2, c3, c4] : Str) == za8 with
      | false =>
        rw [ziK (fun x y e _ _ => by
          have := congrArg (List.take 5) e
          rw [show ([c0, c1, c2, c3, c4, a, d, b] : Str).take 5 = [c0, c1, c2, c3, c4] from rfl, show (za8 ++ [x, 46, y]).take 5 = za8 from rfl] at this
          rw [this, beq_self_eq_true] at hp
          cases hp)]
        rfl
      | true =>
        have hp' : ([c0, c1, c2, c3, c4] : Str) = za8 := by simpa using hp
        have hu : ([c0, c1, c2, c3, c4, a, d, b] : Str) = za8 ++ [a, d, b] := by rw [← hp']; rfl
        rw [hu]
        have hinj : ∀ x y, za8 ++ [a, d, b] = za8 ++ [x, 46, y] → a = x ∧ d = 46 ∧ b = y := fun x y e => by
          have := List.append_cancel_left e
          simpa using this
        cases ha : zO a with
        | false => rw [ziK (fun x y e h1 _ => by obtain ⟨rfl, _, _⟩ := hinj x y e; rw [ha] at h1; cases h1)]; rfl
        | true =>
          cases hd : d == 46 with
          | false => rw [ziK (fun x y e _ _ => by obtain ⟨_, h, _⟩ := hinj x y e; rw [h] at hd; exact absurd hd (by decide))]; rfl
          | true =>
            have hd' : d = 46 := by simpa using hd
            subst hd'
            cases hb : zO b with
            | false => rw [ziK (fun x y e _ h2 => by obtain ⟨_, _, rfl⟩ := hinj x y e; rw [hb] at h2; cases h2)]; rfl
            | true =>
              rw [zrR a b ha hb]
              cases ([a, 46, b] : Str) == [49, 46, 48] <;> cases ([a, 46, b] : Str) == [49, 46, 49] <;> rfl
  · have e8 : ((u.length : Int) == 8) = false := beq_eq_false_iff_ne.2 (by omega)
    rw [e8, ziK (fun a b e _ _ => h8 (by rw [e]; rfl))]
    rfl
theorem zpl {s : Str} {c : UInt8} : ∀ {k : Nat}, k ≤ s.length → zf7 s c k = none → c ∉ s.take k
  | 0, _, _ => by simp
  | k + 1, hk, h => by
    rw [zf7] at h
    split at h
    · cases h
    · rename_i h2
      have ih := zpl (by omega) h
      rw [List.take_add_one]
      intro hm
      rcases List.mem_append.1 hm with hm | hm
      · exact ih hm
      · have g : s[k]? = some s[k] := List.getElem?_eq_getElem (by omega)
        rw [g] at hm h2
        have : c = s[k] := by simpa using hm
        exact h2 (by rw [this])
theorem zlk {s : Str} {c : UInt8} : ∀ {k i : Nat}, k ≤ s.length → zf7 s c k = some i → c ∉ (s.take k).drop (i + 1)
  | 0, _, _, h => by cases h
  | k + 1, i, hk, h => by
    rw [zf7] at h
    split at h
    · cases h
      rw [List.drop_of_length_le (by rw [List.length_take]; omega)]
      simp
    · rename_i h2
      have ih := zlk (by omega) h
      have hlt := (ziW h).1
      have g : s[k]? = some s[k] := List.getElem?_eq_getElem (by omega)
      rw [List.take_add_one, g, List.drop_append_of_le_length (by simp; omega)]
      intro hm
      rcases List.mem_append.1 hm with hm | hm
      · exact ih hm
      · rw [g] at h2
        have : c = s[k] := by simpa using hm
        exact h2 (by rw [this])
theorem zmh (s : Str) : ∃ l, zi 32 s = l ++ [ziQ s] := by
  unfold ziQ znQ
  cases h : zf7 s 32 s.length with
  | none =>
    have := zpl (Nat.le_refl _) h
    rw [List.take_length] at this
    exact ⟨[], by rw [ze5 this]; rfl⟩
  | some k =>
    have h1 := ziW h
    have h2 := zlk (Nat.le_refl _) h
    rw [List.take_length] at h2
    have g : s[k]? = some s[k] := List.getElem?_eq_getElem h1.1
    rw [g] at h1
    have hc : s[k] = 32 := Option.some.inj h1.2
    have e : s = s.take k ++ 32 :: s.drop (k + 1) := by
      have := (List.take_append_drop k s).symm
      rw [List.drop_eq_getElem_cons h1.1, hc] at this
      exact this
    refine ⟨zi 32 (s.take k), ?_⟩
    conv => lhs; rw [e]
    rw [zku, ze5 h2]
theorem zjS : ∀ {s m : Str} {l : List Str}, zi 32 s = m :: l → (l = [] ∧ s = m) ∨ ∃ r, s = m ++ 32 :: r ∧ zi 32 r = l
  | [], m, l, h => by rw [zi] at h; cases h; exact .inl ⟨rfl, rfl⟩
  | y :: s, m, l, h => by
    rw [zay] at h
    split at h
    · rename_i e
      injection h with h1 h2
      subst h1 e
      exact .inr ⟨s, rfl, h2⟩
    · cases h3 : zi 32 s with
      | nil => exact absurd h3 (za7 32 s)
      | cons a l' =>
        rw [h3] at h
        injection h with h1 h2
        subst h2
        rcases zjS h3 with ⟨h4, h5⟩ | ⟨r, h4, h5⟩
        · exact .inl ⟨h4, by rw [← h1, h5]; rfl⟩
        · exact .inr ⟨r, by rw [← h1, h4]; rfl, h5⟩
theorem zh6 {p : UInt8 → Bool} {c : UInt8} (hc : p c = false) : ∀ {m : Str} (r : Str), m.all p = true → (m ++ c :: r).takeWhile p = m ∧ (m ++ c :: r).dropWhile p = c :: r
  | [], r, _ => by simp [hc]
  | x :: m, r, h => by
    simp only [List.all_cons, Bool.and_eq_true] at h
    have ih := zh6 hc r h.2
    constructor
    · rw [List.cons_append, List.takeWhile_cons, if_pos h.1, ih.1]
    · rw [List.cons_append, List.dropWhile_cons, if_pos h.1, ih.2]
theorem zrS {t : Str} (h : (32 : UInt8) ∉ t) : t.all (fun b => !(b == 32)) = true :=
  List.all_eq_true.2 fun x hx => by
    have : x ≠ 32 := fun e => h (by rw [← e]; exact hx)
    simp [this]
theorem zrT {m t v : Str} (h1 : m.all zbc = true) (h2 : (32 : UInt8) ∉ t) : zjW (m ++ 32 :: (t ++ 32 :: v)) = m ∧ zlE (m ++ 32 :: (t ++ 32 :: v)) = t ∧ zlp (m ++ 32 :: (t ++ 32 :: v)) = 32 :: (t ++ 32 :: v) ∧ zhd (m ++ 32 :: (t ++ 32 :: v)) = 32 :: v := by
  have a := zh6 (p := zbc) (c := 32) (by decide) (t ++ 32 :: v) h1
  have b := zh6 (p := fun b => !(b == 32)) (c := 32) (by decide) v (zrS h2)
  unfold zjW zlE zhd zlp
  rw [a.1, a.2, zb4, b.1, b.2]
  exact ⟨rfl, rfl, rfl, rfl⟩
def reqS (s : Str) : api_Head × Int :=
  if zbI (ziQ s) == 2 then (zbf, 26) else match zi 32 s with
  | [m, t, v] => if !decide (zbI v < 0) && zgg m && (zgM m t).2 == 0 then (⟨1, m, t, 0, [], zbI v, []⟩, 0) else (zbf, 20)
  | _ => (zbf, 20)
theorem znG (m : Str) : zgg m = true ↔ m ≠ [] ∧ m.all zbc = true := by
  unfold zgg
  cases m <;> simp
theorem zll {s m t v : Str} (h : zi 32 s = [m, t, v]) : s = m ++ 32 :: (t ++ 32 :: v) ∧ (32 : UInt8) ∉ m ∧ (32 : UInt8) ∉ t ∧ (32 : UInt8) ∉ v ∧ ziQ s = v := by
  have hm := fun x (hx : x ∈ zi 32 s) => (zcr hx).1
  rw [h] at hm
  refine ⟨?_, hm m (by simp), hm t (by simp), hm v (by simp), ?_⟩
  · rcases zjS h with ⟨h1, _⟩ | ⟨r, h1, h2⟩
    · cases h1
    · rcases zjS h2 with ⟨h3, _⟩ | ⟨r2, h3, h4⟩
      · cases h3
      · rw [h1, h3, zi4 h4]
  · obtain ⟨l, hl⟩ := zmh s
    rw [h] at hl
    have := congrArg List.getLast? hl
    simp at this
    exact this.symm
theorem zqf (s : Str) : zlF s = reqS s := by
  unfold zlF reqS
  cases h26 : zbI (ziQ s) == 2 with
  | true => rfl
  | false =>
    rw [if_neg Bool.false_ne_true, if_neg Bool.false_ne_true]
    cases hF : zpz s with
    | true =>
      obtain ⟨v, e, n1, n2, h3, h4, k1, k2, k3, k4⟩ := zjX hF
      have hv := zr6 k1 k2
      have hsp : zi 32 s = [zjW s, zlE s, v] := by
        have := zpF n1 n2 hv
        rw [← e] at this
        exact this
      rw [if_pos rfl, hsp, k3]
      dsimp only
      rw [decide_eq_false (show ¬ zbI v < 0 by omega), (znG _).2 ⟨h3, h4⟩, k4]
      rfl
    | false =>
      rw [if_neg (by decide)]
      split
      · rename_i m t v hsp
        split
        · rename_i hc
          exfalso
          simp only [Bool.and_eq_true, Bool.not_eq_true', decide_eq_false_iff_not] at hc
          obtain ⟨⟨c1, c2⟩, c3⟩ := hc
          obtain ⟨e, _, n2, _, hlast⟩ := zll hsp
          obtain ⟨t1, t2⟩ := (znG _).1 c2
          obtain ⟨r1, r2, r3, r4⟩ := zrT (v := v) t2 n2
          rw [← e] at r1 r2 r3 r4
          have hm := (znP v).1
          rw [hlast] at h26
          rw [decide_eq_true (show 0 ≤ zbI v by omega), h26] at hm
          unfold zpz at hF
          rw [r1, r2, r3, r4, zdA, zb4, zdA, hm, c3] at hF
          have : (m == []) = false := by simpa using t1
          rw [this] at hF
          revert hF
          decide
        · rfl
      · rfl
theorem zlm (w : List Str) (v : Int) (m t u : Str) (hw : w = [m, t, u]) (hb : t.length < 300000000) (q : Bool) :
    zau w v q = some (if q then (zbf, 20) else if (zgM m t).2 == 0 then (⟨1, m, t, 0, [], v, []⟩, 0) else (zbf, 20)) := by
  subst hw
  unfold zau
  have l0 : lAt [m, t, u] 0 = some m := rfl
  have l1 : lAt [m, t, u] 1 = some t := rfl
  rw [l0, l1, Option.bind_some, Option.bind_some, zl1 m t hb, Option.bind_some, Option.bind_some, Option.bind_some]
  cases q <;> cases (zgM m t).2 == 0 <;> rfl
theorem zow (s : Str) (hs : s.length < 300000000) : ((zeh ((zi 32 s).length : Int) 1).bind fun i28 => (lAt (zi 32 s) i28).bind fun x29 => (zbY x29).bind fun r32 =>
    if (r32 == 2) then (some (((⟨0, [], [], 0, [], 0, []⟩ : api_Head), 26))) else (if (!(((zi 32 s).length : Int) == 3)) then (zau (zi 32 s) r32 true) else (if (decide (r32 < 0)) then (zau (zi 32 s) r32 true) else ((lAt (zi 32 s) 0).bind fun x40 => (zdH x40).bind fun r43 => zau (zi 32 s) r32 (!r43))))) = some (reqS s) := by
  have hlen := zdy 32 s
  have hpos := List.length_pos_iff.2 (za7 32 s)
  obtain ⟨l, hl⟩ := zmh s
  have hlw : (ziQ s).length ≤ s.length := by unfold ziQ; simp
  have e1 : zeh ((zi 32 s).length : Int) 1 = some (((zi 32 s).length - 1 : Nat) : Int) := by rw [zee (by omega) (by omega)]; congr 1; omega
  have e2 : (zi 32 s)[(zi 32 s).length - 1]? = some (ziQ s) := by rw [hl]; simp
  rw [e1, Option.bind_some, zed, e2, Option.bind_some, zhE _ (by omega), Option.bind_some]
  unfold reqS
  cases zbI (ziQ s) == 2 with
  | true => rfl
  | false =>
    rw [if_neg Bool.false_ne_true, if_neg Bool.false_ne_true]
    by_cases h3 : (zi 32 s).length = 3
    · have e3 : (((zi 32 s).length : Int) == 3) = true := by rw [h3]; rfl
      obtain ⟨m, t, v, hsp⟩ : ∃ m t v, zi 32 s = [m, t, v] := by
        match zi 32 s, h3 with
        | [m, t, v], _ => exact ⟨m, t, v, rfl⟩
      have hmem := fun x (hx : x ∈ zi 32 s) => (zcr hx).2.1
      obtain ⟨_, _, _, _, hlast⟩ := zll hsp
      rw [e3, Bool.not_true, if_neg (by decide), hlast, hsp]
      rw [hsp] at hmem
      have hm := hmem m (by simp)
      have ht := hmem t (by simp)
      have l0 : lAt [m, t, v] 0 = some m := rfl
      rw [l0, Option.bind_some, zi3 m (by omega), Option.bind_some, zlm [m, t, v] (zbI v) m t v rfl (by omega), zlm [m, t, v] (zbI v) m t v rfl (by omega)]
      dsimp only
      cases decide (zbI v < 0) <;> cases zgg m <;> cases (zgM m t).2 == 0 <;> rfl
    · have e3 : (((zi 32 s).length : Int) == 3) = false := beq_eq_false_iff_ne.2 (by omega)
      rw [e3, Bool.not_false, if_pos rfl]
      unfold zau
      rw [if_pos rfl]
      split
      · rename_i m t v hsp
        rw [hsp] at h3
        exact absurd rfl h3
      · rfl
theorem znH (s : Str) : zi 32 s = if (zL 32 s).2.2 then (zL 32 s).1 :: zi 32 (zL 32 s).2.1 else [s] := by
  have hno : (32 : UInt8) ∉ (zL 32 s).1 := fun hm => by
    have := zlY (cs := [32]) (s := s) 32 hm
    simp at this
  rcases zct (zL 32 s).2.2 with h | h
  · rw [if_pos h]
    have := zmz 32 s h
    conv => lhs; rw [← this]
    exact zdx _ hno
  · have hn := zib 32 s h
    rw [if_neg (by rw [h]; decide)]
    rw [hn] at hno
    exact ze5 hno
theorem zpm (b : UInt8) (t : Str) (hb : b = 48 ∨ b = 49) : zdw (za8 ++ 49 :: 46 :: b :: t) = (((b - 48).toNat : Int), true, t) := by
  unfold zdw
  rw [zpk 49 b t (by decide) (by rcases hb with h | h <;> subst h <;> decide)]
  rcases hb with h | h <;> subst h <;> rfl
theorem zh7 {s : Str} {m : Int} (h : (zam 10 s m).2 = 0) : s.all zO = true ∧ s ≠ [] := by
  unfold zam at h
  split at h
  · cases h
  · rename_i h2
    simp only [Bool.or_eq_true, Bool.not_eq_true', not_or] at h2
    have h3 : s.all (zhn 10) = true := by simpa using h2.2
    exact ⟨List.all_eq_true.2 fun x hx => (List.all_eq_true.1 h3 x hx : zhn 10 x = true), by simpa using h2.1⟩
def zmi (s : Str) : Bool := match zi 32 s with
  | w0 :: w1 :: _ :: _ => !decide (zbI w0 < 0) && (w1.length : Int) == 3 && (zam 10 w1 599).2 == 0 && !decide ((zam 10 w1 599).1 < 100) && (s.drop 13).all zfs
  | _ => false
theorem zkf {b : UInt8} {w r : Str} (hb : b = 48 ∨ b = 49) (hw : w.all zO = true) : (zdw (za8 ++ 49 :: 46 :: b :: 32 :: (w ++ 32 :: r))) = (((b - 48).toNat : Int), true, 32 :: (w ++ 32 :: r)) ∧ zmv (za8 ++ 49 :: 46 :: b :: 32 :: (w ++ 32 :: r)) = w ∧ zkm (za8 ++ 49 :: 46 :: b :: 32 :: (w ++ 32 :: r)) = 32 :: r := by
  have h1 := zpm b (32 :: (w ++ 32 :: r)) hb
  have h2 := zh6 (p := zO) (c := 32) (by decide) r hw
  refine ⟨h1, ?_, ?_⟩
  · unfold zmv; rw [h1]; dsimp only; rw [zb4, h2.1]
  · unfold zkm; rw [h1]; dsimp only; rw [zb4, h2.2]
theorem znI {w : Str} (h : w.all zO = true) : (32 : UInt8) ∉ w := fun hm => by
  have := List.all_eq_true.1 h 32 hm
  revert this; decide
theorem zh8 {s : Str} (h : zoB s = true) : ∃ b w r, (b = 48 ∨ b = 49) ∧ s = za8 ++ 49 :: 46 :: b :: 32 :: (w ++ 32 :: r) ∧ w.all zO = true ∧ w.length = 3 := by
  unfold zoB at h
  simp only [Bool.and_eq_true] at h
  obtain ⟨⟨⟨⟨⟨⟨h1, h2⟩, h3⟩, h4⟩, h5⟩, h6⟩, h7⟩ := h
  unfold zdw at h1
  simp only [Bool.and_eq_true, decide_eq_true_eq, beq_iff_eq] at h1
  obtain ⟨⟨a1, a2⟩, a3⟩ := h1
  obtain ⟨a, b, t, e, ha, hb, ev⟩ := zkl a1
  rw [ev] at a2 a3
  have hm : (zdw s).2.2 = t := by unfold zdw; rw [ev]
  rw [hm] at h2
  have ha1 : a = 49 := by
    have := zqM a
    rw [ha] at this
    have : (((a - 48).toNat : Int) == 1) = (a == 49) := by simpa using this
    rw [show (((a - 48).toNat : Int) == 1) = true from by simpa using a2] at this
    simpa using this.symm
  have hb1 := ziP hb (by dsimp only at a3; omega)
  have e2 := zfC h2
  have e4 := zfC h3
  have e5 : zmv s ++ zkm s = zaD 32 t := by
    unfold zmv zkm; rw [hm]; exact List.takeWhile_append_dropWhile
  have hl3 : ((zmv s).length : Int) = 3 := by simpa using h4
  refine ⟨b, zmv s, zaD 32 (zkm s), hb1, ?_, (zh7 (by simpa using h5)).1, by omega⟩
  rw [← e4, e5, ← e2, ← ha1, e]
theorem zs0 (s : Str) (h26 : (zbI (zL 32 s).1 == 2) = false) : zoB s = zmi s := by
  rw [Bool.eq_iff_iff]
  constructor
  · intro h
    have h' := h
    obtain ⟨b, w, r, hb, e, hw, hl⟩ := zh8 h
    obtain ⟨m1, m2, m3⟩ := zkf (r := r) hb hw
    rw [← e] at m1 m2 m3
    unfold zoB at h'
    rw [m1, m2, m3] at h'
    simp only [Bool.and_eq_true, zb4] at h'
    have h32 : (32 : UInt8) ∉ (za8 ++ [49, 46, b]) := by rcases hb with h | h <;> subst h <;> decide
    have hsp : zi 32 s = (za8 ++ [49, 46, b]) :: w :: zi 32 r := by
      have e' : s = (za8 ++ [49, 46, b]) ++ 32 :: (w ++ 32 :: r) := by rw [e]; simp
      rw [e', zdx _ h32, zdx _ (znI hw)]
    have hd : s.drop 13 = r := by
      rw [e]
      show (w ++ 32 :: r).drop 4 = r
      match w, hl with
      | [x, y, z], _ => rfl
    have hv : zbI (za8 ++ [49, 46, b]) = ((b - 48).toNat : Int) := by rcases hb with h | h <;> subst h <;> decide
    unfold zmi
    rw [hsp]
    cases hr : zi 32 r with
    | nil => exact absurd hr (za7 32 r)
    | cons x l =>
      dsimp only
      rw [hd, hv, decide_eq_false (by omega)]
      simp only [Bool.and_eq_true]
      exact ⟨⟨⟨⟨rfl, by rw [hl]; rfl⟩, h'.1.1.2⟩, h'.1.2⟩, h'.2⟩
  · intro h
    unfold zmi at h
    split at h
    · rename_i w0 w1 w2 l hsp
      simp only [Bool.and_eq_true, Bool.not_eq_true', decide_eq_false_iff_not] at h
      obtain ⟨⟨⟨⟨h1, h2⟩, h3⟩, h4⟩, h5⟩ := h
      have hc := znH s
      rw [hsp] at hc
      have h0 : (zL 32 s).1 = w0 := by
        split at hc
        · injection hc with hc _; exact hc.symm
        · cases hc
      rw [h0] at h26
      rcases zjS hsp with ⟨hx, _⟩ | ⟨r1, e1, hsp1⟩
      · cases hx
      rcases zjS hsp1 with ⟨hx, _⟩ | ⟨r, e2, hsp2⟩
      · cases hx
      have hb : ∃ b, (b = 48 ∨ b = 49) ∧ w0 = za8 ++ [49, 46, b] := by
        rcases zgJ (u := w0) (by omega) h26 with ⟨h, _⟩ | ⟨h, _⟩
        · exact ⟨48, .inl rfl, h⟩
        · exact ⟨49, .inr rfl, h⟩
      obtain ⟨b, hb, hw0⟩ := hb
      have hw := (zh7 (by simpa using h3)).1
      have e : s = za8 ++ 49 :: 46 :: b :: 32 :: (w1 ++ 32 :: r) := by rw [e1, hw0, e2]; simp
      obtain ⟨m1, m2, m3⟩ := zkf (r := r) hb hw
      rw [← e] at m1 m2 m3
      have hl : w1.length = 3 := by have : (w1.length : Int) = 3 := by simpa using h2
                                    omega
      have hd : s.drop 13 = r := by
        rw [e]
        show (w1 ++ 32 :: r).drop 4 = r
        match w1, hl with
        | [x, y, z], _ => rfl
      rw [hd] at h5
      unfold zoB
      rw [m1, m2, m3]
      simp only [Bool.and_eq_true, zb4, zdA]
      exact ⟨⟨⟨⟨⟨⟨by first | trivial | rfl, by first | trivial | rfl⟩, by first | trivial | rfl⟩, h2⟩, h3⟩, by rw [decide_eq_false (by omega)]; rfl⟩, h5⟩
    · cases h
theorem zpn (v : Int) (rd : Int × Int) (u : Str) (hu : u.length < 1000000000) : zbE v rd u fuel 0 = some (if u.all zfs && rd.2 == 0 && !decide (rd.1 < 100) then (⟨2, [], [], rd.1, u, v, []⟩, 0) else (zbf, 20)) := by
  have key : ∀ (n i : Nat), i ≤ u.length → u.length - i < n → zbE v rd u n (i : Int) = some (if (u.drop i).all zfs && rd.2 == 0 && !decide (rd.1 < 100) then (⟨2, [], [], rd.1, u, v, []⟩, 0) else (zbf, 20)) := by
    intro n
    induction n with
    | zero => intro i _ h; omega
    | succ n ih =>
      intro i hi h
      rw [zbE]
      by_cases hlt : i < u.length
      · have g : u[i]? = some u[i] := List.getElem?_eq_getElem hlt
        rw [decide_eq_true (show (i : Int) < (u.length : Int) by omega), if_pos rfl, zab, g, Option.bind_some, zi2, Option.bind_some, zq (by omega), Option.bind_some, ih (i + 1) (by omega) (by omega), List.drop_eq_getElem_cons hlt, List.all_cons]
        cases zfs u[i] <;> rfl
      · have : i = u.length := by omega
        subst this
        unfold zdT
        rw [decide_eq_false (by omega), if_neg (by decide), List.drop_length]
        cases rd.2 == 0 <;> cases decide (rd.1 < 100) <;> rfl
  have := key fuel 0 (Nat.zero_le _) (by unfold fuel; omega)
  rw [List.drop_zero] at this
  exact this
theorem zox (s : Str) (hs : s.length < 300000000) : ((lAt (zi 32 s) 0).bind fun x69 => (zbY x69).bind fun r72 =>
    if (r72 == 2) then (some (((⟨0, [], [], 0, [], 0, []⟩ : api_Head), 26))) else (if (decide (((zi 32 s).length : Int) < 3)) then (zav s (zi 32 s) r72 true) else (if (decide (r72 < 0)) then (zav s (zi 32 s) r72 true) else ((lAt (zi 32 s) 1).bind fun x80 => zav s (zi 32 s) r72 (!((x80.length : Int) == 3)))))) = some (znl s) := by
  have hc := znH s
  have hcl := zjk 32 s
  have h0 : ∃ l, zi 32 s = (zL 32 s).1 :: l := by
    rcases zct (zL 32 s).2.2 with h | h
    · rw [if_pos h] at hc; exact ⟨_, hc⟩
    · rw [if_neg (by rw [h]; decide)] at hc
      have := zib 32 s h
      exact ⟨[], by rw [hc, this]⟩
  obtain ⟨l, hl⟩ := h0
  have l0 : lAt (zi 32 s) 0 = some (zL 32 s).1 := by rw [hl]; rfl
  rw [l0, Option.bind_some, zhE _ (by omega), Option.bind_some]
  unfold znl
  cases h26 : zbI (zL 32 s).1 == 2 with
  | true => rfl
  | false =>
    rw [if_neg Bool.false_ne_true, if_neg Bool.false_ne_true]
    have hok := zs0 s h26
    have j5t : ∀ w, zav s w (zbI (zL 32 s).1) true = some (zbf, 20) := fun w => by unfold zav; rw [if_pos rfl]; rfl
    by_cases h3 : (zi 32 s).length < 3
    · rw [decide_eq_true (show ((zi 32 s).length : Int) < 3 by omega), if_pos rfl, j5t, hok]
      have : zmi s = false := by
        unfold zmi
        split
        · rename_i w0 w1 w2 l' hsp
          rw [hsp] at h3; simp only [List.length_cons] at h3; omega
        · rfl
      rw [this]; rfl
    · rw [decide_eq_false (show ¬ ((zi 32 s).length : Int) < 3 by omega), if_neg (by decide), j5t]
      obtain ⟨w1, w2, l', hsp⟩ : ∃ w1 w2 l', zi 32 s = (zL 32 s).1 :: w1 :: w2 :: l' := by
        rw [hl] at h3
        match l, h3 with
        | w1 :: w2 :: l', _ => exact ⟨w1, w2, l', hl⟩
        | [_], h => simp at h
        | [], h => simp at h
      have l1 : lAt (zi 32 s) 1 = some w1 := by rw [hsp]; rfl
      rw [l1, Option.bind_some, hok]
      have hst : zmi s = (!decide (zbI (zL 32 s).1 < 0) && (w1.length : Int) == 3 && (zam 10 w1 599).2 == 0 && !decide ((zam 10 w1 599).1 < 100) && (s.drop 13).all zfs) := by
        unfold zmi; rw [hsp]
      cases hneg : decide (zbI (zL 32 s).1 < 0) with
      | true => rw [if_pos rfl, hst, hneg]; rfl
      | false =>
        rw [if_neg (by decide)]
        cases hl3 : (w1.length : Int) == 3 with
        | false => rw [Bool.not_false, j5t, hst, hneg, hl3]; rfl
        | true =>
          have hw3 : w1.length = 3 := by have : (w1.length : Int) = 3 := by simpa using hl3
                                         omega
          have h13 : 13 ≤ s.length := by
            have hneg' : ¬ zbI (zL 32 s).1 < 0 := by simpa using hneg
            rcases zjS hsp with ⟨hx, _⟩ | ⟨r1, e1, hsp1⟩
            · cases hx
            rcases zjS hsp1 with ⟨hx, _⟩ | ⟨r, e2, _⟩
            · cases hx
            have h8 : (zL 32 s).1.length = 8 := by
              rcases zgJ (u := (zL 32 s).1) (by omega) h26 with ⟨h, _⟩ | ⟨h, _⟩ <;> rw [h] <;> rfl
            rw [e2] at e1
            have := congrArg List.length e1
            simp only [List.length_append, List.length_cons] at this
            omega
          unfold zav
          have hrd := zjM (b := 10) (.inl rfl) w1 599 (by omega) (by decide) (by decide)
          rw [show ((10 : Nat) : Int) = 10 from rfl] at hrd
          have hfr : zbq s 13 = some (s.drop 13) := zag (i := 13) h13
          rw [Bool.not_true, if_neg (by decide), l1, Option.bind_some, hrd, Option.bind_some, hfr, Option.bind_some, zpn _ _ _ (by simp; omega), hst, hneg, hl3]
          cases hq : (s.drop 13).all zfs && (zam 10 w1 599).2 == 0 && !decide ((zam 10 w1 599).1 < 100) with
          | false =>
            have : (!false && true && (zam 10 w1 599).2 == 0 && !decide ((zam 10 w1 599).1 < 100) && (s.drop 13).all zfs) = false := by
              revert hq
              cases (s.drop 13).all zfs <;> cases (zam 10 w1 599).2 == 0 <;> cases decide ((zam 10 w1 599).1 < 100) <;> decide
            rw [this]; rfl
          | true =>
            have ht : (!false && true && (zam 10 w1 599).2 == 0 && !decide ((zam 10 w1 599).1 < 100) && (s.drop 13).all zfs) = true := by
              revert hq
              cases (s.drop 13).all zfs <;> cases (zam 10 w1 599).2 == 0 <;> cases decide ((zam 10 w1 599).1 < 100) <;> decide
            have hF : zoB s = true := by rw [hok, hst, hneg, hl3]; exact ht
            obtain ⟨b, w, r, hb, e, hw, hlw⟩ := zh8 hF
            obtain ⟨m1, m2, m3⟩ := zkf (r := r) hb hw
            rw [← e] at m1 m2 m3
            have h32 : (32 : UInt8) ∉ (za8 ++ [49, 46, b]) := by rcases hb with h | h <;> subst h <;> decide
            have hsp' : zi 32 s = (za8 ++ [49, 46, b]) :: w :: zi 32 r := by
              have e' : s = (za8 ++ [49, 46, b]) ++ 32 :: (w ++ 32 :: r) := by rw [e]; simp
              rw [e', zdx _ h32, zdx _ (znI hw)]
            rw [hsp] at hsp'
            injection hsp' with q1 q2
            injection q2 with q2 _
            have hd : s.drop 13 = r := by
              rw [e]
              show (w ++ 32 :: r).drop 4 = r
              match w, hlw with
              | [x, y, z], _ => rfl
            have hv : zbI (za8 ++ [49, 46, b]) = ((b - 48).toNat : Int) := by rcases hb with h | h <;> subst h <;> decide
            rw [ht, if_pos rfl, if_pos rfl, m1, m2, m3, zb4, q1, hv, hd, q2]
theorem zmj (kind : Int) (s : Str) (hs : s.length < 300000000) : zgc kind s = some (zb5 kind s) := by
  unfold zgc zdU zb5
  have key : ∀ (n i : Nat), i ≤ s.length → s.length - i < n → (!(kind == 1) && !(kind == 2)) = false → zaJ kind s n (i : Int) = some (if (s.drop i).any ([13, 10] : Str).contains then (zbf, 24) else if kind == 1 then zlF s else znl s) := by
    intro n
    induction n with
    | zero => intro i _ h; omega
    | succ n ih =>
      intro i hi h hk
      rw [zaJ]
      by_cases hlt : i < s.length
      · have g : s[i]? = some s[i] := List.getElem?_eq_getElem hlt
        unfold zdS
        rw [decide_eq_true (show (i : Int) < (s.length : Int) by omega), if_pos rfl, zab, g, Option.bind_some, Option.bind_some, zq (by omega), Option.bind_some, ih (i + 1) (by omega) (by omega) hk, List.drop_eq_getElem_cons hlt, List.any_cons]
        have : ([13, 10] : Str).contains s[i] = (s[i] == 13 || s[i] == 10) := by simp only [List.contains_cons, List.contains_nil, Bool.or_false]
        rw [this]
        cases s[i] == 13 <;> cases s[i] == 10 <;> rfl
      · have : i = s.length := by omega
        subst this
        rw [decide_eq_false (by omega), if_neg (by decide), zgF s 32 (by omega), Option.bind_some, List.drop_length, zow s hs, zox s hs, zqf]
        cases kind == 1 <;> rfl
  have := key fuel 0 (Nat.zero_le _) (by unfold fuel; omega)
  rw [List.drop_zero] at this
  have this : (!(kind == 1) && !(kind == 2)) = false → zaJ kind s fuel 0 = _ := this
  cases h1 : kind == 1 with
  | true => rw [h1] at this; rw [Bool.not_true, if_neg (by decide), if_neg (by decide), this rfl]; rfl
  | false =>
    cases h2 : kind == 2 with
    | true => rw [h1, h2] at this; rw [Bool.not_false, if_pos rfl, Bool.not_true, if_neg (by decide), this rfl]; rfl
    | false => rfl
end Go.Dm
end
section
namespace Go.Dm
def verT (n : Int) : Str := za8 ++ 49 :: 46 :: ziB 10 n
def rawL (h : api_Head) : Str := if h.Kind == 2 then verT h.Minor ++ 32 :: (ziB 10 h.Code ++ 32 :: h.Reason) else h.Method ++ 32 :: (h.Target ++ 32 :: verT h.Minor)
theorem zoI : ∀ a, a < 10 → ∀ b, b < 10 → ∀ c, c < 10 → 100 ≤ a * 100 + b * 10 + c → zfr 10 (a * 100 + b * 10 + c) = [a, b, c] := by decide +kernel
theorem zoJ (c : UInt8) : (!zO c || (decide ((c - 48).toNat < 10) && dch (c - 48).toNat == c && wor c == (c - 48).toNat)) = true := zM (fun c => !zO c || (decide ((c - 48).toNat < 10) && dch (c - 48).toNat == c && wor c == (c - 48).toNat)) (by decide +kernel) c
theorem zqo {w : Str} (hl : w.length = 3) (h : (zam 10 w 599).2 = 0) (h1 : ¬ (zam 10 w 599).1 < 100) : ziB 10 (zam 10 w 599).1 = w ∧ inI (zam 10 w 599).1 = true := by
  have hin := zhO h (by decide)
  refine ⟨?_, hin.2.2⟩
  have hd := (zh7 h).1
  match w, hl with
  | [x, y, z], _ =>
    simp only [List.all_cons, List.all_nil, Bool.and_true, Bool.and_eq_true] at hd
    have fx := zoJ x
    have fy := zoJ y
    have fz := zoJ z
    rw [hd.1] at fx
    rw [hd.2.1] at fy
    rw [hd.2.2] at fz
    simp only [Bool.not_true, Bool.false_or, Bool.and_eq_true, decide_eq_true_eq, beq_iff_eq] at fx fy fz
    have hval : (zam 10 [x, y, z] 599).1 = (((x - 48).toNat * 100 + (y - 48).toNat * 10 + (z - 48).toNat : Nat) : Int) := by
      unfold zam at h ⊢
      split at h
      · cases h
      · rename_i g1
        rw [if_neg g1]
        split at h
        · cases h
        · rename_i g2
          rw [if_neg g2]
          have : zaQ 10 (vals [x, y, z]) = (x - 48).toNat * 100 + (y - 48).toNat * 10 + (z - 48).toNat := by
            unfold vals zaQ
            simp only [List.map_cons, List.map_nil, List.foldl_cons, List.foldl_nil, fx.2, fy.2, fz.2]
            omega
          rw [this]
    rw [hval] at h1 ⊢
    unfold ziB
    rw [if_neg (by omega), Int.toNat_natCast, zoI _ fx.1.1 _ fy.1.1 _ fz.1.1 (by omega)]
    unfold zw
    simp only [List.map_cons, List.map_nil, fx.1.2, fy.1.2, fz.1.2]
theorem zmF {k : Int} {s : Str} {x : api_Head} (h : zb5 k s = (x, 0)) : (k = 1 ∧ zlF s = (x, 0)) ∨ (k = 2 ∧ znl s = (x, 0)) := by
  unfold zb5 at h
  cases h1 : k == 1 with
  | true =>
    have hk : k = 1 := by simpa using h1
    rw [h1, Bool.not_true, Bool.false_and, if_neg Bool.false_ne_true] at h
    split at h
    · exact absurd (show (24 : Int) = 0 from congrArg Prod.snd h) (by decide)
    · rw [if_pos rfl] at h; exact .inl ⟨hk, h⟩
  | false =>
    cases h2 : k == 2 with
    | true =>
      have hk : k = 2 := by simpa using h2
      rw [h1, h2, Bool.not_true, Bool.and_false, if_neg Bool.false_ne_true] at h
      split at h
      · exact absurd (show (24 : Int) = 0 from congrArg Prod.snd h) (by decide)
      · rw [if_neg Bool.false_ne_true] at h; exact .inr ⟨hk, h⟩
    | false =>
      rw [h1, h2, Bool.not_false, Bool.true_and, if_pos rfl] at h
      exact absurd (show (1 : Int) = 0 from congrArg Prod.snd h) (by decide)
structure LineBack (k : Int) (s : Str) (x : api_Head) : Prop where
  kind : x.Kind = k
  raw : rawL x = s
  code : inI x.Code = true
  minor : inI x.Minor = true
  method : x.Method.length ≤ s.length
  target : x.Target.length ≤ s.length
  reason : x.Reason.length ≤ s.length
theorem zqp {v : Str} (h : 0 ≤ zbI v) (h2 : (zbI v == 2) = false) : verT (zbI v) = v ∧ inI (zbI v) = true := by
  rcases zgJ h h2 with ⟨e, e2⟩ | ⟨e, e2⟩ <;> rw [e2, e] <;> exact ⟨by decide, by decide⟩
theorem zrh {k : Int} {s : Str} {x : api_Head} (h : zb5 k s = (x, 0)) : LineBack k s x := by
  rcases zmF h with ⟨hk, h⟩ | ⟨hk, h⟩
  · rcases zmG s with (h1 | h1) | ⟨h1, h2⟩
    · rw [h1] at h; exact absurd (show (26 : Int) = 0 from congrArg Prod.snd h) (by decide)
    · rw [h1] at h; exact absurd (show (20 : Int) = 0 from congrArg Prod.snd h) (by decide)
    · obtain ⟨v, e, n1, n2, h3, h4, k1, k2, k3, k4⟩ := zjX h1
      rw [h2] at h
      have hx := congrArg Prod.fst h
      dsimp only at hx
      subst hx
      obtain ⟨q1, q2⟩ := zqp k1 k2
      have hlen := congrArg List.length e
      simp only [List.length_append, List.length_cons] at hlen
      rw [k3]
      refine ⟨hk.symm, ?_, rfl, q2, by dsimp only; omega, by dsimp only; omega, by simp⟩
      show zjW s ++ 32 :: (zlE s ++ 32 :: verT (zbI v)) = s
      rw [q1]; exact e.symm
  · unfold znl at h
    split at h
    · exact absurd (show (26 : Int) = 0 from congrArg Prod.snd h) (by decide)
    · split at h
      · rename_i h26 hF
        have hF' := hF
        obtain ⟨b, w, r, hb, e, hw, hl⟩ := zh8 hF
        obtain ⟨m1, m2, m3⟩ := zkf (r := r) hb hw
        rw [← e] at m1 m2 m3
        unfold zoB at hF'
        rw [m1, m2, m3] at hF'
        simp only [Bool.and_eq_true, Bool.not_eq_true', decide_eq_false_iff_not] at hF'
        have hx := congrArg Prod.fst h
        dsimp only at hx
        subst hx
        obtain ⟨q1, q2⟩ := zqo hl (by simpa using hF'.1.1.2) hF'.1.2
        have hlen := congrArg List.length e
        simp only [List.length_append, List.length_cons] at hlen
        rw [m1, m2, m3, zb4]
        have hv : verT ((b - 48).toNat : Int) = za8 ++ [49, 46, b] ∧ inI ((b - 48).toNat : Int) = true := by rcases hb with h | h <;> subst h <;> exact ⟨by decide, by decide⟩
        refine ⟨hk.symm, ?_, q2, hv.2, by simp, by simp, by dsimp only; omega⟩
        show verT ((b - 48).toNat : Int) ++ 32 :: (ziB 10 (zam 10 w 599).1 ++ 32 :: r) = s
        rw [hv.1, q1, e]; simp
      · exact absurd (show (20 : Int) = 0 from congrArg Prod.snd h) (by decide)
theorem zgx (k : Int) (s : Str) : (zb5 k s).1.Fields = [] := by
  unfold zb5 zlF znl
  split
  · rfl
  · split
    · rfl
    · split
      · split
        · rfl
        · split <;> rfl
      · split
        · rfl
        · split <;> rfl
end Go.Dm
end
section
namespace Go.Dm
def zaA (b : UInt8) : Bool := b == 32 || b == 9
def zgt (s : Str) : Str := s.dropWhile zaA
def zfy (s : Str) : Str := (s.reverse.dropWhile zaA).reverse
def zb3 (s : Str) : Str := zgt (zfy s)
theorem zpZ (b : UInt8) : ([32, 9] : Str).contains b = zaA b := by
  simp only [zaA, List.contains_cons, List.contains_nil, Bool.or_false]
theorem zrB : zfy [] = [] := rfl
theorem zg9 (s : Str) (c : UInt8) : zfy (s ++ [c]) = if zaA c then zfy s else s ++ [c] := by
  unfold zfy
  rw [List.reverse_append]
  simp only [List.reverse_cons, List.reverse_nil, List.nil_append, List.singleton_append, List.dropWhile_cons]
  split <;> simp
theorem zsG (s : Str) : (zfy s).length ≤ s.length := by
  unfold zfy
  rw [List.length_reverse]
  have := (List.dropWhile_suffix (l := s.reverse) zaA).length_le
  simpa using this
theorem zsH (s : Str) : (zgt s).length ≤ s.length := (List.dropWhile_suffix zaA).length_le
theorem zo0 (s : Str) : (zb3 s).length ≤ s.length := Nat.le_trans (zsH _) (zsG _)
theorem zlA (s : Str) : (s.all zaA = true ∧ zfy s = []) ∨ ∃ a c b, s = a ++ c :: b ∧ zaA c = false ∧ b.all zaA = true ∧ zfy s = a ++ [c] := by
  rw [← List.reverse_reverse s]
  generalize s.reverse = r
  induction r with
  | nil => left; exact ⟨rfl, rfl⟩
  | cons x r ih =>
    rw [List.reverse_cons, zg9]
    rcases zct (zaA x) with h | h
    · rw [h]
      rcases ih with ⟨h1, h2⟩ | ⟨a, c, b, h1, h2, h3, h4⟩
      · left; refine ⟨?_, by simpa using h2⟩
        rw [List.all_append, h1]; simp [h]
      · right; refine ⟨a, c, b ++ [x], by rw [h1]; simp, h2, by rw [List.all_append, h3]; simp [h], by simpa using h4⟩
    · right; exact ⟨r.reverse, x, [], rfl, h, rfl, by simp [h]⟩
theorem zrC {s : Str} (h : s.all zaA = true) : zgt s = [] := by
  unfold zgt
  induction s with
  | nil => rfl
  | cons x s ih =>
    simp only [List.all_cons, Bool.and_eq_true] at h
    rw [List.dropWhile_cons, h.1]
    exact ih h.2
theorem zrD {a : Str} {c : UInt8} {b : Str} (hc : zaA c = false) : zgt (a ++ c :: b) = zgt (a ++ [c]) ++ b := by
  unfold zgt
  induction a with
  | nil => simp [List.dropWhile_cons, hc]
  | cons x a ih =>
    simp only [List.cons_append, List.dropWhile_cons]
    split
    · exact ih
    · simp
theorem zsI {a : Str} {c : UInt8} (hc : zaA c = false) : ∃ d, zgt (a ++ [c]) = d ++ [c] := by
  unfold zgt
  induction a with
  | nil => exact ⟨[], by simp [List.dropWhile_cons, hc]⟩
  | cons x a ih =>
    simp only [List.cons_append, List.dropWhile_cons]
    split
    · exact ih
    · exact ⟨x :: a, rfl⟩
theorem zrE {d : Str} {c : UInt8} {b : Str} (hc : zaA c = false) (hb : b.all zaA = true) : zfy (d ++ c :: b) = d ++ [c] := by
  rw [← List.reverse_reverse b] at *
  generalize b.reverse = r at *
  induction r with
  | nil => rw [List.reverse_nil, zg9, hc]; rfl
  | cons x r ih =>
    rw [List.reverse_cons, List.all_append] at hb
    simp only [Bool.and_eq_true, List.all_cons, List.all_nil, Bool.and_true] at hb
    rw [List.reverse_cons, ← List.cons_append, ← List.append_assoc, zg9, hb.2]
    exact ih hb.1
theorem zrF (s : Str) : zfy (zgt s) = zb3 s := by
  unfold zb3
  rcases zlA s with ⟨h1, h2⟩ | ⟨a, c, b, h1, h2, h3, h4⟩
  · rw [h2, zrC h1]; rfl
  · rw [h4, h1, zrD h2]
    obtain ⟨d, hd⟩ := zsI (a := a) h2
    rw [hd, List.append_assoc]
    exact zrE h2 h3
theorem zsJ (s : Str) : Go.Lib.trimS s [32, 9] = zb3 s := by
  unfold Go.Lib.trimS Go.Lib.trimLeftS Go.Lib.trimRightS zb3 zgt zfy
  have : (fun x => ([32, 9] : List UInt8).contains x) = zaA := by funext b; exact zpZ b
  rw [this]
theorem zlL (s : Str) (hs : s.length < 1000000000) : zd3 s [32, 9] = some (zb3 s) := by
  unfold zd3
  rw [if_pos ⟨by omega, by simp, by decide⟩, zsJ]
theorem zha (b : UInt8) : zdV b = some (zaA b) :=
  of_decide_eq_true (zM (fun b => decide (zdV b = some (zaA b))) (by decide +kernel) b)
theorem zfR : ∀ (k n : Nat) (s : Str), s.length = k → k < n → k < 1000000000 → za5 n s = some (zfy s)
  | k, 0, s, _, h, _ => by omega
  | 0, n + 1, s, hk, h, _ => by
    have : s = [] := List.length_eq_zero_iff.1 hk
    subst this; rw [za5]; simp [zdl, zrB]
  | k + 1, n + 1, s, hk, h, hb => by
    obtain ⟨a, c, rfl⟩ : ∃ a c, s = a ++ [c] := by
      rcases List.eq_nil_or_concat s with rfl | ⟨a, c, rfl⟩
      · simp at hk
      · exact ⟨a, c, by simp⟩
    have hl : a.length = k := by simpa using hk
    have e : ((a ++ [c]).length : Int) - 1 = (a.length : Int) := by simp
    have h0 : (0 : Int) < ((a ++ [c]).length : Int) := by simp
    have e2 : sTo (a ++ [c]) (a.length : Int) = some a := by rw [zef (by simp)]; simp
    rw [za5, zg9]
    rw [zee (by omega) (by omega), e]
    simp only [h0, decide_true, if_true, Option.bind_some, zab, List.getElem?_concat_length, zha, zdl]
    rcases zct (zaA c) with h1 | h1
    · rw [h1]
      simp only [if_true, zee (show -9223372036854775808 ≤ ((a ++ [c]).length : Int) - 1 by omega) (show ((a ++ [c]).length : Int) - 1 ≤ 9223372036854775807 by simp; omega), e, Option.bind_some, e2]
      exact zfR k n a hl (by omega) (by omega)
    · rw [h1]; simp
theorem zhZ : ∀ (n : Nat) (s : Str), s.length < n → s.length < 1000000000 → za6 n s = some (zfy (zgt s))
  | 0, s, h, _ => by omega
  | n + 1, [], h, hb => by
    rw [za6]
    simp only [List.length_nil, Int.natCast_zero, Int.lt_irrefl, decide_false, Bool.false_eq_true, if_false, zdm]
    exact zfR 0 fuel [] rfl (by decide) (by decide)
  | n + 1, x :: s, h, hb => by
    rw [za6]
    have h0 : (0 : Int) < ((x :: s).length : Int) := by simp
    have e : zbq (x :: s) 1 = some s := by
      have := zag (l := x :: s) (i := 1) (by simp); simpa using this
    simp only [h0, decide_true, if_true, zi5, List.getElem?_cons_zero, Option.bind_some, zha, zdm]
    rcases zct (zaA x) with h1 | h1
    · rw [h1]
      simp only [if_true, e, Option.bind_some]
      rw [zhZ n s (by simp at h; omega) (by simp at hb; omega)]
      unfold zgt; simp [List.dropWhile_cons, h1]
    · rw [h1]
      simp only [Bool.false_eq_true, if_false]
      rw [zfR _ fuel _ rfl (by unfold fuel; omega) hb]
      unfold zgt; simp [List.dropWhile_cons, h1]
theorem zjO (s : Str) (hs : s.length < 1000000000) : zfH s = some (zb3 s) := by
  unfold zfH
  rw [zhZ fuel s (by unfold fuel; omega) hs, zrF]
end Go.Dm
end
section
namespace Go.Dm
theorem zoX {a b : Str} (hb : b.all zaA = true) : zb3 (a ++ b) = zb3 a := by
  have : zfy (a ++ b) = zfy a := by
    rw [← List.reverse_reverse b] at *
    generalize b.reverse = r at *
    induction r with
    | nil => simp
    | cons x r ih =>
      rw [List.reverse_cons, List.all_append] at hb
      simp only [Bool.and_eq_true, List.all_cons, List.all_nil, Bool.and_true] at hb
      rw [List.reverse_cons, ← List.append_assoc, zg9, hb.2, if_pos rfl]
      exact ih hb.1
  unfold zb3; rw [this]
def elems (l : List Str) : List Str := (l.map zb3).filter (fun x => !(x == []))
end Go.Dm
end
section
namespace Go.Dm
def isN (nm : Str) (f : api_Field) : Bool := low f.Name == low nm
def zeJ (m : Nat) (l : List api_Field) : Prop := ∀ f ∈ l, f.Name.length < m ∧ f.Value.length < m
theorem zph (f : api_Field) (nm : Str) (hf : f.Name.length < 1000000000) (hn : nm.length < 1000000000) : ziZ f nm = some (isN nm f) := by
  unfold ziZ isN
  rw [zhv _ hf, Option.bind_some, zhv _ hn, Option.bind_some]
theorem zpi (l : List api_Field) (h : l.length < 1000000000) : zI l = some l := by
  unfold zI
  rw [if_pos (zih (by omega) (by omega))]
theorem zlC (l : List api_Field) (nm : Str) (hn : nm.length < 1000000000) (hl : l.length < 1000000000) (hs : zeJ 1000000000 l) : zec l nm = some ((l.filter (isN nm)).map (·.Value)) := by
  unfold zec
  have key : ∀ (n i : Nat) (out : List Str), i ≤ l.length → l.length - i < n → out.length ≤ i → zaP l nm n out (i : Int) = some (out ++ ((l.drop i).filter (isN nm)).map (·.Value)) := by
    intro n
    induction n with
    | zero => intro i _ _ h; omega
    | succ n ih =>
      intro i out hi h ho
      rw [zaP]
      by_cases hlt : i < l.length
      · have g : l[i]? = some l[i] := List.getElem?_eq_getElem hlt
        have hsm := hs l[i] (List.getElem_mem _)
        rw [decide_eq_true (show (i : Int) < (l.length : Int) by omega), if_pos rfl, zed, g, Option.bind_some, zph _ _ hsm.1 hn, Option.bind_some, Option.bind_some, if_pos (zih (by omega) (by omega))]
        unfold zda
        rw [zq (by omega), Option.bind_some, Option.bind_some, ih (i + 1) _ (by omega) (by omega) (by simp; omega), ih (i + 1) _ (by omega) (by omega) (by omega), List.drop_eq_getElem_cons hlt, List.filter_cons]
        cases isN nm l[i] with
        | true => simp
        | false => rfl
      · have : i = l.length := by omega
        subst this
        rw [decide_eq_false (by omega), if_neg (by decide), List.drop_length]
        simp
  have := key fuel 0 [] (Nat.zero_le _) (by unfold fuel; omega) (by simp)
  rw [List.drop_zero, List.nil_append] at this
  exact this
theorem znF {α : Type} [BEq α] [LawfulBEq α] (a b : List α) (L : Nat → Int → Option Bool) (hl : a.length = b.length) (ha : a.length < 1000000000)
    (hE : ∀ n, L (n + 1) (a.length : Int) = some true) (hL : ∀ n (i : Nat) x y, i < a.length → a[i]? = some x → b[i]? = some y → L (n + 1) (i : Int) = if (x == y) = true then L n ((i + 1 : Nat) : Int) else some false) : L fuel 0 = some (a == b) := by
  have key : ∀ (n i : Nat), i ≤ a.length → a.length - i < n → L n (i : Int) = some (a.drop i == b.drop i) := by
    intro n
    induction n with
    | zero => intro i _ h; omega
    | succ n ih =>
      intro i hi h
      by_cases hlt : i < a.length
      · have g1 : a[i]? = some a[i] := List.getElem?_eq_getElem hlt
        have g2 : b[i]? = some (b[i]'(by omega)) := List.getElem?_eq_getElem (by omega)
        rw [hL n i _ _ hlt g1 g2, ih (i + 1) (by omega) (by omega), List.drop_eq_getElem_cons hlt, List.drop_eq_getElem_cons (show i < b.length by omega), List.cons_beq_cons]
        cases a[i] == b[i]'(by omega) <;> rfl
      · have : i = a.length := by omega
        subst this
        rw [hE, List.drop_length, List.drop_of_length_le (by omega)]
        rfl
  have := key fuel 0 (Nat.zero_le _) (by unfold fuel; omega)
  rw [List.drop_zero, List.drop_zero] at this
  exact this
theorem zne (a b : List api_Field) (ha : a.length < 1000000000) : zgT a b = some (a == b) := by
  unfold zgT
  by_cases hl : a.length = b.length
  · rw [hl, beq_self_eq_true, Bool.not_true, if_neg (by decide)]
    refine znF a b (zbX a b) hl ha (fun n => ?_) (fun n i x y hi hx hy => ?_)
    · rw [zbX, decide_eq_false (by omega), if_neg (by decide)]
    · rw [zbX, decide_eq_true (by omega), if_pos rfl, zed, hx, Option.bind_some, zed, hy, Option.bind_some, zq (by omega), Option.bind_some]
      cases x == y <;> rfl
  · have : (((a.length : Int) == (b.length : Int))) = false := beq_eq_false_iff_ne.2 (by omega)
    have h2 : (a == b) = false := beq_eq_false_iff_ne.2 (fun e => hl (by rw [e]))
    rw [this, h2]; rfl
theorem zli {m n : Nat} (h : m ≤ n) {l : List api_Field} (hs : zeJ m l) : zeJ n l := fun f hf => by have := hs f hf; omega
end Go.Dm
end
section
namespace Go.Dm
theorem zlM (a b : List api_Field) (ha : a.length < 1000000000) : zS a b = some (a == b) := by
  unfold zS
  by_cases hl : a.length = b.length
  · rw [hl, beq_self_eq_true, Bool.not_true, if_neg (by decide)]
    refine znF a b (zs a b) hl ha (fun n => ?_) (fun n i x y hi hx hy => ?_)
    · rw [zs, decide_eq_false (by omega), if_neg (by decide)]
    · rw [zs, decide_eq_true (by omega), if_pos rfl, zed, hx, Option.bind_some, zed, hy, Option.bind_some, zq (by omega), Option.bind_some]
      cases x == y <;> rfl
  · have : (((a.length : Int) == (b.length : Int))) = false := beq_eq_false_iff_ne.2 (by omega)
    have h2 : (a == b) = false := beq_eq_false_iff_ne.2 (fun e => hl (by rw [e]))
    rw [this, h2]; rfl
def zob (a b : api_Head) : Bool := a.Kind == b.Kind && a.Method == b.Method && a.Target == b.Target && a.Minor == b.Minor && a.Code == b.Code && a.Reason == b.Reason && a.Fields == b.Fields
theorem zm7 (a : api_Head) : zob a a = true := by unfold zob; simp
theorem zo3 (a b : api_Head) (ha : a.Fields.length < 1000000000) : zhN a b = some (zob a b) := by
  unfold zhN zbw zob
  rw [zlM _ _ ha, Option.bind_some]
  cases a.Kind == b.Kind <;> cases a.Method == b.Method <;> cases a.Target == b.Target <;> cases a.Minor == b.Minor <;> cases a.Code == b.Code <;> cases a.Reason == b.Reason <;> rfl
theorem znC (a b : api_Head) (ha : a.Fields.length < 1000000000) : zgU a b = some (zob a b) := by
  unfold zgU zev zid zbt zob
  rw [zne _ _ ha, Option.bind_some]
  cases a.Kind == b.Kind <;> cases a.Method == b.Method <;> cases a.Target == b.Target <;> cases a.Minor == b.Minor <;> cases a.Code == b.Code <;> cases a.Reason == b.Reason <;> rfl
theorem zm8 : zhe = some true := by decide +kernel

end Go.Dm
end
section
namespace Go.Dm
theorem zhF (b : UInt8) : zcE b = some (zaA b) :=
  of_decide_eq_true (zM (fun b => decide (zcE b = some (zaA b))) (by decide +kernel) b)
def zcj : api_Field := ⟨[], []⟩
def zoz (s : Str) : api_Field × Int :=
  if s.any ([13, 10] : Str).contains then (zcj, 24) else if !(s.takeWhile zaA == []) then (zcj, 23)
  else if s.takeWhile zbc == [] || !zfv 58 ((s.dropWhile zbc).dropWhile zaA) then (zcj, 21)
  else if !((s.dropWhile zbc).takeWhile zaA == []) then (zcj, 22)
  else if !((zaD 58 ((s.dropWhile zbc).dropWhile zaA)).all zfs) then (zcj, 25)
  else (⟨s.takeWhile zbc, zb3 (zaD 58 ((s.dropWhile zbc).dropWhile zaA))⟩, 0)
theorem zjr (s : Str) (hs : s.length < 1000000000) : zcp s = some (zoz s) := by
  unfold zcp zoz
  rw [ze6 s _ hs (by decide) (by decide), Option.bind_some]
  cases s.any ([13, 10] : Str).contains with
  | true => rfl
  | false =>
    obtain ⟨k1, a1, e1⟩ := ziO zhF hs (At.zero s)
    have b1 : zap (scn s 0) = some (s.takeWhile zaA, scn s k1) := by unfold zap; rw [e1]; rfl
    rw [if_neg Bool.false_ne_true, if_neg Bool.false_ne_true, zhl, Option.bind_some, b1, Option.bind_some]
    dsimp only
    cases hb : s.takeWhile zaA == [] with
    | false => rfl
    | true =>
      have hd : s.dropWhile zaA = s := by
        have := List.takeWhile_append_dropWhile (p := zaA) (l := s)
        have h0 : s.takeWhile zaA = [] := by simpa using hb
        rwa [h0, List.nil_append] at this
      rw [hd] at a1
      obtain ⟨k2, a2, e2⟩ := zpw hs a1
      obtain ⟨k3, a3, e3⟩ := ziO zhF hs a2
      have b3 : zap (scn s k2) = some ((s.dropWhile zbc).takeWhile zaA, scn s k3) := by unfold zap; rw [e3]; rfl
      rw [Bool.not_true, if_neg Bool.false_ne_true, if_neg Bool.false_ne_true, e2, Option.bind_some, b3, Option.bind_some]
      dsimp only
      cases hn : s.takeWhile zbc == [] with
      | true => rfl
      | false =>
        obtain ⟨k4, a4, e4⟩ := zia hs 58 a3
        rw [Bool.not_false, Bool.not_true, if_neg Bool.false_ne_true, e4, Option.bind_some, Bool.false_or]
        have hl := a4.le_len
        generalize zaD 58 ((s.dropWhile zbc).dropWhile zaA) = v at a4 hl
        unfold zca
        show (if (!zfv 58 ((s.dropWhile zbc).dropWhile zaA)) = true then _ else if (!((s.dropWhile zbc).takeWhile zaA == [])) = true then _ else (zQ (scn s k4)).bind _) = _
        rw [zlP a4, Option.bind_some, zdn zhR v (by omega), Option.bind_some]
        cases zfv 58 ((s.dropWhile zbc).dropWhile zaA) with
        | false => rfl
        | true =>
          rw [Bool.not_true, if_neg Bool.false_ne_true, if_neg Bool.false_ne_true]
          cases (s.dropWhile zbc).takeWhile zaA == [] with
          | false => rfl
          | true =>
            rw [Bool.not_true, if_neg Bool.false_ne_true, if_neg Bool.false_ne_true]
            cases v.all zfs with
            | false => rfl
            | true =>
              rw [Bool.not_true, if_neg Bool.false_ne_true, if_neg Bool.false_ne_true]
              rw [Option.bind_some, zlL v (by omega), Option.bind_some]
def zkR : Str → Bool
  | [] => false
  | c :: _ => zaA c
def zck (s : Str) : api_Field × Int :=
  if s.any ([13, 10] : Str).contains then (zcj, 24) else if zkR s then (zcj, 23)
  else if z8 [58] s == [] || !zgg (zb3 (upto [58] s)) then (zcj, 21)
  else if decide ((zb3 (upto [58] s)).length < (upto [58] s).length) then (zcj, 22)
  else if !(((z8 [58] s).drop 1).all zfs) then (zcj, 25)
  else (⟨zb3 (upto [58] s), zb3 ((z8 [58] s).drop 1)⟩, 0)
theorem zqg (s : Str) : (!(s.takeWhile zaA == [])) = zkR s := by
  cases s with
  | nil => rfl
  | cons c s =>
    rw [List.takeWhile_cons]
    show _ = zaA c
    cases zaA c <;> rfl
theorem zs3 (c : UInt8) : (!zbc c || (!zaA c && !(c == 58))) = true := zM (fun c => !zbc c || (!zaA c && !(c == 58))) (by decide +kernel) c
theorem zrU (c : UInt8) : (!zaA c || (!zbc c && !(c == 58))) = true := zM (fun c => !zaA c || (!zbc c && !(c == 58))) (by decide +kernel) c
theorem znJ {n : Str} (h : n.all zbc = true) : (∀ x ∈ n, zaA x = false) ∧ (58 : UInt8) ∉ n := by
  have key : ∀ x ∈ n, zaA x = false ∧ (x == 58) = false := fun x hx => by
    have h1 := List.all_eq_true.1 h x hx
    have h2 := zs3 x
    rw [h1] at h2
    simpa using h2
  exact ⟨fun x hx => (key x hx).1, fun hx => by have := (key _ hx).2; cases this⟩
theorem zrV {b : Str} (h : b.all zaA = true) : (58 : UInt8) ∉ b := fun hx => by
  have := List.all_eq_true.1 h _ hx
  cases this
theorem zs4 (u v : Str) (h : (58 : UInt8) ∉ u) : upto [58] (u ++ 58 :: v) = u ∧ z8 [58] (u ++ 58 :: v) = 58 :: v := by
  induction u with
  | nil => exact ⟨zf0 (by decide), zf1 (by decide)⟩
  | cons c u ih =>
    have hc : ([58] : Str).contains c = false := by
      have : c ≠ 58 := fun e => h (by rw [e]; exact List.mem_cons_self ..)
      simpa using this
    have ih := ih (fun hx => h (List.mem_cons_of_mem _ hx))
    rw [List.cons_append, zf2 hc, zf3 hc, ih.1, ih.2]
    exact ⟨rfl, rfl⟩
theorem all_takeWhile (p : UInt8 → Bool) (s : Str) : (s.takeWhile p).all p = true := List.all_eq_true.2 fun _ hx => zfV hx
theorem zq7 {n b v : Str} (hn : n.all zbc = true) (hb : b.all zaA = true) :
    (n ++ (b ++ 58 :: v)).takeWhile zbc = n ∧ (n ++ (b ++ 58 :: v)).dropWhile zbc = b ++ 58 :: v ∧ (b ++ 58 :: v).takeWhile zaA = b ∧ (b ++ 58 :: v).dropWhile zaA = 58 :: v := by
  have h1 := zh6 (p := zaA) (c := 58) (by decide) v hb
  refine ⟨?_, ?_, h1.1, h1.2⟩
  · cases b with
    | nil => exact (zh6 (p := zbc) (c := 58) (by decide) v hn).1
    | cons c b =>
      have hc : zbc c = false := by
        rw [List.all_cons, Bool.and_eq_true] at hb
        have := zrU c
        rw [hb.1] at this
        simp only [Bool.not_true, Bool.false_or, Bool.and_eq_true, Bool.not_eq_true'] at this
        exact this.1
      exact (zh6 hc _ hn).1
  · cases b with
    | nil => exact (zh6 (p := zbc) (c := 58) (by decide) v hn).2
    | cons c b =>
      have hc : zbc c = false := by
        rw [List.all_cons, Bool.and_eq_true] at hb
        have := zrU c
        rw [hb.1] at this
        simp only [Bool.not_true, Bool.false_or, Bool.and_eq_true, Bool.not_eq_true'] at this
        exact this.1
      exact (zh6 hc _ hn).2
theorem zrW {s : Str} (h : ∀ x ∈ s, zaA x = false) : zb3 s = s := by
  have hl : ∀ t : Str, (∀ x ∈ t, zaA x = false) → t.dropWhile zaA = t := by
    intro t ht
    cases t with
    | nil => rfl
    | cons y t => rw [List.dropWhile_cons, ht y (List.mem_cons_self ..)]; rfl
  have hr : zfy s = s := by unfold zfy; rw [hl _ (fun x hx => h x (List.mem_reverse.1 hx)), List.reverse_reverse]
  unfold zb3 zgt
  rw [hr, hl s h]
theorem zq8 {n b : Str} (hn : n.all zbc = true) (hb : b.all zaA = true) : zb3 (n ++ b) = n := by
  rw [zoX hb]
  exact zrW (znJ hn).1
theorem zq9 {u : Str} (h : zkR u = false) (ht : zgg (zb3 u) = true) : ∃ b, u = zb3 u ++ b ∧ b.all zaA = true := by
  rcases zlA u with ⟨h1, h2⟩ | ⟨a, c, b, h1, h2, h3, h4⟩
  · have : zb3 u = [] := by unfold zb3; rw [h2]; rfl
    rw [this] at ht; cases ht
  · refine ⟨b, ?_, h3⟩
    have e : zb3 u = a ++ [c] := by
      unfold zb3
      rw [h4]
      unfold zgt
      cases a with
      | nil => show [c].dropWhile zaA = _; rw [List.dropWhile_cons, h2, if_neg Bool.false_ne_true]; rfl
      | cons x a =>
        rw [h1] at h
        have hx : zaA x = false := h
        rw [List.cons_append, List.dropWhile_cons, hx, if_neg Bool.false_ne_true]
    rw [e, h1]; simp
theorem zrX (s : Str) : zoz s = zck s := by
  unfold zoz zck
  rw [zqg]
  cases s.any ([13, 10] : Str).contains with
  | true => rfl
  | false =>
    cases hb : zkR s with
    | true => rfl
    | false =>
      rw [if_neg Bool.false_ne_true, if_neg Bool.false_ne_true, if_neg Bool.false_ne_true, if_neg Bool.false_ne_true]
      have e1 := List.takeWhile_append_dropWhile (p := zbc) (l := s)
      have e2 := List.takeWhile_append_dropWhile (p := zaA) (l := s.dropWhile zbc)
      have hn := all_takeWhile zbc s
      have hbb := all_takeWhile zaA (s.dropWhile zbc)
      cases hc : zfv 58 ((s.dropWhile zbc).dropWhile zaA) with
      | true =>
        have e3 := zfC hc
        generalize zaD 58 ((s.dropWhile zbc).dropWhile zaA) = v at e3
        generalize s.takeWhile zbc = n at e1 hn
        generalize (s.dropWhile zbc).takeWhile zaA = b at e2 hbb
        have es : s = (n ++ b) ++ 58 :: v := by rw [← e1, ← e2, e3, List.append_assoc]
        have hno : (58 : UInt8) ∉ n ++ b := fun hx => by
          rcases List.mem_append.1 hx with h | h
          · exact (znJ hn).2 h
          · exact zrV hbb h
        obtain ⟨u1, u2⟩ := zs4 (n ++ b) v hno
        rw [es, u1, u2, zq8 hn hbb]
        have ht : zgg n = !(n == []) := by unfold zgg; rw [hn, Bool.true_and]
        rw [ht]
        have hlt : decide (n.length < (n ++ b).length) = !(b == []) := by
          cases b with
          | nil => simp
          | cons x b => simp
        rw [hlt]
        show (if (n == [] || false) = true then _ else _) = if (false || !(!(n == []))) = true then _ else _
        rw [Bool.or_false, Bool.false_or, Bool.not_not]
        rfl
      | false =>
        rw [Bool.not_false, Bool.or_true, if_pos rfl]
        cases hf : z8 [58] s with
        | nil => rfl
        | cons c v =>
          have hc58 : c = 58 := by simpa using zji hf
          subst hc58
          cases ht : zgg (zb3 (upto [58] s)) with
          | false => rfl
          | true =>
            exfalso
            have es := zbl [58] s
            rw [hf] at es
            have hub : zkR (upto [58] s) = false := by
              cases hu : upto [58] s with
              | nil => rfl
              | cons x u => rw [hu] at es; rw [← es] at hb; exact hb
            obtain ⟨b, eb, hbl⟩ := zq9 hub ht
            unfold zgg at ht
            rw [Bool.and_eq_true] at ht
            have es2 : s = zb3 (upto [58] s) ++ (b ++ 58 :: v) := by
              rw [← List.append_assoc, ← eb]; exact es.symm
            obtain ⟨_, q2, _, q4⟩ := zq7 (v := v) ht.1 hbl
            rw [es2, q2, q4] at hc
            cases hc
theorem zjT (s : Str) (hs : s.length < 1000000000) : zcp s = some (zck s) := by rw [zjr s hs, zrX]
theorem zlD (s : Str) (hs : s.length < 1000000000) : zfh s = some (s.all zfs) := by
  unfold zfh
  have key : ∀ (n i : Nat), i ≤ s.length → s.length - i < n → zbM s n (i : Int) = some ((s.drop i).all zfs) := by
    intro n
    induction n with
    | zero => intro i _ h; omega
    | succ n ih =>
      intro i hi h
      rw [zbM]
      by_cases hlt : i < s.length
      · have g : s[i]? = some s[i] := List.getElem?_eq_getElem hlt
        rw [decide_eq_true (show (i : Int) < (s.length : Int) by omega), if_pos rfl, zab, g, Option.bind_some, zi2, Option.bind_some, zq (by omega), Option.bind_some, ih (i + 1) (by omega) (by omega), List.drop_eq_getElem_cons hlt, List.all_cons]
        cases zfs s[i] <;> rfl
      · have : i = s.length := by omega
        subst this
        rw [decide_eq_false (by omega), if_neg Bool.false_ne_true, List.drop_length]
        rfl
  have := key fuel 0 (Nat.zero_le _) (by unfold fuel; omega)
  rw [List.drop_zero] at this
  exact this
theorem zpr (s : Str) (hs : s.length < 1000000000) : zcd s false = some (if z8 [58] s == [] || !zgg (zb3 (upto [58] s)) then (zcj, 21)
  else if decide ((zb3 (upto [58] s)).length < (upto [58] s).length) then (zcj, 22)
  else if !(((z8 [58] s).drop 1).all zfs) then (zcj, 25)
  else ((⟨zb3 (upto [58] s), zb3 ((z8 [58] s).drop 1)⟩, 0) : api_Field × Int)) := by
  unfold zcd
  rw [if_neg Bool.false_ne_true]
  have hu := zh2 [58] s
  have htu := zo0 (upto [58] s)
  have fin : ∀ rec4, zcc rec4 s ((upto [58] s).length : Int) false = some (if z8 [58] s == [] || !zgg (zb3 (upto [58] s)) then (zcj, 21)
      else if decide ((zb3 (upto [58] s)).length < (upto [58] s).length) then (zcj, 22)
      else if !(((z8 [58] s).drop 1).all zfs) then (zcj, 25)
      else ((⟨zb3 (upto [58] s), zb3 ((z8 [58] s).drop 1)⟩, 0) : api_Field × Int)) := by
    intro rec4
    unfold zcc
    rw [if_neg Bool.false_ne_true, zef hu, Option.bind_some, zhC, zjO _ (by omega), Option.bind_some, zi3 _ (by omega), Option.bind_some]
    cases hf : z8 [58] s with
    | nil =>
      have hl : (upto [58] s).length = s.length := (zcs [58] s).1 hf
      rw [hl, beq_self_eq_true, if_pos rfl]
      rfl
    | cons c v =>
      have hl := congrArg List.length (zbl [58] s)
      rw [hf, List.length_append, List.length_cons] at hl
      have hne : (((upto [58] s).length : Int) == (s.length : Int)) = false := beq_eq_false_iff_ne.2 (by omega)
      have hd : s.drop ((upto [58] s).length + 1) = v := by rw [← List.drop_drop, zfA, hf]; rfl
      rw [hne, if_neg Bool.false_ne_true]
      unfold zdX
      show _ = some (if (false || !zgg (zb3 (upto [58] s))) = true then _ else _)
      rw [Bool.false_or]
      cases zgg (zb3 (upto [58] s)) with
      | false => rfl
      | true =>
        rw [Bool.not_true, if_neg Bool.false_ne_true, if_neg Bool.false_ne_true]
        by_cases hlt : (zb3 (upto [58] s)).length < (upto [58] s).length
        · rw [decide_eq_true (show ((zb3 (upto [58] s)).length : Int) < ((upto [58] s).length : Int) by omega), decide_eq_true hlt]; rfl
        · rw [decide_eq_false (show ¬ ((zb3 (upto [58] s)).length : Int) < ((upto [58] s).length : Int) by omega), decide_eq_false hlt, if_neg Bool.false_ne_true, if_neg Bool.false_ne_true, zq (by omega), Option.bind_some, zag (by omega), Option.bind_some, hd, zlD v (by omega), Option.bind_some, Option.bind_some, zag (by omega), Option.bind_some, hd, zjO v (by omega), Option.bind_some]
          show _ = some (if (!v.all zfs) = true then _ else _)
          cases v.all zfs <;> rfl
  have key : ∀ (n i : Nat), i ≤ (upto [58] s).length → (upto [58] s).length - i < n → zaw s n (i : Int) = some (if z8 [58] s == [] || !zgg (zb3 (upto [58] s)) then (zcj, 21)
      else if decide ((zb3 (upto [58] s)).length < (upto [58] s).length) then (zcj, 22)
      else if !(((z8 [58] s).drop 1).all zfs) then (zcj, 25)
      else ((⟨zb3 (upto [58] s), zb3 ((z8 [58] s).drop 1)⟩, 0) : api_Field × Int)) := by
    intro n
    induction n with
    | zero => intro i _ h; omega
    | succ n ih =>
      intro i hi h
      rw [zaw]
      by_cases hlt : i < (upto [58] s).length
      · have g : s[i]? = some (upto [58] s)[i] := by
          have e := List.getElem?_append_left (l₂ := z8 [58] s) hlt
          rw [zbl] at e; rw [e]; exact List.getElem?_eq_getElem hlt
        have hno := zlY (upto [58] s)[i] (List.getElem_mem hlt)
        generalize (upto [58] s)[i] = c at g hno
        have h1 : (c == 58) = false := by simpa using hno
        unfold zcc
        rw [decide_eq_true (show (i : Int) < (s.length : Int) by omega), if_pos rfl, zab, g, Option.bind_some, h1, Bool.not_false, if_pos rfl, zq (by omega), Option.bind_some]
        exact ih (i + 1) (by omega) (by omega)
      · have hie : i = (upto [58] s).length := by omega
        subst hie
        cases hf : z8 [58] s with
        | nil =>
          have hl : (upto [58] s).length = s.length := (zcs [58] s).1 hf
          rw [decide_eq_false (by omega), if_neg Bool.false_ne_true]
          have := fin (zaw s n)
          rw [hf] at this
          exact this
        | cons c v =>
          have hc : c = 58 := by simpa using zji hf
          subst hc
          have hd := zfA [58] s
          rw [hf] at hd
          have hlt2 := (zkI hd).1
          have g : s[(upto [58] s).length]? = some 58 := by have := congrArg (·[0]?) hd; simpa using this
          rw [decide_eq_true (by omega), if_pos rfl, zab, g, Option.bind_some]
          have := fin (zaw s n)
          rw [hf] at this
          exact this
  exact key fuel 0 (Nat.zero_le _) (by unfold fuel; omega)
theorem zml (s : Str) (hs : s.length < 1000000000) : zgd s = some (zck s) := by
  unfold zgd
  have key : ∀ (n i : Nat), i ≤ s.length → s.length - i < n → zba s n (i : Int) = some (if (s.drop i).any ([13, 10] : Str).contains then (zcj, 24) else if zkR s then (zcj, 23)
      else if z8 [58] s == [] || !zgg (zb3 (upto [58] s)) then (zcj, 21)
      else if decide ((zb3 (upto [58] s)).length < (upto [58] s).length) then (zcj, 22)
      else if !(((z8 [58] s).drop 1).all zfs) then (zcj, 25)
      else ((⟨zb3 (upto [58] s), zb3 ((z8 [58] s).drop 1)⟩, 0) : api_Field × Int)) := by
    intro n
    induction n with
    | zero => intro i _ h; omega
    | succ n ih =>
      intro i hi h
      rw [zba]
      by_cases hlt : i < s.length
      · have g : s[i]? = some s[i] := List.getElem?_eq_getElem hlt
        have hcc : ([13, 10] : Str).contains s[i] = (s[i] == 13 || s[i] == 10) := by simp only [List.contains_cons, List.contains_nil, Bool.or_false]
        have ihh := ih (i + 1) (by omega) (by omega)
        unfold zdW
        rw [decide_eq_true (show (i : Int) < (s.length : Int) by omega), if_pos rfl, zab, g, Option.bind_some, Option.bind_some, zq (by omega), Option.bind_some, ihh, List.drop_eq_getElem_cons hlt, List.any_cons, hcc]
        cases s[i] == 13 with
        | true => rfl
        | false =>
          rw [if_neg Bool.false_ne_true, Bool.false_or]
          cases s[i] == 10 <;> rfl
      · have : i = s.length := by omega
        subst this
        rw [decide_eq_false (by omega), if_neg Bool.false_ne_true, List.drop_length, List.any_nil, if_neg Bool.false_ne_true]
        have j3 := zpr s hs
        have j3t : zcd s true = some (zcj, 23) := rfl
        cases s with
        | nil => rw [decide_eq_false (by decide), if_neg Bool.false_ne_true, j3]; rfl
        | cons c t =>
          rw [decide_eq_true (by simp only [List.length_cons]; omega), if_pos rfl, zi5, List.getElem?_cons_zero, Option.bind_some, zha, Option.bind_some]
          show _ = some (if zaA c = true then _ else _)
          cases zaA c with
          | true => exact j3t
          | false => rw [j3]; rfl
  have := key fuel 0 (Nat.zero_le _) (by unfold fuel; omega)
  rw [List.drop_zero] at this
  exact this
end Go.Dm
end
section
namespace Go.Dm
def lines : Str → List Str
  | [] => [[]]
  | [c] => [[c]]
  | c :: d :: r => if c == 13 && d == 10 then [] :: lines r else zcD [c] (lines (d :: r))
theorem zjj (c d : UInt8) (r : Str) : lines (c :: d :: r) = if c == 13 && d == 10 then [] :: lines r else zcD [c] (lines (d :: r)) := by rw [lines]
theorem zrY (c d : UInt8) (r : Str) : ([13, 10] : Str).isPrefixOf (c :: d :: r) = (c == 13 && d == 10) := by
  show ((13 : UInt8) == c && ((10 : UInt8) == d && ([] : Str).isPrefixOf r)) = _
  have : ([] : Str).isPrefixOf r = true := by simp
  rw [this, Bool.and_true, show ((13 : UInt8) == c) = (c == 13) from by rw [Bool.eq_iff_iff, beq_iff_eq, beq_iff_eq]; exact eq_comm, show ((10 : UInt8) == d) = (d == 10) from by rw [Bool.eq_iff_iff, beq_iff_eq, beq_iff_eq]; exact eq_comm]
theorem zpt : ∀ (n : Nat) (s : Str), s.length < n → lines s ≠ []
  | 0, _, h => by omega
  | n + 1, [], _ => by simp [lines]
  | n + 1, [c], _ => by simp [lines]
  | n + 1, c :: d :: r, h => by
    rw [zjj]
    split
    · simp
    · simp only [List.length_cons] at h
      cases hl : lines (d :: r) with
      | nil => exact absurd hl (zpt n _ (by simp only [List.length_cons]; omega))
      | cons a t => simp [zcD]
theorem zkh (s : Str) : lines s ≠ [] := zpt _ s (Nat.lt_succ_self _)
theorem znK : ∀ (n : Nat) (s : Str), s.length < n → lines s = match zaf [13, 10] s with | none => [s] | some p => p.1 :: lines p.2
  | 0, _, h => by omega
  | n + 1, [], _ => by simp [lines, zaf]
  | n + 1, [c], _ => by
    have : ([13, 10] : Str).isPrefixOf [c] = false := by
      show ((13 : UInt8) == c && false) = false
      rw [Bool.and_false]
    rw [zaf, this, if_neg Bool.false_ne_true]
    simp [lines, zaf]
  | n + 1, c :: d :: r, h => by
    simp only [List.length_cons] at h
    have ih := znK n (d :: r) (by simp only [List.length_cons]; omega)
    rw [zjj, zaf, zrY]
    cases hc : (c == 13 && d == 10) with
    | true => rfl
    | false =>
      rw [if_neg Bool.false_ne_true, if_neg Bool.false_ne_true, ih]
      cases zaf [13, 10] (d :: r) with
      | none => rfl
      | some p => rfl
theorem zpu (s : Str) : lines s = match zaf [13, 10] s with | none => [s] | some p => p.1 :: lines p.2 := znK _ s (Nat.lt_succ_self _)
theorem zln : ∀ (k : Nat) (s : Str), Go.Lib.count s [13, 10] = k → Go.Lib.splitK [13, 10] 0 k s = lines s
  | k, s, h => by
    have hi := zjm (t := [13, 10]) (by decide) s
    rw [zpu]
    cases hc : zaf [13, 10] s with
    | none =>
      rw [hc] at hi
      have h0 := Go.Lib.count_miss hi
      have : k = 0 := by omega
      subst this
      rfl
    | some p =>
      rw [hc] at hi
      have e := zbd (a := p.1) (b := p.2) hc
      have e1 : s.take p.1.length = p.1 := by rw [e, List.append_assoc, List.take_left']; rfl
      have e2 : s.drop (p.1.length + 2) = p.2 := by rw [e, List.drop_left']; simp
      have hh := Go.Lib.count_hit (i := p.1.length) (by decide) hi
      rw [show ([13, 10] : Str).length = 2 from rfl, e2] at hh
      obtain ⟨m, rfl⟩ : ∃ m, k = m + 1 := ⟨k - 1, by omega⟩
      have ih := zln m p.2 (by omega)
      unfold Go.Lib.splitK
      have hn : (((p.1.length : Int)) == -1) = false := beq_eq_false_iff_ne.2 (by omega)
      rw [hi]
      dsimp only
      rw [hn, if_neg Bool.false_ne_true, Int.toNat_natCast, Nat.add_zero, e1, show ([13, 10] : Str).length = 2 from rfl, e2, ih]
theorem zjU (s : Str) (hs : s.length < 1000000000) : strings_Split s [13, 10] = some (lines s) := by
  unfold strings_Split
  rw [if_pos ⟨by omega, by decide⟩]
  exact congrArg some (zln _ s rfl)
theorem zkT : ∀ (n : Nat) (s : Str), s.length < n → (lines s).length ≤ s.length + 1 ∧ ∀ l ∈ lines s, l.length ≤ s.length
  | 0, _, h => by omega
  | n + 1, s, h => by
    rw [zpu]
    cases hc : zaf [13, 10] s with
    | none => simp
    | some p =>
      have e := congrArg List.length (zbd (a := p.1) (b := p.2) hc)
      simp only [List.length_append, List.length_cons, List.length_nil] at e
      obtain ⟨h1, h2⟩ := zkT n p.2 (by omega)
      dsimp only
      refine ⟨by simp only [List.length_cons]; omega, fun l hl => ?_⟩
      rcases List.mem_cons.1 hl with h | h
      · rw [h]; omega
      · have := h2 l h; omega
theorem zlo {t : Str} : ∀ {s : Str}, s.length < t.length → zaf t s = none := fun {s} h => by
  cases hc : zaf t s with
  | none => rfl
  | some p =>
    have e := congrArg List.length (zbd (a := p.1) (b := p.2) hc)
    simp only [List.length_append] at e
    omega
theorem zki (s t : Str) (hs : s.length < 1000000000) (ht : t ≠ []) : strings_Index s t = some (match zaf t s with | none => -1 | some p => (p.1.length : Int)) := by
  unfold strings_Index
  rw [if_pos (by omega), zl7, zjm ht]
  cases zaf t s <;> rfl
theorem zoA (s : Str) (hs : s.length < 1000000000) : zhM s = some (match zaf [13, 10, 13, 10] s with | none => -1 | some p => ((p.1.length + 4 : Nat) : Int)) := by
  unfold zhM
  have key : ∀ (n i : Nat), i ≤ s.length → s.length - i < n → zc1 s n (i : Int) = some (match zaf [13, 10, 13, 10] (s.drop i) with | none => -1 | some p => ((i + p.1.length + 4 : Nat) : Int)) := by
    intro n
    induction n with
    | zero => intro i _ h; omega
    | succ n ih =>
      intro i hi h
      have a4 : zE (i : Int) 4 = some ((i + 4 : Nat) : Int) := by rw [zbi (by omega) (by omega)]; exact congrArg some (by omega)
      rw [zc1, a4, Option.bind_some, Option.bind_some, Option.bind_some]
      by_cases hle : i + 4 ≤ s.length
      · have hlt : i < s.length := by omega
        have sb : zeK s (i : Int) ((i + 4 : Nat) : Int) = some ((s.drop i).take 4) := by
          rw [zdb (by omega) hle, ← List.take_drop]
        have hpre : ((s.drop i).take 4 == ([13, 10, 13, 10] : Str)) = ([13, 10, 13, 10] : Str).isPrefixOf (s.drop i) := by
          rw [Bool.eq_iff_iff, List.isPrefixOf_iff_prefix, beq_iff_eq, List.prefix_iff_eq_take]
          exact eq_comm
        rw [decide_eq_true (show ((i + 4 : Nat) : Int) ≤ (s.length : Int) by omega), if_pos rfl, sb, Option.bind_some, hpre, List.drop_eq_getElem_cons hlt, zaf]
        split
        · rfl
        · rw [zq (by omega), Option.bind_some, ih (i + 1) (by omega) (by omega)]
          cases zaf [13, 10, 13, 10] (s.drop (i + 1)) with
          | none => rfl
          | some p =>
            show some ((i + 1 + p.1.length + 4 : Nat) : Int) = some ((i + (p.1.length + 1) + 4 : Nat) : Int)
            exact congrArg some (by omega)
      · rw [decide_eq_false (show ¬ ((i + 4 : Nat) : Int) ≤ (s.length : Int) by omega), if_neg Bool.false_ne_true, zlo (by rw [List.length_drop, show ([13, 10, 13, 10] : Str).length = 4 from rfl]; omega)]
  have := key fuel 0 (Nat.zero_le _) (by unfold fuel; omega)
  rw [List.drop_zero] at this
  rw [show (0 : Int) = ((0 : Nat) : Int) from rfl, this]
  cases zaf [13, 10, 13, 10] s with
  | none => rfl
  | some p =>
    show some ((0 + p.1.length + 4 : Nat) : Int) = some ((p.1.length + 4 : Nat) : Int)
    exact congrArg some (by omega)
def zeo (h : api_Head) : List Str := (h.Fields.filter (isN [104, 111, 115, 116])).map (·.Value)
def zkj (h : api_Head) : Bool := if h.Kind == 1 then (if decide (1 < (zeo h).length) || decide (((zeo h).length : Int) < h.Minor) then false else (zeo h).all (fun x => x == [] || (zbF x).2 == 0)) else true
def ziM (h : api_Head) : Int := if decide (100 < h.Fields.length) then 3 else if zkj h then 0 else 27
theorem zrZ : isN ([72, 111, 115, 116] : Str) = isN [104, 111, 115, 116] := by
  funext f
  unfold isN
  have : low ([72, 111, 115, 116] : Str) = low ([104, 111, 115, 116] : Str) := by decide
  rw [this]
theorem znh (l : List api_Field) (nm : Str) (hn : nm.length < 1000000000) (hl : l.length < 1000000000) (hs : zeJ 1000000000 l) : zdE ⟨l⟩ nm = some ((l.filter (isN nm)).map (·.Value)) := by
  unfold zdE zgw
  rw [zpi l hl, Option.bind_some, Option.bind_some]
  have key : ∀ (n i : Nat) (out : List Str), i ≤ l.length → l.length - i < n → out.length ≤ i → zar nm l n out (i : Int) = some (out ++ ((l.drop i).filter (isN nm)).map (·.Value)) := by
    intro n
    induction n with
    | zero => intro i _ _ h; omega
    | succ n ih =>
      intro i out hi h ho
      rw [zar]
      by_cases hlt : i < l.length
      · have g : l[i]? = some l[i] := List.getElem?_eq_getElem hlt
        have hsm := hs l[i] (List.getElem_mem _)
        rw [decide_eq_true (show (i : Int) < (l.length : Int) by omega), if_pos rfl, zed, g, Option.bind_some, znm _ _ hsm.1 hn, Option.bind_some, if_pos (zih (by omega) (by omega))]
        unfold zcw
        rw [zq (by omega), Option.bind_some, Option.bind_some, ih (i + 1) _ (by omega) (by omega) (by simp; omega), ih (i + 1) _ (by omega) (by omega) (by omega), List.drop_eq_getElem_cons hlt, List.filter_cons]
        show (if (isN nm l[i]) = true then _ else _) = _
        cases isN nm l[i] with
        | true => simp
        | false => rfl
      · have : i = l.length := by omega
        subst this
        rw [decide_eq_false (by omega), if_neg Bool.false_ne_true, List.drop_length]
        simp
  have := key fuel 0 [] (Nat.zero_le _) (by unfold fuel; omega) (by simp)
  rw [List.drop_zero, List.nil_append] at this
  exact this
theorem zni (h : api_Head) (hl : h.Fields.length < 1000000000) (hs : zeJ 400000000 h.Fields) : zgS h = some (zkj h) := by
  unfold zgS zkj
  cases h.Kind == 1 with
  | false => rfl
  | true =>
    have hvl : (zeo h).length ≤ h.Fields.length := by unfold zeo; rw [List.length_map]; exact List.length_filter_le _ _
    have hvm : ∀ v ∈ zeo h, v.length < 400000000 := fun v hv => by
      obtain ⟨f, hf, rfl⟩ := List.mem_map.1 hv
      exact (hs f (List.mem_filter.1 hf).1).2
    rw [Bool.not_true, if_neg Bool.false_ne_true, if_pos rfl]
    unfold zlQ
    rw [zpi _ hl, Option.bind_some, Option.bind_some, znh _ _ (by decide) hl (zli (by decide) hs), Option.bind_some, zrZ]
    show (if decide (1 < ((zeo h).length : Int)) = true then zcF (zeo h) true else zcF (zeo h) (decide (((zeo h).length : Int) < h.Minor))) = _
    generalize zeo h = vs at hvl hvm
    have key : ∀ (n i : Nat), i ≤ vs.length → vs.length - i < n → zbs vs n (i : Int) = some ((vs.drop i).all (fun x => x == [] || (zbF x).2 == 0)) := by
      intro n
      induction n with
      | zero => intro i _ h; omega
      | succ n ih =>
        intro i hi h
        rw [zbs]
        by_cases hlt : i < vs.length
        · have g : vs[i]? = some vs[i] := List.getElem?_eq_getElem hlt
          have hsm := hvm vs[i] (List.getElem_mem _)
          unfold zet
          rw [decide_eq_true (show (i : Int) < (vs.length : Int) by omega), if_pos rfl, zed, g, Option.bind_some, ze8 _ hsm, Option.bind_some, zq (by omega), Option.bind_some, ih (i + 1) (by omega) (by omega), List.drop_eq_getElem_cons hlt, List.all_cons]
          cases (zbF vs[i]).2 == 0 <;> cases vs[i] == [] <;> rfl
        · have : i = vs.length := by omega
          subst this
          rw [decide_eq_false (by omega), if_neg Bool.false_ne_true, List.drop_length]
          rfl
    have hk := key fuel 0 (Nat.zero_le _) (by unfold fuel; omega)
    rw [List.drop_zero] at hk
    unfold zcF
    by_cases h1 : 1 < vs.length
    · rw [decide_eq_true (show 1 < (vs.length : Int) by omega), decide_eq_true h1]; rfl
    · rw [decide_eq_false (show ¬ 1 < (vs.length : Int) by omega), decide_eq_false h1, if_neg Bool.false_ne_true, Bool.false_or]
      cases decide ((vs.length : Int) < h.Minor) with
      | true => rfl
      | false => exact hk
theorem znj (h : api_Head) (hl : h.Fields.length < 1000000000) (hs : zeJ 400000000 h.Fields) : zfD h = some (ziM h) := by
  unfold zfD ziM
  rw [zni h hl hs, Option.bind_some]
  by_cases h1 : 100 < h.Fields.length
  · rw [decide_eq_true (show 100 < (h.Fields.length : Int) by omega), decide_eq_true h1]; rfl
  · rw [decide_eq_false (show ¬ 100 < (h.Fields.length : Int) by omega), decide_eq_false h1]
    cases zkj h <;> rfl
structure GoodH (h : api_Head) : Prop where
  kind : h.Kind = 1 ∨ h.Kind = 2
  minor : h.Minor = 0 ∨ h.Minor = 1
theorem hostE (x : Str) : (zbF x).2 = 0 ∨ (zbF x).2 = 27 := by
  unfold zbF
  split
  · exact .inl rfl
  · split
    · exact .inr rfl
    · split
      · exact .inl rfl
      · exact .inr rfl
theorem zmn (h : api_Head) (hg : GoodH h) (hl : h.Fields.length < 1000000000) (hs : zeJ 400000000 h.Fields) : zge h = some (ziM h) := by
  unfold zge ziM
  by_cases h1 : 100 < h.Fields.length
  · rw [decide_eq_true (show 100 < (h.Fields.length : Int) by omega), decide_eq_true h1]; rfl
  · rw [decide_eq_false (show ¬ 100 < (h.Fields.length : Int) by omega), decide_eq_false h1, if_neg Bool.false_ne_true, if_neg Bool.false_ne_true]
    unfold zkj
    rcases hg.kind with hk | hk
    · rw [hk]
      show ((zec h.Fields [104, 111, 115, 116]).bind _) = _
      rw [zlC _ _ (by decide) hl (zli (by decide) hs), Option.bind_some]
      have hvm : ∀ v ∈ zeo h, v.length < 400000000 := fun v hv => by
        obtain ⟨f, hf, rfl⟩ := List.mem_map.1 hv
        exact (hs f (List.mem_filter.1 hf).1).2
      show (if decide (1 < ((zeo h).length : Int)) = true then zak (zeo h) true else if (h.Minor == 1) = true then zak (zeo h) (((zeo h).length : Int) == 0) else zak (zeo h) false) = some (if (if decide (1 < (zeo h).length) || decide (((zeo h).length : Int) < h.Minor) then false else (zeo h).all (fun x => x == [] || (zbF x).2 == 0)) = true then (0 : Int) else 27)
      generalize zeo h = vs at hvm
      match vs, hvm with
      | [], _ => rcases hg.minor with hm | hm <;> rw [hm] <;> rfl
      | [x], hvm =>
        have hx := hvm x (List.mem_cons_self ..)
        have j : zak [x] false = some (if ([x] : List Str).all (fun x => x == [] || (zbF x).2 == 0) then 0 else 27) := by
          unfold zak zdY
          show (if (!(x == [])) = true then (zcW x).bind _ else _) = _
          rw [zgN x hx, Option.bind_some, List.all_cons, List.all_nil, Bool.and_true]
          cases hx0 : x == [] with
          | true => rfl
          | false =>
            rcases hostE x with h | h <;> rw [h] <;> rfl
        have e1 : ∀ m : Int, m = 0 ∨ m = 1 → decide ((([x] : List Str).length : Int) < m) = false := fun m h => by
          rcases h with h | h <;> rw [h] <;> rfl
        rw [e1 _ hg.minor]
        show (if (h.Minor == 1) = true then zak [x] false else zak [x] false) = some (if ([x] : List Str).all (fun x => x == [] || (zbF x).2 == 0) = true then (0 : Int) else 27)
        rw [j]
        cases h.Minor == 1 <;> cases ([x] : List Str).all (fun x => x == [] || (zbF x).2 == 0) <;> rfl
      | x :: y :: l, _ =>
        have e1 : decide (1 < ((x :: y :: l : List Str).length : Int)) = true := decide_eq_true (by simp only [List.length_cons]; omega)
        have e2 : decide (1 < (x :: y :: l : List Str).length) = true := decide_eq_true (by simp)
        rw [e1, e2]; rfl
    · rw [hk]; rfl
theorem zmo {k : Int} {s : Str} {x : api_Head} (h : zb5 k s = (x, 0)) : GoodH x := by
  have hb := zrh h
  rcases zmF h with ⟨hk, h⟩ | ⟨hk, h⟩
  · refine ⟨.inl (hb.kind.trans hk), ?_⟩
    rcases zmG s with (h1 | h1) | ⟨h1, h2⟩
    · rw [h1] at h; exact absurd (show (26 : Int) = 0 from congrArg Prod.snd h) (by decide)
    · rw [h1] at h; exact absurd (show (20 : Int) = 0 from congrArg Prod.snd h) (by decide)
    · obtain ⟨v, _, _, _, _, _, k1, k2, k3, _⟩ := zjX h1
      rw [h2] at h
      have hx := congrArg Prod.fst h
      dsimp only at hx
      rw [← hx]
      dsimp only
      rw [k3]
      rcases zgJ k1 k2 with ⟨_, e⟩ | ⟨_, e⟩
      · exact .inl e
      · exact .inr e
  · refine ⟨.inr (hb.kind.trans hk), ?_⟩
    unfold znl at h
    split at h
    · exact absurd (show (26 : Int) = 0 from congrArg Prod.snd h) (by decide)
    · split at h
      · rename_i h1
        obtain ⟨b, w, r, e1, e2, _, _⟩ := zh8 h1
        have hx := congrArg Prod.fst h
        dsimp only at hx
        rw [← hx]
        dsimp only
        rw [e2, zpm b _ e1]
        rcases e1 with e | e <;> subst e
        · exact .inl rfl
        · exact .inr rfl
      · exact absurd (show (20 : Int) = 0 from congrArg Prod.snd h) (by decide)
def ziN (h : api_Head) (f : api_Field) : api_Head := ⟨h.Kind, h.Method, h.Target, h.Code, h.Reason, h.Minor, h.Fields ++ [f]⟩
def zfu : api_Head → List Str → api_Head × Int
  | h, [] => if ziM h == 0 then (h, 0) else (zbf, ziM h)
  | h, l :: ls => if (zck l).2 == 0 then zfu (ziN h (zck l).1) ls else (zbf, (zck l).2)
def zkk (k : Int) : List Str → api_Head × Int
  | [] => (zbf, 6)
  | l :: ls => if (zb5 k l).2 == 0 then zfu (zb5 k l).1 ls else (zbf, (zb5 k l).2)
def zmp (k : Int) (s : Str) (lim : Int) : api_Head × Int :=
  if !(k == 1) && !(k == 2) then (zbf, 1) else if decide (lim < (s.length : Int)) then (zbf, 3) else match zaf [13, 10, 13, 10] s with
  | none => (zbf, 6)
  | some p => if p.2 == [] then zkk k (lines p.1) else (zbf, 6)
theorem zqi (l : Str) : (zck l).1.Name.length ≤ l.length ∧ (zck l).1.Value.length ≤ l.length := by
  unfold zck
  have h1 := zo0 (upto [58] l)
  have h2 := zh2 [58] l
  have h3 := zo0 ((z8 [58] l).drop 1)
  have h4 := congrArg List.length (zbl [58] l)
  simp only [List.length_append] at h4
  simp only [List.length_drop] at h3
  split
  · simp [zcj]
  · split
    · simp [zcj]
    · split
      · simp [zcj]
      · split
        · simp [zcj]
        · split
          · simp [zcj]
          · dsimp only; omega
theorem znL {h : api_Head} (hg : GoodH h) (f : api_Field) : GoodH (ziN h f) := ⟨hg.kind, hg.minor⟩
theorem zjV {h : api_Head} {l : Str} (hs : zeJ 400000000 h.Fields) (hl : l.length < 400000000) : zeJ 400000000 (ziN h (zck l).1).Fields := by
  intro f hf
  rcases List.mem_append.1 hf with h1 | h1
  · exact hs f h1
  · have := zqi l
    have e : f = (zck l).1 := by simpa using h1
    rw [e]; omega
theorem zqj (h : api_Head) (hl : h.Fields.length < 1000000000) (hs : zeJ 400000000 h.Fields) : zeu h.Kind h.Method h.Target h.Code h.Reason h.Minor h.Fields = some (zfu h []) := by
  unfold zeu
  rw [znj _ hl hs, Option.bind_some, zfu]
  cases ziM h == 0 <;> rfl
theorem zmq (ls : List Str) (hln : ls.length < 100000000) (hls : ∀ l ∈ ls, l.length < 400000000) : ∀ (n i : Nat) (h : api_Head), i ≤ ls.length → ls.length - i < n → zeJ 400000000 h.Fields → h.Fields.length ≤ i →
    zcG ls n h.Kind h.Method h.Target h.Code h.Reason h.Minor h.Fields (i : Int) = some (zfu h (ls.drop i))
  | 0, _, _, _, h, _, _ => by omega
  | n + 1, i, h, hi, hn, hs, hfl => by
    rw [zcG]
    by_cases hlt : i < ls.length
    · have g : ls[i]? = some ls[i] := List.getElem?_eq_getElem hlt
      have hsm := hls ls[i] (List.getElem_mem _)
      have ih := zmq ls hln hls n (i + 1) (ziN h (zck ls[i]).1) (by omega) (by omega) (zjV hs hsm) (by unfold ziN; simp; omega)
      rw [decide_eq_true (show (i : Int) < (ls.length : Int) by omega), if_pos rfl, zed, g, Option.bind_some, zjT _ (by omega), Option.bind_some, if_pos (zih (by omega) (by omega)), zq (by omega), Option.bind_some, List.drop_eq_getElem_cons hlt, zfu]
      cases (zck ls[i]).2 == 0 with
      | false => rfl
      | true => exact ih
    · have : i = ls.length := by omega
      subst this
      rw [decide_eq_false (by omega), if_neg Bool.false_ne_true, List.drop_length]
      exact zqj h (by omega) hs
theorem znM (k : Int) : ((zb5 k []).2 == 1) = (!(k == 1) && !(k == 2)) := by
  unfold zb5
  cases h1 : k == 1 with
  | true => rfl
  | false =>
    cases h2 : k == 2 with
    | true => rfl
    | false => rfl
theorem zqk (k : Int) (h : (!(k == 1) && !(k == 2)) = true) : (zb5 k []).2 = 1 := by
  have := znM k
  rw [h] at this
  simpa using this
theorem znk (k : Int) (s : Str) (lim : Int) (hs : s.length < 90000000) : zfE k s lim = some (zmp k s lim) := by
  unfold zfE zmp
  rw [zgL k [] (by decide), Option.bind_some, znM]
  cases hk : (!(k == 1) && !(k == 2)) with
  | true => rw [if_pos rfl, if_pos rfl, zqk k hk]; rfl
  | false =>
    rw [if_neg Bool.false_ne_true, if_neg Bool.false_ne_true, zki s _ (by omega) (by decide), Option.bind_some]
    cases decide (lim < (s.length : Int)) with
    | true => rfl
    | false =>
      rw [if_neg Bool.false_ne_true, if_neg Bool.false_ne_true]
      have j1t : ∀ r, zdg k s r true = some (zbf, 6) := fun r => rfl
      cases hc : zaf [13, 10, 13, 10] s with
      | none => exact j1t (-1)
      | some p =>
        have e := zbd (a := p.1) (b := p.2) hc
        have el := congrArg List.length e
        simp only [List.length_append, List.length_cons, List.length_nil] at el
        have a4 : zE (p.1.length : Int) 4 = some ((p.1.length + 4 : Nat) : Int) := by rw [zbi (by omega) (by omega)]; exact congrArg some (by omega)
        dsimp only
        rw [decide_eq_false (show ¬ (p.1.length : Int) < 0 by omega), if_neg Bool.false_ne_true, a4, Option.bind_some]
        cases hp : p.2 == [] with
        | false =>
          have hne : p.2 ≠ [] := by simpa using hp
          have hpl : 0 < p.2.length := List.length_pos_iff.2 hne
          have : (((p.1.length + 4 : Nat) : Int) == (s.length : Int)) = false := beq_eq_false_iff_ne.2 (by omega)
          rw [this]
          exact j1t _
        | true =>
          have hp0 : p.2 = [] := by simpa using hp
          rw [hp0] at el
          simp only [List.length_nil] at el
          have : (((p.1.length + 4 : Nat) : Int) == (s.length : Int)) = true := by rw [beq_iff_eq]; omega
          rw [this, Bool.not_true, if_pos rfl]
          unfold zdg
          have st : s.take p.1.length = p.1 := by rw [e, List.append_assoc, List.take_left']; rfl
          rw [if_neg Bool.false_ne_true, zef (by omega), Option.bind_some, st, zjU _ (by omega), Option.bind_some]
          obtain ⟨m1, m2⟩ := zkT _ p.1 (Nat.lt_succ_self _)
          cases hl : lines p.1 with
          | nil => exact absurd hl (zkh _)
          | cons l ls =>
            rw [hl] at m1 m2
            have hll := m2 l (List.mem_cons_self ..)
            rw [zr7, List.getElem?_cons_zero, Option.bind_some, zgL k l (by omega), Option.bind_some, zkk]
            cases h0 : (zb5 k l).2 == 0 with
            | false => rfl
            | true =>
              have hf : zpj (l :: ls) 1 = some ls := by
                unfold zpj
                rw [if_pos ⟨by decide, by simp only [List.length_cons]; omega⟩]
                rfl
              rw [Bool.not_true, if_neg Bool.false_ne_true, hf, Option.bind_some, if_pos rfl]
              have hfs := zgx k l
              have := zmq ls (by simp only [List.length_cons] at m1; omega) (fun x hx => by have := m2 x (List.mem_cons_of_mem _ hx); omega) fuel 0 (zb5 k l).1 (Nat.zero_le _) (by simp only [List.length_cons] at m1; unfold fuel; omega) (by rw [hfs]; intro f hf; cases hf) (by rw [hfs]; simp)
              rw [List.drop_zero] at this
              exact this
def zgI (s : Str) (a b : Nat) : Str := (s.take b).drop a
theorem znN (s : Str) (a : Nat) : zgI s a a = [] := by unfold zgI; simp
theorem zmr (s : Str) (a b : Nat) : (zgI s a b).length ≤ s.length := by unfold zgI; simp; omega
theorem zra {s : Str} {a i : Nat} (hai : a ≤ i) (hi : i < s.length) : zgI s a (i + 1) = zgI s a i ++ [s[i]] := by
  unfold zgI
  rw [List.take_succ_eq_append_getElem hi, List.drop_append_of_le_length (by simp; omega)]
theorem zpv (h : api_Head) (hg : GoodH h) (hl : h.Fields.length < 1000000000) (hs : zeJ 400000000 h.Fields) : zdZ h.Kind h.Method h.Target h.Code h.Reason h.Minor h.Fields = some (zfu h []) := by
  unfold zdZ
  rw [zmn _ ⟨hg.kind, hg.minor⟩ hl hs, Option.bind_some, zfu]
  cases ziM h == 0 <;> rfl
theorem zr0 {T s : Str} (hsT : s = T ++ [13, 10, 13, 10]) {i : Nat} (hi : i ≤ T.length) : ∃ x y, s[i]? = some x ∧ s[i + 1]? = some y ∧ zeK s (i : Int) ((i + 2 : Nat) : Int) = some [x, y] := by
  have hl := congrArg List.length hsT
  simp only [List.length_append, List.length_cons, List.length_nil] at hl
  have g0 : s[i]? = some s[i] := List.getElem?_eq_getElem (by omega)
  have g1 : s[i + 1]? = some s[i + 1] := List.getElem?_eq_getElem (by omega)
  refine ⟨_, _, g0, g1, ?_⟩
  rw [zdb (by omega) (by omega), ← List.take_drop, List.drop_eq_getElem_cons (show i < s.length by omega), List.drop_eq_getElem_cons (show i + 1 < s.length by omega)]
  rfl
theorem zqO {k : Int} {T s : Str} (hsT : s = T ++ [13, 10, 13, 10]) (hs : s.length < 90000000) {i : Nat} (hi : i ≤ T.length) (n : Nat) (first : Bool) (h : api_Head) (a : Nat) {x y : UInt8} (h0 : s[i]? = some x) (h1 : s[i + 1]? = some y) (hne : (x == 13 && y == 10) = false) :
    zD k s (n + 1) h.Fields h.Kind h.Method h.Target h.Code h.Reason h.Minor first (a : Int) (i : Int) = zD k s n h.Fields h.Kind h.Method h.Target h.Code h.Reason h.Minor first (a : Int) ((i + 1 : Nat) : Int) := by
  have hl := congrArg List.length hsT
  simp only [List.length_append, List.length_cons, List.length_nil] at hl
  obtain ⟨x', y', g0, g1, g2⟩ := zr0 hsT hi
  rw [h0] at g0; cases g0
  rw [h1] at g1; cases g1
  have a3 : zE (i : Int) 3 = some ((i + 3 : Nat) : Int) := by rw [zbi (by omega) (by omega)]; exact congrArg some (by omega)
  have a2 : zE (i : Int) 2 = some ((i + 2 : Nat) : Int) := by rw [zbi (by omega) (by omega)]; exact congrArg some (by omega)
  have hb : (([x, y] : Str) == [13, 10]) = false := by
    show (x == 13 && (y == 10 && true)) = false
    rw [Bool.and_true]; exact hne
  rw [zD, a3, Option.bind_some, decide_eq_true (show ((i + 3 : Nat) : Int) < (s.length : Int) by omega), if_pos rfl, a2, Option.bind_some, g2, Option.bind_some, hb, Bool.not_false, if_pos rfl]
  unfold zce
  rw [zq (by omega), Option.bind_some]
theorem zqP {k : Int} {T s : Str} (hsT : s = T ++ [13, 10, 13, 10]) (hs : s.length < 90000000) {i : Nat} (hi : i ≤ T.length) (n : Nat) (first : Bool) (h : api_Head) (a : Nat) (ha : a ≤ i) (hf : h.Fields.length < 100000000) (h0 : s[i]? = some 13) (h1 : s[i + 1]? = some 10) :
    zD k s (n + 1) h.Fields h.Kind h.Method h.Target h.Code h.Reason h.Minor first (a : Int) (i : Int) =
      if first then (if (zb5 k (zgI s a i)).2 == 0 then (let r := (zb5 k (zgI s a i)).1; zD k s n r.Fields r.Kind r.Method r.Target r.Code r.Reason r.Minor false ((i + 2 : Nat) : Int) ((i + 1 : Nat) : Int)) else some (zbf, (zb5 k (zgI s a i)).2))
      else (if (zck (zgI s a i)).2 == 0 then (let r := ziN h (zck (zgI s a i)).1; zD k s n r.Fields r.Kind r.Method r.Target r.Code r.Reason r.Minor false ((i + 2 : Nat) : Int) ((i + 1 : Nat) : Int)) else some (zbf, (zck (zgI s a i)).2)) := by
  have hl := congrArg List.length hsT
  simp only [List.length_append, List.length_cons, List.length_nil] at hl
  obtain ⟨x', y', g0, g1, g2⟩ := zr0 hsT hi
  rw [h0] at g0; cases g0
  rw [h1] at g1; cases g1
  have a3 : zE (i : Int) 3 = some ((i + 3 : Nat) : Int) := by rw [zbi (by omega) (by omega)]; exact congrArg some (by omega)
  have a2 : zE (i : Int) 2 = some ((i + 2 : Nat) : Int) := by rw [zbi (by omega) (by omega)]; exact congrArg some (by omega)
  have hml := zmr s a i
  have hsb : zeK s (a : Int) (i : Int) = some (zgI s a i) := zdb ha (by omega)
  rw [zD, a3, Option.bind_some, decide_eq_true (show ((i + 3 : Nat) : Int) < (s.length : Int) by omega), if_pos rfl, a2, Option.bind_some, g2, Option.bind_some, show (!(([13, 10] : Str) == [13, 10])) = false from rfl, if_neg Bool.false_ne_true, hsb, Option.bind_some, Option.bind_some]
  generalize zgI s a i = m at hml
  rw [zmj k m (by omega), Option.bind_some, zml m (by omega), Option.bind_some, if_pos (zih (by omega) (by omega))]
  unfold zce
  rw [zq (by omega), Option.bind_some, Option.bind_some]
  cases first with
  | true => cases (zb5 k m).2 == 0 <;> rfl
  | false => cases (zck m).2 == 0 <;> rfl
theorem zr1 {k : Int} {T s : Str} (hsT : s = T ++ [13, 10, 13, 10]) (hs : s.length < 90000000) (n : Nat) (h : api_Head) (hg : GoodH h) (hf : h.Fields.length < 100000000) (hsm : zeJ 400000000 h.Fields) (a : Int) :
    zD k s (n + 1) h.Fields h.Kind h.Method h.Target h.Code h.Reason h.Minor false a ((T.length + 1 : Nat) : Int) = some (zfu h []) := by
  have hl := congrArg List.length hsT
  simp only [List.length_append, List.length_cons, List.length_nil] at hl
  have a3 : zE ((T.length + 1 : Nat) : Int) 3 = some ((T.length + 4 : Nat) : Int) := by rw [zbi (by omega) (by omega)]; exact congrArg some (by omega)
  rw [zD, a3, Option.bind_some, decide_eq_false (show ¬ ((T.length + 4 : Nat) : Int) < (s.length : Int) by omega), if_neg Bool.false_ne_true]
  exact zpv h hg (by omega) hsm
theorem L3_eq {k : Int} {T s : Str} (hsT : s = T ++ [13, 10, 13, 10]) (hs : s.length < 90000000) : ∀ (d i : Nat), i ≤ T.length → T.length - i ≤ d → ∀ (n : Nat) (first : Bool) (h : api_Head) (a : Nat), T.length - i + 3 ≤ n → a ≤ i → (first = false → GoodH h) → h.Fields.length ≤ i → zeJ 400000000 h.Fields →
    zD k s n h.Fields h.Kind h.Method h.Target h.Code h.Reason h.Minor first (a : Int) (i : Int) = some (if first then zkk k (zcD (zgI s a i) (lines (T.drop i))) else zfu h (zcD (zgI s a i) (lines (T.drop i)))) := by
  intro d
  have hl := congrArg List.length hsT
  simp only [List.length_append, List.length_cons, List.length_nil] at hl
  induction d with
  | zero =>
    intro i hi hd n first h a hn ha hg hfl hsm
    have hie : i = T.length := by omega
    subst hie
    obtain ⟨n, rfl⟩ : ∃ m, n = m + 2 := ⟨n - 2, by omega⟩
    have h0 : s[T.length]? = some 13 := by rw [hsT]; simp
    have h1 : s[T.length + 1]? = some 10 := by rw [hsT]; simp
    have hml := zmr s a T.length
    rw [zqP hsT hs (Nat.le_refl _) (n + 1) first h a ha (by omega) h0 h1, List.drop_length]
    show _ = some (if first = true then zkk k [zgI s a T.length ++ []] else zfu h [zgI s a T.length ++ []])
    rw [List.append_nil]
    generalize zgI s a T.length = m at hml
    cases first with
    | true =>
      rw [if_pos rfl, if_pos rfl, zkk]
      cases h0 : (zb5 k m).2 == 0 with
      | false => rfl
      | true =>
        rw [if_pos rfl, if_pos rfl]
        have hfs := zgx k m
        have hgx : GoodH (zb5 k m).1 := zmo (k := k) (s := m) (by rw [show (0 : Int) = (zb5 k m).2 from (by simpa using h0 : (zb5 k m).2 = 0).symm])
        exact zr1 hsT hs n _ hgx (by rw [hfs]; decide) (by rw [hfs]; intro f hf; cases hf) _
    | false =>
      rw [if_neg Bool.false_ne_true, if_neg Bool.false_ne_true, zfu]
      cases h0 : (zck m).2 == 0 with
      | false => rfl
      | true =>
        rw [if_pos rfl, if_pos rfl]
        exact zr1 hsT hs n _ (znL (hg rfl) _) (by unfold ziN; simp; omega) (zjV hsm (by omega)) _
  | succ d ih =>
    intro i hi hd n first h a hn ha hg hfl hsm
    by_cases hie : T.length - i ≤ d
    · exact ih i hi hie n first h a (by omega) ha hg hfl hsm
    · have hlt : i < T.length := by omega
      obtain ⟨n, rfl⟩ : ∃ m, n = m + 1 := ⟨n - 1, by omega⟩
      have hsi : s[i]? = some T[i] := by rw [hsT, List.getElem?_append_left hlt]; exact List.getElem?_eq_getElem hlt
      obtain ⟨y, hy⟩ : ∃ y, s[i + 1]? = some y := ⟨s[i + 1]'(by omega), List.getElem?_eq_getElem _⟩
      have hsi' : s[i]'(by omega) = T[i] := by have := List.getElem?_eq_getElem (show i < s.length by omega); rw [hsi] at this; exact (Option.some.inj this).symm
      by_cases hc : (T[i] == 13 && y == 10) = true
      · -- a line's end
        have hc' := hc
        simp only [Bool.and_eq_true, beq_iff_eq] at hc'
        obtain ⟨c1, c2⟩ := hc'
        have h0 : s[i]? = some 13 := by rw [hsi, c1]
        have h1 : s[i + 1]? = some 10 := by rw [hy, c2]
        have hlt2 : i + 1 < T.length := by
          by_cases hh : i + 1 < T.length
          · exact hh
          · exfalso
            have e : i + 1 = T.length := by omega
            rw [e, hsT, List.getElem?_append_right (Nat.le_refl _)] at h1
            simp at h1
        have hT1 : T[i + 1] = 10 := by
          have : s[i + 1]? = some T[i + 1] := by rw [hsT, List.getElem?_append_left hlt2]; exact List.getElem?_eq_getElem hlt2
          rw [h1] at this; exact (Option.some.inj this).symm
        have hlines : lines (T.drop i) = [] :: lines (T.drop (i + 2)) := by
          rw [List.drop_eq_getElem_cons hlt, List.drop_eq_getElem_cons hlt2, zjj, c1, hT1]; rfl
        obtain ⟨n, rfl⟩ : ∃ m, n = m + 1 := ⟨n - 1, by omega⟩
        have hml := zmr s a i
        rw [zqP hsT hs hi (n + 1) first h a ha (by omega) h0 h1, hlines]
        show _ = some (if first = true then zkk k ((zgI s a i ++ []) :: lines (T.drop (i + 2))) else zfu h ((zgI s a i ++ []) :: lines (T.drop (i + 2))))
        rw [List.append_nil]
        generalize zgI s a i = m at hml
        -- behind it
        have nxt : ∀ r : api_Head, GoodH r → r.Fields.length ≤ i + 1 → zeJ 400000000 r.Fields → zD k s (n + 1) r.Fields r.Kind r.Method r.Target r.Code r.Reason r.Minor false ((i + 2 : Nat) : Int) ((i + 1 : Nat) : Int) = some (zfu r (lines (T.drop (i + 2)))) := by
          intro r hgr hrl hrs
          obtain ⟨z, hz⟩ : ∃ z, s[i + 1 + 1]? = some z := ⟨s[i + 1 + 1]'(by omega), List.getElem?_eq_getElem _⟩
          rw [zqO hsT hs (by omega) n false r (i + 2) h1 hz (by rfl)]
          have := ih (i + 2) (by omega) (by omega) n false r (i + 2) (by omega) (Nat.le_refl _) (fun _ => hgr) (by omega) hrs
          rw [znN, zgE _ (zkh _), if_neg Bool.false_ne_true] at this
          exact this
        cases first with
        | true =>
          rw [if_pos rfl, if_pos rfl, zkk]
          cases h0 : (zb5 k m).2 == 0 with
          | false => rfl
          | true =>
            rw [if_pos rfl, if_pos rfl]
            have hfs := zgx k m
            have hgx : GoodH (zb5 k m).1 := zmo (k := k) (s := m) (by rw [show (0 : Int) = (zb5 k m).2 from (by simpa using h0 : (zb5 k m).2 = 0).symm])
            exact nxt _ hgx (by rw [hfs]; simp) (by rw [hfs]; intro f hf; cases hf)
        | false =>
          rw [if_neg Bool.false_ne_true, if_neg Bool.false_ne_true, zfu]
          cases h0 : (zck m).2 == 0 with
          | false => rfl
          | true =>
            rw [if_pos rfl, if_pos rfl]
            exact nxt _ (znL (hg rfl) _) (by unfold ziN; simp; omega) (zjV hsm (by omega))
      · have hc' : (T[i] == 13 && y == 10) = false := by simpa using hc
        rw [zqO hsT hs hi n first h a hsi hy hc']
        have := ih (i + 1) (by omega) (by omega) n first h a (by omega) (by omega) hg (by omega) hsm
        rw [this, zra ha (by omega), hsi']
        have hlines : lines (T.drop i) = zcD [T[i]] (lines (T.drop (i + 1))) := by
          rw [List.drop_eq_getElem_cons hlt]
          by_cases hlt2 : i + 1 < T.length
          · have hy2 : y = T[i + 1] := by
              have : s[i + 1]? = some T[i + 1] := by rw [hsT, List.getElem?_append_left hlt2]; exact List.getElem?_eq_getElem hlt2
              rw [hy] at this; exact Option.some.inj this
            rw [List.drop_eq_getElem_cons hlt2, zjj, ← hy2, hc', if_neg Bool.false_ne_true]
          · have : T.drop (i + 1) = [] := List.drop_of_length_le (by omega)
            rw [this]; rfl
        rw [hlines, zhq _ _ _ (zkh _)]
theorem zms (k : Int) (s : Str) (lim : Int) (hs : s.length < 90000000) : zgf k s lim = some (zmp k s lim) := by
  have j1 : zcR k s lim (!(k == 1) && !(k == 2)) = some (zmp k s lim) := by
    unfold zcR zmp
    cases hk : (!(k == 1) && !(k == 2)) with
    | true => rfl
    | false =>
      rw [if_neg Bool.false_ne_true, if_neg Bool.false_ne_true]
      cases decide (lim < (s.length : Int)) with
      | true => rfl
      | false =>
        rw [if_neg Bool.false_ne_true, if_neg Bool.false_ne_true, zoA s (by omega), Option.bind_some]
        have j2t : zcQ k s true = some (zbf, 6) := rfl
        by_cases h4 : s.length < 4
        · rw [decide_eq_true (show (s.length : Int) < 4 by omega), if_pos rfl, j2t, zlo (by simpa using h4)]
        · rw [decide_eq_false (show ¬ (s.length : Int) < 4 by omega), if_neg Bool.false_ne_true]
          cases hc : zaf [13, 10, 13, 10] s with
          | none =>
            have : ((-1 : Int) == (s.length : Int)) = false := beq_eq_false_iff_ne.2 (by omega)
            dsimp only
            rw [this]
            exact j2t
          | some p =>
            have e := zbd (a := p.1) (b := p.2) hc
            have el := congrArg List.length e
            simp only [List.length_append, List.length_cons, List.length_nil] at el
            dsimp only
            cases hp : p.2 == [] with
            | false =>
              have hne : p.2 ≠ [] := by simpa using hp
              have hpl : 0 < p.2.length := List.length_pos_iff.2 hne
              have : (((p.1.length + 4 : Nat) : Int) == (s.length : Int)) = false := beq_eq_false_iff_ne.2 (by omega)
              rw [this]
              exact j2t
            | true =>
              have hp0 : p.2 = [] := by simpa using hp
              rw [hp0] at el
              rw [hp0, List.append_nil] at e
              simp only [List.length_nil] at el
              have : (((p.1.length + 4 : Nat) : Int) == (s.length : Int)) = true := by rw [beq_iff_eq]; omega
              rw [this, Bool.not_true, if_pos rfl]
              unfold zcQ
              rw [if_neg Bool.false_ne_true]
              have := L3_eq (k := k) e hs p.1.length 0 (Nat.zero_le _) (by omega) fuel true zbf 0 (by unfold fuel; omega) (Nat.le_refl _) (fun h => by cases h) (Nat.le_refl _) (fun f hf => by cases hf)
              rw [znN, List.drop_zero, zgE _ (zkh _), if_pos rfl] at this
              exact this
  unfold zgf
  cases h1 : k == 1 with
  | true => rw [h1] at j1; exact j1
  | false => rw [h1] at j1; exact j1
theorem znO : ∀ (ls : List Str) (h : api_Head), (zfu h ls).1.Fields.length ≤ h.Fields.length + ls.length
  | [], h => by
    rw [zfu]
    split
    · simp
    · simp [zbf]
  | l :: ls, h => by
    rw [zfu]
    split
    · have := znO ls (ziN h (zck l).1)
      have e : (ziN h (zck l).1).Fields.length = h.Fields.length + 1 := by unfold ziN; simp
      simp only [List.length_cons]
      omega
    · simp [zbf]
theorem zrb (k : Int) (s : Str) (lim : Int) : (zmp k s lim).1.Fields.length ≤ s.length + 1 := by
  unfold zmp
  split
  · simp [zbf]
  · split
    · simp [zbf]
    · cases hc : zaf [13, 10, 13, 10] s with
      | none => simp [zbf]
      | some p =>
        have el := congrArg List.length (zbd (a := p.1) (b := p.2) hc)
        simp only [List.length_append, List.length_cons, List.length_nil] at el
        dsimp only
        split
        · have hm := (zkT _ p.1 (Nat.lt_succ_self _)).1
          cases hl : lines p.1 with
          | nil => simp [zkk, zbf]
          | cons l ls =>
            rw [hl] at hm
            simp only [List.length_cons] at hm
            rw [zkk]
            split
            · have := znO ls (zb5 k l).1
              rw [zgx] at this
              simp only [List.length_nil] at this
              omega
            · simp [zbf]
        · simp [zbf]
theorem zmt (kind : Int) (s : Str) (limit : Int) (_ : inI kind = true) (_ : inI limit = true) : zeI kind s limit = some true := by
  unfold zeI
  have c1 := zs8 s 3000
  rw [show ((3000 : Nat) : Int) = 3000 from rfl] at c1
  rw [zm8, Option.bind_some, Bool.not_true, if_neg Bool.false_ne_true, c1, Option.bind_some]
  have h1 : (s.take 3000).length ≤ 3000 := by simp; omega
  generalize s.take 3000 = s at h1
  have hl := zrb kind s limit
  rw [znk kind s limit (by omega), Option.bind_some, zms kind s limit (by omega), Option.bind_some, znC _ _ (by omega), Option.bind_some, zm7, if_pos rfl, beq_self_eq_true, if_pos rfl, zo3 _ _ (by omega), Option.bind_some, zm7]
  rfl
end Go.Dm
end
