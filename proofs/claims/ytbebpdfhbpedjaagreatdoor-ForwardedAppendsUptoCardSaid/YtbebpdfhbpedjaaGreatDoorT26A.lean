/-
  For whom messages came: elements, and lists of elements; the program reads them as the page does.
  For whom messages came: one element more, behind a head's list.
-/
import Derived.Test.YtbebpdfhbpedjaaGreatDoorT26R
section
namespace Go.Dm
theorem znl : ∀ (n : Nat) (r : Str) (out : List api_Param), (zec n out r).1.length ≤ out.length + r.length ∧ ∀ p ∈ (zec n out r).1, p ∈ out ∨ p.Name.length ≤ r.length := by
  intro n
  induction n with
  | zero => intro r out; exact ⟨Nat.zero_le _, fun p hp => by cases hp⟩
  | succ n ih =>
    intro r out
    rw [zec]
    cases hq : zmp r with
    | none => exact ⟨Nat.zero_le _, fun p hp => by cases hp⟩
    | some q =>
      obtain ⟨p, r2⟩ := q
      have hl := zmq hq
      have hnm : p.Name.length ≤ r.length := by
        unfold zmp at hq
        split at hq
        · cases hq
        · split at hq
          · cases hq
          · cases hw : zi2 (zcb 61 (r.dropWhile zbj)) with
            | none => rw [hw] at hq; cases hq
            | some u =>
              rw [hw] at hq
              cases hq
              have := zed zbj r
              dsimp only
              omega
      dsimp only
      split
      · refine ⟨by simp; omega, fun x hx => ?_⟩
        rcases List.mem_append.1 hx with h | h
        · exact .inl h
        · simp at h; subst h; exact .inr hnm
      · split
        · exact ⟨Nat.zero_le _, fun p hp => by cases hp⟩
        · obtain ⟨h1, h2⟩ := ih ((zcb 59 (r2.dropWhile zS)).dropWhile zS) (out ++ [p])
          have d1 := zed zS r2
          have d2 := zlc 59 (r2.dropWhile zS)
          have d3 := zed zS (zcb 59 (r2.dropWhile zS))
          refine ⟨by simp at h1; omega, fun x hx => ?_⟩
          rcases h2 x hx with h | h
          · rcases List.mem_append.1 h with h | h
            · exact .inl h
            · simp at h; subst h; exact .inr hnm
          · exact .inr (by omega)
def zeZ (x p : api_Param) : Bool := low p.Name == low x.Name
def dupP : List api_Param → Bool
  | [] => false
  | p :: l => l.any (zeZ p) || dupP l
theorem zla (pre l : List api_Param) : (l.any fun x => pre.any (zeZ x)) = pre.any fun p => l.any (zeZ p) := by
  rw [Bool.eq_iff_iff]
  simp only [List.any_eq_true]
  constructor
  · rintro ⟨x, hx, p, hp, h⟩
    exact ⟨p, hp, x, hx, by unfold zeZ at h ⊢; rw [beq_iff_eq] at h ⊢; exact h.symm⟩
  · rintro ⟨p, hp, x, hx, h⟩
    exact ⟨x, hx, p, hp, by unfold zeZ at h ⊢; rw [beq_iff_eq] at h ⊢; exact h.symm⟩
def znm (l : List api_Param) : Prop := ∀ p ∈ l, p.Name.length < 1000000000
theorem Get_eq (name : Str) (l : List api_Param) (hn : name.length < 1000000000) (hl : l.length < 1000000000) (hs : znm l) : ∃ v, zfc name l = some (v, l.any (zeZ ⟨name, []⟩)) := by
  have key : ∀ (n i : Nat), i ≤ l.length → l.length - i < n → ∃ v, za0 name l n (i : Int) = some (v, (l.drop i).any (zeZ ⟨name, []⟩)) := by
    intro n
    induction n with
    | zero => intro i _ h; omega
    | succ n ih =>
      intro i hi h
      rw [za0]
      by_cases hlt : i < l.length
      · have g : l[i]? = some l[i] := List.getElem?_eq_getElem hlt
        rw [decide_eq_true (show (i : Int) < (l.length : Int) by omega), if_pos rfl, zaa, g, Option.bind_some, zhf _ _ (hs _ (List.getElem_mem _)) hn, Option.bind_some, List.drop_eq_getElem_cons hlt, List.any_cons]
        show ∃ v, _ = some (v, (low l[i].Name == low name) || _)
        cases low l[i].Name == low name with
        | true => exact ⟨_, rfl⟩
        | false =>
          rw [if_neg Bool.false_ne_true, zt (by omega), Option.bind_some, Bool.false_or]
          exact ih (i + 1) (by omega) (by omega)
      · obtain rfl : i = l.length := by omega
        rw [decide_eq_false (by omega), if_neg Bool.false_ne_true, List.drop_length]
        exact ⟨_, rfl⟩
  exact key fuel 0 (Nat.zero_le _) (by unfold fuel; omega)
def fwdS (l : List api_Param) : List api_Param × Int := if dupP l then ([], 2) else (l, 0)
theorem zoa (l : List api_Param) (hl : l.length < 1000000000) (hs : znm l) : zE (l, 0) fuel 0 = some (fwdS l) := by
  have key : ∀ (n i : Nat), i ≤ l.length → l.length - i < n → zE (l, 0) n (i : Int) = some (if ((l.drop i).any fun x => (l.take i).any (zeZ x)) || dupP (l.drop i) then ([], 2) else (l, 0)) := by
    intro n
    induction n with
    | zero => intro i _ h; omega
    | succ n ih =>
      intro i hi h
      rw [zE]
      by_cases hlt : i < l.length
      · have g : l[i]? = some l[i] := List.getElem?_eq_getElem hlt
        have e2 : lTo l (i : Int) = some (l.take i) := by
          unfold lTo
          rw [if_pos (by omega)]
          rfl
        obtain ⟨v, hv⟩ := Get_eq l[i].Name (l.take i) (hs _ (List.getElem_mem _)) (by simp; omega) (fun p hp => hs p (List.mem_of_mem_take hp))
        have hsx : zeZ ⟨l[i].Name, []⟩ = zeZ l[i] := rfl
        dsimp only
        rw [decide_eq_true (show (i : Int) < (l.length : Int) by omega), if_pos rfl, zaa, g, Option.bind_some, e2, Option.bind_some, hv, Option.bind_some, hsx, List.drop_eq_getElem_cons hlt, List.any_cons, dupP]
        cases hd : (l.take i).any (zeZ l[i]) with
        | true => rw [if_pos rfl, Bool.true_or, Bool.true_or, if_pos rfl]
        | false =>
          rw [if_neg Bool.false_ne_true, zt (by omega), Option.bind_some, Bool.false_or, ih (i + 1) (by omega) (by omega), List.take_add_one, g]
          have e : ((l.drop (i + 1)).any fun x => (l.take i ++ (some l[i]).toList).any (zeZ x)) = (((l.drop (i + 1)).any fun x => (l.take i).any (zeZ x)) || (l.drop (i + 1)).any (zeZ l[i])) := by
            rw [zla (l.take i ++ (some l[i]).toList), List.any_append, zla (l.take i)]
            simp
          rw [e, Bool.or_assoc]
      · obtain rfl : i = l.length := by omega
        dsimp only
        rw [decide_eq_false (by omega), if_neg Bool.false_ne_true, List.drop_length]
        rfl
  have := key fuel 0 (Nat.zero_le _) (by unfold fuel; omega)
  rw [List.drop_zero, List.take_zero] at this
  rw [show ((l.any fun x => ([] : List api_Param).any (zeZ x)) || dupP l) = dupP l by simp] at this
  exact this
def fP (s : Str) : List api_Param × Int := if (zec fuel [] s).2 == 0 then fwdS (zec fuel [] s).1 else ([], (zec fuel [] s).2)
theorem zi0 (s : Str) (hs : s.length < 500000) : (zec fuel [] s).1.length ≤ s.length ∧ znm (zec fuel [] s).1 := by
  obtain ⟨h1, h2⟩ := znl fuel s []
  refine ⟨by simpa using h1, fun p hp => ?_⟩
  rcases h2 p hp with h | h
  · cases h
  · omega
theorem ze0 (s : Str) (hs : s.length < 500000) : zbg s = some (fP s) := by
  obtain ⟨h1, h2⟩ := zi0 s hs
  unfold zbg fP
  rw [zje s hs, Option.bind_some]
  generalize zec fuel [] s = q at h1 h2 ⊢
  obtain ⟨l, e⟩ := q
  dsimp only at h1 h2 ⊢
  cases he : e == 0 with
  | false => rfl
  | true =>
    obtain rfl : e = 0 := by simpa using he
    rw [Bool.not_true, if_neg Bool.false_ne_true, if_pos rfl]
    exact zoa l (by omega) h2
theorem fP_len (s : Str) (hs : s.length < 500000) : (fP s).1.length ≤ s.length := by
  obtain ⟨h1, _⟩ := zi0 s hs
  unfold fP fwdS
  split
  · split
    · exact Nat.zero_le _
    · exact h1
  · exact Nat.zero_le _

def zaO : List Str → List (List api_Param) → List (List api_Param) × Int
  | [], out => (out, 0)
  | x :: xs, out => if (fP x).2 == 0 then zaO xs (out ++ [(fP x).1]) else ([], (fP x).2)
def zbC : List Str → List (List api_Param) → List (List api_Param) × Int
  | [], out => (out, 0)
  | v :: vs, out => if (zch v).2 == 0 then (if (zaO (zch v).1 out).2 == 0 then zbC vs (zaO (zch v).1 out).1 else zaO (zch v).1 out) else ([], (zch v).2)
theorem zhr : ∀ (xs : List Str) (out : List (List api_Param)), (zaO xs out).1.length ≤ out.length + xs.length
  | [], out => by simp [zaO]
  | x :: xs, out => by
    rw [zaO]
    split
    · have := zhr xs (out ++ [(fP x).1])
      simp at this ⊢; omega
    · simp
theorem zjO {m : Nat} : ∀ (xs : List Str) (out : List (List api_Param)), (∀ x ∈ xs, (fP x).1.length ≤ m) → (∀ y ∈ out, y.length ≤ m) → ∀ y ∈ (zaO xs out).1, y.length ≤ m
  | [], out, _, ho, y, hy => ho y hy
  | x :: xs, out, hx, ho, y, hy => by
    rw [zaO] at hy
    split at hy
    · refine zjO xs _ (fun z hz => hx z (List.mem_cons_of_mem _ hz)) (fun z hz => ?_) y hy
      rcases List.mem_append.1 hz with h | h
      · exact ho z h
      · simp at h; subst h; exact hx x (List.mem_cons_self ..)
    · cases hy
theorem zhs (v : Str) : (zch v).1.length ≤ v.length + 1 ∧ ∀ x ∈ (zch v).1, x.length ≤ v.length := by
  unfold zch
  cases h : zdH v with
  | none => exact ⟨Nat.zero_le _, fun x hx => by cases hx⟩
  | some l => exact znE h
section
variable (rec1 : List (List api_Param) → Int → Option (List (List api_Param) × Int))
theorem zob (i8 : Nat) (h8 : i8 < 1000000) (l : List Str) (e : Int) (hl : l.length < 1000000) (hx : ∀ x ∈ l, x.length < 500000) : ∀ (n i : Nat) (out : List (List api_Param)), i ≤ l.length → l.length - i < n → out.length < 1000000000000 + i →
    zaG rec1 (i8 : Int) (l, e) n out (i : Int) = if (zaO (l.drop i) out).2 == 0 then rec1 (zaO (l.drop i) out).1 ((i8 + 1 : Nat) : Int) else some (zaO (l.drop i) out) := by
  intro n
  induction n with
  | zero => intro i _ _ h; omega
  | succ n ih =>
    intro i out hi h ho
    rw [zaG]
    by_cases hlt : i < l.length
    · have g : l[i]? = some l[i] := List.getElem?_eq_getElem hlt
      have hxl := hx l[i] (List.getElem_mem _)
      dsimp only
      rw [decide_eq_true (show (i : Int) < (l.length : Int) by omega), if_pos rfl, zaa, g, Option.bind_some, ze0 _ hxl, Option.bind_some, List.drop_eq_getElem_cons hlt, zaO]
      cases hz : (fP l[i]).2 == 0 with
      | false =>
        rw [Bool.not_false, if_pos rfl, if_neg Bool.false_ne_true]
        dsimp only
        rw [hz, if_neg Bool.false_ne_true]
      | true =>
        rw [Bool.not_true, if_neg Bool.false_ne_true, if_pos rfl, if_pos (zai (by omega) (by omega)), zt (by omega), Option.bind_some]
        exact ih (i + 1) _ (by omega) (by omega) (by simp; omega)
    · obtain rfl : i = l.length := by omega
      dsimp only
      rw [decide_eq_false (by omega), if_neg Bool.false_ne_true, zt (by omega), Option.bind_some, List.drop_length]
      rfl
end
theorem zfh (vs : List Str) (hn : vs.length < 1000) (hv : ∀ v ∈ vs, v.length < 400000) : zcX vs = some (zbC vs []) := by
  have key : ∀ (n i : Nat) (out : List (List api_Param)), i ≤ vs.length → vs.length - i < n → out.length ≤ i * 1000000 → zU vs n out (i : Int) = some (zbC (vs.drop i) out) := by
    intro n
    induction n with
    | zero => intro i _ _ h; omega
    | succ n ih =>
      intro i out hi h ho
      rw [zU]
      by_cases hlt : i < vs.length
      · have g : vs[i]? = some vs[i] := List.getElem?_eq_getElem hlt
        have hvl := hv vs[i] (List.getElem_mem _)
        obtain ⟨m1, m2⟩ := zhs vs[i]
        rw [decide_eq_true (show (i : Int) < (vs.length : Int) by omega), if_pos rfl, zaa, g, Option.bind_some, zjn _ (by omega), Option.bind_some, List.drop_eq_getElem_cons hlt, zbC]
        have hle := zhr (zch vs[i]).1 out
        rcases hsr : zch vs[i] with ⟨l, e⟩
        rw [hsr] at m1 m2 hle
        dsimp only at m1 m2 hle ⊢
        cases he : e == 0 with
        | false => rfl
        | true =>
          have := zob (zU vs n) i (by omega) l e (by omega) (fun x hx => by have := m2 x hx; omega) fuel 0 out (Nat.zero_le _) (by unfold fuel; omega) (by omega)
          rw [List.drop_zero] at this
          rw [Bool.not_true, if_neg Bool.false_ne_true, if_pos rfl]
          refine this.trans ?_
          cases (zaO l out).2 == 0 with
          | false => rfl
          | true =>
            rw [if_pos rfl, if_pos rfl]
            exact ih (i + 1) _ (by omega) (by omega) (by omega)
      · obtain rfl : i = vs.length := by omega
        rw [decide_eq_false (by omega), if_neg Bool.false_ne_true, List.drop_length]
        rfl
  exact key fuel 0 [] (Nat.zero_le _) (by unfold fuel; omega) (by simp)
theorem zlb {m : Nat} (hm : m < 500000) : ∀ (vs : List Str) (out : List (List api_Param)), (∀ v ∈ vs, v.length ≤ m) → (∀ y ∈ out, y.length ≤ m) → ∀ y ∈ (zbC vs out).1, y.length ≤ m
  | [], out, _, ho, y, hy => ho y hy
  | v :: vs, out, hv, ho, y, hy => by
    obtain ⟨_, m2⟩ := zhs v
    have hvm := hv v (List.mem_cons_self ..)
    have he : ∀ y ∈ (zaO (zch v).1 out).1, y.length ≤ m := zjO _ _ (fun x hx => by have h1 := m2 x hx; have h2 := fP_len x (by omega); omega) ho
    rw [zbC] at hy
    split at hy
    · split at hy
      · exact zlb hm vs _ (fun z hz => hv z (List.mem_cons_of_mem _ hz)) he y hy
      · exact he y hy
    · cases hy
theorem ziA : ∀ (vs : List Str) (out : List (List api_Param)), (∀ v ∈ vs, v.length < 400000) → (zbC vs out).1.length ≤ out.length + vs.length * 400001
  | [], out, _ => by simp [zbC]
  | v :: vs, out, hv => by
    obtain ⟨m1, _⟩ := zhs v
    have hvm := hv v (List.mem_cons_self ..)
    have he := zhr (zch v).1 out
    rw [zbC]
    split
    · split
      · have := ziA vs (zaO (zch v).1 out).1 (fun z hz => hv z (List.mem_cons_of_mem _ hz))
        simp only [List.length_cons]; omega
      · simp only [List.length_cons]; omega
    · simp
theorem zkL (a b : List (List api_Param)) (ha : a.length < 1000000000) (hs : ∀ x ∈ a, x.length < 1000000000) : zep a b = some (a == b) := by
  unfold zep
  by_cases hl : a.length = b.length
  · rw [hl, beq_self_eq_true, Bool.not_true, if_neg (by decide)]
    refine ziG a b (zby a b) hl ha (fun n => ?_) (fun n i x y hi hx hy => ?_)
    · rw [zby, decide_eq_false (by omega), if_neg (by decide)]
    · rw [zby, decide_eq_true (by omega), if_pos rfl, zaa, hx, Option.bind_some, zaa, hy, Option.bind_some, zk4 _ _ (hs x (List.mem_of_getElem? hx)), Option.bind_some, zt (by omega), Option.bind_some]
      cases x == y <;> rfl
  · have : (((a.length : Int) == (b.length : Int))) = false := beq_eq_false_iff_ne.2 (by omega)
    have h2 : (a == b) = false := beq_eq_false_iff_ne.2 (fun e => hl (by rw [e]))
    rw [this, h2]; rfl
end Go.Dm
end
section
namespace Go.Dm
theorem zju (s : Str) (hs : s.length < 100000000) : zd1 s = some (if s.all zeL then (zcB s, 0) else ([], 2)) := by
  have key : ∀ (n i : Nat) (out : Str), i ≤ s.length → s.length - i < n → out.length ≤ 1 + 2 * i → zL s n out (i : Int) = some (out ++ (zcn (s.drop i) ++ [34]), 0) := by
    intro n
    induction n with
    | zero => intro i _ _ h; omega
    | succ n ih =>
      intro i out hi h ho
      rw [zL]
      by_cases hlt : i < s.length
      · have g : s[i]? = some s[i] := List.getElem?_eq_getElem hlt
        rw [decide_eq_true (show (i : Int) < (s.length : Int) by omega), if_pos rfl, zcf, g, Option.bind_some, List.drop_eq_getElem_cons hlt, zcn]
        generalize s[i] = c at g
        have j3 : ∀ u : Str, u.length ≤ 2 + 2 * i → zbI (zL s n) s (i : Int) u = some (u ++ [c] ++ (zcn (s.drop (i + 1)) ++ [34]), 0) := fun u hu => by
          unfold zbI
          rw [zcf, g, Option.bind_some, if_pos (zai (by omega) (by omega)), zt (by omega), Option.bind_some, ih (i + 1) _ (by omega) (by omega) (by simp; omega)]
        have j2 : ∀ t, zbJ (zL s n) s out (i : Int) t = some (out ++ ((if t then 92 :: c :: zcn (s.drop (i + 1)) else c :: zcn (s.drop (i + 1))) ++ [34]), 0) := fun t => by
          unfold zbJ
          cases t with
          | true =>
            rw [if_pos rfl, if_pos rfl, if_pos (zai (by omega) (by omega)), j3 _ (by simp; omega)]
            simp
          | false =>
            rw [if_neg Bool.false_ne_true, if_neg Bool.false_ne_true, j3 _ (by omega)]
            simp
        cases h34 : c == 34 with
        | true => rw [if_pos rfl, j2, Bool.true_or]
        | false => rw [if_neg Bool.false_ne_true, Option.bind_some, j2, Bool.false_or]
      · obtain rfl : i = s.length := by omega
        rw [decide_eq_false (by omega), if_neg Bool.false_ne_true, if_pos (zai (by omega) (by omega)), List.drop_length]
        rfl
  have := key fuel 0 [34] (Nat.zero_le _) (by unfold fuel; omega) (by simp)
  rw [List.drop_zero] at this
  unfold zd1
  rw [zer zfC s (by omega), Option.bind_some]
  cases s.all zeL with
  | false => rfl
  | true =>
    rw [Bool.not_true, if_neg Bool.false_ne_true, if_pos rfl]
    exact this
theorem ziU (s : Str) (hs : s.length < 100000000) : zdj s = some (if okW s then (za9 s, 0) else ([], 2)) := by
  unfold zdj okW za9
  rw [zgD s (by omega), Option.bind_some, zju s hs, Option.bind_some]
  cases zew s with
  | true => rfl
  | false =>
    rw [if_neg Bool.false_ne_true, Bool.false_or]
    cases s.all zeL <;> rfl
theorem zoI : ∀ l : List api_Param, Go.Lib.join (l.map zde) [59] = zba l
  | [] => rfl
  | p :: l => by
    rw [List.map_cons, Go.Lib.join_cons, zba]
    congr 1
    unfold Go.Lib.joinTail zbM
    rw [List.map_map]
    rfl
theorem zkE (l : List api_Param) (hn : l.length < 1000) (hv : ∀ p ∈ l, p.Name.length < 100000 ∧ p.Value.length < 100000) (ht : (zba l).length < 100000000) : zfp l = some (if l.all okP && !(l == []) then (zba l, 0) else ([], 2)) := by
  have key : ∀ (n i : Nat), i ≤ l.length → l.length - i < n → zaF l n ((l.take i).map zde) (i : Int) = some (if (l.drop i).all okP && !(l == []) then (zba l, 0) else ([], 2)) := by
    intro n
    induction n with
    | zero => intro i _ h; omega
    | succ n ih =>
      intro i hi h
      rw [zaF]
      by_cases hlt : i < l.length
      · have g : l[i]? = some l[i] := List.getElem?_eq_getElem hlt
        obtain ⟨b1, b2⟩ := hv l[i] (List.getElem_mem _)
        have hne : (l == []) = false := by cases l with
          | nil => simp at hlt
          | cons _ _ => rfl
        have ihh := ih (i + 1) (by omega) (by omega)
        rw [List.take_add_one, g] at ihh
        rw [decide_eq_true (show (i : Int) < (l.length : Int) by omega), if_pos rfl, zaa, g, Option.bind_some, ziU _ (by omega), Option.bind_some, List.drop_eq_getElem_cons hlt, List.all_cons]
        generalize l[i] = p at g b1 b2 ihh
        have hl : (List.map zde (l.take i)).length ≤ 1000 := by simp; omega
        unfold okP
        cases hw : okW p.Value with
        | false =>
          rw [if_neg Bool.false_ne_true, Bool.false_and, Bool.false_and, Bool.false_and, if_neg Bool.false_ne_true]
          rfl
        | true =>
          have he := zgL p.Value
          rw [if_pos rfl, zgD _ (by omega), Option.bind_some, Bool.true_and]
          dsimp only
          rw [beq_self_eq_true, Bool.not_true, if_neg Bool.false_ne_true]
          unfold zcW
          cases ht : zew p.Name with
          | false => rw [Bool.not_false, if_pos rfl, Bool.false_and, Bool.false_and, if_neg Bool.false_ne_true]
          | true =>
            rw [Bool.not_true, if_neg Bool.false_ne_true, Bool.true_and, zaw (by simp; omega), Option.bind_some, zaw (by simp; omega), Option.bind_some, if_pos (zai (by omega) (by omega)), zt (by omega), Option.bind_some]
            rw [show List.map zde (l.take i ++ (some p).toList) = List.map zde (l.take i) ++ [p.Name ++ [61] ++ za9 p.Value] by simp [zde]] at ihh
            exact ihh
      · obtain rfl : i = l.length := by omega
        rw [decide_eq_false (by omega), if_neg Bool.false_ne_true, List.drop_length, List.all_nil, Bool.true_and, List.take_length, List.length_map]
        cases l with
        | nil => rfl
        | cons p l =>
          have : ((((p :: l).length : Nat) : Int) == 0) = false := beq_eq_false_iff_ne.2 (by simp only [List.length_cons]; omega)
          rw [this, if_neg Bool.false_ne_true]
          unfold zei strings_Join
          rw [zoI, if_pos ⟨by simp at hn ⊢; omega, by omega⟩, Option.bind_some, Option.bind_some]
          rfl
  have := key fuel 0 (Nat.zero_le _) (by unfold fuel; omega)
  rw [List.drop_zero, List.take_zero] at this
  exact this

theorem zpT {v cur r : Str} (h : v.all zeL = true) : zbK 0 cur (zcB v ++ r) = zbK 0 (cur ++ zcB v) r := by
  have hp : zcl 34 (zcn v ++ 34 :: r) = (zcn v).length + 2 := by
    unfold zcl
    rw [if_pos (by decide), zhH v r h]
  have e : zcB v ++ r = 34 :: (zcn v ++ 34 :: r) := by unfold zcB; simp
  have e2 : (zcn v ++ 34 :: r : Str).take ((zcn v).length + 1) = zcn v ++ [34] := by
    rw [List.take_append, List.take_of_length_le (by omega), show (zcn v).length + 1 - (zcn v).length = 1 by omega]; rfl
  have e3 : (zcn v ++ 34 :: r : Str).drop ((zcn v).length + 1) = r := by
    rw [List.drop_append, List.drop_eq_nil_of_le (by omega), show (zcn v).length + 1 - (zcn v).length = 1 by omega]; rfl
  rw [e, zfP _ _ (by decide), hp, if_neg (by omega), show (zcn v).length + 2 - 1 = (zcn v).length + 1 by omega, zix _ _ _ (by simp), e2, e3]
  congr 1
  unfold zcB
  simp
theorem zn0 {s : Str} (h : zew s = true) : s.all pln = true := by
  unfold zew at h
  rw [Bool.and_eq_true] at h
  exact zp5 (all_of zp6 h.1)
theorem znc {p : api_Param} (hp : okP p = true) (cur r : Str) : zbK 0 cur (zde p ++ r) = zbK 0 (cur ++ zde p) r := by
  unfold okP at hp
  rw [Bool.and_eq_true] at hp
  have hn : (p.Name ++ [61] : Str).all pln = true := by rw [List.all_append, zn0 hp.2]; rfl
  have e : zde p = (p.Name ++ [61]) ++ za9 p.Value := by unfold zde; simp
  rw [e, List.append_assoc, zgu _ cur _ hn, ← List.append_assoc cur]
  unfold za9
  cases ht : zew p.Value with
  | true => rw [if_pos rfl, zgu _ _ _ (zn0 ht)]; simp
  | false =>
    have hva : p.Value.all zeL = true := by have := hp.1; unfold okW at this; rw [ht, Bool.false_or] at this; exact this
    rw [if_neg Bool.false_ne_true, zpT hva]; simp
theorem zkF : ∀ (l : List api_Param) (cur r : Str), l.all okP = true → zbK 0 cur (zbM l ++ r) = zbK 0 (cur ++ zbM l) r
  | [], cur, r, _ => by simp [zbM]
  | p :: l, cur, r, h => by
    rw [List.all_cons, Bool.and_eq_true] at h
    have e : zbM (p :: l) = 59 :: (zde p ++ zbM l) := by simp [zbM]
    rw [e, List.cons_append, zcF cur _ (by decide) (by decide), List.append_assoc, znc h.1, zkF l _ r h.2]
    simp
theorem znG {l : List api_Param} (h : l.all okP = true) (cur : Str) : zbK 0 cur (zba l) = some [cur ++ zba l] := by
  cases l with
  | nil => rw [zba, zev, List.append_nil]
  | cons p l =>
    rw [List.all_cons, Bool.and_eq_true] at h
    have := zkF l (cur ++ zde p) [] h.2
    rw [List.append_nil] at this
    rw [zba, znc h.1, this, zev, List.append_assoc]
theorem znH {v : Str} (h : okW v = true) : ∃ d z, za9 v = d ++ [z] ∧ zS z = false := by
  unfold za9
  cases ht : zew v with
  | true =>
    obtain ⟨h1, h2⟩ := zig ht
    refine ⟨v.dropLast, v.getLast h2, (List.dropLast_concat_getLast h2).symm, ?_⟩
    exact zpN _ (List.all_eq_true.1 h1 _ (List.getLast_mem h2))
  | false => exact ⟨34 :: zcn v, 34, rfl, by decide⟩
theorem zn1 {p : api_Param} (hp : okP p = true) : ∃ d z, zde p = d ++ [z] ∧ zS z = false := by
  unfold okP at hp
  rw [Bool.and_eq_true] at hp
  obtain ⟨d, z, h1, h2⟩ := znH hp.1
  exact ⟨p.Name ++ 61 :: d, z, by unfold zde; rw [h1]; simp, h2⟩
theorem znd : ∀ (l : List api_Param) {u : Str}, (∃ d z, u = d ++ [z] ∧ zS z = false) → l.all okP = true → ∃ d z, u ++ zbM l = d ++ [z] ∧ zS z = false
  | [], u, hu, _ => by simpa [zbM] using hu
  | p :: l, u, _, h => by
    rw [List.all_cons, Bool.and_eq_true] at h
    obtain ⟨d, z, h1, h2⟩ := zn1 h.1
    have := znd l (u := u ++ 59 :: zde p) ⟨u ++ 59 :: d, z, by rw [h1]; simp, h2⟩ h.2
    have e : u ++ zbM (p :: l) = (u ++ 59 :: zde p) ++ zbM l := by simp [zbM]
    rw [e]; exact this
theorem zne {l : List api_Param} (hl : l ≠ []) (h : l.all okP = true) : (∀ cur, zbK 0 cur (zba l) = some [cur ++ zba l]) ∧ zd7 (zba l) = zba l ∧ zba l ≠ [] := by
  refine ⟨znG h, ?_⟩
  cases l with
  | nil => exact absurd rfl hl
  | cons p l =>
    rw [List.all_cons, Bool.and_eq_true] at h
    obtain ⟨d, z, e, hz⟩ := znd l (zn1 h.1) h.2
    have hh := zlw h.1 (zbM l)
    rw [zba]
    have hlen : 2 ≤ (zde p).length := by
      have h1 := h.1
      unfold okP at h1
      rw [Bool.and_eq_true] at h1
      obtain ⟨_, h2⟩ := zig h1.2
      unfold zde
      cases hn : p.Name with
      | nil => exact absurd hn h2
      | cons a m => simp; omega
    have hd : d ≠ [] := by
      intro hd
      have := congrArg List.length e
      rw [hd] at this
      simp at this
      omega
    cases d with
    | nil => exact absurd rfl hd
    | cons a d =>
      rw [e] at hh ⊢
      have ha := hh a rfl
      exact ⟨zon ha hz, by simp⟩

theorem zkG : ∀ (a b : List Str) (out : List (List api_Param)), (zaO a out).2 = 0 → zaO (a ++ b) out = zaO b (zaO a out).1
  | [], b, out, _ => rfl
  | x :: a, b, out, h => by
    rw [zaO] at h
    rw [List.cons_append, zaO, zaO]
    split at h
    · rename_i hx
      rw [if_pos hx, if_pos hx]
      exact zkG a b _ h
    · rename_i hx
      dsimp only at h
      rw [h] at hx
      exact absurd rfl hx
theorem zgW : ∀ (a b : List Str) (out : List (List api_Param)), (zbC a out).2 = 0 → zbC (a ++ b) out = zbC b (zbC a out).1
  | [], b, out, _ => rfl
  | v :: a, b, out, h => by
    rw [zbC] at h
    rw [List.cons_append, zbC, zbC]
    split at h
    · rename_i hx
      rw [if_pos hx, if_pos hx]
      split at h
      · rename_i hy
        rw [if_pos hy, if_pos hy]
        exact zgW a b _ h
      · rename_i hy; rw [h] at hy; exact absurd rfl hy
    · rename_i hx; dsimp only at h; rw [h] at hx; exact absurd rfl hx
theorem zkH : ∀ (a b : List Str) (out : List (List api_Param)), (zbC (a ++ b) out).2 = 0 → (zbC a out).2 = 0
  | [], _, _, _ => rfl
  | v :: a, b, out, h => by
    rw [List.cons_append, zbC] at h
    rw [zbC]
    split at h
    · rename_i hx
      rw [if_pos hx]
      split at h
      · rename_i hy
        rw [if_pos hy]
        exact zkH a b _ h
      · rename_i hy; rw [h] at hy; exact absurd rfl hy
    · rename_i hx; dsimp only at h; rw [h] at hx; exact absurd rfl hx
theorem zgX {v : Str} {l : List Str} (out : List (List api_Param)) (h : zdH v = some l) : zbC [v] out = zaO l out := by
  have hs : zch v = (l, 0) := by unfold zch; rw [h]
  rw [zbC, hs]
  dsimp only
  rw [beq_self_eq_true, if_pos rfl]
  cases hq : (zaO l out).2 == 0 with
  | false => rfl
  | true =>
    rw [if_pos rfl, zbC]
    have : (zaO l out).2 = 0 := by simpa using hq
    rw [← this]
theorem zmg {v : Str} {out : List (List api_Param)} (h : (zbC [v] out).2 = 0) : ∃ l, zdH v = some l := by
  cases hs : zdH v with
  | some l => exact ⟨l, rfl⟩
  | none =>
    have hs : zch v = ([], 2) := by unfold zch; rw [hs]
    rw [zbC, hs] at h
    cases h
theorem zkI {x : Str} {v : List api_Param} (hv : fP x = (v, 0)) (out : List (List api_Param)) : zaO [x] out = (out ++ [v], 0) := by
  rw [zaO, hv]; rfl
theorem zmh {l : List api_Field} {nm x : Str} {v : List api_Param} (hx : ∀ cur, zbK 0 cur x = some [cur ++ x]) (ht : zd7 x = x) (hne : x ≠ []) (hv : fP x = (v, 0))
    (h : (zbC ((l.filter (isN nm)).map (·.Value)) []).2 = 0) : zbC (((zc0 l nm x).filter (isN nm)).map (·.Value)) [] = ((zbC ((l.filter (isN nm)).map (·.Value)) []).1 ++ [v], 0) := by
  rcases zf3 l nm x with ⟨h1, h2⟩ | ⟨a, f, b, h1, h2, h3, h4⟩
  · have hb : isN nm ⟨nm, x⟩ = true := by unfold isN; simp
    rw [h2, List.filter_append, h1, List.nil_append, List.filter_cons, hb, if_pos rfl, List.filter_nil]
    have hsx : zdH x = some [x] := by
      unfold zdH
      rw [hx []]
      simp [elems, ht, hne]
    exact (zgX [] hsx).trans (zkI hv [])
  · have hb : isN nm ⟨f.Name, zaA f.Value x⟩ = true := h2
    have e1 : (l.filter (isN nm)).map (·.Value) = (a.filter (isN nm)).map (·.Value) ++ [f.Value] := by
      rw [h1, List.filter_append, List.filter_cons, h2, if_pos rfl, h3]; simp
    have e2 : ((zc0 l nm x).filter (isN nm)).map (·.Value) = (a.filter (isN nm)).map (·.Value) ++ [zaA f.Value x] := by
      rw [h4, List.filter_append, List.filter_cons, hb, if_pos rfl, h3]; simp
    rw [e1] at h
    rw [e1, e2]
    have p1 := zkH _ _ _ h
    rw [zgW _ _ _ p1] at h
    rw [zgW _ _ _ p1, zgW _ _ _ p1]
    generalize (zbC ((a.filter (isN nm)).map (·.Value)) []).1 = out at h
    obtain ⟨lv, q1⟩ := zmg h
    rw [zgX out q1] at h
    have hap := zmu hx ht hne q1
    rw [zgX out hap, zgX out q1, zkG _ _ _ h, zkI hv]
theorem zqB : isN ([70, 111, 114, 119, 97, 114, 100, 101, 100] : Str) = isN [102, 111, 114, 119, 97, 114, 100, 101, 100] := by
  funext f
  unfold isN
  have : low ([70, 111, 114, 119, 97, 114, 100, 101, 100] : Str) = low ([102, 111, 114, 119, 97, 114, 100, 101, 100] : Str) := by decide
  rw [this]
theorem zg4 (e : api_Env) (l : List api_Field) (h1 : e.Client.length < 1000) (hp : (zaQ e).length < 1000 ∧ ∀ p ∈ zaQ e, p.Name.length < 100000 ∧ p.Value.length < 100000) (ht : (zba (zaQ e)).length < 100000000) (hl : l.length < 900000000) (hs : zeK 900000 l) :
    zbz e l = some (if (zaQ e).all okP then (zc0 l [70, 111, 114, 119, 97, 114, 100, 101, 100] (zba (zaQ e)), 0) else ([], 2)) := by
  have hne : (zaQ e == []) = false := rfl
  unfold zbz
  rw [zii e (by omega), Option.bind_some, zkE _ hp.1 hp.2 ht, Option.bind_some, hne, Bool.not_false, Bool.and_true]
  cases (zaQ e).all okP with
  | false => rfl
  | true =>
    have := zkn l [70, 111, 114, 119, 97, 114, 100, 101, 100] (zba (zaQ e))
    rw [if_pos rfl, if_pos rfl]
    dsimp only
    rw [show (!((0 : Int) == 0)) = false from rfl, if_neg Bool.false_ne_true]
    unfold zjE zeS
    rw [zmB l (by omega), Option.bind_some, Option.bind_some, zkQ l _ _ (by decide) (by omega) (by omega) (zdv (by decide) hs), Option.bind_some, zmB _ (by dsimp only; omega), Option.bind_some, Option.bind_some]
theorem zqC {e : api_Env} (hok : (zaQ e).all okP = true) (hn : (zaQ e).length < 1000) (ht : (zba (zaQ e)).length < 500000) : fP (zba (zaQ e)) = (zaQ e, 0) := by
  have hne : (zaQ e == []) = false := rfl
  have hp := zm7 (l := zaQ e) (by intro h; rw [h] at hne; cases hne) hok hn (by omega)
  have hf : zbg (zba (zaQ e)) = some (zaQ e, 0) := by
    unfold zbg
    rw [hp, Option.bind_some, beq_self_eq_true, Bool.not_true, if_neg Bool.false_ne_true]
    exact zpP e
  rw [ze0 _ ht] at hf
  exact Option.some.inj hf
theorem znf (l : List api_Param) (hl : l.length ≤ 3) (hv : ∀ p ∈ l, p.Name.length < 100 ∧ p.Value.length < 100) : (zba l).length < 1000 := by
  have one : ∀ p ∈ l, (zde p).length < 304 := fun p hp => by
    have h1 := hv p hp
    have h2 := zgL p.Value
    unfold zde
    simp; omega
  match l, hl with
  | [], _ => simp [zba]
  | [p], _ => have := one p (by simp); simp [zba, zbM]; omega
  | [p, q], _ =>
    have := one p (by simp)
    have := one q (by simp)
    simp [zba, zbM]; omega
  | [p, q, r], _ =>
    have := one p (by simp)
    have := one q (by simp)
    have := one r (by simp)
    simp [zba, zbM]; omega
theorem zng (e : api_Env) : (zaQ e).length ≤ 3 := by
  unfold zaQ
  cases e.Host == [] <;> cases e.Scheme == [] <;> simp
theorem zgj (env : api_Env) (l : List api_Field) (_ : env.Domains.length < 1000000000) (_ : env.Locations.length < 1000000000) (hl : l.length < 1000000000) : zbr env l = some true := by
  unfold zbr
  obtain ⟨e, he, h1, h2, h3⟩ := few26 env
  obtain ⟨b1, b2⟩ := zm8 h1 h2 h3
  have hts := znf (zaQ e) (zng e) b2
  rw [zkx, Option.bind_some, Bool.not_true, if_neg Bool.false_ne_true, he, Option.bind_some, zlS _ hl, Option.bind_some]
  dsimp only
  have hll := zpk l
  have hsl := znz l
  generalize cutL l = l at hll hsl
  rw [zg4 e l (by omega) ⟨by omega, fun p hp => by have := b2 p hp; omega⟩ (by omega) (by omega) (zdv (by decide) hsl), Option.bind_some, zhk e (by omega), Option.bind_some, zk3 _ (by omega) (fun p hp => by have := b2 p hp; omega), Option.bind_some]
  have hne : (zaQ e == []) = false := rfl
  rw [hne, Bool.not_false, Bool.and_true]
  cases hok : (zaQ e).all okP with
  | false => rfl
  | true =>
    obtain ⟨t1, t2, t3⟩ := zne (l := zaQ e) (by intro h; rw [h] at hne; cases hne) hok
    have hfp := zqC hok (by omega) (by omega)
    have hb := zmh (l := l) (nm := [70, 111, 114, 119, 97, 114, 100, 101, 100]) t1 t2 t3 hfp
    have hs2 := zl5 (nm := [70, 111, 114, 119, 97, 114, 100, 101, 100]) (x := zba (zaQ e)) hsl (by decide)
    have hl2 := zkn l [70, 111, 114, 119, 97, 114, 100, 101, 100] (zba (zaQ e))
    rw [if_pos rfl, if_pos rfl]
    dsimp only
    rw [show (!((0 : Int) == 0)) = false from rfl, if_neg Bool.false_ne_true, if_neg Bool.false_ne_true, zjj l _ _ (by decide) (by omega) (by omega) (zdv (by decide) hsl), Option.bind_some, zkR _ _ (by omega), Option.bind_some, beq_self_eq_true, Bool.not_true]
    unfold z7
    dsimp only
    rw [if_neg Bool.false_ne_true, zf9 l _ (by decide) (by omega) (zdv (by decide) hsl), Option.bind_some]
    rw [zqB] at hb
    generalize zc0 l [70, 111, 114, 119, 97, 114, 100, 101, 100] (zba (zaQ e)) = m at hs2 hl2 hb
    have hvals : ∀ (k : List api_Field) (b : Nat), k.length ≤ 200 → zeK b k → (∀ nm, ((k.filter (isN nm)).map (·.Value)).length ≤ 200 ∧ ∀ v ∈ (k.filter (isN nm)).map (·.Value), v.length ≤ b) := by
      intro k b h1 h2 nm
      refine ⟨?_, fun v hv => ?_⟩
      · rw [List.length_map]
        have := List.length_filter_le (isN nm) k
        omega
      · obtain ⟨f, hf, rfl⟩ := List.mem_map.1 hv
        have := (h2 f (List.mem_filter.1 hf).1).2
        omega
    have v1 := hvals l 401 (by omega) hsl [102, 111, 114, 119, 97, 114, 100, 101, 100]
    have v2 := hvals m 2000 (by omega) (zdv (by omega) hs2) [102, 111, 114, 119, 97, 114, 100, 101, 100]
    rw [zfh _ (by omega) (fun v hv => by have := v1.2 v hv; omega), Option.bind_some, zf9 m _ (by decide) (by omega) (zdv (by omega) hs2), Option.bind_some, zfh _ (by omega) (fun v hv => by have := v2.2 v hv; omega), Option.bind_some, zhk e (by omega), Option.bind_some]
    have w1 := ziA _ [] (fun v hv => by have := v1.2 v hv; omega)
    have w2 := ziA _ [] (fun v hv => by have := v2.2 v hv; omega)
    have w3 := zlb (m := 2000) (by omega) ((m.filter (isN [102, 111, 114, 119, 97, 114, 100, 101, 100])).map (·.Value)) [] v2.2 (fun y hy => by cases hy)
    unfold zQ
    rw [List.length_nil, Nat.zero_add] at w1 w2
    rw [if_pos (zai (by omega) (by omega))]
    cases hq : (zbC ((l.filter (isN [102, 111, 114, 119, 97, 114, 100, 101, 100])).map (·.Value)) []).2 == 0 with
    | false => rfl
    | true =>
      have hbq := hb (by simpa using hq)
      rw [hbq] at w2 w3 ⊢
      dsimp only at w2 w3 ⊢
      rw [Bool.not_true, if_neg Bool.false_ne_true]
      show (if true = true then (zep _ _).bind _ else _) = _
      rw [if_pos rfl, zkL _ _ (by omega) (fun x hx => by have := w3 x hx; omega), beq_self_eq_true]
      rfl
end Go.Dm
end
