/-
  X-Forwarded-For read: the document's, as the program's.
-/
import Derived.Test.YtnfkbhocbdheaabGreatDoorT27
import Derived.Test.YtnfkbhocbdheaabGreatDoorT05R
namespace Go.Dm
def isR (s : Str) : Bool := if decide (2 < s.length) && s[0]? == some 91 && s[s.length - 1]? == some 93 then sixOk (inner s) else fourOk s || sixOk s || low s == unknownS
theorem ref27_Is_eq (s : Str) (hs : s.length < 400000000) : ref27_Is s = some (isR s) := by
  unfold ref27_Is isR
  have hj : ∀ q, ref27_Is_j1 s q = some (if q then sixOk (inner s) else fourOk s || sixOk s || low s == unknownS) ∨ ¬ (2 < s.length) := by
    intro q
    by_cases h : 2 < s.length
    · left
      unfold ref27_Is_j1 ref27_Is_j2
      have i1 : iSub (s.length : Int) 1 = some ((s.length - 1 : Nat) : Int) := by rw [iSub_ok (by omega) (by omega)]; congr 1; omega
      have s1 : sSub s 1 ((s.length - 1 : Nat) : Int) = some (inner s) := sSub_nat (i := 1) (by omega) (by omega)
      have hil := inner_len s
      rw [i1, Option.bind_some, s1, Option.bind_some, ref08_Six_eq _ (by omega), Option.bind_some, ref08_Four_eq s (by omega), Option.bind_some, ref08_Six_eq s hs, Option.bind_some, ref01_Fold_eq s (by omega), Option.bind_some]
      cases q with
      | true => rfl
      | false => cases fourOk s <;> cases sixOk s <;> rfl
    · exact .inr h
  have hjf : ref27_Is_j1 s false = some (fourOk s || sixOk s || low s == unknownS) := by
    unfold ref27_Is_j1 ref27_Is_j2
    rw [if_neg (by decide), ref08_Four_eq s (by omega), Option.bind_some, ref08_Six_eq s hs, Option.bind_some, ref01_Fold_eq s (by omega), Option.bind_some]
    cases fourOk s <;> cases sixOk s <;> rfl
  by_cases h : 2 < s.length
  · have g0 : s[0]? = some s[0] := List.getElem?_eq_getElem (by omega)
    have g1 : s[s.length - 1]? = some s[s.length - 1] := List.getElem?_eq_getElem (by omega)
    have i1 : iSub (s.length : Int) 1 = some ((s.length - 1 : Nat) : Int) := by rw [iSub_ok (by omega) (by omega)]; congr 1; omega
    rw [decide_eq_true (show 2 < (s.length : Int) by omega), if_pos rfl, sAt_zero, g0, Option.bind_some, i1, Option.bind_some, sAt_nat, g1, Option.bind_some, decide_eq_true h, beq_some, beq_some]
    have h1 := (hj true).resolve_right (by omega)
    cases s[0] == 91 with
    | false => exact hjf
    | true =>
      cases s[s.length - 1] == 93 with
      | false => exact hjf
      | true => exact h1
  · rw [decide_eq_false (show ¬ 2 < (s.length : Int) by omega), if_neg (by decide), hjf, decide_eq_false h]
    rfl
theorem bare_no91 (r : Str) : bareX (91 :: r) = false := by
  unfold bareX
  have h1 : fourOk (91 :: r) = false := by
    cases h : fourOk (91 :: r) with
    | false => rfl
    | true => have := (fourOk_adr h).1; rw [List.all_cons, show cAdr 91 = false from by decide, Bool.false_and] at this; cases this
  have h2 : sixOk (91 :: r) = false := by
    cases h : sixOk (91 :: r) with
    | false => rfl
    | true => have := (sixOk_adr h).1; rw [List.all_cons, show cAdr 91 = false from by decide, Bool.false_and] at this; cases this
  rw [h1, h2]; rfl
theorem low_no91 (r : Str) : (low (91 :: r) == unknownS) = false := by
  have : low (91 :: r) = 91 :: low r := rfl
  rw [this]
  rfl
theorem isR_isX (s : Str) : isR s = isX s := by
  unfold isR isX
  cases s with
  | nil => rfl
  | cons c r =>
    by_cases hc : c = 91
    · subst hc
      have hp : ([91] : Str).isPrefixOf (91 :: r) = true := by simp
      have hlow := low_no91 r
      have hb := bare_no91 r
      have hb2 := hb
      unfold bareX at hb2
      rw [hp, hb, hlow, hb2, Bool.or_false, Bool.false_or, Bool.or_false, if_pos rfl, Bool.true_and]
      show (if (decide (2 < (91 :: r : Str).length) && (91 :: r : Str)[0]? == some 91 && (91 :: r : Str)[(91 :: r : Str).length - 1]? == some 93) = true then sixOk (inner (91 :: r)) else false) = ((cutSuf r).2 && sixOk (cutSuf r).1)
      rw [List.getElem?_cons_zero, beq_self_eq_true, Bool.and_true]
      rcases List.eq_nil_or_concat r with h | ⟨m, x, h⟩
      · subst h; rfl
      · rw [List.concat_eq_append] at h
        subst h
        have hl : (91 :: (m ++ [x]) : Str)[(91 :: (m ++ [x]) : Str).length - 1]? = some x := by simp
        have hi : inner (91 :: (m ++ [x])) = m := by
          unfold inner
          simp
        have hsuf : ([93] : Str).isSuffixOf (m ++ [x]) = (x == 93) := by
          rw [Bool.eq_iff_iff, List.isSuffixOf_iff_suffix, beq_iff_eq]
          constructor
          · rintro ⟨t, ht⟩
            have := congrArg List.getLast? ht
            simp at this
            exact this.symm
          · rintro rfl; exact ⟨m, rfl⟩
        rw [hl, beq_some, hi]
        unfold cutSuf
        rw [hsuf]
        cases x == 93 with
        | false => rw [Bool.and_false]; rfl
        | true =>
          rw [Bool.and_true, if_pos rfl]
          have ht : (m ++ [x]).take ((m ++ [x]).length - 1) = m := by simp
          dsimp only
          rw [ht, Bool.true_and]
          cases m with
          | nil => rfl
          | cons y m =>
            have h2 : 2 < (91 :: (y :: m ++ [x]) : Str).length := by simp
            rw [decide_eq_true h2, if_pos rfl]
    · have hp : ([91] : Str).isPrefixOf (c :: r) = false := by
        show ((91 : UInt8) == c && ([] : Str).isPrefixOf r) = false
        rw [beq_eq_false_iff_ne.2 (fun e => hc e.symm), Bool.false_and]
      have h0 : ((c :: r : Str)[0]? == some 91) = false := by rw [List.getElem?_cons_zero, beq_some]; simpa using hc
      rw [hp, h0, Bool.and_false, Bool.false_and, if_neg Bool.false_ne_true]
      unfold bareX
      simp
theorem ref27_L2_eq (rec1 : List Str → Int → Option (List Str × Int)) (i7 : Nat) (l : List Str) (e : Int) (l6 : List Str) (hl : l.length < 1000000000) (hx : ∀ x ∈ l, x.length < 400000000) (h6 : (l6.length + l.length) * 16 ≤ 140737488355328) (h7 : i7 < 1000000000) :
    ref27_List_L2 rec1 (i7 : Int) (l, e) fuel l6 0 = if l.all isX then rec1 (l6 ++ l) ((i7 + 1 : Nat) : Int) else some ([], 2) := by
  have key : ∀ (n i : Nat) (out : List Str), i ≤ l.length → l.length - i < n → out.length = l6.length + i → ref27_List_L2 rec1 (i7 : Int) (l, e) n out (i : Int) = if (l.drop i).all isX then rec1 (out ++ l.drop i) ((i7 + 1 : Nat) : Int) else some ([], 2) := by
    intro n
    induction n with
    | zero => intro i _ _ h; omega
    | succ n ih =>
      intro i out hi h ho
      rw [ref27_List_L2]
      by_cases hlt : i < l.length
      · have g : l[i]? = some l[i] := List.getElem?_eq_getElem hlt
        have hxl := hx l[i] (List.getElem_mem _)
        dsimp only
        rw [decide_eq_true (show (i : Int) < (l.length : Int) by omega), if_pos rfl, lAt_nat, g, Option.bind_some, ref27_Is_eq _ hxl, Option.bind_some, Option.bind_some, if_pos (fits_ok (by omega) (by omega)), iAdd_one (by omega), Option.bind_some, ih (i + 1) _ (by omega) (by omega) (by simp; omega), List.drop_eq_getElem_cons hlt, List.all_cons, isR_isX]
        cases isX l[i] with
        | false => rfl
        | true => simp
      · have : i = l.length := by omega
        subst this
        dsimp only
        rw [decide_eq_false (by omega), if_neg (by decide), iAdd_one (by omega), Option.bind_some, List.drop_length]
        simp
  have := key fuel 0 l6 (Nat.zero_le _) (by unfold fuel; omega) (by simp)
  rw [List.drop_zero] at this
  exact this
theorem accX_nil (vs : List Str) : accX [] (listX vs) = listX vs := by
  have h0 : (listX vs).2 = 0 ∨ (listX vs).1 = [] := by
    cases vs with
    | nil => exact .inl rfl
    | cons v vs =>
      cases hs : splitC v with
      | none => rw [listX_none _ hs]; exact .inr rfl
      | some l =>
        rw [listX_some _ hs]
        cases l.all isX with
        | false => exact .inr rfl
        | true =>
          rw [if_pos rfl]
          unfold accX
          cases (listX vs).2 == 0 with
          | true => exact .inl rfl
          | false => exact .inr rfl
  unfold accX
  rcases h0 with h0 | h0
  · rw [h0, beq_self_eq_true, if_pos rfl, List.nil_append, ← h0]
  · cases h2 : (listX vs).2 == 0 with
    | true => rw [if_pos rfl, List.nil_append]; have : (listX vs).2 = 0 := by simpa using h2
              rw [← this]
    | false => rw [if_neg (by decide), ← h0]
theorem listX_err (vs : List Str) : (listX vs).2 = 0 ∨ (listX vs).1 = [] := by
  rw [← accX_nil]
  unfold accX
  cases (listX vs).2 == 0 with
  | true => exact .inl rfl
  | false => exact .inr rfl
theorem ref27_List_eq (vs : List Str) (hn : vs.length ≤ 1000) (hv : ∀ v ∈ vs, v.length < 400000000) : ref27_List vs = some (listX vs) := by
  unfold ref27_List
  have key : ∀ (n i : Nat) (out : List Str), i ≤ vs.length → vs.length - i < n → out.length ≤ i * 900000000 → ref27_List_L1 vs n out (i : Int) = some (accX out (listX (vs.drop i))) := by
    intro n
    induction n with
    | zero => intro i _ _ h; omega
    | succ n ih =>
      intro i out hi h ho
      rw [ref27_List_L1]
      by_cases hlt : i < vs.length
      · have g : vs[i]? = some vs[i] := List.getElem?_eq_getElem hlt
        have hvl := hv vs[i] (List.getElem_mem _)
        rw [decide_eq_true (show (i : Int) < (vs.length : Int) by omega), if_pos rfl, lAt_nat, g, Option.bind_some, ref06_Split_eq _ (by omega), Option.bind_some, List.drop_eq_getElem_cons hlt]
        unfold splitR
        cases hs : splitC vs[i] with
        | none => rw [listX_none _ hs]; rfl
        | some l =>
          have hm := splitC_mem hs
          dsimp only
          rw [if_neg (by decide), ref27_L2_eq _ _ l 0 out (by omega) (fun x hx => by have := hm.2 x hx; omega) (by omega) (by omega), ih (i + 1) _ (by omega) (by omega) (by simp; omega), listX_some _ hs, accX_acc]
          cases l.all isX <;> rfl
      · have : i = vs.length := by omega
        subst this
        rw [decide_eq_false (by omega), if_neg (by decide), List.drop_length]
        simp [listX, accX]
  have := key fuel 0 [] (Nat.zero_le _) (by unfold fuel; omega) (by simp)
  rw [List.drop_zero, accX_nil] at this
  exact this
theorem listX_len (vs : List Str) (h : ∀ v ∈ vs, v.length < 600) : (listX vs).1.length ≤ vs.length * 600 := by
  induction vs with
  | nil => simp [listX]
  | cons v vs ih =>
    have hv := h v (List.mem_cons_self ..)
    have := ih (fun x hx => h x (List.mem_cons_of_mem _ hx))
    cases hs : splitC v with
    | none => rw [listX_none _ hs]; simp
    | some l =>
      have hm := splitC_mem hs
      rw [listX_some _ hs]
      unfold accX
      split
      · split
        · simp only [List.length_append, List.length_cons]; omega
        · simp
      · simp
theorem xff_First_eq (vs : List Str) (hn : vs.length ≤ 1000) (hv : ∀ v ∈ vs, v.length < 400000000) : xff_First vs = some (match (listX vs).1 with | [] => [] | x :: _ => x) := by
  unfold xff_First xff_First_j1
  rw [xff_List_eq vs hn (fun v h => by have := hv v h; omega), Option.bind_some]
  have he := listX_err vs
  generalize listX vs = r at he
  obtain ⟨l, e⟩ := r
  dsimp only at he ⊢
  cases l with
  | nil => cases e == 0 <;> rfl
  | cons x l =>
    have : e = 0 := by rcases he with h | h
                       · exact h
                       · cases h
    subst this
    have h0 : (((x :: l : List Str).length : Int) == 0) = false := beq_eq_false_iff_ne.2 (by simp only [List.length_cons]; omega)
    rw [h0]
    rfl
theorem XffReads_true (s t : Str) : law27_XffReads s t = some true := by
  unfold law27_XffReads
  have c1 := sTo_min s 200
  have c2 := sTo_min t 200
  rw [show ((200 : Nat) : Int) = 200 from rfl] at c1 c2
  rw [law27_awake_eq, Option.bind_some, Bool.not_true, if_neg (by decide), c1, Option.bind_some, c2, Option.bind_some]
  have h1 : (s.take 200).length ≤ 200 := by simp; omega
  have h2 : (t.take 200).length ≤ 200 := by simp; omega
  generalize s.take 200 = s at h1
  generalize t.take 200 = t at h2
  have hv : ∀ v ∈ [s, t], v.length < 600 := fun v hv => by
    simp only [List.mem_cons, List.not_mem_nil, or_false] at hv
    rcases hv with h | h <;> subst h <;> omega
  have hll := listX_len [s, t] hv
  rw [xff_List_eq [s, t] (by simp) (fun v h => by have := hv v h; omega), Option.bind_some, ref27_List_eq [s, t] (by simp) (fun v h => by have := hv v h; omega), Option.bind_some]
  have hf := xff_First_eq [s, t] (by simp) (fun v h => by have := hv v h; omega)
  have hj : ∀ u : Str, u = (match (listX [s, t]).1 with | [] => [] | x :: _ => x) → law27_XffReads_j1 s t (listX [s, t]) (listX [s, t]) u = some true := by
    intro u hu
    unfold law27_XffReads_j1 law27_XffReads_j2
    have hlen : (listX [s, t]).1.length < 1000000000 := by simp only [List.length_cons, List.length_nil] at hll; omega
    rw [xff_Is_eq s (by omega), Option.bind_some, ref27_Is_eq s (by omega), Option.bind_some, isR_isX, beq_self_eq_true, if_pos rfl, ref06_Same_eq _ _ hlen, Option.bind_some, beq_self_eq_true, if_pos rfl, beq_self_eq_true, if_pos rfl, hf, Option.bind_some, ← hu, beq_self_eq_true]
  cases hl : (listX [s, t]).1 with
  | nil =>
    rw [if_neg (by simp)]
    exact hj [] (by rw [hl])
  | cons x l =>
    rw [decide_eq_true (by simp only [List.length_cons]; omega), if_pos rfl, lAt_zero, List.getElem?_cons_zero, Option.bind_some]
    exact hj x (by rw [hl])
end Go.Dm
