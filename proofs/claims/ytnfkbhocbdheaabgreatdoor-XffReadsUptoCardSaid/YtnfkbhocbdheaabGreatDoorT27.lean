/-
  X-Forwarded-For: elements, lists, one element more. No program in sight.
-/
import Derived.Test.YtnfkbhocbdheaabGreatDoorT13
import Derived.Test.YtnfkbhocbdheaabGreatDoorT05Q
import Derived.Test.YtnfkbhocbdheaabGreatDoorT08P
namespace Go.Dm
def cAdr (c : UInt8) : Bool := cHex c || c == 58 || c == 46
theorem dig_adr (c : UInt8) : (!cDigit c || cAdr c) = true := all_bytes (fun c => !cDigit c || cAdr c) (by decide +kernel) c
theorem hex_adr (c : UInt8) : (!cHex c || cAdr c) = true := all_bytes (fun c => !cHex c || cAdr c) (by decide +kernel) c
theorem smallOk_adr {s : Str} {m : Int} (h : smallOk s m = true) : s.all cAdr = true := by
  unfold smallOk at h
  simp only [Bool.and_eq_true, beq_iff_eq] at h
  have h1 := h.1
  unfold readN at h1
  split at h1
  · cases h1
  · rename_i h2
    simp only [Bool.or_eq_true, Bool.not_eq_true', not_or] at h2
    have h3 : s.all (isDig 10) = true := by simpa using h2.2
    refine List.all_eq_true.2 fun x hx => ?_
    have h4 : cDigit x = true := List.all_eq_true.1 h3 x hx
    have := dig_adr x
    rw [h4] at this
    simpa using this
theorem split_all {p : UInt8 → Bool} {c : UInt8} (hc : p c = true) : ∀ {s : Str}, (∀ x ∈ splitOn c s, x.all p = true) → s.all p = true
  | [], _ => rfl
  | y :: s, h => by
    rw [splitOn_cons] at h
    split at h
    · rename_i e
      subst e
      rw [List.all_cons, hc, Bool.true_and]
      exact split_all hc fun x hx => h x (List.mem_cons_of_mem _ hx)
    · cases hs : splitOn c s with
      | nil => exact absurd hs (splitOn_ne c s)
      | cons a l =>
        rw [hs] at h
        have h1 := h (y :: a) (List.mem_cons_self ..)
        rw [List.all_cons] at h1
        simp only [Bool.and_eq_true] at h1
        rw [List.all_cons, h1.1, Bool.true_and]
        refine split_all hc fun x hx => ?_
        rw [hs] at hx
        rcases List.mem_cons.1 hx with rfl | hx
        · exact h1.2
        · exact h x (List.mem_cons_of_mem _ hx)
theorem fourOk_adr {s : Str} (h : fourOk s = true) : s.all cAdr = true ∧ s ≠ [] := by
  refine ⟨?_, ?_⟩
  · unfold fourOk at h
    simp only [Bool.and_eq_true] at h
    exact split_all (by decide) fun x hx => smallOk_adr (List.all_eq_true.1 h.1 x hx)
  · rintro rfl
    revert h
    simp [fourOk, splitOn]
theorem grp_adr {s : Str} (h : grp s = true) : s.all cAdr = true := by
  unfold grp at h
  simp only [Bool.and_eq_true] at h
  refine List.all_eq_true.2 fun x hx => ?_
  have h4 : cHex x = true := List.all_eq_true.1 h.2 x hx
  have := hex_adr x
  rw [h4] at this
  simpa using this
theorem worthG_adr (last : Bool) : ∀ {l : List Str} {k : Nat}, worthG last l = some k → ∀ x ∈ l, x.all cAdr = true
  | [], _, _, x, hx => by cases hx
  | [y], k, h, x, hx => by
    have : x = y := by simpa using hx
    subst this
    rw [worthG_one] at h
    split at h
    · rename_i h2
      simp only [Bool.and_eq_true] at h2
      exact (fourOk_adr h2.2).1
    · split at h
      · rename_i h3; exact grp_adr h3
      · cases h
  | y :: z :: l, k, h, x, hx => by
    rw [worthG_more] at h
    split at h
    · rename_i h2
      obtain ⟨m, hm, _⟩ := Option.map_eq_some_iff.1 h
      rcases List.mem_cons.1 hx with rfl | hx
      · exact grp_adr h2
      · exact worthG_adr last hm x hx
    · cases h
theorem partsG_adr {last : Bool} {s : Str} {k : Nat} (h : worthG last (partsG s) = some k) : s.all cAdr = true := by
  unfold partsG at h
  split at h
  · rename_i e; subst e; rfl
  · exact split_all (by decide) fun x hx => worthG_adr last h x hx
theorem sixOk_adr {s : Str} (h : sixOk s = true) : s.all cAdr = true ∧ s ≠ [] := by
  unfold sixOk at h
  cases hc : cutAt [58, 58] s with
  | none =>
    rw [hc] at h
    dsimp only at h
    unfold wholeOk at h
    have hw : worthG true (splitOn 58 s) = some 8 := by simpa using h
    refine ⟨split_all (by decide) fun x hx => worthG_adr true hw x hx, ?_⟩
    rintro rfl
    revert h
    decide
  | some p =>
    rw [hc] at h
    dsimp only at h
    have e := cutAt_some (a := p.1) (b := p.2) hc
    refine ⟨?_, by rw [e]; simp⟩
    cases h1 : worthG false (partsG p.1) with
    | none => rw [h1] at h; cases h
    | some a =>
      cases h2 : worthG true (partsG p.2) with
      | none => rw [h1, h2] at h; cases h
      | some b =>
        rw [e, List.all_append, List.all_append, partsG_adr h1, partsG_adr h2]
        decide
def unknownS : Str := [117, 110, 107, 110, 111, 119, 110]
def bareX (s : Str) : Bool := fourOk s || sixOk s
/-- A client, as it stands in an element. -/
def ownX (c : Str) : Str := if bareX c then c else unknownS
def cutSuf (s : Str) : Str × Bool := if ([93] : Str).isSuffixOf s then (s.take (s.length - 1), true) else (s, false)
theorem strings_CutSuffix_one (s : Str) (hs : s.length < 1000000000) : strings_CutSuffix s [93] = some (cutSuf s) := by
  unfold strings_CutSuffix stringslite_CutSuffix
  have h' := HasSuffix_eq s [93] hs (by decide)
  rw [h', Option.bind_some]
  unfold cutSuf
  cases hp : ([93] : Str).isSuffixOf s with
  | false => rfl
  | true =>
    have hl := (List.isSuffixOf_iff_suffix.1 hp).length_le
    simp only [List.length_singleton] at hl
    have e : iSub (s.length : Int) (([93] : Str).length : Int) = some ((s.length - 1 : Nat) : Int) := by
      rw [iSub_ok (by simp; omega) (by simp; omega)]; congr 1; simp; omega
    rw [Bool.not_true, if_neg (by decide), e, Option.bind_some, sTo_nat (by omega)]
    rfl
/-- Is a text an element? -/
def isX (s : Str) : Bool := bareX s || (([91] : Str).isPrefixOf s && (cutSuf (if ([91] : Str).isPrefixOf s then s.drop 1 else s)).2 && sixOk (cutSuf (if ([91] : Str).isPrefixOf s then s.drop 1 else s)).1) || low s == unknownS
theorem xff_bare_eq (s : Str) (hs : s.length < 900000000) : xff_bare s = some (bareX s) := by
  unfold xff_bare xff_bare_j1 bareX
  rw [hostport_Four_eq s (by omega), Option.bind_some, Six_eq s hs, Option.bind_some]
  cases fourOk s <;> rfl
theorem cutSuf_len (s : Str) : (cutSuf s).1.length ≤ s.length := by unfold cutSuf; split <;> simp
theorem xff_Is_eq (s : Str) (hs : s.length < 900000000) : xff_Is s = some (isX s) := by
  unfold xff_Is
  rw [strings_CutPrefix_eq s [91] (by omega), Option.bind_some]
  have hl : (if ([91] : Str).isPrefixOf s = true then (s.drop ([91] : Str).length, true) else (s, false)).1.length ≤ s.length := by split <;> simp
  have hc := cutSuf_len (if ([91] : Str).isPrefixOf s = true then (s.drop ([91] : Str).length, true) else (s, false)).1
  rw [strings_CutSuffix_one _ (by omega), Option.bind_some, xff_bare_eq s hs, Option.bind_some, Six_eq _ (by omega), Option.bind_some, octet_Same_eq s _ (by omega) (by decide), Option.bind_some]
  unfold isX xff_Is_j1
  have hu : low ([117, 110, 107, 110, 111, 119, 110] : Str) = unknownS := by decide
  rw [hu]
  cases bareX s with
  | true => rfl
  | false =>
    cases ([91] : Str).isPrefixOf s with
    | false => rfl
    | true =>
      simp only [if_true]
      rw [show s.drop ([91] : Str).length = s.drop 1 from rfl]
      generalize cutSuf (s.drop 1) = q
      obtain ⟨q1, q2⟩ := q
      cases q2 <;> cases sixOk q1 <;> rfl
def listX : List Str → List Str × Int
  | [] => ([], 0)
  | v :: vs => match splitC v with
    | none => ([], 2)
    | some l => if l.all isX then (if (listX vs).2 == 0 then (l ++ (listX vs).1, 0) else ([], (listX vs).2)) else ([], 2)
def accX (out : List Str) (r : List Str × Int) : List Str × Int := if r.2 == 0 then (out ++ r.1, 0) else ([], r.2)
theorem listX_none {v : Str} (vs : List Str) (h : splitC v = none) : listX (v :: vs) = ([], 2) := by rw [listX, h]
theorem listX_some {v : Str} (vs : List Str) {l : List Str} (h : splitC v = some l) : listX (v :: vs) = if l.all isX then accX l (listX vs) else ([], 2) := by rw [listX, h]; rfl
theorem accX_acc (a b : List Str) (r : List Str × Int) : accX (a ++ b) r = accX a (accX b r) := by
  unfold accX
  cases h : r.2 == 0 with
  | true => simp
  | false => simp [h]
theorem splitC_mem {s : Str} {l : List Str} (h : splitC s = some l) : l.length ≤ s.length + 1 ∧ ∀ x ∈ l, x.length ≤ s.length := by
  unfold splitC at h
  obtain ⟨m, hm, rfl⟩ := Option.map_eq_some_iff.1 h
  have key : ∀ (s : Str) (k : Nat) (cur : Str) (m : List Str), segs k cur s = some m → m.length ≤ s.length + 1 ∧ ∀ x ∈ m, x.length ≤ cur.length + s.length := by
    intro s
    induction s with
    | nil => intro k cur m h; rw [segs_nil] at h; cases h; simp
    | cons c r ih =>
      intro k cur m h
      have one : ∀ k, segs k (cur ++ [c]) r = some m → m.length ≤ (c :: r).length + 1 ∧ ∀ x ∈ m, x.length ≤ cur.length + (c :: r).length := fun k h => by
        have := ih k _ m h
        simp only [List.length_cons, List.length_append, List.length_nil] at *
        exact ⟨by omega, fun x hx => by have := this.2 x hx; omega⟩
      cases k with
      | succ k => exact one k h
      | zero =>
        cases h1 : (c == 34 || c == 40) with
        | true =>
          rw [segs_in cur r h1] at h
          split at h
          · cases h
          · exact one _ h
        | false =>
          cases h2 : c == 44 with
          | true =>
            have : c = 44 := by simpa using h2
            subst this
            rw [segs_comma] at h
            obtain ⟨m', hm', rfl⟩ := Option.map_eq_some_iff.1 h
            have := ih 0 [] m' hm'
            simp only [List.length_cons, List.length_nil] at *
            refine ⟨by omega, fun x hx => ?_⟩
            rcases List.mem_cons.1 hx with rfl | hx
            · omega
            · have := this.2 x hx; omega
          | false => rw [segs_oth cur r h1 h2] at h; exact one 0 h
  have := key s 0 [] m hm
  unfold elems
  refine ⟨?_, fun x hx => ?_⟩
  · have h1 := List.length_filter_le (fun x : Str => !(x == [])) (m.map trim)
    rw [List.length_map] at h1
    omega
  · have h1 := (List.mem_filter.1 hx).1
    obtain ⟨y, hy, rfl⟩ := List.mem_map.1 h1
    have := this.2 y hy
    have := trim_le y
    simp at *
    omega
theorem List_L2_eq (rec1 : List Str → Int → Option (List Str × Int)) (l6 : List Str) (i7 : Nat) (l : List Str) (e : Int) (hl : l.length < 1000000000) (hx : ∀ x ∈ l, x.length < 900000000) (h6 : (l6.length + l.length) * 16 ≤ 140737488355328) (h7 : i7 < 1000000000) :
    xff_List_L2 rec1 l6 (i7 : Int) (l, e) fuel 0 = if l.all isX then rec1 (l6 ++ l) ((i7 + 1 : Nat) : Int) else some ([], 2) := by
  have key : ∀ (n i : Nat), i ≤ l.length → l.length - i < n → xff_List_L2 rec1 l6 (i7 : Int) (l, e) n (i : Int) = if (l.drop i).all isX then rec1 (l6 ++ l) ((i7 + 1 : Nat) : Int) else some ([], 2) := by
    intro n
    induction n with
    | zero => intro i _ h; omega
    | succ n ih =>
      intro i hi h
      rw [xff_List_L2]
      by_cases hlt : i < l.length
      · have g : l[i]? = some l[i] := List.getElem?_eq_getElem hlt
        have hxl := hx l[i] (List.getElem_mem _)
        dsimp only
        rw [decide_eq_true (show (i : Int) < (l.length : Int) by omega), if_pos rfl, lAt_nat, g, Option.bind_some, xff_Is_eq _ hxl, Option.bind_some, iAdd_one (by omega), Option.bind_some, ih (i + 1) (by omega) (by omega), List.drop_eq_getElem_cons hlt, List.all_cons]
        cases isX l[i] <;> rfl
      · have : i = l.length := by omega
        subst this
        dsimp only
        rw [decide_eq_false (by omega), if_neg (by decide), if_pos (fits_ok h6 (by omega)), iAdd_one (by omega), Option.bind_some, List.drop_length]
        rfl
  have := key fuel 0 (Nat.zero_le _) (by unfold fuel; omega)
  rw [List.drop_zero] at this
  exact this
theorem xff_List_eq (vs : List Str) (hn : vs.length ≤ 1000) (hv : ∀ v ∈ vs, v.length < 900000000) : xff_List vs = some (listX vs) := by
  unfold xff_List
  have key : ∀ (n i : Nat) (out : List Str), i ≤ vs.length → vs.length - i < n → out.length ≤ i * 900000000 → xff_List_L1 vs n out (i : Int) = some (accX out (listX (vs.drop i))) := by
    intro n
    induction n with
    | zero => intro i _ _ h; omega
    | succ n ih =>
      intro i out hi h ho
      rw [xff_List_L1]
      by_cases hlt : i < vs.length
      · have g : vs[i]? = some vs[i] := List.getElem?_eq_getElem hlt
        have hvl := hv vs[i] (List.getElem_mem _)
        rw [decide_eq_true (show (i : Int) < (vs.length : Int) by omega), if_pos rfl, lAt_nat, g, Option.bind_some, commas_Split_eq _ (by omega), Option.bind_some, List.drop_eq_getElem_cons hlt]
        unfold splitR
        cases hs : splitC vs[i] with
        | none => rw [listX_none _ hs]; rfl
        | some l =>
          have hm := splitC_mem hs
          dsimp only
          rw [if_neg (by decide), List_L2_eq _ _ _ l 0 (by omega) (fun x hx => by have := hm.2 x hx; omega) (by omega) (by omega), ih (i + 1) _ (by omega) (by omega) (by simp; omega), listX_some _ hs, accX_acc]
          cases l.all isX <;> rfl
      · have : i = vs.length := by omega
        subst this
        rw [decide_eq_false (by omega), if_neg (by decide), List.drop_length]
        simp [listX, accX]
  have := key fuel 0 [] (Nat.zero_le _) (by unfold fuel; omega) (by simp)
  rw [List.drop_zero] at this
  have hnil : ∀ vs : List Str, accX [] (listX vs) = listX vs := by
    intro vs
    have h0 : (listX vs).2 = 0 ∨ (listX vs).1 = [] := by
      cases vs with
      | nil => exact .inl rfl
      | cons v vs =>
        cases hs : splitC v with
        | none => rw [listX_none _ hs]; exact .inr rfl
        | some l =>
          rw [listX_some _ hs]
          cases l.all isX with
          | false => exact .inr rfl
          | true =>
            rw [if_pos rfl]
            unfold accX
            cases (listX vs).2 == 0 with
            | true => exact .inl rfl
            | false => exact .inr rfl
    unfold accX
    rcases h0 with h0 | h0
    · rw [h0, beq_self_eq_true, if_pos rfl, List.nil_append, ← h0]
    · cases h2 : (listX vs).2 == 0 with
      | true => rw [if_pos rfl, List.nil_append]; have : (listX vs).2 = 0 := by simpa using h2
                rw [← this]
      | false => rw [if_neg (by decide), ← h0]
  rw [hnil] at this
  exact this
theorem split_at (l : List api_Field) (i : Nat) (f : api_Field) (h : l[i]? = some f) : l = l.take i ++ f :: l.drop (i + 1) := by
  obtain ⟨h1, h2⟩ := List.getElem?_eq_some_iff.1 h
  have := (List.take_append_drop i l).symm
  rw [List.drop_eq_getElem_cons h1, h2] at this
  exact this
theorem set_at (l : List api_Field) (i : Nat) (f g : api_Field) (h : l[i]? = some f) : l.set i g = l.take i ++ g :: l.drop (i + 1) := by
  obtain ⟨h1, _⟩ := List.getElem?_eq_some_iff.1 h
  rw [List.set_eq_take_append_cons_drop, if_pos h1]
/-- What stands behind: the last field of the name turned, or one more. -/
theorem behind_parts (l : List api_Field) (nm x : Str) : (l.filter (isN nm) = [] ∧ behindF l nm x = l ++ [⟨nm, x⟩]) ∨
    ∃ a f b, l = a ++ f :: b ∧ isN nm f = true ∧ b.filter (isN nm) = [] ∧ behindF l nm x = a ++ ⟨f.Name, appendC f.Value x⟩ :: b := by
  unfold behindF
  cases h : lastP (isN nm) l l.length with
  | none =>
    left
    refine ⟨?_, rfl⟩
    rw [List.filter_eq_nil_iff]
    intro g hg
    obtain ⟨j, hj, hg⟩ := List.getElem_of_mem hg
    have := lastP_none h j hj g (by rw [← hg]; exact List.getElem?_eq_getElem hj)
    rw [this]; decide
  | some i =>
    right
    obtain ⟨h1, f, h2, h3, h4⟩ := lastP_some h
    dsimp only
    rw [h2]
    refine ⟨l.take i, f, l.drop (i + 1), split_at l i f h2, h3, ?_, set_at l i f _ h2⟩
    rw [List.filter_eq_nil_iff]
    intro g hg
    obtain ⟨j, hj, hg⟩ := List.getElem_of_mem hg
    simp only [List.length_drop] at hj
    rw [List.getElem_drop] at hg
    have := h4 (i + 1 + j) (by omega) (by omega) g (by rw [← hg]; exact List.getElem?_eq_getElem (by omega))
    rw [this]; decide
theorem behind_len (l : List api_Field) (nm x : Str) : (behindF l nm x).length ≤ l.length + 1 := by
  rcases behind_parts l nm x with ⟨_, h2⟩ | ⟨a, f, b, h1, _, _, h4⟩
  · rw [h2]; simp
  · rw [h4, h1]; simp
theorem xff_Append_eq (c : Str) (l : List api_Field) (hc : c.length < 900000000) (hl : l.length < 900000000) (hs : smallF 900000 l) : xff_Append c l = some (behindF l [88, 45, 70, 111, 114, 119, 97, 114, 100, 101, 100, 45, 70, 111, 114] (ownX c)) := by
  unfold xff_Append
  rw [xff_bare_eq c hc, Option.bind_some]
  have hj : ∀ x : Str, x.length < 1000000000 → xff_Append_j1 l x = some (behindF l [88, 45, 70, 111, 114, 119, 97, 114, 100, 101, 100, 45, 70, 111, 114] x) := by
    intro x hx
    unfold xff_Append_j1 bag_New bag_Bag_List
    have := behind_len l [88, 45, 70, 111, 114, 119, 97, 114, 100, 101, 100, 45, 70, 111, 114] x
    rw [clone_eq l (by omega), Option.bind_some, Option.bind_some, bag_Behind_eq l _ x (by decide) hx (by omega) (smallF_mono (by decide) hs), Option.bind_some, clone_eq _ (by dsimp only; omega), Option.bind_some, Option.bind_some]
  unfold ownX
  cases bareX c with
  | true => rw [Bool.not_true, if_neg (by decide), if_pos rfl]; exact hj c (by omega)
  | false => rw [Bool.not_false, if_pos rfl, if_neg (by decide)]; exact hj unknownS (by decide)
theorem law27_awake_eq : law27_awake = some true := by
  unfold law27_awake
  rw [xff_List_eq _ (by decide) (by decide), Option.bind_some, xff_Append_eq _ _ (by decide) (by decide) (fun f hf => by cases hf), Option.bind_some, ref06_Same_eq _ _ (by decide +kernel)]
  decide +kernel
end Go.Dm
