/-
  Heads read: lines between line ends, then what they are; the document's, as the program's.
-/
import Derived.Test.YtnfkbhocbdheaacGreatDoorT15F
namespace Go.Dm
def lines : Str → List Str
  | [] => [[]]
  | [c] => [[c]]
  | c :: d :: r => if c == 13 && d == 10 then [] :: lines r else headed [c] (lines (d :: r))
theorem lines_two (c d : UInt8) (r : Str) : lines (c :: d :: r) = if c == 13 && d == 10 then [] :: lines r else headed [c] (lines (d :: r)) := by rw [lines]
theorem pre_crlf (c d : UInt8) (r : Str) : ([13, 10] : Str).isPrefixOf (c :: d :: r) = (c == 13 && d == 10) := by
  show ((13 : UInt8) == c && ((10 : UInt8) == d && ([] : Str).isPrefixOf r)) = _
  have : ([] : Str).isPrefixOf r = true := by simp
  rw [this, Bool.and_true, show ((13 : UInt8) == c) = (c == 13) from by rw [Bool.eq_iff_iff, beq_iff_eq, beq_iff_eq]; exact eq_comm, show ((10 : UInt8) == d) = (d == 10) from by rw [Bool.eq_iff_iff, beq_iff_eq, beq_iff_eq]; exact eq_comm]
theorem lines_ne : ∀ (n : Nat) (s : Str), s.length < n → lines s ≠ []
  | 0, _, h => by omega
  | n + 1, [], _ => by simp [lines]
  | n + 1, [c], _ => by simp [lines]
  | n + 1, c :: d :: r, h => by
    rw [lines_two]
    split
    · simp
    · simp only [List.length_cons] at h
      cases hl : lines (d :: r) with
      | nil => exact absurd hl (lines_ne n _ (by simp only [List.length_cons]; omega))
      | cons a t => simp [headed]
theorem lines_nn (s : Str) : lines s ≠ [] := lines_ne _ s (Nat.lt_succ_self _)
theorem lines_cut : ∀ (n : Nat) (s : Str), s.length < n → lines s = match cutAt [13, 10] s with | none => [s] | some p => p.1 :: lines p.2
  | 0, _, h => by omega
  | n + 1, [], _ => by simp [lines, cutAt]
  | n + 1, [c], _ => by
    have : ([13, 10] : Str).isPrefixOf [c] = false := by
      show ((13 : UInt8) == c && false) = false
      rw [Bool.and_false]
    rw [cutAt, this, if_neg Bool.false_ne_true]
    simp [lines, cutAt]
  | n + 1, c :: d :: r, h => by
    simp only [List.length_cons] at h
    have ih := lines_cut n (d :: r) (by simp only [List.length_cons]; omega)
    rw [lines_two, cutAt, pre_crlf]
    cases hc : (c == 13 && d == 10) with
    | true => rfl
    | false =>
      rw [if_neg Bool.false_ne_true, if_neg Bool.false_ne_true, ih]
      cases cutAt [13, 10] (d :: r) with
      | none => rfl
      | some p => rfl
theorem lines_eq (s : Str) : lines s = match cutAt [13, 10] s with | none => [s] | some p => p.1 :: lines p.2 := lines_cut _ s (Nat.lt_succ_self _)
theorem splitK_crlf : ∀ (k : Nat) (s : Str), Go.Lib.count s [13, 10] = k → Go.Lib.splitK [13, 10] 0 k s = lines s
  | k, s, h => by
    have hi := index_cut (t := [13, 10]) (by decide) s
    rw [lines_eq]
    cases hc : cutAt [13, 10] s with
    | none =>
      rw [hc] at hi
      have h0 := Go.Lib.count_miss hi
      have : k = 0 := by omega
      subst this
      rfl
    | some p =>
      rw [hc] at hi
      have e := cutAt_some (a := p.1) (b := p.2) hc
      have e1 : s.take p.1.length = p.1 := by rw [e, List.append_assoc, List.take_left']; rfl
      have e2 : s.drop (p.1.length + 2) = p.2 := by rw [e, List.drop_left']; simp
      have hh := Go.Lib.count_hit (i := p.1.length) (by decide) hi
      rw [show ([13, 10] : Str).length = 2 from rfl, e2] at hh
      obtain ⟨m, rfl⟩ : ∃ m, k = m + 1 := ⟨k - 1, by omega⟩
      have ih := splitK_crlf m p.2 (by omega)
      unfold Go.Lib.splitK
      have hn : (((p.1.length : Int)) == -1) = false := beq_eq_false_iff_ne.2 (by omega)
      rw [hi]
      dsimp only
      rw [hn, if_neg Bool.false_ne_true, Int.toNat_natCast, Nat.add_zero, e1, show ([13, 10] : Str).length = 2 from rfl, e2, ih]
theorem strings_Split_crlf (s : Str) (hs : s.length < 1000000000) : strings_Split s [13, 10] = some (lines s) := by
  unfold strings_Split
  rw [if_pos ⟨by omega, by decide⟩]
  exact congrArg some (splitK_crlf _ s rfl)
theorem lines_mem : ∀ (n : Nat) (s : Str), s.length < n → (lines s).length ≤ s.length + 1 ∧ ∀ l ∈ lines s, l.length ≤ s.length
  | 0, _, h => by omega
  | n + 1, s, h => by
    rw [lines_eq]
    cases hc : cutAt [13, 10] s with
    | none => simp
    | some p =>
      have e := congrArg List.length (cutAt_some (a := p.1) (b := p.2) hc)
      simp only [List.length_append, List.length_cons, List.length_nil] at e
      obtain ⟨h1, h2⟩ := lines_mem n p.2 (by omega)
      dsimp only
      refine ⟨by simp only [List.length_cons]; omega, fun l hl => ?_⟩
      rcases List.mem_cons.1 hl with h | h
      · rw [h]; omega
      · have := h2 l h; omega
theorem strings_Index_cut (s t : Str) (hs : s.length < 1000000000) (ht : t ≠ []) : strings_Index s t = some (match cutAt t s with | none => -1 | some p => (p.1.length : Int)) := by
  unfold strings_Index
  rw [if_pos (by omega), idxStr_eqL, index_cut ht]
  cases cutAt t s <;> rfl
def valsH (h : api_Head) : List Str := (h.Fields.filter (isN [104, 111, 115, 116])).map (·.Value)
def hostsOk (h : api_Head) : Bool := if h.Kind == 1 then (if decide (1 < (valsH h).length) || decide (((valsH h).length : Int) < h.Minor) then false else (valsH h).all (fun x => x == [] || (hostP x).2 == 0)) else true
def wholeE (h : api_Head) : Int := if decide (100 < h.Fields.length) then 3 else if hostsOk h then 0 else 27
theorem low_host : isN ([72, 111, 115, 116] : Str) = isN [104, 111, 115, 116] := by
  funext f
  unfold isN
  have : low ([72, 111, 115, 116] : Str) = low ([104, 111, 115, 116] : Str) := by decide
  rw [this]
theorem bag_Values_eq (l : List api_Field) (nm : Str) (hn : nm.length < 1000000000) (hl : l.length < 1000000000) (hs : smallF 1000000000 l) : bag_Bag_Values ⟨l⟩ nm = some ((l.filter (isN nm)).map (·.Value)) := by
  unfold bag_Bag_Values bag_Bag_List
  rw [clone_eq l hl, Option.bind_some, Option.bind_some]
  have key : ∀ (n i : Nat) (out : List Str), i ≤ l.length → l.length - i < n → out.length ≤ i → bag_Bag_Values_L1 nm l n out (i : Int) = some (out ++ ((l.drop i).filter (isN nm)).map (·.Value)) := by
    intro n
    induction n with
    | zero => intro i _ _ h; omega
    | succ n ih =>
      intro i out hi h ho
      rw [bag_Bag_Values_L1]
      by_cases hlt : i < l.length
      · have g : l[i]? = some l[i] := List.getElem?_eq_getElem hlt
        have hsm := hs l[i] (List.getElem_mem _)
        rw [decide_eq_true (show (i : Int) < (l.length : Int) by omega), if_pos rfl, lAt_nat, g, Option.bind_some, octet_Same_eq _ _ hsm.1 hn, Option.bind_some, if_pos (fits_ok (by omega) (by omega))]
        unfold bag_Bag_Values_j2
        rw [iAdd_one (by omega), Option.bind_some, Option.bind_some, ih (i + 1) _ (by omega) (by omega) (by simp; omega), ih (i + 1) _ (by omega) (by omega) (by omega), List.drop_eq_getElem_cons hlt, List.filter_cons]
        show (if (isN nm l[i]) = true then _ else _) = _
        cases isN nm l[i] with
        | true => simp
        | false => rfl
      · have : i = l.length := by omega
        subst this
        rw [decide_eq_false (by omega), if_neg Bool.false_ne_true, List.drop_length]
        simp
  have := key fuel 0 [] (Nat.zero_le _) (by unfold fuel; omega) (by simp)
  rw [List.drop_zero, List.nil_append] at this
  exact this
theorem head_hosts_eq (h : api_Head) (hl : h.Fields.length < 1000000000) (hs : smallF 400000000 h.Fields) : head_hosts h = some (hostsOk h) := by
  unfold head_hosts hostsOk
  cases h.Kind == 1 with
  | false => rfl
  | true =>
    have hvl : (valsH h).length ≤ h.Fields.length := by unfold valsH; rw [List.length_map]; exact List.length_filter_le _ _
    have hvm : ∀ v ∈ valsH h, v.length < 400000000 := fun v hv => by
      obtain ⟨f, hf, rfl⟩ := List.mem_map.1 hv
      exact (hs f (List.mem_filter.1 hf).1).2
    rw [Bool.not_true, if_neg Bool.false_ne_true, if_pos rfl]
    unfold bag_New
    rw [clone_eq _ hl, Option.bind_some, Option.bind_some, bag_Values_eq _ _ (by decide) hl (smallF_mono (by decide) hs), Option.bind_some, low_host]
    show (if decide (1 < ((valsH h).length : Int)) = true then head_hosts_j1 (valsH h) true else head_hosts_j1 (valsH h) (decide (((valsH h).length : Int) < h.Minor))) = _
    generalize valsH h = vs at hvl hvm
    have key : ∀ (n i : Nat), i ≤ vs.length → vs.length - i < n → head_hosts_L2 vs n (i : Int) = some ((vs.drop i).all (fun x => x == [] || (hostP x).2 == 0)) := by
      intro n
      induction n with
      | zero => intro i _ h; omega
      | succ n ih =>
        intro i hi h
        rw [head_hosts_L2]
        by_cases hlt : i < vs.length
        · have g : vs[i]? = some vs[i] := List.getElem?_eq_getElem hlt
          have hsm := hvm vs[i] (List.getElem_mem _)
          unfold head_hosts_j3
          rw [decide_eq_true (show (i : Int) < (vs.length : Int) by omega), if_pos rfl, lAt_nat, g, Option.bind_some, hostport_Parse_eq _ hsm, Option.bind_some, iAdd_one (by omega), Option.bind_some, ih (i + 1) (by omega) (by omega), List.drop_eq_getElem_cons hlt, List.all_cons]
          cases (hostP vs[i]).2 == 0 <;> cases vs[i] == [] <;> rfl
        · have : i = vs.length := by omega
          subst this
          rw [decide_eq_false (by omega), if_neg Bool.false_ne_true, List.drop_length]
          rfl
    have hk := key fuel 0 (Nat.zero_le _) (by unfold fuel; omega)
    rw [List.drop_zero] at hk
    unfold head_hosts_j1
    by_cases h1 : 1 < vs.length
    · rw [decide_eq_true (show 1 < (vs.length : Int) by omega), decide_eq_true h1]; rfl
    · rw [decide_eq_false (show ¬ 1 < (vs.length : Int) by omega), decide_eq_false h1, if_neg Bool.false_ne_true, Bool.false_or]
      cases decide ((vs.length : Int) < h.Minor) with
      | true => rfl
      | false => exact hk
theorem head_whole_eq (h : api_Head) (hl : h.Fields.length < 1000000000) (hs : smallF 400000000 h.Fields) : head_whole h = some (wholeE h) := by
  unfold head_whole wholeE
  rw [head_hosts_eq h hl hs, Option.bind_some]
  by_cases h1 : 100 < h.Fields.length
  · rw [decide_eq_true (show 100 < (h.Fields.length : Int) by omega), decide_eq_true h1]; rfl
  · rw [decide_eq_false (show ¬ 100 < (h.Fields.length : Int) by omega), decide_eq_false h1]
    cases hostsOk h <;> rfl
structure GoodH (h : api_Head) : Prop where
  kind : h.Kind = 1 ∨ h.Kind = 2
  minor : h.Minor = 0 ∨ h.Minor = 1
theorem line_minor {k : Int} {s : Str} {x : api_Head} (h : lineP k s = (x, 0)) : GoodH x := by
  have hb := line_back h
  rcases lineP_kind h with ⟨hk, h⟩ | ⟨hk, h⟩
  · refine ⟨.inl (hb.kind.trans hk), ?_⟩
    rcases reqP_cases s with (h1 | h1) | ⟨h1, h2⟩
    · rw [h1] at h; exact absurd (show (26 : Int) = 0 from congrArg Prod.snd h) (by decide)
    · rw [h1] at h; exact absurd (show (20 : Int) = 0 from congrArg Prod.snd h) (by decide)
    · obtain ⟨v, _, _, _, _, _, k1, k2, k3, _⟩ := reqF_parts h1
      rw [h2] at h
      have hx := congrArg Prod.fst h
      dsimp only at hx
      rw [← hx]
      dsimp only
      rw [k3]
      rcases verK_taken k1 k2 with ⟨_, e⟩ | ⟨_, e⟩
      · exact .inl e
      · exact .inr e
  · refine ⟨.inr (hb.kind.trans hk), ?_⟩
    unfold staP at h
    split at h
    · exact absurd (show (26 : Int) = 0 from congrArg Prod.snd h) (by decide)
    · split at h
      · rename_i h1
        obtain ⟨b, w, r, e1, e2, _, _⟩ := staF_parts h1
        have hx := congrArg Prod.fst h
        dsimp only at hx
        rw [← hx]
        dsimp only
        rw [e2, minR_lit b _ e1]
        rcases e1 with e | e <;> subst e
        · exact .inl rfl
        · exact .inr rfl
      · exact absurd (show (20 : Int) = 0 from congrArg Prod.snd h) (by decide)
def moreH (h : api_Head) (f : api_Field) : api_Head := ⟨h.Kind, h.Method, h.Target, h.Code, h.Reason, h.Minor, h.Fields ++ [f]⟩
def procF : api_Head → List Str → api_Head × Int
  | h, [] => if wholeE h == 0 then (h, 0) else (zeroH, wholeE h)
  | h, l :: ls => if (fieldP l).2 == 0 then procF (moreH h (fieldP l).1) ls else (zeroH, (fieldP l).2)
def procL (k : Int) : List Str → api_Head × Int
  | [] => (zeroH, 6)
  | l :: ls => if (lineP k l).2 == 0 then procF (lineP k l).1 ls else (zeroH, (lineP k l).2)
def headP (k : Int) (s : Str) (lim : Int) : api_Head × Int :=
  if !(k == 1) && !(k == 2) then (zeroH, 1) else if decide (lim < (s.length : Int)) then (zeroH, 3) else match cutAt [13, 10, 13, 10] s with
  | none => (zeroH, 6)
  | some p => if p.2 == [] then procL k (lines p.1) else (zeroH, 6)
theorem fieldP_len (l : Str) : (fieldP l).1.Name.length ≤ l.length ∧ (fieldP l).1.Value.length ≤ l.length := by
  unfold fieldP
  have h1 := trim_le (upto [58] l)
  have h2 := upto_le [58] l
  have h3 := trim_le ((from_ [58] l).drop 1)
  have h4 := congrArg List.length (upto_from [58] l)
  simp only [List.length_append] at h4
  simp only [List.length_drop] at h3
  split
  · simp [zeroF]
  · split
    · simp [zeroF]
    · split
      · simp [zeroF]
      · split
        · simp [zeroF]
        · split
          · simp [zeroF]
          · dsimp only; omega
theorem more_small {h : api_Head} {l : Str} (hs : smallF 400000000 h.Fields) (hl : l.length < 400000000) : smallF 400000000 (moreH h (fieldP l).1).Fields := by
  intro f hf
  rcases List.mem_append.1 hf with h1 | h1
  · exact hs f h1
  · have := fieldP_len l
    have e : f = (fieldP l).1 := by simpa using h1
    rw [e]; omega
theorem head_j3_eq (h : api_Head) (hl : h.Fields.length < 1000000000) (hs : smallF 400000000 h.Fields) : head_Parse_j3 h.Kind h.Method h.Target h.Code h.Reason h.Minor h.Fields = some (procF h []) := by
  unfold head_Parse_j3
  rw [head_whole_eq _ hl hs, Option.bind_some, procF]
  cases wholeE h == 0 <;> rfl
theorem head_L2_eq (ls : List Str) (hln : ls.length < 100000000) (hls : ∀ l ∈ ls, l.length < 400000000) : ∀ (n i : Nat) (h : api_Head), i ≤ ls.length → ls.length - i < n → smallF 400000000 h.Fields → h.Fields.length ≤ i →
    head_Parse_L2 ls n h.Kind h.Method h.Target h.Code h.Reason h.Minor h.Fields (i : Int) = some (procF h (ls.drop i))
  | 0, _, _, _, h, _, _ => by omega
  | n + 1, i, h, hi, hn, hs, hfl => by
    rw [head_Parse_L2]
    by_cases hlt : i < ls.length
    · have g : ls[i]? = some ls[i] := List.getElem?_eq_getElem hlt
      have hsm := hls ls[i] (List.getElem_mem _)
      have ih := head_L2_eq ls hln hls n (i + 1) (moreH h (fieldP ls[i]).1) (by omega) (by omega) (more_small hs hsm) (by unfold moreH; simp; omega)
      rw [decide_eq_true (show (i : Int) < (ls.length : Int) by omega), if_pos rfl, lAt_nat, g, Option.bind_some, fieldline_Parse_eq _ (by omega), Option.bind_some, if_pos (fits_ok (by omega) (by omega)), iAdd_one (by omega), Option.bind_some, List.drop_eq_getElem_cons hlt, procF]
      cases (fieldP ls[i]).2 == 0 with
      | false => rfl
      | true => exact ih
    · have : i = ls.length := by omega
      subst this
      rw [decide_eq_false (by omega), if_neg Bool.false_ne_true, List.drop_length]
      exact head_j3_eq h (by omega) hs
theorem lineP_nil (k : Int) : ((lineP k []).2 == 1) = (!(k == 1) && !(k == 2)) := by
  unfold lineP
  cases h1 : k == 1 with
  | true => rfl
  | false =>
    cases h2 : k == 2 with
    | true => rfl
    | false => rfl
theorem lineP_nil1 (k : Int) (h : (!(k == 1) && !(k == 2)) = true) : (lineP k []).2 = 1 := by
  have := lineP_nil k
  rw [h] at this
  simpa using this
theorem head_Parse_eq (k : Int) (s : Str) (lim : Int) (hs : s.length < 90000000) : head_Parse k s lim = some (headP k s lim) := by
  unfold head_Parse headP
  rw [startline_Parse_eq k [] (by decide), Option.bind_some, lineP_nil]
  cases hk : (!(k == 1) && !(k == 2)) with
  | true => rw [if_pos rfl, if_pos rfl, lineP_nil1 k hk]; rfl
  | false =>
    rw [if_neg Bool.false_ne_true, if_neg Bool.false_ne_true, strings_Index_cut s _ (by omega) (by decide), Option.bind_some]
    cases decide (lim < (s.length : Int)) with
    | true => rfl
    | false =>
      rw [if_neg Bool.false_ne_true, if_neg Bool.false_ne_true]
      have j1t : ∀ r, head_Parse_j1 k s r true = some (zeroH, 6) := fun r => rfl
      cases hc : cutAt [13, 10, 13, 10] s with
      | none => exact j1t (-1)
      | some p =>
        have e := cutAt_some (a := p.1) (b := p.2) hc
        have el := congrArg List.length e
        simp only [List.length_append, List.length_cons, List.length_nil] at el
        have a4 : iAdd (p.1.length : Int) 4 = some ((p.1.length + 4 : Nat) : Int) := by rw [iAdd_ok (by omega) (by omega)]; exact congrArg some (by omega)
        dsimp only
        rw [decide_eq_false (show ¬ (p.1.length : Int) < 0 by omega), if_neg Bool.false_ne_true, a4, Option.bind_some]
        cases hp : p.2 == [] with
        | false =>
          have hne : p.2 ≠ [] := by simpa using hp
          have hpl : 0 < p.2.length := List.length_pos_iff.2 hne
          have : (((p.1.length + 4 : Nat) : Int) == (s.length : Int)) = false := beq_eq_false_iff_ne.2 (by omega)
          rw [this]
          exact j1t _
        | true =>
          have hp0 : p.2 = [] := by simpa using hp
          rw [hp0] at el
          simp only [List.length_nil] at el
          have : (((p.1.length + 4 : Nat) : Int) == (s.length : Int)) = true := by rw [beq_iff_eq]; omega
          rw [this, Bool.not_true, if_pos rfl]
          unfold head_Parse_j1
          have st : s.take p.1.length = p.1 := by rw [e, List.append_assoc, List.take_left']; rfl
          rw [if_neg Bool.false_ne_true, sTo_nat (by omega), Option.bind_some, st, strings_Split_crlf _ (by omega), Option.bind_some]
          obtain ⟨m1, m2⟩ := lines_mem _ p.1 (Nat.lt_succ_self _)
          cases hl : lines p.1 with
          | nil => exact absurd hl (lines_nn _)
          | cons l ls =>
            rw [hl] at m1 m2
            have hll := m2 l (List.mem_cons_self ..)
            rw [lAt_zero, List.getElem?_cons_zero, Option.bind_some, startline_Parse_eq k l (by omega), Option.bind_some, procL]
            cases h0 : (lineP k l).2 == 0 with
            | false => rfl
            | true =>
              have hf : lFrom (l :: ls) 1 = some ls := by
                unfold lFrom
                rw [if_pos ⟨by decide, by simp only [List.length_cons]; omega⟩]
                rfl
              rw [Bool.not_true, if_neg Bool.false_ne_true, hf, Option.bind_some, if_pos rfl]
              have hfs := lineP_fields k l
              have := head_L2_eq ls (by simp only [List.length_cons] at m1; omega) (fun x hx => by have := m2 x (List.mem_cons_of_mem _ hx); omega) fuel 0 (lineP k l).1 (Nat.zero_le _) (by simp only [List.length_cons] at m1; unfold fuel; omega) (by rw [hfs]; intro f hf; cases hf) (by rw [hfs]; simp)
              rw [List.drop_zero] at this
              exact this
theorem procF_len : ∀ (ls : List Str) (h : api_Head), (procF h ls).1.Fields.length ≤ h.Fields.length + ls.length
  | [], h => by
    rw [procF]
    split
    · simp
    · simp [zeroH]
  | l :: ls, h => by
    rw [procF]
    split
    · have := procF_len ls (moreH h (fieldP l).1)
      have e : (moreH h (fieldP l).1).Fields.length = h.Fields.length + 1 := by unfold moreH; simp
      simp only [List.length_cons]
      omega
    · simp [zeroH]
theorem headP_len (k : Int) (s : Str) (lim : Int) : (headP k s lim).1.Fields.length ≤ s.length + 1 := by
  unfold headP
  split
  · simp [zeroH]
  · split
    · simp [zeroH]
    · cases hc : cutAt [13, 10, 13, 10] s with
      | none => simp [zeroH]
      | some p =>
        have el := congrArg List.length (cutAt_some (a := p.1) (b := p.2) hc)
        simp only [List.length_append, List.length_cons, List.length_nil] at el
        dsimp only
        split
        · have hm := (lines_mem _ p.1 (Nat.lt_succ_self _)).1
          cases hl : lines p.1 with
          | nil => simp [procL, zeroH]
          | cons l ls =>
            rw [hl] at hm
            simp only [List.length_cons] at hm
            rw [procL]
            split
            · have := procF_len ls (lineP k l).1
              rw [lineP_fields] at this
              simp only [List.length_nil] at this
              omega
            · simp [zeroH]
        · simp [zeroH]
end Go.Dm
