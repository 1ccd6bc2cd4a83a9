/-
  Heads printed: what may be, its text, and what is read of it again.
-/
import Derived.Test.YtnfkbhocbdheaacGreatDoorT15L
namespace Go.Dm
def checkF (f : api_Field) : Int := if isTok f.Name then (if f.Value.all cVal && trim f.Value == f.Value then 0 else 25) else 21
theorem fieldline_Check_eq (f : api_Field) (h1 : f.Name.length < 1000000000) (h2 : f.Value.length < 1000000000) : fieldline_Check f = some (checkF f) := by
  unfold fieldline_Check checkF
  rw [octet_Token_eq _ h1, Option.bind_some, octet_All_one octet_IsValue_eq _ h2, Option.bind_some, strings_Trim_eq _ h2, Option.bind_some]
  cases isTok f.Name <;> cases f.Value.all cVal <;> cases trim f.Value == f.Value <;> rfl
def checkL (w : Int) : List api_Field → Int
  | [] => w
  | f :: fs => if checkF f == 0 then checkL w fs else checkF f
def checkH (h : api_Head) : Int := if (textL h).2 == 0 then checkL (wholeE h) h.Fields else (textL h).2
theorem textL_ok {h : api_Head} (ht : ((textL h).2 == 0) = true) : textL h = (rawL h, 0) ∧ ∃ x, lineP h.Kind (rawL h) = (x, 0) ∧ x.Kind = h.Kind ∧ x.Method = h.Method ∧ x.Target = h.Target ∧ x.Minor = h.Minor ∧ x.Code = h.Code ∧ x.Reason = h.Reason := by
  unfold textL at ht ⊢
  split
  · rename_i h1; rw [if_pos h1] at ht; cases ht
  · rename_i h1
    rw [if_neg h1] at ht
    split
    · rename_i h2
      refine ⟨rfl, (lineP h.Kind (rawL h)).1, ?_, ?_⟩
      · rw [Bool.and_eq_true] at h2
        have : (lineP h.Kind (rawL h)).2 = 0 := by simpa using h2.1
        rw [← this]
      · rw [Bool.and_eq_true] at h2
        have h0 : (lineP h.Kind (rawL h)).2 = 0 := by simpa using h2.1
        have hb := line_back (k := h.Kind) (s := rawL h) (x := (lineP h.Kind (rawL h)).1) (by rw [← h0])
        have hs := h2.2
        unfold sameL at hs
        simp only [Bool.and_eq_true, beq_iff_eq] at hs
        exact ⟨hb.kind, hs.1.1.1.1, hs.1.1.1.2, hs.1.1.2, hs.1.2, hs.2⟩
    · rename_i h2; rw [if_neg h2] at ht; cases ht
theorem textL_good {h : api_Head} (ht : ((textL h).2 == 0) = true) : GoodH h := by
  obtain ⟨_, x, e, k1, _, _, k4, _, _⟩ := textL_ok ht
  have := line_minor e
  exact ⟨k1 ▸ this.kind, k4 ▸ this.minor⟩
theorem head_Check_eq (h : api_Head) (hs : smallH h) (hl : h.Fields.length < 1000000000) (hf : smallF 400000000 h.Fields) : head_Check h = some (checkH h) := by
  unfold head_Check checkH
  rw [startline_Text_eq h hs, Option.bind_some]
  cases ht : (textL h).2 == 0 with
  | false => rfl
  | true =>
    rw [Bool.not_true, if_neg Bool.false_ne_true, if_pos rfl]
    have key : ∀ (n i : Nat), i ≤ h.Fields.length → h.Fields.length - i < n → head_Check_L1 h n (i : Int) = some (checkL (wholeE h) (h.Fields.drop i)) := by
      intro n
      induction n with
      | zero => intro i _ h; omega
      | succ n ih =>
        intro i hi hn
        rw [head_Check_L1]
        by_cases hlt : i < h.Fields.length
        · have g : h.Fields[i]? = some h.Fields[i] := List.getElem?_eq_getElem hlt
          have hsm := hf h.Fields[i] (List.getElem_mem _)
          rw [decide_eq_true (show (i : Int) < (h.Fields.length : Int) by omega), if_pos rfl, lAt_nat, g, Option.bind_some, fieldline_Check_eq _ (by omega) (by omega), Option.bind_some, iAdd_one (by omega), Option.bind_some, ih (i + 1) (by omega) (by omega), List.drop_eq_getElem_cons hlt, checkL]
          cases checkF h.Fields[i] == 0 <;> rfl
        · have : i = h.Fields.length := by omega
          subst this
          rw [decide_eq_false (by omega), if_neg Bool.false_ne_true, List.drop_length, head_whole_eq h hl hf, Option.bind_some]
          rfl
    have := key fuel 0 (Nat.zero_le _) (by unfold fuel; omega)
    rw [List.drop_zero] at this
    exact this
theorem checkL_zero {w : Int} : ∀ {fs : List api_Field}, checkL w fs = 0 → w = 0 ∧ ∀ f ∈ fs, checkF f = 0
  | [], h => ⟨h, fun f hf => by cases hf⟩
  | f :: fs, h => by
    rw [checkL] at h
    split at h
    · rename_i h0
      obtain ⟨a, b⟩ := checkL_zero h
      refine ⟨a, fun g hg => ?_⟩
      rcases List.mem_cons.1 hg with e | e
      · rw [e]; simpa using h0
      · exact b g e
    · rename_i h0; rw [h] at h0; exact absurd rfl h0
theorem checkL_of {fs : List api_Field} (h : ∀ f ∈ fs, checkF f = 0) (w : Int) : checkL w fs = w := by
  induction fs with
  | nil => rfl
  | cons f fs ih =>
    rw [checkL, h f (List.mem_cons_self ..), beq_self_eq_true, if_pos rfl]
    exact ih (fun g hg => h g (List.mem_cons_of_mem _ hg))
def textF (f : api_Field) : Str := if f.Value == [] then f.Name ++ [58] else f.Name ++ [58, 32] ++ f.Value
def restH : List api_Field → Str
  | [] => [13, 10]
  | f :: fs => textF f ++ 13 :: 10 :: restH fs
def rawHd (h : api_Head) : Str := (textL h).1 ++ 13 :: 10 :: restH h.Fields
theorem textF_len (f : api_Field) : (textF f).length ≤ f.Name.length + f.Value.length + 2 := by
  unfold textF
  split <;> simp <;> omega
theorem restH_len {m : Nat} : ∀ {fs : List api_Field}, smallF m fs → (restH fs).length ≤ fs.length * (2 * m + 4) + 2
  | [], _ => by simp [restH]
  | f :: fs, h => by
    have h1 := h f (List.mem_cons_self ..)
    have ih := restH_len (m := m) (fs := fs) (fun g hg => h g (List.mem_cons_of_mem _ hg))
    have := textF_len f
    simp only [restH, List.length_append, List.length_cons, Nat.add_mul]
    omega
theorem textL_len {h : api_Head} (hs : smallH h) : (textL h).1.length < 100000000 := by
  have := rawL_len hs
  unfold textL
  split
  · simp
  · split
    · exact this
    · simp
theorem fieldline_Text_eq (f : api_Field) (h1 : f.Name.length < 100000000) (h2 : f.Value.length < 100000000) (hc : checkF f = 0) : fieldline_Text f = some (textF f, 0) := by
  unfold fieldline_Text textF
  rw [fieldline_Check_eq f (by omega) (by omega), Option.bind_some, hc, sCat_ok (by simp; omega), Option.bind_some, sCat_ok (by simp; omega), Option.bind_some, sCat_ok (by simp; omega), Option.bind_some]
  cases f.Value == [] <;> rfl
/-- A line more, where there is room. -/
theorem printer_line_eq (b s : Str) (most : Int) (full : Bool) (hb : (b.length : Int) ≤ most) (hm : most ≤ 9223372036854775807) (hs : s.length < 1000000000) (hbl : b.length < 1000000000) :
    head_printer_line ⟨⟨b, most⟩, full⟩ s = some (if ((b.length + s.length + 2 : Nat) : Int) ≤ most then ⟨⟨b ++ s ++ [13, 10], most⟩, full⟩ else ⟨⟨b, most⟩, true⟩) := by
  unfold head_printer_line quill_Quill_Line quill_Quill_Put quill_Quill_Left
  dsimp only
  have hsub : iSub most (b.length : Int) = some (most - (b.length : Int)) := iSub_ok (by omega) (by omega)
  rw [if_pos (show fitsApp 0 ([s] : List Str).length 16 = true from rfl), if_pos (show fitsApp ([s] : List Str).length 1 16 = true from rfl), hsub, Option.bind_some, Option.bind_some]
  rw [show fuel = 999999999999999997 + 1 + 1 + 1 from rfl]
  show ((quill_Quill_Put_L1 ⟨b, most⟩ [s, [13, 10]] (999999999999999997 + 1 + 1 + 1) (most - (b.length : Int)) ((0 : Nat) : Int)).bind _).bind _ = _
  have L2 : quill_Quill_Put_L2 [s, [13, 10]] fuel b most 0 = some (0, ⟨b ++ s ++ [13, 10], most⟩) := by
    rw [show fuel = 999999999999999997 + 1 + 1 + 1 from rfl, show (0 : Int) = ((0 : Nat) : Int) from rfl]
    rw [quill_Quill_Put_L2, decide_eq_true (by simp), if_pos rfl, lAt_nat, show ([s, [13, 10]] : List Str)[0]? = some s from rfl, Option.bind_some, if_pos (fits_ok (by omega) (by omega)), iAdd_one (by decide), Option.bind_some]
    rw [quill_Quill_Put_L2, decide_eq_true (by simp), if_pos rfl, lAt_nat, show ([s, [13, 10]] : List Str)[0 + 1]? = some [13, 10] from rfl, Option.bind_some, if_pos (fits_ok (by simp; omega) (by simp; omega)), iAdd_one (by decide), Option.bind_some]
    rw [quill_Quill_Put_L2, decide_eq_false (by simp), if_neg Bool.false_ne_true]
    rfl
  rw [quill_Quill_Put_L1, decide_eq_true (by simp), if_pos rfl, lAt_nat, show ([s, [13, 10]] : List Str)[0]? = some s from rfl, Option.bind_some]
  by_cases h1 : most - (b.length : Int) < (s.length : Int)
  · rw [decide_eq_true h1, if_pos rfl, Option.bind_some, Option.bind_some, if_neg (show ¬ ((b.length + s.length + 2 : Nat) : Int) ≤ most by omega)]
    rfl
  · rw [decide_eq_false h1, if_neg Bool.false_ne_true, iSub_ok (by omega) (by omega), Option.bind_some, iAdd_one (by decide), Option.bind_some]
    rw [quill_Quill_Put_L1, decide_eq_true (by simp), if_pos rfl, lAt_nat, show ([s, [13, 10]] : List Str)[0 + 1]? = some [13, 10] from rfl, Option.bind_some]
    by_cases h2 : most - (b.length : Int) - (s.length : Int) < 2
    · rw [decide_eq_true (show most - (b.length : Int) - (s.length : Int) < (([13, 10] : Str).length : Int) from h2), if_pos rfl, Option.bind_some, Option.bind_some, if_neg (show ¬ ((b.length + s.length + 2 : Nat) : Int) ≤ most by omega)]
      rfl
    · rw [decide_eq_false (show ¬ most - (b.length : Int) - (s.length : Int) < (([13, 10] : Str).length : Int) from h2), if_neg Bool.false_ne_true, show (([13, 10] : Str).length : Int) = 2 from rfl, iSub_ok (by omega) (by omega), Option.bind_some, iAdd_one (by decide), Option.bind_some]
      rw [quill_Quill_Put_L1, decide_eq_false (by simp), if_neg Bool.false_ne_true]
      show ((quill_Quill_Put_L2 [s, [13, 10]] fuel b most 0).bind _).bind _ = _
      rw [L2, Option.bind_some, Option.bind_some, if_pos (show ((b.length + s.length + 2 : Nat) : Int) ≤ most by omega)]
      rfl
def printR (h : api_Head) (most : Int) : Str × Int := if ((rawHd h).length : Int) ≤ most then (rawHd h, 0) else ([], 3)
theorem head_Print_eq (h : api_Head) (lim : Int) (hli : inI lim = true) (hs : smallH h) (hl : h.Fields.length ≤ 200) (hf : smallF 4000 h.Fields) :
    head_Print h lim = some (if checkH h == 0 then printR h lim else ([], checkH h)) := by
  have htl := textL_len hs
  have hrl := restH_len hf
  rw [inI_iff] at hli
  unfold head_Print
  rw [head_Check_eq h hs (by omega) (smallF_mono (by decide) hf), Option.bind_some]
  cases hck : checkH h == 0 with
  | false => rfl
  | true =>
    have hc0 : checkH h = 0 := by simpa using hck
    unfold quill_New
    rw [Bool.not_true, if_neg Bool.false_ne_true, if_pos rfl, Option.bind_some, startline_Text_eq h hs, Option.bind_some]
    have hfc : ∀ f ∈ h.Fields, checkF f = 0 := by
      unfold checkH at hc0
      split at hc0
      · exact (checkL_zero hc0).2
      · rename_i hh; rw [hc0] at hh; exact absurd rfl hh
    obtain ⟨most, hmost⟩ : ∃ m, m = max lim 0 := ⟨_, rfl⟩
    have hm0 : 0 ≤ most := by omega
    have hm1 : most ≤ 9223372036854775807 := by omega
    rw [← hmost]
    -- the loop
    have fin : ∀ (t : Bool) (b : Str), (b.length : Int) ≤ most → b.length < 900000000 → head_Print_j2 t b most = some (if t then ([], 3) else if ((b.length + 2 : Nat) : Int) ≤ most then (b ++ [13, 10], 0) else ([], 3)) := by
      intro t b hb hbl
      unfold head_Print_j2
      rw [printer_line_eq b [] most t hb hm1 (by decide) (by omega), Option.bind_some]
      simp only [List.length_nil, Nat.add_zero, List.append_nil]
      split
      · cases t <;> rfl
      · cases t <;> rfl
    have key : ∀ (n i : Nat) (t : Bool) (b : Str), i ≤ h.Fields.length → h.Fields.length - i < n → (b.length : Int) ≤ most → b.length ≤ 200000000 + i * 8004 →
        head_Print_L1 h n t b most (i : Int) = some (if t then ([], 3) else if ((b.length + (restH (h.Fields.drop i)).length : Nat) : Int) ≤ most then (b ++ restH (h.Fields.drop i), 0) else ([], 3)) := by
      intro n
      induction n with
      | zero => intro i _ _ _ h; omega
      | succ n ih =>
        intro i t b hi hn hb hbl
        rw [head_Print_L1]
        by_cases hlt : i < h.Fields.length
        · have g : h.Fields[i]? = some h.Fields[i] := List.getElem?_eq_getElem hlt
          have hsm := hf h.Fields[i] (List.getElem_mem _)
          have htf := textF_len h.Fields[i]
          rw [decide_eq_true (show (i : Int) < (h.Fields.length : Int) by omega), if_pos rfl, lAt_nat, g, Option.bind_some, fieldline_Text_eq _ (by omega) (by omega) (hfc _ (List.getElem_mem _)), Option.bind_some, printer_line_eq b _ most t hb hm1 (by dsimp only; omega) (by omega), Option.bind_some, iAdd_one (by omega), Option.bind_some, List.drop_eq_getElem_cons hlt, restH]
          dsimp only
          generalize textF h.Fields[i] = x at htf
          by_cases hfit : ((b.length + x.length + 2 : Nat) : Int) ≤ most
          · rw [if_pos hfit]
            have := ih (i + 1) t (b ++ x ++ [13, 10]) (by omega) (by omega) (by simp only [List.length_append, List.length_cons, List.length_nil]; omega) (by simp only [List.length_append, List.length_cons, List.length_nil]; omega)
            refine this.trans ?_
            have e1 : (b ++ x ++ [13, 10]).length + (restH (h.Fields.drop (i + 1))).length = b.length + (x ++ 13 :: 10 :: restH (h.Fields.drop (i + 1))).length := by simp only [List.length_append, List.length_cons, List.length_nil]; omega
            have e2 : b ++ x ++ [13, 10] ++ restH (h.Fields.drop (i + 1)) = b ++ (x ++ 13 :: 10 :: restH (h.Fields.drop (i + 1))) := by simp
            rw [e1, e2]
          · rw [if_neg hfit]
            have := ih (i + 1) true b (by omega) (by omega) hb (Nat.le_trans hbl (Nat.add_le_add_left (Nat.mul_le_mul_right _ (Nat.le_succ i)) _))
            refine this.trans ?_
            rw [if_pos rfl]
            have hno : ¬ ((b.length + (x ++ 13 :: 10 :: restH (h.Fields.drop (i + 1))).length : Nat) : Int) ≤ most := by simp only [List.length_append, List.length_cons]; omega
            rw [if_neg hno]
            cases t <;> rfl
        · have : i = h.Fields.length := by omega
          subst this
          rw [decide_eq_false (by omega), if_neg Bool.false_ne_true, List.drop_length]
          exact fin t b hb (by omega)
    rw [printer_line_eq [] _ most false (by simpa using hm0) hm1 (by omega) (by decide), Option.bind_some]
    unfold printR rawHd
    generalize (textL h).1 = l at htl
    simp only [List.length_nil, Nat.zero_add, List.nil_append]
    have hpos : (((l ++ 13 :: 10 :: restH h.Fields).length : Int) ≤ lim) ↔ (((l ++ 13 :: 10 :: restH h.Fields).length : Int) ≤ most) := by
      simp only [List.length_append, List.length_cons]
      omega
    by_cases hfit : ((l.length + 2 : Nat) : Int) ≤ most
    · rw [if_pos hfit]
      have := key fuel 0 false (l ++ [13, 10]) (Nat.zero_le _) (by unfold fuel; omega) (by simp only [List.length_append, List.length_cons, List.length_nil]; omega) (by simp only [List.length_append, List.length_cons, List.length_nil]; omega)
      refine this.trans ?_
      rw [if_neg Bool.false_ne_true, List.drop_zero]
      have e1 : (l ++ [13, 10]).length + (restH h.Fields).length = (l ++ 13 :: 10 :: restH h.Fields).length := by simp only [List.length_append, List.length_cons, List.length_nil]; omega
      have e2 : l ++ [13, 10] ++ restH h.Fields = l ++ 13 :: 10 :: restH h.Fields := by simp
      rw [e1, e2]
      by_cases hq : ((l ++ 13 :: 10 :: restH h.Fields).length : Int) ≤ most
      · rw [if_pos hq, if_pos (hpos.2 hq)]
      · rw [if_neg hq, if_neg (fun h => hq (hpos.1 h))]
    · rw [if_neg hfit]
      have := key fuel 0 true [] (Nat.zero_le _) (by unfold fuel; omega) (by simpa using hm0) (by simp)
      refine this.trans ?_
      rw [if_pos rfl, if_neg]
      intro hh
      have := hpos.1 hh
      simp only [List.length_append, List.length_cons] at this
      omega
def glue : Str → List Str → Str
  | l, [] => l
  | l, m :: ms => l ++ 13 :: 10 :: glue m ms
theorem cutAt_skip {t : Str} {c : UInt8} (ht : t.head? = some c) : ∀ {l : Str} (r : Str), c ∉ l → cutAt t (l ++ r) = (cutAt t r).map fun p => (l ++ p.1, p.2)
  | [], r, _ => by
    cases h : cutAt t r with
    | none => rw [List.nil_append, h]; rfl
    | some p => rw [List.nil_append, h]; rfl
  | x :: l, r, h => by
    have hx : c ≠ x := fun e => h (by rw [e]; exact List.mem_cons_self ..)
    have hp : t.isPrefixOf (x :: (l ++ r)) = false := by
      cases t with
      | nil => cases ht
      | cons a t =>
        have : a = c := by simpa using ht
        subst this
        show ((a == x) && _) = false
        rw [beq_eq_false_iff_ne.2 hx, Bool.false_and]
    rw [List.cons_append, cutAt, hp, if_neg Bool.false_ne_true, cutAt_skip ht r (fun hm => h (List.mem_cons_of_mem _ hm)), Option.map_map]
    rfl
theorem lines_glue : ∀ (ms : List Str) (l : Str), (13 : UInt8) ∉ l → (∀ m ∈ ms, (13 : UInt8) ∉ m) → lines (glue l ms) = l :: ms
  | [], l, hl, _ => by
    have h := cutAt_skip (t := [13, 10]) (c := 13) rfl [] hl
    rw [List.append_nil] at h
    rw [glue, lines_eq, h]; rfl
  | m :: ms, l, hl, hm => by
    have h := cutAt_skip (t := [13, 10]) (c := 13) rfl (13 :: 10 :: glue m ms) hl
    have hp : cutAt [13, 10] (13 :: 10 :: glue m ms) = some ([], glue m ms) := by
      rw [cutAt, if_pos (by rw [pre_crlf]; rfl)]; rfl
    rw [hp] at h
    rw [glue, lines_eq, h]
    dsimp only [Option.map_some]
    rw [List.append_nil, lines_glue ms m (hm m (List.mem_cons_self ..)) (fun x hx => hm x (List.mem_cons_of_mem _ hx))]
theorem cut_glue : ∀ (ms : List Str) (l : Str), (13 : UInt8) ∉ l → (∀ m ∈ ms, (13 : UInt8) ∉ m ∧ m ≠ []) → cutAt [13, 10, 13, 10] (glue l ms ++ [13, 10, 13, 10]) = some (glue l ms, [])
  | [], l, hl, _ => by
    rw [glue, cutAt_skip (c := 13) rfl _ hl]
    have : cutAt [13, 10, 13, 10] [13, 10, 13, 10] = some ([], []) := by decide
    rw [this]
    dsimp only [Option.map_some]
    rw [List.append_nil]
  | m :: ms, l, hl, hm => by
    obtain ⟨h1, h2⟩ := hm m (List.mem_cons_self ..)
    have ih := cut_glue ms m h1 (fun x hx => hm x (List.mem_cons_of_mem _ hx))
    obtain ⟨y, m', rfl⟩ : ∃ y m', m = y :: m' := by
      cases m with
      | nil => exact absurd rfl h2
      | cons y m' => exact ⟨y, m', rfl⟩
    have hy : (13 == y) = false := beq_eq_false_iff_ne.2 (fun e => h1 (by rw [e]; exact List.mem_cons_self ..))
    obtain ⟨g, hg⟩ : ∃ g, glue (y :: m') ms ++ [13, 10, 13, 10] = y :: g := by
      cases ms with
      | nil => exact ⟨_, rfl⟩
      | cons z zs => exact ⟨_, rfl⟩
    rw [glue, List.append_assoc, cutAt_skip (c := 13) rfl _ hl, List.cons_append, List.cons_append, hg]
    have e1 : ([13, 10, 13, 10] : Str).isPrefixOf (13 :: 10 :: y :: g) = false := by
      show ((13 : UInt8) == 13 && ((10 : UInt8) == 10 && ((13 : UInt8) == y && _))) = false
      rw [hy]; rfl
    have e2 : ([13, 10, 13, 10] : Str).isPrefixOf (10 :: y :: g) = false := rfl
    rw [cutAt, e1, if_neg Bool.false_ne_true, cutAt, e2, if_neg Bool.false_ne_true, ← hg, ih]
    rfl
theorem rawHd_glue (l : Str) : ∀ fs : List api_Field, l ++ 13 :: 10 :: restH fs = glue l (fs.map textF) ++ [13, 10, 13, 10]
  | [] => by simp [restH, glue]
  | f :: fs => by
    have ih := rawHd_glue (textF f) fs
    rw [restH, List.map_cons, glue, ih]; simp
theorem val_no13 {v : Str} (h : v.all cVal = true) : (13 : UInt8) ∉ v ∧ (10 : UInt8) ∉ v := by
  constructor <;> intro hm <;> have := List.all_eq_true.1 h _ hm <;> cases this
theorem tok_val (c : UInt8) : (!cTok c || cVal c) = true := all_bytes (fun c => !cTok c || cVal c) (by decide +kernel) c
theorem all_imp {p q : UInt8 → Bool} (h : ∀ c, (!p c || q c) = true) {s : Str} (hs : s.all p = true) : s.all q = true := by
  refine List.all_eq_true.2 fun x hx => ?_
  have h1 := List.all_eq_true.1 hs x hx
  have h2 := h x
  rw [h1] at h2
  exact h2
theorem checkF_ok {f : api_Field} (h : checkF f = 0) : isTok f.Name = true ∧ f.Value.all cVal = true ∧ trim f.Value = f.Value := by
  unfold checkF at h
  split at h
  · rename_i h1
    split at h
    · rename_i h2
      rw [Bool.and_eq_true, beq_iff_eq] at h2
      exact ⟨h1, h2.1, h2.2⟩
    · exact absurd h (by decide)
  · exact absurd h (by decide)
theorem textF_val {f : api_Field} (h : checkF f = 0) : (textF f).all cVal = true ∧ textF f ≠ [] := by
  obtain ⟨h1, h2, _⟩ := checkF_ok h
  unfold isTok at h1
  rw [Bool.and_eq_true] at h1
  have hn := all_imp tok_val h1.1
  unfold textF
  split
  · exact ⟨by rw [List.all_append, hn]; decide, by simp⟩
  · exact ⟨by rw [List.all_append, List.all_append, hn, h2]; decide, by simp⟩
theorem any_crlf {s : Str} (h : s.all cVal = true) : s.any ([13, 10] : Str).contains = false := by
  refine List.any_eq_false.2 fun x hx => ?_
  have := List.all_eq_true.1 h x hx
  intro hc
  have hc' : x = 13 ∨ x = 10 := by simpa using hc
  rcases hc' with e | e <;> subst e <;> cases this
theorem fieldP_text {f : api_Field} (h : checkF f = 0) : fieldP (textF f) = (f, 0) := by
  obtain ⟨h1, h2, h3⟩ := checkF_ok h
  have hv := (textF_val h).1
  have ht := h1
  unfold isTok at h1
  rw [Bool.and_eq_true] at h1
  obtain ⟨n1, n2⟩ := tok_not58 h1.1
  obtain ⟨v, hu, hva, hvt⟩ : ∃ v, textF f = f.Name ++ 58 :: v ∧ v.all cVal = true ∧ trim v = f.Value := by
    unfold textF
    cases hx : f.Value == [] with
    | true =>
      have : f.Value = [] := by simpa using hx
      exact ⟨[], by rw [if_pos rfl], rfl, by rw [this]; rfl⟩
    | false =>
      refine ⟨32 :: f.Value, by rw [if_neg Bool.false_ne_true]; simp, by rw [List.all_cons, h2]; decide, ?_⟩
      rw [trim_bl (by decide), h3]
  obtain ⟨u1, u2⟩ := upto_at f.Name v n2
  have hne : f.Name ≠ [] := ((isTok_iff _).1 ht).1
  have hhb : headBl (textF f) = false := by
    rw [hu]
    cases hn : f.Name with
    | nil => exact absurd hn hne
    | cons c n => rw [hn] at n1; exact n1 c (List.mem_cons_self ..)
  unfold fieldP
  rw [any_crlf hv, if_neg Bool.false_ne_true, hhb, if_neg Bool.false_ne_true, hu, u1, u2, trim_nob n1, ht]
  show (if false = true then _ else if decide (f.Name.length < f.Name.length) = true then _ else if (!v.all cVal) = true then _ else _) = _
  rw [if_neg Bool.false_ne_true, decide_eq_false (Nat.lt_irrefl _), if_neg Bool.false_ne_true, hva, Bool.not_true, if_neg Bool.false_ne_true]
  show ((⟨f.Name, trim v⟩, 0) : api_Field × Int) = _
  rw [hvt]
theorem procF_texts : ∀ (fs : List api_Field) (h : api_Head), (∀ f ∈ fs, checkF f = 0) → procF h (fs.map textF) = procF ⟨h.Kind, h.Method, h.Target, h.Code, h.Reason, h.Minor, h.Fields ++ fs⟩ []
  | [], h, _ => by rw [List.map_nil, List.append_nil]
  | f :: fs, h, hc => by
    have e : procF h (textF f :: fs.map textF) = if (fieldP (textF f)).2 == 0 then procF (moreH h (fieldP (textF f)).1) (fs.map textF) else (zeroH, (fieldP (textF f)).2) := rfl
    rw [List.map_cons, e, fieldP_text (hc f (List.mem_cons_self ..)), beq_self_eq_true, if_pos rfl, procF_texts fs _ (fun g hg => hc g (List.mem_cons_of_mem _ hg))]
    unfold moreH
    simp only [List.append_assoc, List.singleton_append]
theorem checkH_parts {h : api_Head} (hc : checkH h = 0) : ((textL h).2 == 0) = true ∧ wholeE h = 0 ∧ ∀ f ∈ h.Fields, checkF f = 0 := by
  unfold checkH at hc
  split at hc
  · rename_i h1
    exact ⟨h1, checkL_zero hc⟩
  · rename_i h1; rw [hc] at h1; exact absurd rfl h1
theorem lineP_any {k : Int} {s : Str} {x : api_Head} (h : lineP k s = (x, 0)) : (13 : UInt8) ∉ s ∧ s ≠ [] := by
  constructor
  · intro hm
    have hany : s.any ([13, 10] : Str).contains = true := List.any_eq_true.2 ⟨13, hm, by decide⟩
    unfold lineP at h
    split at h
    · exact absurd (show (1 : Int) = 0 from congrArg Prod.snd h) (by decide)
    · exact absurd (show (24 : Int) = 0 from congrArg Prod.snd h) (by decide)
  · rintro rfl
    unfold lineP at h
    split at h
    · exact absurd (show (1 : Int) = 0 from congrArg Prod.snd h) (by decide)
    · rw [show ([] : Str).any ([13, 10] : Str).contains = false from rfl, if_neg Bool.false_ne_true] at h
      split at h
      · exact absurd (show (20 : Int) = 0 from congrArg Prod.snd h) (by decide)
      · exact absurd (show (20 : Int) = 0 from congrArg Prod.snd h) (by decide)
theorem head_back {h : api_Head} (hc : checkH h = 0) (lim : Int) (hl : ((rawHd h).length : Int) ≤ lim) : headP h.Kind (rawHd h) lim = (h, 0) := by
  obtain ⟨h1, h2, h3⟩ := checkH_parts hc
  have hg := textL_good h1
  obtain ⟨e, x, k0, k1, k2, k3, k4, k5, k6⟩ := textL_ok h1
  obtain ⟨l1, l2⟩ := lineP_any k0
  have hraw : rawHd h = glue (rawL h) (h.Fields.map textF) ++ [13, 10, 13, 10] := by
    unfold rawHd
    rw [e, rawHd_glue]
  have hms : ∀ m ∈ h.Fields.map textF, (13 : UInt8) ∉ m ∧ m ≠ [] := fun m hm => by
    obtain ⟨f, hf, rfl⟩ := List.mem_map.1 hm
    obtain ⟨a, b⟩ := textF_val (h3 f hf)
    exact ⟨(val_no13 a).1, b⟩
  have hk : (!(h.Kind == 1) && !(h.Kind == 2)) = false := by rcases hg.kind with hh | hh <;> rw [hh] <;> rfl
  have hfx := lineP_fields h.Kind (rawL h)
  rw [k0] at hfx
  unfold headP
  rw [hk, if_neg Bool.false_ne_true, decide_eq_false (by omega), if_neg Bool.false_ne_true, hraw, cut_glue _ _ l1 hms]
  dsimp only
  rw [show (([] : Str) == []) = true from rfl, if_pos rfl, lines_glue _ _ l1 (fun m hm => (hms m hm).1), procL, k0, beq_self_eq_true, if_pos rfl, procF_texts _ _ h3]
  dsimp only at hfx
  have hx : (⟨x.Kind, x.Method, x.Target, x.Code, x.Reason, x.Minor, x.Fields ++ h.Fields⟩ : api_Head) = h := by
    rw [k1, k2, k3, k4, k5, k6, hfx, List.nil_append]
  show procF (⟨x.Kind, x.Method, x.Target, x.Code, x.Reason, x.Minor, x.Fields ++ h.Fields⟩ : api_Head) [] = _
  rw [hx, procF, h2]
  rfl
theorem headP_err {k : Int} {s : Str} {lim : Int} (h : ((headP k s lim).2 == 0) = false) : (headP k s lim).1 = zeroH := by
  have pF : ∀ (ls : List Str) (h : api_Head), ((procF h ls).2 == 0) = false → (procF h ls).1 = zeroH := by
    intro ls
    induction ls with
    | nil =>
      intro h hh
      rw [procF] at hh ⊢
      split
      · rename_i h1; rw [if_pos h1] at hh; cases hh
      · rfl
    | cons l ls ih =>
      intro h hh
      rw [procF] at hh ⊢
      split
      · rename_i h1; rw [if_pos h1] at hh; exact ih _ hh
      · rfl
  unfold headP at h ⊢
  split
  · rfl
  · rename_i h1
    rw [if_neg h1] at h
    split
    · rfl
    · rename_i h2
      rw [if_neg h2] at h
      split
      · rfl
      · rename_i p hp
        rw [hp] at h
        dsimp only at h
        split
        · rename_i h3
          rw [if_pos h3] at h
          cases hl : lines p.1 with
          | nil => rfl
          | cons l ls =>
            rw [hl] at h
            rw [procL] at h ⊢
            split
            · rename_i h4; rw [if_pos h4] at h; exact pF _ _ h
            · rfl
        · rfl
theorem procF_ok : ∀ (ls : List Str) (x h : api_Head), procF x ls = (h, 0) → h = ⟨x.Kind, x.Method, x.Target, x.Code, x.Reason, x.Minor, x.Fields ++ ls.map fun l => (fieldP l).1⟩ ∧ wholeE h = 0 ∧ ∀ l ∈ ls, (fieldP l).2 = 0
  | [], x, h, e => by
    rw [procF] at e
    split at e
    · rename_i h1
      have := congrArg Prod.fst e
      dsimp only at this
      subst this
      exact ⟨by rw [List.map_nil, List.append_nil], by simpa using h1, fun l hl => by cases hl⟩
    · rename_i h1
      have := congrArg Prod.snd e
      dsimp only at this
      rw [this] at h1; exact absurd rfl h1
  | l :: ls, x, h, e => by
    rw [procF] at e
    split at e
    · rename_i h1
      obtain ⟨a, b, c⟩ := procF_ok ls _ h e
      refine ⟨?_, b, fun m hm => ?_⟩
      · rw [a]; unfold moreH; simp
      · rcases List.mem_cons.1 hm with q | q
        · rw [q]; simpa using h1
        · exact c m q
    · rename_i h1
      have := congrArg Prod.snd e
      dsimp only at this
      rw [this] at h1; exact absurd rfl h1
theorem fieldP_ok {l : Str} (h : (fieldP l).2 = 0) : checkF (fieldP l).1 = 0 ∧ ∃ u v, l = u ++ 58 :: v ∧ (fieldP l).1 = ⟨trim u, trim v⟩ := by
  unfold fieldP at h ⊢
  split
  · rename_i h1; rw [if_pos h1] at h; exact absurd h (by decide)
  · rename_i h1
    rw [if_neg h1] at h
    split
    · rename_i h2; rw [if_pos h2] at h; exact absurd h (by decide)
    · rename_i h2
      rw [if_neg h2] at h
      split
      · rename_i h3; rw [if_pos h3] at h; exact absurd h (by decide)
      · rename_i h3
        rw [if_neg h3] at h
        split
        · rename_i h4; rw [if_pos h4] at h; exact absurd h (by decide)
        · rename_i h4
          rw [if_neg h4] at h
          split
          · rename_i h5; rw [if_pos h5] at h; exact absurd h (by decide)
          · rename_i h5
            have h3' : from_ [58] l ≠ [] ∧ isTok (trim (upto [58] l)) = true := by simpa using h3
            have h5' : ((from_ [58] l).drop 1).all cVal = true := by
              cases hh : ((from_ [58] l).drop 1).all cVal with
              | true => rfl
              | false => rw [hh] at h5; exact absurd rfl h5
            refine ⟨?_, upto [58] l, (from_ [58] l).drop 1, ?_, rfl⟩
            · unfold checkF
              dsimp only
              have hva : (trim ((from_ [58] l).drop 1)).all cVal = true := List.all_eq_true.2 fun x hx => List.all_eq_true.1 h5' x (trim_mem hx)
              rw [h3'.2, if_pos rfl, hva, trim_idem, beq_self_eq_true]
              rfl
            · have hu := upto_from [58] l
              cases hf : from_ [58] l with
              | nil => exact absurd hf h3'.1
              | cons c v =>
                have hc : c = 58 := by simpa using from_head hf
                rw [hf, hc] at hu
                exact hu.symm
theorem glue_lines : ∀ (n : Nat) (T : Str), T.length < n → ∀ l ls, lines T = l :: ls → T = glue l ls
  | 0, _, h, _, _, _ => by omega
  | n + 1, T, h, l, ls, e => by
    rw [lines_eq] at e
    cases hc : cutAt [13, 10] T with
    | none =>
      rw [hc] at e
      cases e
      rfl
    | some p =>
      rw [hc] at e
      have e0 := cutAt_some (a := p.1) (b := p.2) hc
      have el := congrArg List.length e0
      simp only [List.length_append, List.length_cons, List.length_nil] at el
      dsimp only at e
      cases hl : lines p.2 with
      | nil => exact absurd hl (lines_nn _)
      | cons m ms =>
        rw [hl] at e
        cases e
        rw [glue, ← glue_lines n p.2 (by omega) m ms hl, e0]
        simp
def bare (s : Str) : Str := s.filter fun b => !isBl b
theorem bare_app (a b : Str) : bare (a ++ b) = bare a ++ bare b := List.filter_append ..
theorem bare_nil_of {b : Str} (h : b.all isBl = true) : bare b = [] := by
  refine List.filter_eq_nil_iff.2 fun x hx => ?_
  rw [List.all_eq_true.1 h x hx]; decide
theorem bare_trimr (s : Str) : bare (trimr s) = bare s := by
  rcases trimr_cases s with ⟨h1, h2⟩ | ⟨a, c, b, h1, h2, h3, h4⟩
  · rw [h2, bare_nil_of h1]; rfl
  · rw [h4, h1, bare_app, bare_app, show (c :: b) = [c] ++ b from rfl, bare_app [c] b, bare_nil_of h3, List.append_nil]
theorem bare_triml (s : Str) : bare (triml s) = bare s := by
  unfold triml
  induction s with
  | nil => rfl
  | cons c s ih =>
    rw [List.dropWhile_cons]
    cases hc : isBl c with
    | true =>
      rw [if_pos rfl, ih]
      unfold bare
      rw [List.filter_cons, hc]; rfl
    | false => rw [if_neg Bool.false_ne_true]
theorem bare_trim (s : Str) : bare (trim s) = bare s := by unfold trim; rw [bare_triml, bare_trimr]
theorem bare_textF {l : Str} (h : (fieldP l).2 = 0) : bare (textF (fieldP l).1) = bare l ∧ (textF (fieldP l).1).length ≤ l.length + 1 := by
  obtain ⟨_, u, v, e1, e2⟩ := fieldP_ok h
  rw [e2]
  have hu := trim_le u
  have hv := trim_le v
  have el := congrArg List.length e1
  simp only [List.length_append, List.length_cons] at el
  unfold textF
  dsimp only
  cases hx : trim v == [] with
  | true =>
    have h0 : trim v = [] := by simpa using hx
    have hb : bare v = [] := by rw [← bare_trim, h0]; rfl
    rw [if_pos rfl]
    refine ⟨?_, by simp only [List.length_append, List.length_cons, List.length_nil]; omega⟩
    rw [e1, bare_app, bare_app, bare_trim, show (58 :: v) = [58] ++ v from rfl, bare_app [58] v, hb, List.append_nil]
  | false =>
    rw [if_neg Bool.false_ne_true]
    refine ⟨?_, by simp only [List.length_append, List.length_cons, List.length_nil]; omega⟩
    rw [e1, bare_app, bare_app, bare_app, bare_trim, bare_trim, show (58 :: v) = [58] ++ v from rfl, bare_app [58] v, List.append_assoc]
    rfl
theorem bare_glue : ∀ (ls : List Str) (l : Str), (∀ m ∈ ls, (fieldP m).2 = 0) → bare (glue l ((ls.map fun l => (fieldP l).1).map textF)) = bare (glue l ls) ∧ (glue l ((ls.map fun l => (fieldP l).1).map textF)).length ≤ (glue l ls).length + ls.length
  | [], l, _ => ⟨rfl, by simp [glue]⟩
  | m :: ls, l, h => by
    obtain ⟨b1, b2⟩ := bare_textF (h m (List.mem_cons_self ..))
    -- the same, with another first line
    have sw : ∀ (x y : Str) (ms : List Str), bare x = bare y → x.length ≤ y.length + 1 → bare (glue x ms) = bare (glue y ms) ∧ (glue x ms).length ≤ (glue y ms).length + 1 := by
      intro x y ms hb hl
      cases ms with
      | nil => exact ⟨hb, hl⟩
      | cons z zs =>
        simp only [glue]
        exact ⟨by rw [bare_app, bare_app, hb], by simp only [List.length_append]; omega⟩
    obtain ⟨i1, i2⟩ := bare_glue ls m (fun x hx => h x (List.mem_cons_of_mem _ hx))
    obtain ⟨s1, s2⟩ := sw (textF (fieldP m).1) m ((ls.map fun l => (fieldP l).1).map textF) b1 b2
    simp only [List.map_cons, glue]
    refine ⟨?_, by simp only [List.length_append, List.length_cons]; omega⟩
    have c1 : ∀ r : Str, bare (l ++ 13 :: 10 :: r) = bare (l ++ [13, 10]) ++ bare r := fun r => by rw [← bare_app]; simp
    exact (c1 _).trans ((congrArg (bare (l ++ [13, 10]) ++ ·) (s1.trans i1)).trans (c1 _).symm)
theorem law15_bare_eq (s : Str) (hs : s.length < 1000000000) : law15_bare s = some (bare s) := by
  unfold law15_bare
  have key : ∀ (n i : Nat) (out : Str), i ≤ s.length → s.length - i < n → out.length ≤ i → law15_bare_L1 s n out (i : Int) = some (out ++ bare (s.drop i)) := by
    intro n
    induction n with
    | zero => intro i _ _ h; omega
    | succ n ih =>
      intro i out hi hn ho
      rw [law15_bare_L1]
      by_cases hlt : i < s.length
      · have g : s[i]? = some s[i] := List.getElem?_eq_getElem hlt
        have i1 := ih (i + 1) (out ++ [s[i]]) (by omega) (by omega) (by simp; omega)
        have i2 := ih (i + 1) out (by omega) (by omega) (by omega)
        unfold law15_bare_j2 law15_bare_j3
        rw [decide_eq_true (show (i : Int) < (s.length : Int) by omega), if_pos rfl, sAt_nat, g, Option.bind_some, Option.bind_some, Option.bind_some, if_pos (fits_ok (by omega) (by omega)), iAdd_one (by omega), Option.bind_some, Option.bind_some, i1, i2, List.drop_eq_getElem_cons hlt]
        unfold bare
        rw [List.filter_cons]
        show _ = some (out ++ if (!(s[i] == 32 || s[i] == 9)) = true then _ else _)
        cases s[i] == 32 with
        | true => rfl
        | false =>
          cases s[i] == 9 with
          | true => rfl
          | false =>
            show some (out ++ [s[i]] ++ _) = some (out ++ (s[i] :: _))
            simp
      · have : i = s.length := by omega
        subst this
        rw [decide_eq_false (by omega), if_neg Bool.false_ne_true, List.drop_length]
        unfold bare
        simp
  have := key fuel 0 [] (Nat.zero_le _) (by unfold fuel; omega) (by simp)
  rw [List.drop_zero, List.nil_append] at this
  exact this
theorem headP_ok {k : Int} {s : Str} {lim : Int} {h : api_Head} (e : headP k s lim = (h, 0)) (hs : s.length ≤ 3000) :
    h.Kind = k ∧ smallH h ∧ h.Fields.length ≤ 100 ∧ smallF 4000 h.Fields ∧ checkH h = 0 ∧ (rawHd h).length ≤ 3100 ∧ bare (rawHd h) = bare s := by
  unfold headP at e
  split at e
  · exact absurd (show (1 : Int) = 0 from congrArg Prod.snd e) (by decide)
  · split at e
    · exact absurd (show (3 : Int) = 0 from congrArg Prod.snd e) (by decide)
    · split at e
      · exact absurd (show (6 : Int) = 0 from congrArg Prod.snd e) (by decide)
      · rename_i p hp
        split at e
        · rename_i h3
          have hp2 : p.2 = [] := by simpa using h3
          have es := cutAt_some (a := p.1) (b := p.2) hp
          rw [hp2, List.append_nil] at es
          have esl := congrArg List.length es
          simp only [List.length_append, List.length_cons, List.length_nil] at esl
          cases hl : lines p.1 with
          | nil => exact absurd hl (lines_nn _)
          | cons l ls =>
            have hT := glue_lines _ p.1 (Nat.lt_succ_self _) l ls hl
            have hml := (lines_mem _ p.1 (Nat.lt_succ_self _)).2
            rw [hl] at hml
            have hll := hml l (List.mem_cons_self ..)
            rw [hl, procL] at e
            split at e
            · rename_i h4
              have h40 : (lineP k l).2 = 0 := by simpa using h4
              obtain ⟨x, hx⟩ : ∃ x, lineP k l = (x, 0) := ⟨(lineP k l).1, by rw [← h40]⟩
              have hfx := lineP_fields k l
              rw [hx] at e hfx
              dsimp only at e hfx
              obtain ⟨a, b, c⟩ := procF_ok ls x h e
              have hb := line_back hx
              have hg := line_minor hx
              rw [hfx, List.nil_append] at a
              have hfl : h.Fields = ls.map fun l => (fieldP l).1 := by rw [a]
              have hkk : h.Kind = k := by rw [a]; exact hb.kind
              have hrl : rawL h = l := by rw [a]; exact hb.raw
              have hline : lineP h.Kind (rawL h) = (x, 0) := by rw [hkk, hrl]; exact hx
              have hsame : sameL x h = true := by
                unfold sameL
                rw [a]
                simp
              have htx : textL h = (l, 0) := by
                unfold textL
                rw [hline, hsame, hrl]
                rfl
              have hn100 : h.Fields.length ≤ 100 := by
                by_cases hh : 100 < h.Fields.length
                · unfold wholeE at b
                  rw [decide_eq_true hh, if_pos rfl] at b
                  exact absurd b (by decide)
                · omega
              have hsmF : smallF 4000 h.Fields := by
                rw [hfl]
                intro f hf
                obtain ⟨m, hm, rfl⟩ := List.mem_map.1 hf
                have := fieldP_len m
                have := hml m (List.mem_cons_of_mem _ hm)
                omega
              have hck : checkH h = 0 := by
                unfold checkH
                rw [htx]
                show checkL (wholeE h) h.Fields = 0
                rw [checkL_of (fun f hf => ?_), b]
                rw [hfl] at hf
                obtain ⟨m, hm, rfl⟩ := List.mem_map.1 hf
                exact (fieldP_ok (c m hm)).1
              have hraw : rawHd h = glue l ((ls.map fun l => (fieldP l).1).map textF) ++ [13, 10, 13, 10] := by
                unfold rawHd
                rw [htx, rawHd_glue, hfl]
              obtain ⟨g1, g2⟩ := bare_glue ls l c
              rw [← hT] at g1 g2
              have hlsl : ls.length = h.Fields.length := by rw [hfl, List.length_map]
              refine ⟨hkk, ⟨?_, ?_, ?_, ?_, ?_⟩, hn100, hsmF, hck, ?_, ?_⟩
              · rw [a]; exact hb.code
              · rw [a]; exact hb.minor
              · rw [a]; have := hb.method; dsimp only; omega
              · rw [a]; have := hb.target; dsimp only; omega
              · rw [a]; have := hb.reason; dsimp only; omega
              · rw [hraw]; simp only [List.length_append, List.length_cons, List.length_nil]; omega
              · rw [hraw, bare_app, g1, ← bare_app, ← es]
            · rename_i h4
              have := congrArg Prod.snd e
              dsimp only at this
              rw [this] at h4; exact absurd rfl h4
        · exact absurd (show (6 : Int) = 0 from congrArg Prod.snd e) (by decide)
theorem HeadPrints_true (kind : Int) (s : Str) (_ : inI kind = true) : law15_HeadPrints kind s = some true := by
  unfold law15_HeadPrints
  have c1 := sTo_min s 3000
  rw [show ((3000 : Nat) : Int) = 3000 from rfl] at c1
  rw [law15_awake_eq, Option.bind_some, Bool.not_true, if_neg Bool.false_ne_true, c1, Option.bind_some]
  have h1 : (s.take 3000).length ≤ 3000 := by simp; omega
  generalize s.take 3000 = s at h1
  have hl := headP_len kind s 5000
  rw [head_Parse_eq kind s 5000 (by omega), Option.bind_some]
  cases he : (headP kind s 5000).2 == 0 with
  | false =>
    rw [headP_err he, Bool.not_false, if_pos rfl]
    show (ref15_Same zeroH zeroH).bind _ = _
    rw [ref15_Same_eq _ _ (by decide), Option.bind_some, sameH_self]
  | true =>
    have h0 : (headP kind s 5000).2 = 0 := by simpa using he
    obtain ⟨h, hh⟩ : ∃ h, headP kind s 5000 = (h, 0) := ⟨(headP kind s 5000).1, by rw [← h0]⟩
    obtain ⟨k1, k2, k3, k4, k5, k6, k7⟩ := headP_ok hh h1
    have hpr := head_Print_eq h 5000 (by decide) k2 (by omega) k4
    have hpR : printR h 5000 = (rawHd h, 0) := by unfold printR; rw [if_pos (by omega)]
    rw [k5, beq_self_eq_true, if_pos rfl, hpR] at hpr
    have hbk := head_back k5 5000 (by omega)
    rw [k1] at hbk
    rw [hh, Bool.not_true, if_neg Bool.false_ne_true]
    dsimp only
    rw [hpr, Option.bind_some]
    dsimp only
    rw [head_Parse_eq kind _ 5000 (by omega), Option.bind_some, hbk]
    dsimp only
    rw [hpr, Option.bind_some, beq_self_eq_true, if_pos rfl, if_pos rfl, if_pos rfl, ref15_Same_eq _ _ (by omega), Option.bind_some, sameH_self, if_pos rfl, beq_self_eq_true, if_pos rfl, law15_bare_eq _ (by omega), Option.bind_some, law15_bare_eq _ (by omega), Option.bind_some, k7, beq_self_eq_true]
    rfl
end Go.Dm
