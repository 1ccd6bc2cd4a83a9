/-
  A head's field read: the document's, as the program's.
-/
import Derived.Test.YtnfkbhocbdheaacGreatDoorT15E
import Derived.Test.YtnfkbhocbdheaacGreatDoorT14S
namespace Go.Dm
theorem octet_IsBlank_eq (b : UInt8) : octet_IsBlank b = some (isBl b) :=
  of_decide_eq_true (all_bytes (fun b => decide (octet_IsBlank b = some (isBl b))) (by decide +kernel) b)
def zeroF : api_Field := ⟨[], []⟩
def fieldQ (s : Str) : api_Field × Int :=
  if s.any ([13, 10] : Str).contains then (zeroF, 24) else if !(s.takeWhile isBl == []) then (zeroF, 23)
  else if s.takeWhile cTok == [] || !byteB 58 ((s.dropWhile cTok).dropWhile isBl) then (zeroF, 21)
  else if !((s.dropWhile cTok).takeWhile isBl == []) then (zeroF, 22)
  else if !((byteR 58 ((s.dropWhile cTok).dropWhile isBl)).all cVal) then (zeroF, 25)
  else (⟨s.takeWhile cTok, trim (byteR 58 ((s.dropWhile cTok).dropWhile isBl))⟩, 0)
theorem fieldline_Parse_eqQ (s : Str) (hs : s.length < 1000000000) : fieldline_Parse s = some (fieldQ s) := by
  unfold fieldline_Parse fieldQ
  rw [strings_ContainsAny_eq s _ hs (by decide) (by decide), Option.bind_some]
  cases s.any ([13, 10] : Str).contains with
  | true => rfl
  | false =>
    obtain ⟨k1, a1, e1⟩ := at_while octet_IsBlank_eq hs (At.zero s)
    have b1 : scan_Scanner_Blanks (scn s 0) = some (s.takeWhile isBl, scn s k1) := by unfold scan_Scanner_Blanks; rw [e1]; rfl
    rw [if_neg Bool.false_ne_true, if_neg Bool.false_ne_true, scan_New_eq, Option.bind_some, b1, Option.bind_some]
    dsimp only
    cases hb : s.takeWhile isBl == [] with
    | false => rfl
    | true =>
      have hd : s.dropWhile isBl = s := by
        have := List.takeWhile_append_dropWhile (p := isBl) (l := s)
        have h0 : s.takeWhile isBl = [] := by simpa using hb
        rwa [h0, List.nil_append] at this
      rw [hd] at a1
      obtain ⟨k2, a2, e2⟩ := at_token hs a1
      obtain ⟨k3, a3, e3⟩ := at_while octet_IsBlank_eq hs a2
      have b3 : scan_Scanner_Blanks (scn s k2) = some ((s.dropWhile cTok).takeWhile isBl, scn s k3) := by unfold scan_Scanner_Blanks; rw [e3]; rfl
      rw [Bool.not_true, if_neg Bool.false_ne_true, if_neg Bool.false_ne_true, e2, Option.bind_some, b3, Option.bind_some]
      dsimp only
      cases hn : s.takeWhile cTok == [] with
      | true => rfl
      | false =>
        obtain ⟨k4, a4, e4⟩ := at_byte hs 58 a3
        rw [Bool.not_false, Bool.not_true, if_neg Bool.false_ne_true, e4, Option.bind_some, Bool.false_or]
        have hl := a4.le_len
        generalize byteR 58 ((s.dropWhile cTok).dropWhile isBl) = v at a4 hl
        unfold fieldline_Parse_j1
        show (if (!byteB 58 ((s.dropWhile cTok).dropWhile isBl)) = true then _ else if (!((s.dropWhile cTok).takeWhile isBl == [])) = true then _ else (scan_Scanner_Rest (scn s k4)).bind _) = _
        rw [at_rest a4, Option.bind_some, octet_All_one octet_IsValue_eq v (by omega), Option.bind_some]
        cases byteB 58 ((s.dropWhile cTok).dropWhile isBl) with
        | false => rfl
        | true =>
          rw [Bool.not_true, if_neg Bool.false_ne_true, if_neg Bool.false_ne_true]
          cases (s.dropWhile cTok).takeWhile isBl == [] with
          | false => rfl
          | true =>
            rw [Bool.not_true, if_neg Bool.false_ne_true, if_neg Bool.false_ne_true]
            cases v.all cVal with
            | false => rfl
            | true =>
              rw [Bool.not_true, if_neg Bool.false_ne_true, if_neg Bool.false_ne_true]
              rw [Option.bind_some, strings_Trim_eq v (by omega), Option.bind_some]
def headBl : Str → Bool
  | [] => false
  | c :: _ => isBl c
def fieldP (s : Str) : api_Field × Int :=
  if s.any ([13, 10] : Str).contains then (zeroF, 24) else if headBl s then (zeroF, 23)
  else if from_ [58] s == [] || !isTok (trim (upto [58] s)) then (zeroF, 21)
  else if decide ((trim (upto [58] s)).length < (upto [58] s).length) then (zeroF, 22)
  else if !(((from_ [58] s).drop 1).all cVal) then (zeroF, 25)
  else (⟨trim (upto [58] s), trim ((from_ [58] s).drop 1)⟩, 0)
theorem headBl_iff (s : Str) : (!(s.takeWhile isBl == [])) = headBl s := by
  cases s with
  | nil => rfl
  | cons c s =>
    rw [List.takeWhile_cons]
    show _ = isBl c
    cases isBl c <;> rfl
theorem tok_not (c : UInt8) : (!cTok c || (!isBl c && !(c == 58))) = true := all_bytes (fun c => !cTok c || (!isBl c && !(c == 58))) (by decide +kernel) c
theorem bl_tok (c : UInt8) : (!isBl c || (!cTok c && !(c == 58))) = true := all_bytes (fun c => !isBl c || (!cTok c && !(c == 58))) (by decide +kernel) c
theorem tok_not58 {n : Str} (h : n.all cTok = true) : (∀ x ∈ n, isBl x = false) ∧ (58 : UInt8) ∉ n := by
  have key : ∀ x ∈ n, isBl x = false ∧ (x == 58) = false := fun x hx => by
    have h1 := List.all_eq_true.1 h x hx
    have h2 := tok_not x
    rw [h1] at h2
    simpa using h2
  exact ⟨fun x hx => (key x hx).1, fun hx => by have := (key _ hx).2; cases this⟩
theorem bl_not58 {b : Str} (h : b.all isBl = true) : (58 : UInt8) ∉ b := fun hx => by
  have := List.all_eq_true.1 h _ hx
  cases this
theorem upto_at (u v : Str) (h : (58 : UInt8) ∉ u) : upto [58] (u ++ 58 :: v) = u ∧ from_ [58] (u ++ 58 :: v) = 58 :: v := by
  induction u with
  | nil => exact ⟨upto_cons_t (by decide), from_cons_t (by decide)⟩
  | cons c u ih =>
    have hc : ([58] : Str).contains c = false := by
      have : c ≠ 58 := fun e => h (by rw [e]; exact List.mem_cons_self ..)
      simpa using this
    have ih := ih (fun hx => h (List.mem_cons_of_mem _ hx))
    rw [List.cons_append, upto_cons_f hc, from_cons_f hc, ih.1, ih.2]
    exact ⟨rfl, rfl⟩
theorem all_takeWhile (p : UInt8 → Bool) (s : Str) : (s.takeWhile p).all p = true := List.all_eq_true.2 fun _ hx => takeWhile_all hx
/-- A name, blanks and a colon, as they are scanned. -/
theorem scan_name {n b v : Str} (hn : n.all cTok = true) (hb : b.all isBl = true) :
    (n ++ (b ++ 58 :: v)).takeWhile cTok = n ∧ (n ++ (b ++ 58 :: v)).dropWhile cTok = b ++ 58 :: v ∧ (b ++ 58 :: v).takeWhile isBl = b ∧ (b ++ 58 :: v).dropWhile isBl = 58 :: v := by
  have h1 := tw_app (p := isBl) (c := 58) (by decide) v hb
  refine ⟨?_, ?_, h1.1, h1.2⟩
  · cases b with
    | nil => exact (tw_app (p := cTok) (c := 58) (by decide) v hn).1
    | cons c b =>
      have hc : cTok c = false := by
        rw [List.all_cons, Bool.and_eq_true] at hb
        have := bl_tok c
        rw [hb.1] at this
        simp only [Bool.not_true, Bool.false_or, Bool.and_eq_true, Bool.not_eq_true'] at this
        exact this.1
      exact (tw_app hc _ hn).1
  · cases b with
    | nil => exact (tw_app (p := cTok) (c := 58) (by decide) v hn).2
    | cons c b =>
      have hc : cTok c = false := by
        rw [List.all_cons, Bool.and_eq_true] at hb
        have := bl_tok c
        rw [hb.1] at this
        simp only [Bool.not_true, Bool.false_or, Bool.and_eq_true, Bool.not_eq_true'] at this
        exact this.1
      exact (tw_app hc _ hn).2
theorem trim_nob {s : Str} (h : ∀ x ∈ s, isBl x = false) : trim s = s := by
  have hl : ∀ t : Str, (∀ x ∈ t, isBl x = false) → t.dropWhile isBl = t := by
    intro t ht
    cases t with
    | nil => rfl
    | cons y t => rw [List.dropWhile_cons, ht y (List.mem_cons_self ..)]; rfl
  have hr : trimr s = s := by unfold trimr; rw [hl _ (fun x hx => h x (List.mem_reverse.1 hx)), List.reverse_reverse]
  unfold trim triml
  rw [hr, hl s h]
theorem trim_name {n b : Str} (hn : n.all cTok = true) (hb : b.all isBl = true) : trim (n ++ b) = n := by
  rw [trim_snoc_bl hb]
  exact trim_nob (tok_not58 hn).1
/-- What does not begin with a blank: its blanks stand at its end. -/
theorem trim_head {u : Str} (h : headBl u = false) (ht : isTok (trim u) = true) : ∃ b, u = trim u ++ b ∧ b.all isBl = true := by
  rcases trimr_cases u with ⟨h1, h2⟩ | ⟨a, c, b, h1, h2, h3, h4⟩
  · have : trim u = [] := by unfold trim; rw [h2]; rfl
    rw [this] at ht; cases ht
  · refine ⟨b, ?_, h3⟩
    have e : trim u = a ++ [c] := by
      unfold trim
      rw [h4]
      unfold triml
      cases a with
      | nil => show [c].dropWhile isBl = _; rw [List.dropWhile_cons, h2, if_neg Bool.false_ne_true]; rfl
      | cons x a =>
        rw [h1] at h
        have hx : isBl x = false := h
        rw [List.cons_append, List.dropWhile_cons, hx, if_neg Bool.false_ne_true]
    rw [e, h1]; simp
theorem fieldQ_P (s : Str) : fieldQ s = fieldP s := by
  unfold fieldQ fieldP
  rw [headBl_iff]
  cases s.any ([13, 10] : Str).contains with
  | true => rfl
  | false =>
    cases hb : headBl s with
    | true => rfl
    | false =>
      rw [if_neg Bool.false_ne_true, if_neg Bool.false_ne_true, if_neg Bool.false_ne_true, if_neg Bool.false_ne_true]
      have e1 := List.takeWhile_append_dropWhile (p := cTok) (l := s)
      have e2 := List.takeWhile_append_dropWhile (p := isBl) (l := s.dropWhile cTok)
      have hn := all_takeWhile cTok s
      have hbb := all_takeWhile isBl (s.dropWhile cTok)
      cases hc : byteB 58 ((s.dropWhile cTok).dropWhile isBl) with
      | true =>
        have e3 := byteB_true hc
        generalize byteR 58 ((s.dropWhile cTok).dropWhile isBl) = v at e3
        generalize s.takeWhile cTok = n at e1 hn
        generalize (s.dropWhile cTok).takeWhile isBl = b at e2 hbb
        have es : s = (n ++ b) ++ 58 :: v := by rw [← e1, ← e2, e3, List.append_assoc]
        have hno : (58 : UInt8) ∉ n ++ b := fun hx => by
          rcases List.mem_append.1 hx with h | h
          · exact (tok_not58 hn).2 h
          · exact bl_not58 hbb h
        obtain ⟨u1, u2⟩ := upto_at (n ++ b) v hno
        rw [es, u1, u2, trim_name hn hbb]
        have ht : isTok n = !(n == []) := by unfold isTok; rw [hn, Bool.true_and]
        rw [ht]
        have hlt : decide (n.length < (n ++ b).length) = !(b == []) := by
          cases b with
          | nil => simp
          | cons x b => simp
        rw [hlt]
        show (if (n == [] || false) = true then _ else _) = if (false || !(!(n == []))) = true then _ else _
        rw [Bool.or_false, Bool.false_or, Bool.not_not]
        rfl
      | false =>
        rw [Bool.not_false, Bool.or_true, if_pos rfl]
        cases hf : from_ [58] s with
        | nil => rfl
        | cons c v =>
          have hc58 : c = 58 := by simpa using from_head hf
          subst hc58
          cases ht : isTok (trim (upto [58] s)) with
          | false => rfl
          | true =>
            exfalso
            have es := upto_from [58] s
            rw [hf] at es
            have hub : headBl (upto [58] s) = false := by
              cases hu : upto [58] s with
              | nil => rfl
              | cons x u => rw [hu] at es; rw [← es] at hb; exact hb
            obtain ⟨b, eb, hbl⟩ := trim_head hub ht
            unfold isTok at ht
            rw [Bool.and_eq_true] at ht
            have es2 : s = trim (upto [58] s) ++ (b ++ 58 :: v) := by
              rw [← List.append_assoc, ← eb]; exact es.symm
            obtain ⟨_, q2, _, q4⟩ := scan_name (v := v) ht.1 hbl
            rw [es2, q2, q4] at hc
            cases hc
theorem fieldline_Parse_eq (s : Str) (hs : s.length < 1000000000) : fieldline_Parse s = some (fieldP s) := by rw [fieldline_Parse_eqQ s hs, fieldQ_P]
end Go.Dm
