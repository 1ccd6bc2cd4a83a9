/-
  Layer 28 (cookies): reading and writing: the program's and the document's come to the same, and what is written of what was read is read as it. No program in sight.
-/
import Derived.Test.YtgdhdeemlhllpabGreatDoorT28S
import Derived.Test.YtgdhdeemlhllpabGreatDoorTTrim
import Derived.Test.YtgdhdeemlhllpabGreatDoorTScan
import Derived.Test.YtgdhdeemlhllpabGreatDoorTSplit
namespace Go.Dm
/-- A part that is trimmed: its name, and perhaps its value. -/
def partT (t : Str) : Option api_Attr :=
  if isTok (t.takeWhile (fun c => !(c == 61))) = true then
    match t.dropWhile (fun c => !(c == 61)) with
    | [] => some ⟨t, [], false⟩
    | _ :: v => if v.all cVal = true ∧ trim v = v then some ⟨t.takeWhile (fun c => !(c == 61)), v, true⟩ else none
  else none
/-- What a model of a part says: an attribute, and whether it is one. -/
def saysPart (r : Option (api_Attr × Bool)) (w : Option api_Attr) : Prop :=
  match w with
  | some a => r = some (a, true)
  | none => ∃ x, r = some (x, false)
theorem cTok_eq : cTok 61 = false := by decide
theorem tok_split (t : Str) : (isTok (t.takeWhile (fun c => !(c == 61))) = true ∧ t.takeWhile cTok = t.takeWhile (fun c => !(c == 61)) ∧ t.dropWhile cTok = t.dropWhile (fun c => !(c == 61)) ∧ t.takeWhile cTok ≠ []) ∨
    (isTok (t.takeWhile (fun c => !(c == 61))) = false ∧ (t.takeWhile cTok = [] ∨ ∃ x r, t.dropWhile cTok = x :: r ∧ (x == 61) = false)) := by
  have key : ∀ t : Str, ((t.takeWhile (fun c => !(c == 61))).all cTok = true ∧ t.takeWhile cTok = t.takeWhile (fun c => !(c == 61)) ∧ t.dropWhile cTok = t.dropWhile (fun c => !(c == 61))) ∨
      ((t.takeWhile (fun c => !(c == 61))).all cTok = false ∧ ∃ x r, t.dropWhile cTok = x :: r ∧ (x == 61) = false) := by
    intro t
    induction t with
    | nil => left; exact ⟨rfl, rfl, rfl⟩
    | cons c t ih =>
      rcases bcase (c == 61) with h | h
      · have hc : c = 61 := by simpa using h
        subst hc
        left; simp [List.takeWhile_cons, List.dropWhile_cons, cTok_eq]
      · rcases bcase (cTok c) with hc | hc
        · simp only [List.takeWhile_cons, List.dropWhile_cons, h, hc, Bool.not_false, if_true, List.all_cons, Bool.true_and, List.cons.injEq, true_and]
          exact ih
        · right
          simp only [List.takeWhile_cons, List.dropWhile_cons, h, hc, Bool.not_false, if_true, List.all_cons, Bool.false_and, true_and, Bool.false_eq_true, if_false]
          exact ⟨c, t, rfl, h⟩
  unfold isTok
  rcases key t with ⟨h1, h2, h3⟩ | ⟨h1, h2⟩
  · rcases bcase (t.takeWhile (fun c => !(c == 61)) == []) with hn | hn
    · right
      rw [h1, hn]
      exact ⟨rfl, .inl (by rw [h2]; simpa using hn)⟩
    · left
      rw [h1, hn]
      exact ⟨rfl, h2, h3, by rw [h2]; simpa using hn⟩
  · right
    rw [h1]
    exact ⟨rfl, .inr h2⟩
theorem all_take {p : UInt8 → Bool} {l : Str} (h : ∀ x ∈ l, p x = true) : l.takeWhile p = l ∧ l.dropWhile p = [] := by
  induction l with
  | nil => exact ⟨rfl, rfl⟩
  | cons x l ih =>
    have hx := h x (List.mem_cons_self ..)
    obtain ⟨h1, h2⟩ := ih fun y hy => h y (List.mem_cons_of_mem _ hy)
    simp [List.takeWhile_cons, List.dropWhile_cons, hx, h1, h2]
theorem cookie_part_eq (s : Str) (hs : s.length < 1000000000) : saysPart (cookie_part s) (partT (trim s)) := by
  have ht := trim_le s
  unfold cookie_part
  rw [strings_Trim_eq s hs, Option.bind_some, scan_New_eq, Option.bind_some]
  generalize trim s = t at ht
  have hl : t.length < 1000000000 := by omega
  rw [scan_Token_eq hl (Nat.zero_le _), Option.bind_some]
  simp only [List.drop_zero, Nat.zero_add]
  obtain ⟨hd0, hk⟩ := scan_drop cTok t 0 (Nat.zero_le _)
  simp only [List.drop_zero, Nat.zero_add] at hd0 hk
  generalize hkk : (t.takeWhile cTok).length = k at *
  unfold partT
  rcases tok_split t with ⟨h1, h2, h3, h4⟩ | ⟨h1, h2⟩
  · rw [if_pos h1, ← h3, ← h2]
    have hne : (t.takeWhile cTok == []) = false := beq_eq_false_iff_ne.2 h4
    cases hd : t.dropWhile cTok with
    | nil =>
      rw [hd] at hd0
      have e : t = t.takeWhile cTok := by
        have := List.takeWhile_append_dropWhile (p := cTok) (l := t)
        rw [hd, List.append_nil] at this; exact this.symm
      rw [scan_Byte_nil 61 hk hd0, Option.bind_some]
      simp only [Bool.false_eq_true, if_false, cookie_part_j1, hne, Bool.not_false, if_true]
      have he : scan_Scanner_End ⟨(scn t k).f_s, (scn t k).f_at⟩ = some true := by
        show scan_Scanner_End (scn t k) = _
        rw [scan_End_eq hk, hd0]; rfl
      have ha : octet_All octet_IsValue [[]] = some true := octet_All_one octet_IsValue_eq [] (by simp)
      have htr : strings_Trim [] [32, 9] = some [] := strings_Trim_eq [] (by simp)
      rw [he, ha, htr]
      simp only [Option.bind_some, if_true, cookie_part_j2, saysPart]
      rw [← e]; rfl
    | cons c v =>
      rw [hd] at hd0
      have hc : c = 61 := by
        have := List.head?_dropWhile_not (fun c : UInt8 => !(c == 61)) t
        rw [← h3, hd] at this
        simpa using this
      subst hc
      obtain ⟨hlt, hv⟩ := drop_cons_lt hd0
      have hvl : v.length < 1000000000 := by rw [← hv, List.length_drop]; omega
      rw [scan_Byte_cons 61 hk hl hd0, Option.bind_some]
      simp only [beq_self_eq_true, if_true]
      rw [scan_While_eq (f := cookie_part_1) (p := fun _ => true) (fun b => rfl) hl (show k + 1 ≤ t.length by omega), Option.bind_some, hv]
      obtain ⟨a1, a2⟩ := all_take (p := fun _ => true) (l := v) (fun _ _ => rfl)
      rw [a1]
      have hkv : k + 1 + v.length ≤ t.length ∧ t.drop (k + 1 + v.length) = [] := by
        have := scan_drop (fun _ => true) t (k + 1) (by omega)
        rw [hv, a1, a2] at this
        exact ⟨this.2, this.1⟩
      have he : scan_Scanner_End ⟨(scn t (k + 1 + v.length)).f_s, (scn t (k + 1 + v.length)).f_at⟩ = some true := by
        show scan_Scanner_End (scn t (k + 1 + v.length)) = _
        rw [scan_End_eq hkv.1, hkv.2]; rfl
      simp only [cookie_part_j1, hne, Bool.not_false, if_true, he, Option.bind_some, octet_All_one octet_IsValue_eq v hvl, strings_Trim_eq v hvl]
      rcases bcase (v.all cVal) with hva | hva
      · rw [hva]
        by_cases htv : trim v = v
        · simp [saysPart, cookie_part_j2, htv]
        · simp [saysPart, cookie_part_j2, htv]
      · rw [hva]
        simp [saysPart, cookie_part_j2]
  · rw [h1]
    simp only [Bool.false_eq_true, if_false, saysPart]
    rcases h2 with h2 | ⟨x, r, hd, hx⟩
    · rw [h2] at hkk
      have hk0 : k = 0 := by simpa using hkk.symm
      subst hk0
      rw [h2]
      cases ht0 : t with
      | nil => rw [scan_Byte_nil 61 (by simp) (by simp)]; exact ⟨_, rfl⟩
      | cons y u =>
        subst ht0
        rw [scan_Byte_cons 61 (by simp) hl (r := u) (x := y) rfl]
        simp only [Option.bind_some, cookie_part_j1]
        rcases bcase (y == 61) with hy | hy
        · rw [hy]
          simp only [if_true]
          rw [scan_While_eq (f := cookie_part_1) (p := fun _ => true) (fun b => rfl) hl (by simp)]
          simp [cookie_part_j2]
        · rw [hy]; simp [cookie_part_j2]
    · rw [hd] at hd0
      rw [scan_Byte_cons 61 hk hl hd0]
      simp only [hx, Bool.false_eq_true, if_false, Option.bind_some, cookie_part_j1]
      have he : scan_Scanner_End ⟨(scn t k).f_s, (scn t k).f_at⟩ = some false := by
        show scan_Scanner_End (scn t k) = _
        rw [scan_End_eq hk, hd0]; rfl
      rw [he]
      rcases bcase (t.takeWhile cTok == []) with hn | hn <;> rw [hn] <;> simp [cookie_part_j2]
theorem ref28_part_L3_eq (r : Str) (i : Int) (v : Str) (hv : v.length < 1000000000) {a : Str} (ha : sTo r i = some a) :
    ref28_part_L3 r i v fuel 0 = some (if v.all cVal then (⟨a, v, true⟩, trim v == v) else (⟨[], [], false⟩, false)) := by
  rw [loop_start v (ref28_part_L3 r i v) (fun x q => if cVal x = true then q else some (⟨[], [], false⟩, false)) (some (⟨a, v, true⟩, trim v == v)) (by omega)]
  · generalize ((⟨a, v, true⟩ : api_Attr), trim v == v) = z
    clear ha hv
    induction v with
    | nil => rfl
    | cons x v ih => rw [List.foldr_cons, ih, List.all_cons]; cases cVal x <;> simp
  · intro n; rw [ref28_part_L3]
    simp only [Int.lt_irrefl, decide_false, Bool.false_eq_true, if_false, ha, ref06_Trim_eq v hv, Option.bind_some]
  · intro n k x hk hx
    rw [ref28_part_L3]
    simp only [Int.ofNat_lt, hk, decide_true, if_true, sAt_nat, hx, Option.bind_some, ref01_Value_eq, iAdd_one (show k < 4611686018427387904 by omega)]
    cases cVal x <;> rfl
theorem ref28_part_eq (s : Str) (hs : s.length < 1000000000) : saysPart (ref28_part s) (partT (trim s)) := by
  have ht := trim_le s
  unfold ref28_part
  rw [ref06_Trim_eq s hs, Option.bind_some]
  generalize trim s = t at ht
  have hl : t.length < 1000000000 := by omega
  have key : ∀ (n i : Nat), i ≤ t.length → t.length - i < n → ref28_part_L1 t n (i : Int) = ref28_part_j2 (ref28_part_L1 t 0) t ((i + ((t.drop i).takeWhile (fun c => !(c == 61))).length : Nat) : Int) false := by
    intro n
    induction n with
    | zero => intro i _ h; omega
    | succ n ih =>
      intro i hi h
      rw [ref28_part_L1]
      by_cases hlt : i < t.length
      · have hx : t[i]? = some t[i] := List.getElem?_eq_getElem hlt
        simp only [Int.ofNat_lt, hlt, decide_true, if_true, sAt_nat, hx, Option.bind_some]
        rw [List.drop_eq_getElem_cons hlt, List.takeWhile_cons]
        rcases bcase (t[i] == 61) with h6 | h6
        · rw [h6]; simp [ref28_part_j2]
        · rw [h6]
          simp only [Bool.not_false, if_true, List.length_cons]
          rw [ref28_part_j2]
          simp only [if_true, iAdd_one (show i < 4611686018427387904 by omega), Option.bind_some]
          rw [ih (i + 1) (by omega) (by omega)]
          congr 2; omega
      · have : i = t.length := by omega
        subst this
        simp [ref28_part_j2]
  have k0 := key fuel 0 (Nat.zero_le _) (by unfold fuel; omega)
  simp only [Int.natCast_zero, List.drop_zero, Nat.zero_add] at k0
  rw [k0]
  unfold partT ref28_part_j2
  have happ := List.takeWhile_append_dropWhile (p := fun c : UInt8 => !(c == 61)) (l := t)
  have hle := takeWhile_le (fun c : UInt8 => !(c == 61)) t
  have htk : t.take (t.takeWhile (fun c : UInt8 => !(c == 61))).length = t.takeWhile (fun c : UInt8 => !(c == 61)) :=
    (List.prefix_iff_eq_take.1 (List.takeWhile_prefix _)).symm
  generalize t.takeWhile (fun c : UInt8 => !(c == 61)) = a at *
  generalize t.dropWhile (fun c : UInt8 => !(c == 61)) = d at *
  have hal : a.length < 1000000000 := by omega
  simp only [Bool.false_eq_true, if_false, sTo_nat hle, htk, Option.bind_some, ref01_Token_eq a hal]
  rcases bcase (isTok a) with h1 | h1
  · rw [h1]
    cases d with
    | nil =>
      have e : t = a := by rw [← happ, List.append_nil]
      subst e
      simp [saysPart]
    | cons c v =>
      have hlen : a.length + (v.length + 1) = t.length := by have := congrArg List.length happ; simpa using this
      have hb : ((a.length : Int) == (t.length : Int)) = false := beq_eq_false_iff_ne.2 (by omega)
      have hdr : t.drop (a.length + 1) = v := by rw [← happ, ← List.drop_drop, List.drop_left]; rfl
      simp only [Bool.not_true, Bool.false_eq_true, if_false, hb, iAdd_one (show a.length < 4611686018427387904 by omega), Option.bind_some, sFrom_nat (show a.length + 1 ≤ t.length by omega), hdr]
      rw [ref28_part_L3_eq t _ v (by omega) (a := a) (by rw [sTo_nat hle, htk])]
      simp only [if_true]
      rcases bcase (v.all cVal) with hva | hva
      · rw [hva]
        by_cases htv : trim v = v
        · simp [htv, saysPart]
        · simp [htv, saysPart]
      · rw [hva]; simp [saysPart]
  · rw [h1]; simp [saysPart]
def cPlain (b : UInt8) : Bool := cVis b && !([34, 44, 59, 92] : Str).contains b
theorem cookie_plain_eq (b : UInt8) : cookie_plain b = some (cPlain b) :=
  of_decide_eq_true (all_bytes (fun b => decide (cookie_plain b = some (cPlain b))) (by decide +kernel) b)
def cvalue : Str → Bool
  | 34 :: r => r.getLast? == some 34 && r.dropLast.all cPlain
  | s => s.all cPlain
theorem cvalue_q (r : Str) : cvalue (34 :: r) = (r.getLast? == some 34 && r.dropLast.all cPlain) := rfl
theorem cvalue_n {s : Str} (h : s.head? ≠ some 34) : cvalue s = s.all cPlain := by
  unfold cvalue
  split
  · rename_i r; exact absurd rfl h
  · rfl
theorem snoc_or (s : Str) : s = [] ∨ ∃ a c, s = a ++ [c] := by
  rcases List.eq_nil_or_concat s with rfl | ⟨a, c, rfl⟩
  · exact .inl rfl
  · exact .inr ⟨a, c, by simp⟩
theorem CutSuffix_one (s : Str) (c : UInt8) (hs : s.length < 1000000000) : strings_CutSuffix s [c] = some (if s.getLast? == some c then (s.dropLast, true) else (s, false)) := by
  unfold strings_CutSuffix stringslite_CutSuffix
  have h1 : stringslite_HasSuffix s [c] = some (s.getLast? == some c) := by
    unfold stringslite_HasSuffix
    rcases snoc_or s with rfl | ⟨a, d, rfl⟩
    · simp [stringslite_HasSuffix_j1]
    · have h0 : (([c] : Str).length : Int) ≤ ((a ++ [d]).length : Int) := by simp; omega
      have e : iSub ((a ++ [d]).length : Int) (([c] : Str).length : Int) = some (a.length : Int) := by
        rw [iSub_ok (by simp <;> omega) (by simp at hs ⊢; omega)]; simp
      simp only [h0, decide_true, if_true, e, Option.bind_some, sFrom_nat (show a.length ≤ (a ++ [d]).length by simp), List.drop_left, stringslite_HasSuffix_j1]
      simp
  rw [h1]
  rcases bcase (s.getLast? == some c) with h | h
  · rw [h]
    rcases snoc_or s with rfl | ⟨a, d, rfl⟩
    · simp at h
    · have e : iSub ((a ++ [d]).length : Int) (([c] : Str).length : Int) = some (a.length : Int) := by
        rw [iSub_ok (by simp <;> omega) (by simp at hs ⊢; omega)]; simp
      simp only [Option.bind_some, Bool.not_true, Bool.false_eq_true, if_false, e, sTo_nat (show a.length ≤ (a ++ [d]).length by simp), List.take_left, if_true, List.dropLast_concat]
  · rw [h]; simp
theorem cookie_value_eq (s : Str) (hs : s.length < 1000000000) : cookie_value s = some (cvalue s) := by
  unfold cookie_value
  rw [strings_CutPrefix_eq s [34] hs, Option.bind_some]
  cases s with
  | nil => simp [List.isPrefixOf, CutSuffix_one, octet_All_one cookie_plain_eq, cvalue, cookie_value_j1]
  | cons x r =>
    have hp : ([34] : Str).isPrefixOf (x :: r) = (34 == x) := by simp [List.isPrefixOf]
    rw [hp]
    rcases bcase ((34 : UInt8) == x) with hx | hx
    · have : x = 34 := (by simpa using hx : (34 : UInt8) = x).symm
      subst this
      simp only [beq_self_eq_true, if_true, List.length_cons, List.length_nil, Nat.zero_add, List.drop_succ_cons, List.drop_zero]
      rw [CutSuffix_one r 34 (by simp at hs; omega), cvalue_q]
      rcases bcase (r.getLast? == some 34) with h | h
      · rw [h]
        simp only [if_true, Option.bind_some, beq_self_eq_true, octet_All_one cookie_plain_eq r.dropLast (by simp at hs ⊢; omega), cookie_value_j1, Bool.true_and]
      · rw [h]; simp [cookie_value_j1]
    · have hne : (x :: r).head? ≠ some 34 := by
        intro e; simp at e; subst e; simp at hx
      rw [hx, cvalue_n hne]
      simp only [Bool.false_eq_true, if_false, CutSuffix_one (x :: r) 34 hs, Option.bind_some]
      rcases bcase ((x :: r).getLast? == some 34) with h | h
      · rw [h]
        have hm : (34 : UInt8) ∈ x :: r := List.mem_of_getLast? (by simpa using h)
        have : (x :: r).all cPlain = false := by
          rw [Bool.eq_false_iff]; intro ha
          exact absurd (List.all_eq_true.1 ha _ hm) (by decide)
        rw [this]; simp [cookie_value_j1]
      · rw [h]
        simp [octet_All_one cookie_plain_eq (x :: r) hs, cookie_value_j1]
theorem cPlain_eq : ∀ b : UInt8, cPlain b = !(decide (b < 33) || decide (126 < b) || b == 34 || b == 44 || b == 59 || b == 92) := fun b =>
  of_decide_eq_true (all_bytes (fun b => decide (cPlain b = !(decide (b < 33) || decide (126 < b) || b == 34 || b == 44 || b == 59 || b == 92))) (by decide +kernel) b)
theorem ref28_value_j2_eq (s : Str) (hs : s.length < 1000000000) : ref28_value_j2 s = some (s.all cPlain) := by
  unfold ref28_value_j2
  rw [loop_start s (ref28_value_L3 s) (fun x r => if cPlain x = true then r else some false) (some true) (by omega)]
  · exact foldr_and cPlain s
  · intro n; rw [ref28_value_L3]; simp only [Int.lt_irrefl, decide_false, Bool.false_eq_true, if_false]
  · intro n i x hi hx
    rw [ref28_value_L3]
    simp only [Int.ofNat_lt, hi, decide_true, if_true, sAt_nat, hx, Option.bind_some, ref28_value_j4, iAdd_one (show i < 4611686018427387904 by omega), cPlain_eq]
    cases decide (x < 33) <;> cases decide (126 < x) <;> cases (x == 34) <;> cases (x == 44) <;> cases (x == 59) <;> cases (x == 92) <;> rfl
theorem ref28_value_eq (s : Str) (hs : s.length < 1000000000) : ref28_value s = some (cvalue s) := by
  unfold ref28_value
  cases s with
  | nil => simp [ref28_value_j1, ref28_value_j2_eq, cvalue]
  | cons x r =>
    rcases bcase (x == 34) with hx | hx
    · have : x = 34 := by simpa using hx
      subst this
      have h34 : (34 :: r : Str).all cPlain = false := by
        rw [Bool.eq_false_iff]; intro ha
        exact absurd (List.all_eq_true.1 ha 34 (List.mem_cons_self ..)) (by decide)
      rw [cvalue_q]
      rcases snoc_or r with rfl | ⟨a, c, rfl⟩
      · simp [ref28_value_j1, ref28_value_j2_eq, h34]
      · have h1 : (1 : Int) < ((34 :: (a ++ [c]) : Str).length : Int) := by simp; omega
        have e : iSub ((34 :: (a ++ [c]) : Str).length : Int) 1 = some ((a.length + 1 : Nat) : Int) := by
          rw [iSub_ok (by simp; omega) (by simp at hs ⊢; omega)]; simp
        have hc : (34 :: (a ++ [c]) : Str)[a.length + 1]? = some c := by simp
        have hsub : sSub (34 :: (a ++ [c])) 1 ((a.length + 1 : Nat) : Int) = some a := by
          have := sSub_nat (l := 34 :: (a ++ [c])) (i := 1) (h := a.length + 1) (by omega) (by simp)
          rw [show ((1 : Nat) : Int) = 1 from rfl] at this
          rw [this]; simp
        simp only [h1, decide_true, if_true, sAt_zero, List.getElem?_cons_zero, Option.bind_some, beq_self_eq_true, e, sAt_nat, hc, ref28_value_j1, hsub]
        rcases bcase (c == 34) with h | h
        · have hc : c = 34 := by simpa using h
          subst hc
          simp [ref28_value_j2_eq a (by simp at hs; omega)]
        · have hc : c ≠ 34 := by simpa using h
          rw [h]
          simp [ref28_value_j2_eq (34 :: (a ++ [c])) hs, h34, hc]
    · have hne : (x :: r).head? ≠ some 34 := by
        intro e; simp at e; subst e; simp at hx
      rw [cvalue_n hne]
      by_cases h1 : (1 : Int) < ((x :: r).length : Int)
      · simp only [h1, decide_true, if_true, sAt_zero, List.getElem?_cons_zero, Option.bind_some, hx, Bool.false_eq_true, if_false, ref28_value_j1]
        exact ref28_value_j2_eq _ hs
      · simp only [h1, decide_false, Bool.false_eq_true, if_false, ref28_value_j1]
        exact ref28_value_j2_eq _ hs
theorem mapM_get {α β : Type} {f : α → Option β} : ∀ {l : List α} {r : List β}, l.mapM f = some r → r.length = l.length ∧ ∀ b ∈ r, ∃ a ∈ l, f a = some b
  | [], r, h => by
    simp at h; subst h; exact ⟨rfl, by simp⟩
  | a :: l, r, h => by
    simp only [List.mapM_cons, Option.bind_eq_bind, Option.bind_eq_some_iff, Option.pure_def, Option.some.injEq] at h
    obtain ⟨b, hb, r', hr', rfl⟩ := h
    obtain ⟨h1, h2⟩ := mapM_get hr'
    refine ⟨by simp [h1], fun x hx => ?_⟩
    rcases List.mem_cons.1 hx with rfl | hx
    · exact ⟨a, List.mem_cons_self .., hb⟩
    · obtain ⟨y, hy, hf⟩ := h2 x hx
      exact ⟨y, List.mem_cons_of_mem _ hy, hf⟩
def partOf (s : Str) : Option api_Attr := partT (trim s)
def noCookie : api_Cookie := ⟨[], [], []⟩
/-- A cookie's text, read. -/
def parseC (s : Str) : Option api_Cookie := match splitOn 59 s with
  | [] => none
  | h :: t => match partOf h with
    | none => none
    | some a => if (a.Has && cvalue a.Value) = true then (t.mapM partOf).map fun l => ⟨a.Name, a.Value, l⟩ else none
def outC (r : Option api_Cookie) : api_Cookie × Int := match r with
  | some c => (c, 0)
  | none => (noCookie, 2)
theorem part_small {s : Str} {a : api_Attr} (h : partOf s = some a) : a.Name.length ≤ s.length ∧ a.Value.length ≤ s.length := by
  unfold partOf partT at h
  have hl := trim_le s
  have happ := congrArg List.length (List.takeWhile_append_dropWhile (p := fun c : UInt8 => !(c == 61)) (l := trim s))
  rw [List.length_append] at happ
  split at h
  · split at h
    · cases h; exact ⟨hl, Nat.zero_le _⟩
    · rename_i hd
      rw [hd] at happ; simp only [List.length_cons] at happ
      split at h
      · cases h; constructor <;> simp only <;> omega
      · cases h
  · cases h
theorem cookie_Parse_L2_eq (l : List Str) (hl : l.length < 1000000000) (hx : ∀ x ∈ l, x.length < 1000000000) (nm v : Str) :
    cookie_Parse_L2 l fuel [] nm v 0 = some (outC ((l.mapM partOf).map fun as => ⟨nm, v, as⟩)) := by
  have key : ∀ (n i : Nat) (acc : List api_Attr), acc.length ≤ i → i ≤ l.length → l.length - i < n → cookie_Parse_L2 l n acc nm v (i : Int) = some (outC (((l.drop i).mapM partOf).map fun as => ⟨nm, v, acc ++ as⟩)) := by
    intro n
    induction n with
    | zero => intro i acc _ _ h; omega
    | succ n ih =>
      intro i acc ha hi h
      rw [cookie_Parse_L2]
      by_cases hlt : i < l.length
      · have hxi : l[i]? = some l[i] := List.getElem?_eq_getElem hlt
        have hp := cookie_part_eq l[i] (hx _ (List.getElem_mem hlt))
        simp only [Int.ofNat_lt, hlt, decide_true, if_true, lAt_nat, hxi, Option.bind_some]
        rw [List.drop_eq_getElem_cons hlt, List.mapM_cons]
        unfold partOf saysPart at *
        cases hw : partT (trim l[i]) with
        | none =>
          rw [hw] at hp
          obtain ⟨x, hp⟩ := hp
          rw [hp]; simp [outC, noCookie]
        | some a =>
          rw [hw] at hp
          rw [hp]
          simp only [Option.bind_some, Bool.not_true, Bool.false_eq_true, if_false, fits_ok (n := acc.length) (m := 1) (b := 40) (by omega) (by omega), if_true, iAdd_one (show i < 4611686018427387904 by omega)]
          rw [ih (i + 1) _ (by simp; omega) (by omega) (by omega)]
          cases (l.drop (i + 1)).mapM fun s => partT (trim s) <;> simp [outC]
      · have : i = l.length := by omega
        subst this
        simp [cookie_Parse_j3, outC]
  have := key fuel 0 [] (Nat.le_refl _) (Nat.zero_le _) (by unfold fuel; omega)
  simpa using this
theorem cookie_Parse_eq (s : Str) (hs : s.length < 900000000) : cookie_Parse s = some (outC (parseC s)) := by
  unfold cookie_Parse parseC
  have hlen := splitOn_len 59 s
  have hm := fun p (h : p ∈ splitOn 59 s) => splitOn_mem (c := 59) h
  rw [strings_Split_eq s 59 (by omega), Option.bind_some]
  cases hsp : splitOn 59 s with
  | nil => exact absurd hsp (splitOn_ne _ _)
  | cons h t =>
    rw [hsp] at hlen hm
    have hh := (hm h (List.mem_cons_self ..)).2.1
    simp only [lAt_zero, List.getElem?_cons_zero, Option.bind_some]
    have hp := cookie_part_eq h (by omega)
    have hf : lFrom (h :: t) 1 = some t := by
      have : (1 : Int) ≤ ((h :: t).length : Int) := by simp; omega
      simp [lFrom]; omega
    have hL := fun nm v => cookie_Parse_L2_eq t (by simp at hlen; omega) (fun x hx => by have := (hm x (List.mem_cons_of_mem _ hx)).2.1; omega) nm v
    unfold saysPart at hp
    show _ = some (outC (match partT (trim h) with | none => none | some a => _))
    cases hw : partT (trim h) with
    | none =>
      rw [hw] at hp
      obtain ⟨x, hp⟩ := hp
      rw [hp]; simp [outC, noCookie, cookie_Parse_j1]
    | some a =>
      rw [hw] at hp
      rw [hp]
      have hsm := part_small (s := h) (a := a) hw
      simp only [Option.bind_some, Bool.not_true, Bool.false_eq_true, if_false, cookie_value_eq a.Value (by omega), cookie_Parse_j1, hf, hL]
      rcases bcase a.Has with h1 | h1
      · rw [h1]
        rcases bcase (cvalue a.Value) with h2 | h2
        · rw [h2]; simp
        · rw [h2]; simp [outC, noCookie]
      · rw [h1]; simp [outC, noCookie]
theorem ref28_Parse_eq (s : Str) (hs : s.length < 900000000) : ref28_Parse s = some (outC (parseC s)) := by
  unfold ref28_Parse parseC
  have hlen := splitOn_len 59 s
  have hm := fun p (h : p ∈ splitOn 59 s) => splitOn_mem (c := 59) h
  rw [ref08_Parts_eq s 59 (by omega), Option.bind_some]
  have hne := splitOn_ne 59 s
  generalize splitOn 59 s = l at *
  have key : ∀ (n i : Nat) (acc : List api_Attr) (nm v : Str), 1 ≤ i → acc.length ≤ i → i ≤ l.length → l.length - i < n → ref28_Parse_L1 l n acc nm v (i : Int) = some (outC (((l.drop i).mapM partOf).map fun as => ⟨nm, v, acc ++ as⟩)) := by
    intro n
    induction n with
    | zero => intro i acc nm v _ _ _ h; omega
    | succ n ih =>
      intro i acc nm v h1 ha hi h
      rw [ref28_Parse_L1]
      by_cases hlt : i < l.length
      · have hxi : l[i]? = some l[i] := List.getElem?_eq_getElem hlt
        have hp := ref28_part_eq l[i] (by have := (hm _ (List.getElem_mem hlt)).2.1; omega)
        have h0 : ((i : Int) == 0) = false := beq_eq_false_iff_ne.2 (by omega)
        simp only [Int.ofNat_lt, hlt, decide_true, if_true, lAt_nat, hxi, Option.bind_some]
        rw [List.drop_eq_getElem_cons hlt, List.mapM_cons]
        unfold partOf saysPart at *
        cases hw : partT (trim l[i]) with
        | none =>
          rw [hw] at hp
          obtain ⟨x, hp⟩ := hp
          rw [hp]; simp [outC, noCookie, ref28_Parse_j2]
        | some a =>
          rw [hw] at hp
          rw [hp]
          simp only [Option.bind_some, Bool.not_true, Bool.false_eq_true, if_false, h0, ref28_Parse_j2, fits_ok (n := acc.length) (m := 1) (b := 40) (by omega) (by omega), if_true, ref28_Parse_j3, iAdd_one (show i < 4611686018427387904 by omega)]
          rw [ih (i + 1) _ _ _ (by omega) (by simp; omega) (by omega) (by omega)]
          cases (l.drop (i + 1)).mapM fun s => partT (trim s) <;> simp [outC]
      · have : i = l.length := by omega
        subst this
        simp [ref28_Parse_j4, outC]
  cases l with
  | nil => exact absurd rfl hne
  | cons h t =>
    have hh := (hm h (List.mem_cons_self ..)).2.1
    have hp := ref28_part_eq h (by omega)
    obtain ⟨f, hf⟩ : ∃ f, fuel = f + 1 := ⟨999999999999999999, rfl⟩
    rw [hf, ref28_Parse_L1]
    have hpos : (0 : Int) < ((h :: t).length : Int) := by simp
    have hk := fun nm v => key f 1 [] nm v (Nat.le_refl _) (Nat.zero_le _) (by simp) (by simp at hlen ⊢; unfold fuel at hf; omega)
    simp only [List.drop_succ_cons, List.drop_zero, List.nil_append] at hk
    have h01 : iAdd 0 1 = some ((1 : Nat) : Int) := by decide
    simp only [hpos, decide_true, if_true, lAt_zero, List.getElem?_cons_zero, Option.bind_some]
    unfold saysPart at hp
    show _ = some (outC (match partT (trim h) with | none => none | some a => _))
    cases hw : partT (trim h) with
    | none =>
      rw [hw] at hp
      obtain ⟨x, hp⟩ := hp
      rw [hp]; simp [outC, noCookie, ref28_Parse_j2]
    | some a =>
      rw [hw] at hp
      rw [hp]
      have hsm := part_small (s := h) (a := a) hw
      simp only [Option.bind_some, Bool.not_true, Bool.false_eq_true, if_false, beq_self_eq_true, if_true, ref28_value_eq a.Value (by omega), ref28_Parse_j2, ref28_Parse_j3, h01, hk]
      rcases bcase a.Has with h1 | h1
      · rw [h1]
        rcases bcase (cvalue a.Value) with h2 | h2
        · rw [h2]; simp
        · rw [h2]; simp [outC, noCookie]
      · rw [h1]; simp [outC, noCookie]
theorem eq_loop {α : Type} [BEq α] [LawfulBEq α] (l m : List α) (hlen : l.length = m.length) (hl : l.length < 1000000000) (L : Nat → Int → Option Bool)
    (hL : ∀ n i, L (n + 1) i = (if (decide (i < (l.length : Int))) then ((lAt l i).bind fun x => (lAt m i).bind fun y => if (!(x == y)) then (some false) else ((iAdd i 1).bind fun j => L n j)) else (some true))) : L fuel 0 = some (l == m) := by
  have key : ∀ (n i : Nat), i ≤ l.length → l.length - i < n → L n (i : Int) = some (l.drop i == m.drop i) := by
    intro n
    induction n with
    | zero => intro i _ h; omega
    | succ n ih =>
      intro i hi h
      rw [hL]
      by_cases hlt : i < l.length
      · have hx : l[i]? = some l[i] := List.getElem?_eq_getElem hlt
        have hm : i < m.length := by omega
        have hy : m[i]? = some m[i] := List.getElem?_eq_getElem hm
        simp only [Int.ofNat_lt, hlt, decide_true, if_true, lAt_nat, hx, hy, Option.bind_some, iAdd_one (show i < 4611686018427387904 by omega), ih (i + 1) (by omega) (by omega)]
        rw [List.drop_eq_getElem_cons hlt, List.drop_eq_getElem_cons hm, List.cons_beq_cons]
        rcases bcase (l[i] == m[i]) with h1 | h1 <;> rw [h1] <;> simp
      · have : i = l.length := by omega
        subst this
        simp only [Int.lt_irrefl, decide_false, Bool.false_eq_true, if_false, List.drop_length]
        rw [hlen, List.drop_length]; simp
  have := key fuel 0 (Nat.zero_le _) (by unfold fuel; omega)
  simpa using this
theorem slices_Equal_Attr_eq (l m : List api_Attr) (hl : l.length < 1000000000) : slices_Equal_gapi_Attr_api_Attr_ l m = some (l == m) := by
  unfold slices_Equal_gapi_Attr_api_Attr_
  by_cases h : l.length = m.length
  · rw [h]
    simp only [beq_self_eq_true, Bool.not_true, Bool.false_eq_true, if_false]
    exact eq_loop l m h hl _ fun n i => by rw [slices_Equal_gapi_Attr_api_Attr__L1]
  · have h' : ((l.length : Int) == (m.length : Int)) = false := beq_eq_false_iff_ne.2 (by omega)
    have : (l == m) = false := beq_eq_false_iff_ne.2 (fun e => h (by rw [e]))
    rw [h', this]; rfl
theorem ref18_Same_eq (l m : List api_Attr) (hl : l.length < 1000000000) : ref18_Same l m = some (l == m) := by
  unfold ref18_Same
  by_cases h : l.length = m.length
  · rw [h]
    simp only [beq_self_eq_true, Bool.not_true, Bool.false_eq_true, if_false]
    exact eq_loop l m h hl _ fun n i => by rw [ref18_Same_L1]
  · have h' : ((l.length : Int) == (m.length : Int)) = false := beq_eq_false_iff_ne.2 (by omega)
    have : (l == m) = false := beq_eq_false_iff_ne.2 (fun e => h (by rw [e]))
    rw [h', this]; rfl
def sameC (a b : api_Cookie) : Bool := a.Name == b.Name && a.Value == b.Value && a.Attrs == b.Attrs
theorem sameC_iff (a b : api_Cookie) : sameC a b = true ↔ a = b := by
  obtain ⟨a1, a2, a3⟩ := a
  obtain ⟨b1, b2, b3⟩ := b
  simp [sameC, and_assoc]
theorem cookie_Same_eq (a b : api_Cookie) (h : a.Attrs.length < 1000000000) : cookie_Same a b = some (sameC a b) := by
  unfold cookie_Same sameC
  rw [slices_Equal_Attr_eq _ _ h]
  rcases bcase (a.Name == b.Name) with h1 | h1 <;> rw [h1] <;> rcases bcase (a.Value == b.Value) with h2 | h2 <;> rw [h2] <;> simp [cookie_Same_j1]
theorem ref28_Same_eq (a b : api_Cookie) (h : a.Attrs.length < 1000000000) : ref28_Same a b = some (sameC a b) := by
  unfold ref28_Same sameC
  rw [ref18_Same_eq _ _ h]
  rcases bcase (a.Name == b.Name) with h1 | h1 <;> rw [h1] <;> rcases bcase (a.Value == b.Value) with h2 | h2 <;> rw [h2] <;> simp [ref28_Same_j1]
def txtA (a : api_Attr) : Str := if a.Has then a.Name ++ [61] ++ a.Value else a.Name
def tailC : List api_Attr → Str
  | [] => []
  | a :: l => [59, 32] ++ txtA a ++ tailC l
def textC (c : api_Cookie) : Str := c.Name ++ [61] ++ c.Value ++ tailC c.Attrs
def smallT (c : api_Cookie) : Prop := c.Name.length ≤ 1000 ∧ c.Value.length ≤ 1000 ∧ c.Attrs.length ≤ 1000 ∧ ∀ a ∈ c.Attrs, a.Name.length ≤ 1000 ∧ a.Value.length ≤ 1000
theorem txtA_len {a : api_Attr} (h : a.Name.length ≤ 1000 ∧ a.Value.length ≤ 1000) : (txtA a).length ≤ 2001 := by
  unfold txtA; split
  · simp; omega
  · omega
theorem tailC_len : ∀ {l : List api_Attr}, (∀ a ∈ l, a.Name.length ≤ 1000 ∧ a.Value.length ≤ 1000) → (tailC l).length ≤ l.length * 2003
  | [], _ => Nat.zero_le _
  | a :: l, h => by
    have h1 := txtA_len (h a (List.mem_cons_self ..))
    have h2 := tailC_len (l := l) fun b hb => h b (List.mem_cons_of_mem _ hb)
    simp only [tailC, List.length_append, List.length_cons, List.length_nil]; omega
theorem textC_len {c : api_Cookie} (h : smallT c) : (textC c).length ≤ 3000000 := by
  obtain ⟨h1, h2, h3, h4⟩ := h
  have := tailC_len h4
  simp only [textC, List.length_append, List.length_cons, List.length_nil]; omega
def textR (c : api_Cookie) : Str × Int := if parseC (textC c) = some c then (textC c, 0) else ([], 2)
theorem join_tail (x : Str) : ∀ l : List api_Attr, Go.Lib.join (x :: l.map txtA) [59, 32] = x ++ tailC l := by
  intro l
  rw [Go.Lib.join_cons]
  congr 1
  unfold Go.Lib.joinTail
  induction l with
  | nil => rfl
  | cons a l ih => simp only [List.map_cons, List.flatten_cons, tailC, ih]
theorem sameR (c : api_Cookie) (r : Option api_Cookie) (s : Str) (f : api_Cookie → api_Cookie → Option Bool) (hf : ∀ a, r = some a → f a c = some (sameC a c)) (j : Bool → Option (Str × Int)) (h1 : j true = some ([], 2)) (h0 : j false = some (s, 0)) :
    (if (!((outC r).2 == 0)) = true then j true else (f (outC r).1 c).bind fun q => j (!q)) = some (if r = some c then (s, 0) else ([], 2)) := by
  cases r with
  | none => simp [outC, h1]
  | some a =>
    have e := hf a rfl
    simp only [outC, beq_self_eq_true, Bool.not_true, Bool.false_eq_true, if_false, e, Option.bind_some]
    by_cases ha : a = c
    · rw [(sameC_iff a c).2 ha, ha]; simp [h0]
    · have : sameC a c = false := by rw [Bool.eq_false_iff]; exact fun e => ha ((sameC_iff a c).1 e)
      rw [this]; simp [h1, ha]
theorem parseC_attrs {s : Str} {c : api_Cookie} (h : parseC s = some c) : c.Attrs.length ≤ s.length ∧ c.Name.length ≤ s.length ∧ c.Value.length ≤ s.length ∧ ∀ a ∈ c.Attrs, a.Name.length ≤ s.length ∧ a.Value.length ≤ s.length := by
  unfold parseC at h
  have hlen := splitOn_len 59 s
  have hm := fun p (h : p ∈ splitOn 59 s) => splitOn_mem (c := 59) h
  cases hsp : splitOn 59 s with
  | nil => rw [hsp] at h; cases h
  | cons x t =>
    rw [hsp] at h hlen hm
    simp only at h
    cases hp : partOf x with
    | none => rw [hp] at h; cases h
    | some a =>
      rw [hp] at h
      simp only at h
      split at h
      · cases hl : t.mapM partOf with
        | none => rw [hl] at h; cases h
        | some l =>
          rw [hl] at h
          obtain rfl := Option.some.inj h
          have h1 := part_small hp
          have h2 := (hm x (List.mem_cons_self ..)).2.1
          obtain ⟨g1, g2⟩ := mapM_get hl
          refine ⟨by simp at hlen ⊢; omega, by simp only; omega, by simp only; omega, fun b hb => ?_⟩
          obtain ⟨p, hpt, hpb⟩ := g2 b hb
          have h3 := part_small hpb
          have h4 := (hm p (List.mem_cons_of_mem _ hpt)).2.1
          omega
      · cases h
theorem cookie_Text_eq (c : api_Cookie) (hc : smallT c) : cookie_Text c = some (textR c) := by
  have htl := textC_len hc
  obtain ⟨h1, h2, h3, h4⟩ := hc
  unfold cookie_Text
  rw [sCat_ok (by simp; omega), Option.bind_some, sCat_ok (by simp; omega), Option.bind_some]
  have key : ∀ (n i : Nat) (acc : List Str), acc.length ≤ i + 1 → i ≤ c.Attrs.length → c.Attrs.length - i < n → cookie_Text_L1 c n acc (i : Int) = cookie_Text_L1 c 1 (acc ++ (c.Attrs.drop i).map txtA) (c.Attrs.length : Int) := by
    intro n
    induction n with
    | zero => intro i acc _ _ h; omega
    | succ n ih =>
      intro i acc ha hi h
      by_cases hlt : i < c.Attrs.length
      · have hxi : c.Attrs[i]? = some c.Attrs[i] := List.getElem?_eq_getElem hlt
        have hsm := h4 _ (List.getElem_mem hlt)
        rw [cookie_Text_L1]
        simp only [Int.ofNat_lt, hlt, decide_true, if_true, lAt_nat, hxi, Option.bind_some, cookie_Text_j2, iAdd_one (show i < 4611686018427387904 by omega), fits_ok (n := acc.length) (m := 1) (b := 16) (by omega) (by omega)]
        rw [sCat_ok (by simp; omega), Option.bind_some, sCat_ok (by simp; omega), Option.bind_some]
        rw [ih (i + 1) _ (by simp; omega) (by omega) (by omega), ih (i + 1) _ (by simp; omega) (by omega) (by omega), List.drop_eq_getElem_cons hlt, List.map_cons]
        unfold txtA
        rcases bcase (c.Attrs[i]).Has with hh | hh <;> rw [hh] <;> simp
      · have : i = c.Attrs.length := by omega
        subst this
        rw [List.drop_length, List.map_nil, List.append_nil, cookie_Text_L1, cookie_Text_L1]
        simp only [Int.lt_irrefl, decide_false, Bool.false_eq_true, if_false]
  have k0 := key fuel 0 [c.Name ++ [61] ++ c.Value] (by simp) (Nat.zero_le _) (by unfold fuel; omega)
  simp only [Int.natCast_zero, List.drop_zero] at k0
  rw [k0, cookie_Text_L1]
  have hj : strings_Join ([c.Name ++ [61] ++ c.Value] ++ c.Attrs.map txtA) [59, 32] = some (textC c) := by
    unfold strings_Join
    have e : Go.Lib.join ([c.Name ++ [61] ++ c.Value] ++ c.Attrs.map txtA) [59, 32] = textC c := by
      rw [List.singleton_append, join_tail]; rfl
    rw [e, if_pos ⟨by simp; omega, by omega⟩]
  simp only [Int.lt_irrefl, decide_false, Bool.false_eq_true, if_false, quill_Join, hj, Option.bind_some, cookie_Parse_eq (textC c) (by omega)]
  unfold textR
  exact sameR c (parseC (textC c)) (textC c) cookie_Same (fun a ha => cookie_Same_eq a c (by have := parseC_attrs ha; omega)) (cookie_Text_j3 (textC c)) rfl rfl
theorem ref28_Text_eq (c : api_Cookie) (hc : smallT c) : ref28_Text c = some (textR c) := by
  have htl := textC_len hc
  obtain ⟨h1, h2, h3, h4⟩ := hc
  unfold ref28_Text
  rw [sCat_ok (by simp; omega), Option.bind_some, sCat_ok (by simp; omega), Option.bind_some]
  have key : ∀ (n i : Nat) (acc : Str), acc.length ≤ 3000 + i * 2003 → i ≤ c.Attrs.length → c.Attrs.length - i < n → ref28_Text_L1 c n acc (i : Int) = ref28_Text_L1 c 1 (acc ++ tailC (c.Attrs.drop i)) (c.Attrs.length : Int) := by
    intro n
    induction n with
    | zero => intro i acc _ _ h; omega
    | succ n ih =>
      intro i acc ha hi h
      by_cases hlt : i < c.Attrs.length
      · have hxi : c.Attrs[i]? = some c.Attrs[i] := List.getElem?_eq_getElem hlt
        have hsm := h4 _ (List.getElem_mem hlt)
        rw [ref28_Text_L1]
        simp only [Int.ofNat_lt, hlt, decide_true, if_true, lAt_nat, hxi, Option.bind_some, ref28_Text_j2, iAdd_one (show i < 4611686018427387904 by omega)]
        rw [sCat_ok (by simp; omega), Option.bind_some, sCat_ok (by simp; omega), Option.bind_some, sCat_ok (by simp; omega), Option.bind_some, sCat_ok (by simp; omega), Option.bind_some]
        rw [ih (i + 1) _ (by simp; omega) (by omega) (by omega), ih (i + 1) _ (by simp; omega) (by omega) (by omega), List.drop_eq_getElem_cons hlt, tailC]
        unfold txtA
        rcases bcase (c.Attrs[i]).Has with hh | hh <;> rw [hh] <;> simp
      · have : i = c.Attrs.length := by omega
        subst this
        rw [List.drop_length, tailC, List.append_nil, ref28_Text_L1, ref28_Text_L1]
        simp only [Int.lt_irrefl, decide_false, Bool.false_eq_true, if_false]
  have k0 := key fuel 0 (c.Name ++ [61] ++ c.Value) (by simp; omega) (Nat.zero_le _) (by unfold fuel; omega)
  simp only [Int.natCast_zero, List.drop_zero] at k0
  have e : c.Name ++ [61] ++ c.Value ++ tailC c.Attrs = textC c := rfl
  rw [k0, e, ref28_Text_L1]
  simp only [Int.lt_irrefl, decide_false, Bool.false_eq_true, if_false, ref28_Parse_eq (textC c) (by omega), Option.bind_some]
  unfold textR
  exact sameR c (parseC (textC c)) (textC c) ref28_Same (fun a ha => ref28_Same_eq a c (by have := parseC_attrs ha; omega)) (ref28_Text_j3 (textC c)) rfl rfl
end Go.Dm
