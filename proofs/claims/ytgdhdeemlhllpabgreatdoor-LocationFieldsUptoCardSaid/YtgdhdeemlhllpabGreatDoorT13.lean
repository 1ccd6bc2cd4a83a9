/-
  Rows of fields: the program's bag, and the document's. No program in sight.
-/
import Derived.Test.YtgdhdeemlhllpabGreatDoorT05
import Derived.Test.YtgdhdeemlhllpabGreatDoorTFold
import Derived.Test.YtgdhdeemlhllpabGreatDoorLibEq
namespace Go.Dm
def isN (nm : Str) (f : api_Field) : Bool := low f.Name == low nm
/-- Names and values that are not too long. -/
def smallF (m : Nat) (l : List api_Field) : Prop := ∀ f ∈ l, f.Name.length < m ∧ f.Value.length < m
theorem ref13_Of_eq (f : api_Field) (nm : Str) (hf : f.Name.length < 1000000000) (hn : nm.length < 1000000000) : ref13_Of f nm = some (isN nm f) := by
  unfold ref13_Of isN
  rw [ref01_Fold_eq _ hf, Option.bind_some, ref01_Fold_eq _ hn, Option.bind_some]
theorem same_loop {α : Type} [BEq α] [LawfulBEq α] (a b : List α) (L : Nat → Int → Option Bool) (hl : a.length = b.length) (ha : a.length < 1000000000)
    (hE : ∀ n, L (n + 1) (a.length : Int) = some true) (hL : ∀ n (i : Nat) x y, i < a.length → a[i]? = some x → b[i]? = some y → L (n + 1) (i : Int) = if (x == y) = true then L n ((i + 1 : Nat) : Int) else some false) : L fuel 0 = some (a == b) := by
  have key : ∀ (n i : Nat), i ≤ a.length → a.length - i < n → L n (i : Int) = some (a.drop i == b.drop i) := by
    intro n
    induction n with
    | zero => intro i _ h; omega
    | succ n ih =>
      intro i hi h
      by_cases hlt : i < a.length
      · have g1 : a[i]? = some a[i] := List.getElem?_eq_getElem hlt
        have g2 : b[i]? = some (b[i]'(by omega)) := List.getElem?_eq_getElem (by omega)
        rw [hL n i _ _ hlt g1 g2, ih (i + 1) (by omega) (by omega), List.drop_eq_getElem_cons hlt, List.drop_eq_getElem_cons (show i < b.length by omega), List.cons_beq_cons]
        cases a[i] == b[i]'(by omega) <;> rfl
      · have : i = a.length := by omega
        subst this
        rw [hE, List.drop_length, List.drop_of_length_le (by omega)]
        rfl
  have := key fuel 0 (Nat.zero_le _) (by unfold fuel; omega)
  rw [List.drop_zero, List.drop_zero] at this
  exact this
theorem ref12_Same_eq (a b : List api_Field) (ha : a.length < 1000000000) : ref12_Same a b = some (a == b) := by
  unfold ref12_Same
  by_cases hl : a.length = b.length
  · rw [hl, beq_self_eq_true, Bool.not_true, if_neg (by decide)]
    refine same_loop a b (ref12_Same_L1 a b) hl ha (fun n => ?_) (fun n i x y hi hx hy => ?_)
    · rw [ref12_Same_L1, decide_eq_false (by omega), if_neg (by decide)]
    · rw [ref12_Same_L1, decide_eq_true (by omega), if_pos rfl, lAt_nat, hx, Option.bind_some, lAt_nat, hy, Option.bind_some, iAdd_one (by omega), Option.bind_some]
      cases x == y <;> rfl
  · have : (((a.length : Int) == (b.length : Int))) = false := beq_eq_false_iff_ne.2 (by omega)
    have h2 : (a == b) = false := beq_eq_false_iff_ne.2 (fun e => hl (by rw [e]))
    rw [this, h2]; rfl
/-- A head that is not greater than the laws' own looks go. -/
def cutF (f : api_Field) : api_Field := ⟨f.Name.take 400, f.Value.take 400⟩
def cutL (l : List api_Field) : List api_Field := (l.take 120).map cutF
theorem law15_few_eq (s : Str) : law15_few s = some (s.take 400) := by
  unfold law15_few
  have := sTo_min s 400
  rw [show ((400 : Nat) : Int) = 400 from rfl] at this
  rw [this, Option.bind_some]
theorem law15_Few_eq (h : api_Head) (hl : h.Fields.length < 1000000000) : law15_Few h = some ⟨h.Kind, h.Method.take 400, h.Target.take 400, h.Code, h.Reason.take 400, h.Minor, cutL h.Fields⟩ := by
  unfold law15_Few
  rw [law15_few_eq, Option.bind_some, law15_few_eq, Option.bind_some, law15_few_eq, Option.bind_some]
  have key : ∀ (n i : Nat) (out : List api_Field), i ≤ h.Fields.length → i ≤ 120 → h.Fields.length - i < n → out.length = i → law15_Few_L1 h (h.Method.take 400) (h.Target.take 400) (h.Reason.take 400) n out (i : Int) = some ⟨h.Kind, h.Method.take 400, h.Target.take 400, h.Code, h.Reason.take 400, h.Minor, out ++ ((h.Fields.drop i).take (120 - i)).map cutF⟩ := by
    intro n
    induction n with
    | zero => intro i _ _ _ h; omega
    | succ n ih =>
      intro i out hi h120 hn ho
      rw [law15_Few_L1]
      unfold law15_Few_j2
      by_cases hlt : i < h.Fields.length
      · have g : h.Fields[i]? = some h.Fields[i] := List.getElem?_eq_getElem hlt
        rw [decide_eq_true (show (i : Int) < (h.Fields.length : Int) by omega), if_pos rfl]
        by_cases h2 : i < 120
        · rw [decide_eq_true (show (i : Int) < 120 by omega), if_pos rfl, lAt_nat, g, Option.bind_some, law15_few_eq, Option.bind_some, Option.bind_some, law15_few_eq, Option.bind_some, if_pos (fits_ok (by omega) (by omega)), iAdd_one (by omega), Option.bind_some, ih (i + 1) _ (by omega) (by omega) (by omega) (by simp; omega), List.drop_eq_getElem_cons hlt, show 120 - i = (120 - (i + 1)) + 1 by omega, List.take_succ_cons]
          simp [cutF]
        · have : i = 120 := by omega
          subst this
          rw [decide_eq_false (by omega), if_neg (by decide)]
          simp
      · have : i = h.Fields.length := by omega
        rw [decide_eq_false (by omega), if_neg (by decide), if_neg (by decide), this, List.drop_length]
        simp
  have := key fuel 0 [] (Nat.zero_le _) (by decide) (by unfold fuel; omega) rfl
  exact this
theorem cutL_len (l : List api_Field) : (cutL l).length ≤ 120 := by unfold cutL; simp; omega
theorem cutL_small (l : List api_Field) : smallF 401 (cutL l) := by
  intro f hf
  unfold cutL at hf
  obtain ⟨g, _, rfl⟩ := List.mem_map.1 hf
  unfold cutF
  simp; omega
end Go.Dm
