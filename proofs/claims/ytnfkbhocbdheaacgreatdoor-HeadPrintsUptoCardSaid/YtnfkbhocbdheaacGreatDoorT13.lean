/-
  Rows of fields: the program's bag, and the document's. No program in sight.
-/
import Derived.Test.YtnfkbhocbdheaacGreatDoorT05
import Derived.Test.YtnfkbhocbdheaacGreatDoorTFold
import Derived.Test.YtnfkbhocbdheaacGreatDoorLibEq
namespace Go.Dm
def isN (nm : Str) (f : api_Field) : Bool := low f.Name == low nm
/-- Names and values that are not too long. -/
def smallF (m : Nat) (l : List api_Field) : Prop := ∀ f ∈ l, f.Name.length < m ∧ f.Value.length < m
theorem clone_eq (l : List api_Field) (h : l.length < 1000000000) : slices_Clone_gapi_Field_api_Field_ l = some l := by
  unfold slices_Clone_gapi_Field_api_Field_
  rw [if_pos (fits_ok (by omega) (by omega))]
theorem same_loop {α : Type} [BEq α] [LawfulBEq α] (a b : List α) (L : Nat → Int → Option Bool) (hl : a.length = b.length) (ha : a.length < 1000000000)
    (hE : ∀ n, L (n + 1) (a.length : Int) = some true) (hL : ∀ n (i : Nat) x y, i < a.length → a[i]? = some x → b[i]? = some y → L (n + 1) (i : Int) = if (x == y) = true then L n ((i + 1 : Nat) : Int) else some false) : L fuel 0 = some (a == b) := by
  have key : ∀ (n i : Nat), i ≤ a.length → a.length - i < n → L n (i : Int) = some (a.drop i == b.drop i) := by
    intro n
    induction n with
    | zero => intro i _ h; omega
    | succ n ih =>
      intro i hi h
      by_cases hlt : i < a.length
      · have g1 : a[i]? = some a[i] := List.getElem?_eq_getElem hlt
        have g2 : b[i]? = some (b[i]'(by omega)) := List.getElem?_eq_getElem (by omega)
        rw [hL n i _ _ hlt g1 g2, ih (i + 1) (by omega) (by omega), List.drop_eq_getElem_cons hlt, List.drop_eq_getElem_cons (show i < b.length by omega), List.cons_beq_cons]
        cases a[i] == b[i]'(by omega) <;> rfl
      · have : i = a.length := by omega
        subst this
        rw [hE, List.drop_length, List.drop_of_length_le (by omega)]
        rfl
  have := key fuel 0 (Nat.zero_le _) (by unfold fuel; omega)
  rw [List.drop_zero, List.drop_zero] at this
  exact this
theorem ref12_Same_eq (a b : List api_Field) (ha : a.length < 1000000000) : ref12_Same a b = some (a == b) := by
  unfold ref12_Same
  by_cases hl : a.length = b.length
  · rw [hl, beq_self_eq_true, Bool.not_true, if_neg (by decide)]
    refine same_loop a b (ref12_Same_L1 a b) hl ha (fun n => ?_) (fun n i x y hi hx hy => ?_)
    · rw [ref12_Same_L1, decide_eq_false (by omega), if_neg (by decide)]
    · rw [ref12_Same_L1, decide_eq_true (by omega), if_pos rfl, lAt_nat, hx, Option.bind_some, lAt_nat, hy, Option.bind_some, iAdd_one (by omega), Option.bind_some]
      cases x == y <;> rfl
  · have : (((a.length : Int) == (b.length : Int))) = false := beq_eq_false_iff_ne.2 (by omega)
    have h2 : (a == b) = false := beq_eq_false_iff_ne.2 (fun e => hl (by rw [e]))
    rw [this, h2]; rfl
theorem smallF_mono {m n : Nat} (h : m ≤ n) {l : List api_Field} (hs : smallF m l) : smallF n l := fun f hf => by have := hs f hf; omega
end Go.Dm
