/-
  Rows of fields: the program's bag, and the document's. No program in sight.
-/
import Derived.Test.YtmdocoobecckdaaGreatDoorT05
import Derived.Test.YtmdocoobecckdaaGreatDoorTFold
import Derived.Test.YtmdocoobecckdaaGreatDoorLibEq
namespace Go.Dm
theorem same_loop {α : Type} [BEq α] [LawfulBEq α] (a b : List α) (L : Nat → Int → Option Bool) (hl : a.length = b.length) (ha : a.length < 1000000000)
    (hE : ∀ n, L (n + 1) (a.length : Int) = some true) (hL : ∀ n (i : Nat) x y, i < a.length → a[i]? = some x → b[i]? = some y → L (n + 1) (i : Int) = if (x == y) = true then L n ((i + 1 : Nat) : Int) else some false) : L fuel 0 = some (a == b) := by
  have key : ∀ (n i : Nat), i ≤ a.length → a.length - i < n → L n (i : Int) = some (a.drop i == b.drop i) := by
    intro n
    induction n with
    | zero => intro i _ h; omega
    | succ n ih =>
      intro i hi h
      by_cases hlt : i < a.length
      · have g1 : a[i]? = some a[i] := List.getElem?_eq_getElem hlt
        have g2 : b[i]? = some (b[i]'(by omega)) := List.getElem?_eq_getElem (by omega)
        rw [hL n i _ _ hlt g1 g2, ih (i + 1) (by omega) (by omega), List.drop_eq_getElem_cons hlt, List.drop_eq_getElem_cons (show i < b.length by omega), List.cons_beq_cons]
        cases a[i] == b[i]'(by omega) <;> rfl
      · have : i = a.length := by omega
        subst this
        rw [hE, List.drop_length, List.drop_of_length_le (by omega)]
        rfl
  have := key fuel 0 (Nat.zero_le _) (by unfold fuel; omega)
  rw [List.drop_zero, List.drop_zero] at this
  exact this
end Go.Dm
