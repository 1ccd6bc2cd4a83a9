/-
  First lines: the document's, as the program's; written, and read again.
-/
import Derived.Test.YtmdocoobecckdaaGreatDoorT14P
import Derived.Test.YtmdocoobecckdaaGreatDoorT10T
namespace Go.Dm
theorem tw_app {p : UInt8 → Bool} {c : UInt8} (hc : p c = false) : ∀ {m : Str} (r : Str), m.all p = true → (m ++ c :: r).takeWhile p = m ∧ (m ++ c :: r).dropWhile p = c :: r
  | [], r, _ => by simp [hc]
  | x :: m, r, h => by
    simp only [List.all_cons, Bool.and_eq_true] at h
    have ih := tw_app hc r h.2
    constructor
    · rw [List.cons_append, List.takeWhile_cons, if_pos h.1, ih.1]
    · rw [List.cons_append, List.dropWhile_cons, if_pos h.1, ih.2]
theorem no32_all {t : Str} (h : (32 : UInt8) ∉ t) : t.all (fun b => !(b == 32)) = true :=
  List.all_eq_true.2 fun x hx => by
    have : x ≠ 32 := fun e => h (by rw [← e]; exact hx)
    simp [this]
theorem isTok_iff (m : Str) : isTok m = true ↔ m ≠ [] ∧ m.all cTok = true := by
  unfold isTok
  cases m <;> simp
end Go.Dm
