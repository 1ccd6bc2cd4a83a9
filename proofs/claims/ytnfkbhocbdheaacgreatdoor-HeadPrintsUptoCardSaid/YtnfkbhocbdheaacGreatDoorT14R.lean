/-
  First lines: the document's, as the program's; written, and read again.
-/
import Derived.Test.YtnfkbhocbdheaacGreatDoorT14P
import Derived.Test.YtnfkbhocbdheaacGreatDoorT10T
namespace Go.Dm
theorem dig_one (c : UInt8) : (!cDigit c || ((((c - 48).toNat : Int) == 1) == (c == 49))) = true := all_bytes (fun c => !cDigit c || ((((c - 48).toNat : Int) == 1) == (c == 49))) (by decide +kernel) c
theorem verR_lit (a b : UInt8) (t : Str) (ha : cDigit a = true) (hb : cDigit b = true) : verR (httpP ++ a :: 46 :: b :: t) = (((a - 48).toNat : Int), ((b - 48).toNat : Int), true, t) := by
  unfold verR
  have hp : httpP.isPrefixOf (httpP ++ a :: 46 :: b :: t) = true := List.isPrefixOf_iff_prefix.2 ⟨_, rfl⟩
  have hd : (httpP ++ a :: 46 :: b :: t).drop 5 = a :: 46 :: b :: t := rfl
  rw [if_pos hp, hd]
  have e1 : digV (a :: 46 :: b :: t) = (((a - 48).toNat : Int), true, 46 :: b :: t) := by unfold digV; dsimp only; rw [if_pos ha]
  have e2 : digV (b :: t) = (((b - 48).toNat : Int), true, t) := by unfold digV; dsimp only; rw [if_pos hb]
  rw [e1]
  dsimp only
  rw [byteR_cons, byteB_cons, e2]
  rfl
theorem tw_app {p : UInt8 → Bool} {c : UInt8} (hc : p c = false) : ∀ {m : Str} (r : Str), m.all p = true → (m ++ c :: r).takeWhile p = m ∧ (m ++ c :: r).dropWhile p = c :: r
  | [], r, _ => by simp [hc]
  | x :: m, r, h => by
    simp only [List.all_cons, Bool.and_eq_true] at h
    have ih := tw_app hc r h.2
    constructor
    · rw [List.cons_append, List.takeWhile_cons, if_pos h.1, ih.1]
    · rw [List.cons_append, List.dropWhile_cons, if_pos h.1, ih.2]
theorem isTok_iff (m : Str) : isTok m = true ↔ m ≠ [] ∧ m.all cTok = true := by
  unfold isTok
  cases m <;> simp
theorem minR_lit (b : UInt8) (t : Str) (hb : b = 48 ∨ b = 49) : minR (httpP ++ 49 :: 46 :: b :: t) = (((b - 48).toNat : Int), true, t) := by
  unfold minR
  rw [verR_lit 49 b t (by decide) (by rcases hb with h | h <;> subst h <;> decide)]
  rcases hb with h | h <;> subst h <;> rfl
theorem readN_digits {s : Str} {m : Int} (h : (readN 10 s m).2 = 0) : s.all cDigit = true ∧ s ≠ [] := by
  unfold readN at h
  split at h
  · cases h
  · rename_i h2
    simp only [Bool.or_eq_true, Bool.not_eq_true', not_or] at h2
    have h3 : s.all (isDig 10) = true := by simpa using h2.2
    exact ⟨List.all_eq_true.2 fun x hx => (List.all_eq_true.1 h3 x hx : isDig 10 x = true), by simpa using h2.1⟩
theorem sta_scan {b : UInt8} {w r : Str} (hb : b = 48 ∨ b = 49) (hw : w.all cDigit = true) : (minR (httpP ++ 49 :: 46 :: b :: 32 :: (w ++ 32 :: r))) = (((b - 48).toNat : Int), true, 32 :: (w ++ 32 :: r)) ∧ staC (httpP ++ 49 :: 46 :: b :: 32 :: (w ++ 32 :: r)) = w ∧ staR3 (httpP ++ 49 :: 46 :: b :: 32 :: (w ++ 32 :: r)) = 32 :: r := by
  have h1 := minR_lit b (32 :: (w ++ 32 :: r)) hb
  have h2 := tw_app (p := cDigit) (c := 32) (by decide) r hw
  refine ⟨h1, ?_, ?_⟩
  · unfold staC; rw [h1]; dsimp only; rw [byteR_cons, h2.1]
  · unfold staR3; rw [h1]; dsimp only; rw [byteR_cons, h2.2]
theorem staF_parts {s : Str} (h : staF s = true) : ∃ b w r, (b = 48 ∨ b = 49) ∧ s = httpP ++ 49 :: 46 :: b :: 32 :: (w ++ 32 :: r) ∧ w.all cDigit = true ∧ w.length = 3 := by
  unfold staF at h
  simp only [Bool.and_eq_true] at h
  obtain ⟨⟨⟨⟨⟨⟨h1, h2⟩, h3⟩, h4⟩, h5⟩, h6⟩, h7⟩ := h
  unfold minR at h1
  simp only [Bool.and_eq_true, decide_eq_true_eq, beq_iff_eq] at h1
  obtain ⟨⟨a1, a2⟩, a3⟩ := h1
  obtain ⟨a, b, t, e, ha, hb, ev⟩ := verR_ok a1
  rw [ev] at a2 a3
  have hm : (minR s).2.2 = t := by unfold minR; rw [ev]
  rw [hm] at h2
  have ha1 : a = 49 := by
    have := dig_one a
    rw [ha] at this
    have : (((a - 48).toNat : Int) == 1) = (a == 49) := by simpa using this
    rw [show (((a - 48).toNat : Int) == 1) = true from by simpa using a2] at this
    simpa using this.symm
  have hb1 := digit_small hb (by dsimp only at a3; omega)
  have e2 := byteB_true h2
  have e4 := byteB_true h3
  have e5 : staC s ++ staR3 s = byteR 32 t := by
    unfold staC staR3; rw [hm]; exact List.takeWhile_append_dropWhile
  have hl3 : ((staC s).length : Int) = 3 := by simpa using h4
  refine ⟨b, staC s, byteR 32 (staR3 s), hb1, ?_, (readN_digits (by simpa using h5)).1, by omega⟩
  rw [← e4, e5, ← e2, ← ha1, e]
end Go.Dm
