/-
  The scanner: what its models come to. No program in sight.
-/
import Derived.Test.YtnfkbhocbdheaacGreatDoorTLib
namespace Go.Dm
def scn (s : Str) (k : Nat) : scan_Scanner := ⟨s, (k : Int)⟩
theorem scan_New_eq (s : Str) : scan_New s = some (scn s 0) := rfl
theorem scan_At_eq (s : Str) (k : Nat) : scan_Scanner_At (scn s k) = some (k : Int) := rfl
theorem scan_Rest_eq {s : Str} {k : Nat} (h : k ≤ s.length) : scan_Scanner_Rest (scn s k) = some (s.drop k) := by
  unfold scan_Scanner_Rest scn
  rw [sFrom_nat h]; rfl
theorem scan_End_eq {s : Str} {k : Nat} (h : k ≤ s.length) : scan_Scanner_End (scn s k) = some (s.drop k == []) := by
  unfold scan_Scanner_End
  rw [scan_Rest_eq h]; rfl
theorem scan_Peek_nil {s : Str} {k : Nat} (h : k ≤ s.length) (hd : s.drop k = []) : scan_Scanner_Peek (scn s k) = some (0, false) := by
  unfold scan_Scanner_Peek
  rw [scan_End_eq h, hd]; rfl
theorem scan_Peek_cons {s : Str} {k : Nat} {x : UInt8} {r : Str} (h : k ≤ s.length) (hd : s.drop k = x :: r) : scan_Scanner_Peek (scn s k) = some (x, true) := by
  unfold scan_Scanner_Peek
  rw [scan_End_eq h, hd]
  have hx : s[k]? = some x := by
    have := congrArg (·[0]?) hd
    simpa using this
  simp [scn, hx]
theorem scan_Byte_nil {s : Str} {k : Nat} (b : UInt8) (h : k ≤ s.length) (hd : s.drop k = []) : scan_Scanner_Byte (scn s k) b = some (false, scn s k) := by
  unfold scan_Scanner_Byte
  rw [scan_Peek_nil h hd]; rfl
theorem scan_Byte_cons {s : Str} {k : Nat} {x : UInt8} {r : Str} (b : UInt8) (h : k ≤ s.length) (hs : s.length < 1000000000) (hd : s.drop k = x :: r) : scan_Scanner_Byte (scn s k) b = some (x == b, if x == b then scn s (k + 1) else scn s k) := by
  unfold scan_Scanner_Byte
  rw [scan_Peek_cons h hd]
  simp only [Option.bind_some, Bool.not_true, Bool.false_eq_true, if_false, scan_Scanner_Byte_j1]
  rcases bcase (x == b) with hb | hb
  · rw [hb]; simp [scn, iAdd_one (show k < 4611686018427387904 by omega)]
  · rw [hb]; simp
theorem drop_cons_lt {s : Str} {k : Nat} {x : UInt8} {r : Str} (hd : s.drop k = x :: r) : k < s.length ∧ s.drop (k + 1) = r := by
  have hl : k < s.length := by
    rcases Nat.lt_or_ge k s.length with h | h
    · exact h
    · rw [List.drop_eq_nil_of_le h] at hd; cases hd
  refine ⟨hl, ?_⟩
  rw [List.drop_eq_getElem_cons hl] at hd
  exact (List.cons.inj hd).2
theorem scan_While_eq {f : UInt8 → Option Bool} {p : UInt8 → Bool} (hf : ∀ b, f b = some (p b)) {s : Str} {k : Nat} (hs : s.length < 1000000000) (hk : k ≤ s.length) :
    scan_Scanner_While (scn s k) f = some ((s.drop k).takeWhile p, scn s (k + ((s.drop k).takeWhile p).length)) := by
  unfold scan_Scanner_While
  rw [scan_At_eq, Option.bind_some]
  show scan_Scanner_While_L1 f k fuel s k = _
  have key : ∀ (n i : Nat), k ≤ i → i ≤ s.length → s.length - i < n → scan_Scanner_While_L1 f k n s i = some ((s.take (i + ((s.drop i).takeWhile p).length)).drop k, scn s (i + ((s.drop i).takeWhile p).length)) := by
    intro n
    induction n with
    | zero => intro i _ _ h; omega
    | succ n ih =>
      intro i hki hi h
      rw [scan_Scanner_While_L1]
      have e : (⟨s, (i : Int)⟩ : scan_Scanner) = scn s i := rfl
      rw [e]
      cases hd : s.drop i with
      | nil =>
        rw [scan_Peek_nil hi hd]
        simp [scan_Scanner_While_j2, scan_Scanner_While_j3, sSub_nat hki hi, scn]
      | cons x r =>
        obtain ⟨hlt, hr⟩ := drop_cons_lt hd
        rw [scan_Peek_cons hi hd]
        simp only [Option.bind_some, Bool.not_true, Bool.false_eq_true, if_false, hf, scan_Scanner_While_j2, iAdd_one (show i < 4611686018427387904 by omega), ih (i + 1) (by omega) (by omega) (by omega), hr, List.takeWhile_cons]
        rcases bcase (p x) with hp | hp
        · rw [hp]; simp [Nat.add_assoc, Nat.add_comm 1]
        · rw [hp]; simp [scan_Scanner_While_j3, sSub_nat hki hi, scn]
  rw [key fuel k (Nat.le_refl _) hk (by unfold fuel; omega)]
  congr 2
  rw [List.drop_take, Nat.add_sub_cancel_left]
  have := List.takeWhile_prefix (l := s.drop k) p
  exact (List.prefix_iff_eq_take.1 this).symm
theorem takeWhile_le (p : UInt8 → Bool) (s : Str) : (s.takeWhile p).length ≤ s.length := (List.takeWhile_prefix p).length_le
theorem scan_drop (p : UInt8 → Bool) (s : Str) (k : Nat) (hk : k ≤ s.length) : s.drop (k + ((s.drop k).takeWhile p).length) = (s.drop k).dropWhile p ∧ k + ((s.drop k).takeWhile p).length ≤ s.length := by
  refine ⟨?_, ?_⟩
  · rw [← List.drop_drop]
    generalize s.drop k = t
    have h := List.takeWhile_append_dropWhile (p := p) (l := t)
    conv => lhs; arg 2; rw [← h]
    exact List.drop_left
  · have := takeWhile_le p (s.drop k)
    rw [List.length_drop] at this; omega
end Go.Dm
