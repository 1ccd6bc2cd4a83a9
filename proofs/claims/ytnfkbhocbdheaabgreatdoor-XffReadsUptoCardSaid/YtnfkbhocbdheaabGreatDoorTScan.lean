/-
  The scanner: what its models come to. No program in sight.
-/
import Derived.Test.YtnfkbhocbdheaabGreatDoorTLib
namespace Go.Dm
def scn (s : Str) (k : Nat) : scan_Scanner := ⟨s, (k : Int)⟩
theorem scan_New_eq (s : Str) : scan_New s = some (scn s 0) := rfl
theorem scan_At_eq (s : Str) (k : Nat) : scan_Scanner_At (scn s k) = some (k : Int) := rfl
theorem scan_Rest_eq {s : Str} {k : Nat} (h : k ≤ s.length) : scan_Scanner_Rest (scn s k) = some (s.drop k) := by
  unfold scan_Scanner_Rest scn
  rw [sFrom_nat h]; rfl
theorem scan_End_eq {s : Str} {k : Nat} (h : k ≤ s.length) : scan_Scanner_End (scn s k) = some (s.drop k == []) := by
  unfold scan_Scanner_End
  rw [scan_Rest_eq h]; rfl
theorem scan_Peek_nil {s : Str} {k : Nat} (h : k ≤ s.length) (hd : s.drop k = []) : scan_Scanner_Peek (scn s k) = some (0, false) := by
  unfold scan_Scanner_Peek
  rw [scan_End_eq h, hd]; rfl
theorem scan_Peek_cons {s : Str} {k : Nat} {x : UInt8} {r : Str} (h : k ≤ s.length) (hd : s.drop k = x :: r) : scan_Scanner_Peek (scn s k) = some (x, true) := by
  unfold scan_Scanner_Peek
  rw [scan_End_eq h, hd]
  have hx : s[k]? = some x := by
    have := congrArg (·[0]?) hd
    simpa using this
  simp [scn, hx]
theorem scan_Byte_nil {s : Str} {k : Nat} (b : UInt8) (h : k ≤ s.length) (hd : s.drop k = []) : scan_Scanner_Byte (scn s k) b = some (false, scn s k) := by
  unfold scan_Scanner_Byte
  rw [scan_Peek_nil h hd]; rfl
theorem scan_Byte_cons {s : Str} {k : Nat} {x : UInt8} {r : Str} (b : UInt8) (h : k ≤ s.length) (hs : s.length < 1000000000) (hd : s.drop k = x :: r) : scan_Scanner_Byte (scn s k) b = some (x == b, if x == b then scn s (k + 1) else scn s k) := by
  unfold scan_Scanner_Byte
  rw [scan_Peek_cons h hd]
  simp only [Option.bind_some, Bool.not_true, Bool.false_eq_true, if_false, scan_Scanner_Byte_j1]
  rcases bcase (x == b) with hb | hb
  · rw [hb]; simp [scn, iAdd_one (show k < 4611686018427387904 by omega)]
  · rw [hb]; simp
theorem drop_cons_lt {s : Str} {k : Nat} {x : UInt8} {r : Str} (hd : s.drop k = x :: r) : k < s.length ∧ s.drop (k + 1) = r := by
  have hl : k < s.length := by
    rcases Nat.lt_or_ge k s.length with h | h
    · exact h
    · rw [List.drop_eq_nil_of_le h] at hd; cases hd
  refine ⟨hl, ?_⟩
  rw [List.drop_eq_getElem_cons hl] at hd
  exact (List.cons.inj hd).2
end Go.Dm
