/-
  The scanner at a place: what is left behind each step. No program in sight.
-/
import Derived.Test.YtnfkbhocbdheaacGreatDoorTScan
import Derived.Test.YtnfkbhocbdheaacGreatDoorT01
namespace Go.Dm
/-- At a place of a text: what is left. -/
structure At (s : Str) (k : Nat) (r : Str) : Prop where
  le : k ≤ s.length
  drop : s.drop k = r
theorem At.zero (s : Str) : At s 0 s := ⟨Nat.zero_le _, rfl⟩
theorem At.len {s : Str} {k : Nat} {r : Str} (h : At s k r) : k + r.length = s.length := by
  have := congrArg List.length h.drop
  rw [List.length_drop] at this
  have := h.le
  omega
theorem At.le_len {s : Str} {k : Nat} {r : Str} (h : At s k r) : r.length ≤ s.length := by have := h.len; omega
theorem At.next {s : Str} {k : Nat} {r : Str} (h : At s k r) (n : Nat) (hn : n ≤ r.length) : At s (k + n) (r.drop n) :=
  ⟨by have := h.len; omega, by rw [← List.drop_drop, h.drop]⟩
def peekR : Str → UInt8 × Bool
  | [] => (0, false)
  | x :: _ => (x, true)
def byteB (b : UInt8) (r : Str) : Bool := r.head? == some b
def byteR (b : UInt8) (r : Str) : Str := if byteB b r then r.drop 1 else r
theorem byteB_cons (b x : UInt8) (r : Str) : byteB b (x :: r) = (x == b) := Option.some_beq_some ..
theorem byteR_cons (b : UInt8) (r : Str) : byteR b (b :: r) = r := by unfold byteR; rw [byteB_cons, beq_self_eq_true, if_pos rfl]; rfl
theorem byteB_true {b : UInt8} {r : Str} (h : byteB b r = true) : r = b :: byteR b r := by
  cases r with
  | nil => cases h
  | cons x r =>
    rw [byteB_cons] at h
    have : x = b := by simpa using h
    subst this
    rw [byteR_cons]
section
variable {s r : Str} {k : Nat}
theorem at_end (h : At s k r) : scan_Scanner_End (scn s k) = some (r == []) := by rw [scan_End_eq h.le, h.drop]
theorem at_rest (h : At s k r) : scan_Scanner_Rest (scn s k) = some r := by rw [scan_Rest_eq h.le, h.drop]
theorem at_peek (h : At s k r) : scan_Scanner_Peek (scn s k) = some (peekR r) := by
  cases r with
  | nil => exact scan_Peek_nil h.le h.drop
  | cons x r => exact scan_Peek_cons h.le h.drop
theorem at_byte (hs : s.length < 1000000000) (b : UInt8) (h : At s k r) : ∃ k', At s k' (byteR b r) ∧ scan_Scanner_Byte (scn s k) b = some (byteB b r, scn s k') := by
  cases r with
  | nil => exact ⟨k, h, scan_Byte_nil b h.le h.drop⟩
  | cons x r =>
    rw [scan_Byte_cons b h.le hs h.drop, byteB_cons]
    unfold byteR
    rw [byteB_cons]
    cases x == b with
    | true => exact ⟨k + 1, h.next 1 (by simp), rfl⟩
    | false => exact ⟨k, h, rfl⟩
theorem at_while {f : UInt8 → Option Bool} {p : UInt8 → Bool} (hf : ∀ b, f b = some (p b)) (hs : s.length < 1000000000) (h : At s k r) : ∃ k', At s k' (r.dropWhile p) ∧ scan_Scanner_While (scn s k) f = some (r.takeWhile p, scn s k') := by
  have e := scan_While_eq hf hs h.le
  rw [h.drop] at e
  have hd := scan_drop p s k h.le
  rw [h.drop] at hd
  exact ⟨_, ⟨hd.2, hd.1⟩, e⟩
theorem at_token (hs : s.length < 1000000000) (h : At s k r) : ∃ k', At s k' (r.dropWhile cTok) ∧ scan_Scanner_Token (scn s k) = some (r.takeWhile cTok, !(r.takeWhile cTok == []), scn s k') := by
  obtain ⟨k', h1, h2⟩ := at_while octet_IsToken_eq hs h
  refine ⟨k', h1, ?_⟩
  unfold scan_Scanner_Token
  rw [h2]; rfl
theorem at_text (hs : s.length < 1000000000) (t : Str) (ht : t.length < 1000000000) (h : At s k r) : ∃ k', At s k' (if t.isPrefixOf r then r.drop t.length else r) ∧ scan_Scanner_Text (scn s k) t = some (t.isPrefixOf r, scn s k') := by
  unfold scan_Scanner_Text
  have := h.le_len
  rw [at_rest h, Option.bind_some, strings_HasPrefix_eq r t (by omega), Option.bind_some]
  cases hp : t.isPrefixOf r with
  | false => exact ⟨k, h, rfl⟩
  | true =>
    have hl := (List.isPrefixOf_iff_prefix.1 hp).length_le
    have hk := h.len
    rw [if_pos rfl]
    show ∃ k', At s k' (r.drop t.length) ∧ ((iAdd (k : Int) (t.length : Int)).bind fun i9 => some (true, (⟨s, i9⟩ : scan_Scanner))) = _
    rw [iAdd_ok (by omega) (by omega), Option.bind_some]
    exact ⟨k + t.length, h.next _ hl, by unfold scn; simp⟩
end
end Go.Dm
