/-
  Hosts and ports: read and written: the program's, and the document's.
-/
import Derived.Test.YtnfkbhocbdheaacGreatDoorT08H
namespace Go.Dm
def inner (s : Str) : Str := (s.take (s.length - 1)).drop 1
def bracket (s : Str) : Bool := decide (2 < s.length) && s[0]? == some 91 && s[s.length - 1]? == some 93 && sixOk (inner s)
/-- A host's kind, and its name. -/
def hostK (s : Str) : Int × Str := if bracket s then (3, inner s) else if fourOk s then (2, s) else if nameOk s then (1, s) else (0, s)
theorem beq_some (x y : UInt8) : ((some x : Option UInt8) == some y) = (x == y) := Option.some_beq_some ..
theorem inner_len (s : Str) : (inner s).length ≤ s.length := by unfold inner; simp; omega
theorem host_brackets {β : Type} (s : Str) (hs : s.length < 400000000) (f : Str → Option Bool) (hf : ∀ t, t.length < 400000000 → f t = some (sixOk t)) (J : Bool → Option β) :
    (if (decide (2 < (s.length : Int))) then ((sAt s 0).bind fun b6 => if (b6 == 91) then ((iSub (s.length : Int) 1).bind fun i8 => (sAt s i8).bind fun b9 => if (b9 == 93) then ((iSub (s.length : Int) 1).bind fun i11 => (sSub s 1 i11).bind fun s12 => (f s12).bind fun r13 => J r13) else J false) else J false) else J false) = J (bracket s) := by
  unfold bracket
  by_cases h : 2 < s.length
  · have e : decide (2 < (s.length : Int)) = true := decide_eq_true (by omega)
    have e' : decide (2 < s.length) = true := decide_eq_true h
    have g0 : s[0]? = some s[0] := List.getElem?_eq_getElem (by omega)
    have g1 : s[s.length - 1]? = some s[s.length - 1] := List.getElem?_eq_getElem (by omega)
    have i1 : iSub (s.length : Int) 1 = some ((s.length - 1 : Nat) : Int) := by rw [iSub_ok (by omega) (by omega)]; congr 1; omega
    have s1 : sSub s 1 ((s.length - 1 : Nat) : Int) = some (inner s) := sSub_nat (i := 1) (by omega) (by omega)
    have := inner_len s
    rw [e, e', if_pos rfl, show (0 : Int) = ((0 : Nat) : Int) from rfl, sAt_nat, g0, Option.bind_some, i1, Option.bind_some, sAt_nat, g1, Option.bind_some, Option.bind_some, s1, Option.bind_some, hf _ (by omega), Option.bind_some, beq_some, beq_some]
    cases s[0] == 91 <;> cases s[s.length - 1] == 93 <;> rfl
  · rw [decide_eq_false (show ¬ (2 < (s.length : Int)) by omega), decide_eq_false h]; rfl
theorem hostport_of_eq (s : Str) (hs : s.length < 400000000) : hostport_of s = some (⟨(hostK s).1, (hostK s).2, -1⟩, !((hostK s).1 == 0)) := by
  unfold hostport_of
  rw [host_brackets s hs hostport_Six (fun t ht => Six_eq t (by omega)) (hostport_of_j1 s)]
  unfold hostport_of_j1 hostport_of_j2 hostK
  cases hb : bracket s with
  | true =>
    have h : 2 < s.length := by unfold bracket at hb; simp at hb; exact hb.1.1.1
    have i1 : iSub (s.length : Int) 1 = some ((s.length - 1 : Nat) : Int) := by rw [iSub_ok (by omega) (by omega)]; congr 1; omega
    have s1 : sSub s 1 ((s.length - 1 : Nat) : Int) = some (inner s) := sSub_nat (i := 1) (by omega) (by omega)
    rw [if_pos rfl, i1, Option.bind_some, s1, Option.bind_some, if_pos rfl]
  | false =>
    rw [if_neg (by decide), hostport_Four_eq s (by omega), Option.bind_some, hostport_Name_eq s (by omega), Option.bind_some]
    cases fourOk s <;> cases nameOk s <;> rfl
/-- The last place of a byte. -/
def lastI (s : Str) (c : UInt8) : Nat → Option Nat
  | 0 => none
  | k + 1 => if s[k]? = some c then some k else lastI s c k
theorem lastI_lt {s : Str} {c : UInt8} : ∀ {k i : Nat}, lastI s c k = some i → i < k ∧ s[i]? = some c
  | 0, _, h => by cases h
  | k + 1, i, h => by
    rw [lastI] at h
    split at h
    · rename_i h2; cases h; exact ⟨by omega, h2⟩
    · have := lastI_lt h; exact ⟨by omega, this.2⟩
theorem LastIndexByte_eq (s : Str) (c : UInt8) (hs : s.length < 1000000000) : strings_LastIndexByte s c = some (match lastI s c s.length with | none => -1 | some k => (k : Int)) := by
  unfold strings_LastIndexByte bytealg_LastIndexByteString
  have key : ∀ (n k : Nat), k ≤ s.length → k < n → bytealg_LastIndexByteString_L1 s c n ((k : Int) - 1) = some (match lastI s c k with | none => -1 | some j => (j : Int)) := by
    intro n
    induction n with
    | zero => intro k _ h; omega
    | succ n ih =>
      intro k hk h
      rw [bytealg_LastIndexByteString_L1]
      cases k with
      | zero => rw [decide_eq_false (by omega)]; rfl
      | succ k =>
        have e1 : ((k + 1 : Nat) : Int) - 1 = (k : Int) := by omega
        have g : s[k]? = some s[k] := List.getElem?_eq_getElem (by omega)
        rw [e1, decide_eq_true (show (0 : Int) ≤ (k : Int) by omega), if_pos rfl, sAt_nat, g, Option.bind_some, iSub_ok (by omega) (by omega), Option.bind_some, ih k (by omega) (by omega), lastI, g]
        by_cases hc : s[k] = c
        · have : (s[k] == c) = true := by simp [hc]
          rw [this, if_pos rfl, if_pos (by rw [hc])]
        · have : (s[k] == c) = false := beq_eq_false_iff_ne.2 hc
          rw [this, if_neg (by decide), if_neg (by simpa using hc)]
  rw [iSub_ok (by omega) (by omega), Option.bind_some, key fuel s.length (Nat.le_refl _) (by unfold fuel; omega), Option.bind_some]
/-- A host, and a port. -/
def hostP (s : Str) : api_Host × Int :=
  if !((hostK s).1 == 0) then (⟨(hostK s).1, (hostK s).2, -1⟩, 0) else match lastI s 58 s.length with
  | none => (⟨0, [], 0⟩, 27)
  | some k => if !((hostK (s.take k)).1 == 0) && smallOk (s.drop (k + 1)) 65535 then (⟨(hostK (s.take k)).1, (hostK (s.take k)).2, (readN 10 (s.drop (k + 1)) 65535).1⟩, 0) else (⟨0, [], 0⟩, 27)
theorem hostport_Parse_eq (s : Str) (hs : s.length < 400000000) : hostport_Parse s = some (hostP s) := by
  unfold hostport_Parse hostP
  rw [hostport_of_eq s hs, Option.bind_some]
  cases !((hostK s).1 == 0) with
  | true => rfl
  | false =>
    show (if false = true then _ else _) = some (if false = true then _ else _)
    rw [if_neg (by decide), if_neg (by decide), LastIndexByte_eq s 58 (by omega), Option.bind_some]
    cases hl : lastI s 58 s.length with
    | none => rfl
    | some k =>
      have hk := (lastI_lt hl).1
      show (if decide ((k : Int) < 0) = true then _ else _) = _
      rw [decide_eq_false (show ¬ ((k : Int) < 0) by omega), if_neg (by decide), sTo_nat (by omega), Option.bind_some, hostport_of_eq _ (by simp; omega), Option.bind_some]
      unfold hostport_Parse_j1
      rw [iAdd_one (by omega), Option.bind_some, sFrom_nat (by omega), Option.bind_some, Option.bind_some, sFrom_nat (by omega), Option.bind_some, hostport_small_eq _ _ (by simp; omega) (by decide) (by decide), Option.bind_some, numeral_Decimal_eq _ _ (by simp; omega) (by decide) (by decide), Option.bind_some]
      dsimp only
      cases (hostK (s.take k)).1 == 0 <;> cases smallOk (s.drop (k + 1)) 65535 <;> rfl
end Go.Dm
