/-
  Targets: the program's.
-/
import Derived.Test.YtnfkbhocbdheaacGreatDoorT09
import Derived.Test.YtnfkbhocbdheaacGreatDoorT08P
import Derived.Test.YtnfkbhocbdheaacGreatDoorTFold
namespace Go.Dm
def zeroT : api_Target := ⟨0, [], ⟨0, [], 0⟩, [], [], false⟩
/-- What stands behind an origin. -/
def tailT (t : api_Target) (s : Str) : api_Target × Bool :=
  if s = [] then (t, true) else
    (⟨t.Kind, t.Scheme, t.Host, if s.head? == some 63 then [] else (cutQ s).1, (cutQ (if s.head? == some 63 then 47 :: s else s)).2.1, (cutQ (if s.head? == some 63 then 47 :: s else s)).2.2.1⟩, (cutQ (if s.head? == some 63 then 47 :: s else s)).2.2.2 == 0)
theorem target_tail_eq (t : api_Target) (s : Str) (hs : s.length < 900000000) : target_tail t s = some (tailT t s) := by
  unfold target_tail tailT
  cases s with
  | nil => rfl
  | cons c r =>
    have h1 : ((c :: r == ([] : Str))) = false := rfl
    rw [h1, if_neg (by decide), if_neg (by simp), show (0 : Int) = ((0 : Nat) : Int) from rfl, sAt_nat, List.getElem?_cons_zero, Option.bind_some, List.head?_cons, Option.some_beq_some]
    unfold target_tail_j1 target_tail_j2
    simp only [List.length_cons] at hs
    cases hc : c == 63 with
    | true =>
      rw [if_pos rfl, if_pos rfl, sCat_ok (by simp only [List.length_cons, List.length_nil]; omega), Option.bind_some, show ([47] : Str) ++ c :: r = 47 :: c :: r from rfl, pathq_Cut_eq _ (by simp only [List.length_cons]; omega), Option.bind_some]
      rfl
    | false =>
      rw [if_neg (by decide), if_neg (by decide), pathq_Cut_eq _ (by simp only [List.length_cons]; omega), Option.bind_some, if_neg (by decide)]
      rfl
def httpS : Str := [104, 116, 116, 112]
def httpsS : Str := [104, 116, 116, 112, 115]
def absT (s : Str) : api_Target × Bool := match cutAt [58, 47, 47] s with
  | none => (⟨2, low s, ⟨0, [], 0⟩, [], [], false⟩, false)
  | some p => if low p.1 == httpS || low p.1 == httpsS then
      (if (hostP (upto [47, 63] p.2)).2 == 0 then tailT ⟨2, low p.1, (hostP (upto [47, 63] p.2)).1, [], [], false⟩ (from_ [47, 63] p.2) else (⟨2, low p.1, ⟨0, [], 0⟩, [], [], false⟩, false))
    else (⟨2, low p.1, ⟨0, [], 0⟩, [], [], false⟩, false)
theorem absolute_j2_eq (a b c : Str) (q : Bool) (hb : b.length < 300000000) : target_absolute_j2 (a, b, q) c ((upto [47, 63] b).length : Int) = some (if (hostP (upto [47, 63] b)).2 == 0 then tailT ⟨2, c, (hostP (upto [47, 63] b)).1, [], [], false⟩ (from_ [47, 63] b) else (⟨2, c, ⟨0, [], 0⟩, [], [], false⟩, false)) := by
  unfold target_absolute_j2
  have hu := upto_le [47, 63] b
  have hf : (from_ [47, 63] b).length ≤ b.length := by
    have := congrArg List.length (upto_from [47, 63] b); rw [List.length_append] at this; omega
  dsimp only
  rw [sTo_nat hu, Option.bind_some, take_upto, hostport_Parse_eq _ (by omega), Option.bind_some, sFrom_nat hu, Option.bind_some, drop_upto, target_tail_eq _ _ (by omega), Option.bind_some]
  cases (hostP (upto [47, 63] b)).2 == 0 <;> rfl
theorem target_absolute_eq (s : Str) (hs : s.length < 300000000) : target_absolute s = some (absT s) := by
  unfold target_absolute absT
  rw [strings_Cut_eq s _ (by omega) (by simp), Option.bind_some]
  cases hc : cutAt [58, 47, 47] s with
  | none =>
    dsimp only
    rw [octet_Fold_eq s (by omega), Option.bind_some]
    rfl
  | some p =>
    have e := congrArg List.length (cutAt_some (a := p.1) (b := p.2) hc)
    simp only [List.length_append, List.length_cons, List.length_nil] at e
    have hu := upto_le [47, 63] p.2
    dsimp only
    rw [octet_Fold_eq p.1 (by omega), Option.bind_some]
    have hj : target_absolute_j1 (p.1, p.2, true) (low p.1) false = some (if (hostP (upto [47, 63] p.2)).2 == 0 then tailT ⟨2, low p.1, (hostP (upto [47, 63] p.2)).1, [], [], false⟩ (from_ [47, 63] p.2) else (⟨2, low p.1, ⟨0, [], 0⟩, [], [], false⟩, false)) := by
      unfold target_absolute_j1
      rw [if_neg (by decide)]
      dsimp only
      rw [strings_IndexAny_eq p.2 [47, 63] (by omega) (by decide) (by decide), Option.bind_some]
      have hj2 := absolute_j2_eq p.1 p.2 (low p.1) true (by omega)
      by_cases h0 : from_ [47, 63] p.2 = []
      · rw [if_pos h0, decide_eq_true (by omega), if_pos rfl]
        rw [(from_nil_iff _ _).1 h0] at hj2
        exact hj2
      · rw [if_neg h0, decide_eq_false (by omega), if_neg (by decide)]
        exact hj2
    have hj0 : target_absolute_j1 (p.1, p.2, true) (low p.1) true = some (⟨2, low p.1, ⟨0, [], 0⟩, [], [], false⟩, false) := rfl
    rw [hj, hj0, if_neg (by decide)]
    show (if (!(low p.1 == httpS)) = true then target_absolute_j1 (p.1, p.2, true) (low p.1) (!(low p.1 == httpsS)) else _) = _
    cases low p.1 == httpS with
    | true => rfl
    | false =>
      cases low p.1 == httpsS with
      | true => rw [Bool.not_false, if_pos rfl, Bool.not_true, hj]; rfl
      | false => rw [Bool.not_false, if_pos rfl, hj0]; rfl
def optionsS : Str := [79, 80, 84, 73, 79, 78, 83]
def connectS : Str := [67, 79, 78, 78, 69, 67, 84]
def ofT (m s : Str) : api_Target × Bool := if s == [42] then (⟨4, [], ⟨0, [], 0⟩, [], [], false⟩, m == optionsS) else if ([47] : Str).isPrefixOf s then tailT ⟨1, [], ⟨0, [], 0⟩, [], [], false⟩ s else absT s
theorem target_of_eq (m s : Str) (hs : s.length < 300000000) : target_of m s = some (ofT m s) := by
  unfold target_of ofT
  rw [strings_HasPrefix_eq s [47] (by omega), Option.bind_some, target_absolute_eq s hs, Option.bind_some, target_tail_eq _ s (by omega), Option.bind_some]
  cases s == [42] <;> cases ([47] : Str).isPrefixOf s <;> rfl
def parseT (m s : Str) : api_Target × Int :=
  if m == connectS then (if (hostP s).2 == 0 && !decide ((hostP s).1.Port < 0) then (⟨3, [], (hostP s).1, [], [], false⟩, 0) else (zeroT, 20))
  else if (ofT m s).2 then ((ofT m s).1, 0) else (zeroT, 20)
theorem target_Parse_eq (m s : Str) (hs : s.length < 300000000) : target_Parse m s = some (parseT m s) := by
  unfold target_Parse parseT target_Parse_j1
  rw [hostport_Parse_eq s (by omega), Option.bind_some, target_of_eq m s hs, Option.bind_some]
  show (if (m == connectS) = true then _ else _) = _
  cases m == connectS <;> cases (hostP s).2 == 0 <;> cases decide ((hostP s).1.Port < 0) <;> cases (ofT m s).2 <;> rfl
end Go.Dm
