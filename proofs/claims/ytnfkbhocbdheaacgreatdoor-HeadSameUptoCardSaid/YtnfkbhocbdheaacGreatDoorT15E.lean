/-
  Two heads are the same just if all that they have is.
-/
import Derived.Test.YtnfkbhocbdheaacGreatDoorT13
namespace Go.Dm
theorem slices_Equal_eq (a b : List api_Field) (ha : a.length < 1000000000) : slices_Equal_gapi_Field_api_Field_ a b = some (a == b) := by
  unfold slices_Equal_gapi_Field_api_Field_
  by_cases hl : a.length = b.length
  · rw [hl, beq_self_eq_true, Bool.not_true, if_neg (by decide)]
    refine same_loop a b (slices_Equal_gapi_Field_api_Field__L1 a b) hl ha (fun n => ?_) (fun n i x y hi hx hy => ?_)
    · rw [slices_Equal_gapi_Field_api_Field__L1, decide_eq_false (by omega), if_neg (by decide)]
    · rw [slices_Equal_gapi_Field_api_Field__L1, decide_eq_true (by omega), if_pos rfl, lAt_nat, hx, Option.bind_some, lAt_nat, hy, Option.bind_some, iAdd_one (by omega), Option.bind_some]
      cases x == y <;> rfl
  · have : (((a.length : Int) == (b.length : Int))) = false := beq_eq_false_iff_ne.2 (by omega)
    have h2 : (a == b) = false := beq_eq_false_iff_ne.2 (fun e => hl (by rw [e]))
    rw [this, h2]; rfl
def sameH (a b : api_Head) : Bool := a.Kind == b.Kind && a.Method == b.Method && a.Target == b.Target && a.Minor == b.Minor && a.Code == b.Code && a.Reason == b.Reason && a.Fields == b.Fields
theorem sameH_self (a : api_Head) : sameH a a = true := by unfold sameH; simp
theorem head_Same_eq (a b : api_Head) (ha : a.Fields.length < 1000000000) : head_Same a b = some (sameH a b) := by
  unfold head_Same head_Same_j1 sameH
  rw [slices_Equal_eq _ _ ha, Option.bind_some]
  cases a.Kind == b.Kind <;> cases a.Method == b.Method <;> cases a.Target == b.Target <;> cases a.Minor == b.Minor <;> cases a.Code == b.Code <;> cases a.Reason == b.Reason <;> rfl
theorem ref15_Same_eq (a b : api_Head) (ha : a.Fields.length < 1000000000) : ref15_Same a b = some (sameH a b) := by
  unfold ref15_Same ref15_Same_j1 ref14_Same ref14_Same_j1 sameH
  rw [ref12_Same_eq _ _ ha, Option.bind_some]
  cases a.Kind == b.Kind <;> cases a.Method == b.Method <;> cases a.Target == b.Target <;> cases a.Minor == b.Minor <;> cases a.Code == b.Code <;> cases a.Reason == b.Reason <;> rfl
theorem law15_awake_eq : law15_awake = some true := by decide +kernel
theorem HeadSame_true (a b : api_Head) (_ : inI a.Kind = true) (_ : inI a.Code = true) (_ : inI a.Minor = true) (ha : a.Fields.length < 1000000000) (_ : inI b.Kind = true) (_ : inI b.Code = true) (_ : inI b.Minor = true) (hb : b.Fields.length < 1000000000) : law15_HeadSame a b = some true := by
  unfold law15_HeadSame law15_HeadSame_j1
  rw [law15_awake_eq, Option.bind_some, Bool.not_true, if_neg (by decide), law15_Few_eq a ha, Option.bind_some, law15_Few_eq b hb, Option.bind_some]
  have h1 := cutL_len a.Fields
  rw [head_Same_eq _ _ (by dsimp only; omega), Option.bind_some, ref15_Same_eq _ _ (by dsimp only; omega), Option.bind_some, beq_self_eq_true, if_pos rfl, head_Same_eq _ _ (by dsimp only; omega), Option.bind_some, sameH_self]
end Go.Dm
