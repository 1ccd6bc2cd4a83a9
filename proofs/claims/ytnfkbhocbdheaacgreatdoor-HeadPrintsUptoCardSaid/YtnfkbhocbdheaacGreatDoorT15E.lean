/-
  Two heads are the same just if all that they have is.
-/
import Derived.Test.YtnfkbhocbdheaacGreatDoorT13
namespace Go.Dm
def sameH (a b : api_Head) : Bool := a.Kind == b.Kind && a.Method == b.Method && a.Target == b.Target && a.Minor == b.Minor && a.Code == b.Code && a.Reason == b.Reason && a.Fields == b.Fields
theorem sameH_self (a : api_Head) : sameH a a = true := by unfold sameH; simp
theorem ref15_Same_eq (a b : api_Head) (ha : a.Fields.length < 1000000000) : ref15_Same a b = some (sameH a b) := by
  unfold ref15_Same ref15_Same_j1 ref14_Same ref14_Same_j1 sameH
  rw [ref12_Same_eq _ _ ha, Option.bind_some]
  cases a.Kind == b.Kind <;> cases a.Method == b.Method <;> cases a.Target == b.Target <;> cases a.Minor == b.Minor <;> cases a.Code == b.Code <;> cases a.Reason == b.Reason <;> rfl
theorem law15_awake_eq : law15_awake = some true := by decide +kernel
end Go.Dm
