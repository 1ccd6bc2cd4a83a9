/-
  Layer 8 (hosts): names, numbers, addresses of four, domains: the program's and the document's come to the same. No program in sight.
-/
import Derived.Test.YtnfkbhocbdheaaaGreatDoorT03
import Derived.Test.YtnfkbhocbdheaaaGreatDoorTLib
import Derived.Test.YtnfkbhocbdheaaaGreatDoorTFold
import Derived.Test.YtnfkbhocbdheaaaGreatDoorTSplit
namespace Go.Dm
/-- Is a text a number up to one, without noughts ahead? -/
def smallOk (s : Str) (most : Int) : Bool := (readN 10 s most).2 == 0 && textN 10 (readN 10 s most).1 == s
theorem readN_in {b : Nat} {s : Str} {most : Int} (h : (readN b s most).2 = 0) (hm : most < 4611686018427387904) : 0 ≤ (readN b s most).1 ∧ (readN b s most).1 ≤ most ∧ inI (readN b s most).1 = true := by
  unfold readN at *
  split at h
  · cases h
  · rename_i h1
    rw [if_neg h1]
    split at h
    · cases h
    · rename_i h2
      rw [if_neg h2]
      refine ⟨by simp only; omega, by simp only; omega, by rw [inI_iff]; simp only; omega⟩
theorem hostport_small_eq (s : Str) (most : Int) (hs : s.length < 1000000000) (hm : most < 4611686018427387904) (hm0 : -4611686018427387904 < most) : hostport_small s most = some (smallOk s most) := by
  unfold hostport_small smallOk
  rw [numeral_Decimal_eq s most hs hm hm0, Option.bind_some]
  by_cases h : (readN 10 s most).2 = 0
  · have hi := (readN_in h hm).2.2
    simp [h, numeral_Text_eq _ hi, hostport_small_j1]
  · simp [h, hostport_small_j1]
def fourOk (s : Str) : Bool := (splitOn 46 s).all (fun x => smallOk x 255) && decide (((splitOn 46 s).length : Int) = 4)
theorem mapM_some {α β : Type} {f : α → Option β} {g : α → β} : ∀ {l : List α}, (∀ x ∈ l, f x = some (g x)) → l.mapM f = some (l.map g)
  | [], _ => rfl
  | x :: l, h => by
    rw [List.mapM_cons, h x (List.mem_cons_self ..), mapM_some fun y hy => h y (List.mem_cons_of_mem _ hy)]; rfl
theorem hostport_Four_eq (s : Str) (hs : s.length < 1000000000) : hostport_Four s = some (fourOk s) := by
  unfold hostport_Four fourOk
  rw [if_pos hs, mapM_some (g := fun x => smallOk x 255) fun x hx => hostport_small_eq x 255 (by have := (splitOn_mem hx).2.1; omega) (by decide) (by decide)]
  simp only [Option.bind_some, List.length_map, List.all_map]
  rfl
/-- The bytes of a host's name. -/
def nameL : Str → Bool
  | [] => true
  | c :: s => if c == 37 then (match s with
    | a :: b :: r => cHex a && cHex b && nameL r
    | _ => false) else (cUnres c || cSub c) && nameL s
def nameOk (s : Str) : Bool := !(s == []) && nameL s
/-- Does a name stand under a domain? -/
def under (a b : Str) : Bool := nameOk a && nameOk b && !fourOk a && !fourOk b && (low a == low b || ((46 :: low b) : Str).isSuffixOf (low a))
end Go.Dm
