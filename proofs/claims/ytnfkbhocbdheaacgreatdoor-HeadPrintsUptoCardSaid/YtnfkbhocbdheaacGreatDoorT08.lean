/-
  Layer 8 (hosts): names, numbers, addresses of four, domains: the program's and the document's come to the same. No program in sight.
-/
import Derived.Test.YtnfkbhocbdheaacGreatDoorT03
import Derived.Test.YtnfkbhocbdheaacGreatDoorTLib
import Derived.Test.YtnfkbhocbdheaacGreatDoorTFold
import Derived.Test.YtnfkbhocbdheaacGreatDoorTSplit
namespace Go.Dm
/-- Is a text a number up to one, without noughts ahead? -/
def smallOk (s : Str) (most : Int) : Bool := (readN 10 s most).2 == 0 && textN 10 (readN 10 s most).1 == s
theorem readN_in {b : Nat} {s : Str} {most : Int} (h : (readN b s most).2 = 0) (hm : most < 4611686018427387904) : 0 ≤ (readN b s most).1 ∧ (readN b s most).1 ≤ most ∧ inI (readN b s most).1 = true := by
  unfold readN at *
  split at h
  · cases h
  · rename_i h1
    rw [if_neg h1]
    split at h
    · cases h
    · rename_i h2
      rw [if_neg h2]
      refine ⟨by simp only; omega, by simp only; omega, by rw [inI_iff]; simp only; omega⟩
theorem hostport_small_eq (s : Str) (most : Int) (hs : s.length < 1000000000) (hm : most < 4611686018427387904) (hm0 : -4611686018427387904 < most) : hostport_small s most = some (smallOk s most) := by
  unfold hostport_small smallOk
  rw [numeral_Decimal_eq s most hs hm hm0, Option.bind_some]
  by_cases h : (readN 10 s most).2 = 0
  · have hi := (readN_in h hm).2.2
    simp [h, numeral_Text_eq _ hi, hostport_small_j1]
  · simp [h, hostport_small_j1]
def fourOk (s : Str) : Bool := (splitOn 46 s).all (fun x => smallOk x 255) && decide (((splitOn 46 s).length : Int) = 4)
theorem mapM_some {α β : Type} {f : α → Option β} {g : α → β} : ∀ {l : List α}, (∀ x ∈ l, f x = some (g x)) → l.mapM f = some (l.map g)
  | [], _ => rfl
  | x :: l, h => by
    rw [List.mapM_cons, h x (List.mem_cons_self ..), mapM_some fun y hy => h y (List.mem_cons_of_mem _ hy)]; rfl
theorem hostport_Four_eq (s : Str) (hs : s.length < 1000000000) : hostport_Four s = some (fourOk s) := by
  unfold hostport_Four fourOk
  rw [if_pos hs, mapM_some (g := fun x => smallOk x 255) fun x hx => hostport_small_eq x 255 (by have := (splitOn_mem hx).2.1; omega) (by decide) (by decide)]
  simp only [Option.bind_some, List.length_map, List.all_map]
  rfl
/-- The bytes of a host's name. -/
def nameL : Str → Bool
  | [] => true
  | c :: s => if c == 37 then (match s with
    | a :: b :: r => cHex a && cHex b && nameL r
    | _ => false) else (cUnres c || cSub c) && nameL s
theorem nameL_pct (s : Str) : nameL (37 :: s) = (match s with | a :: b :: r => cHex a && cHex b && nameL r | _ => false) := by
  rw [nameL.eq_def]
  match s with
  | [] => rfl
  | [_] => rfl
  | _ :: _ :: _ => rfl
theorem nameL_oth (c : UInt8) (s : Str) (h : (c == 37) = false) : nameL (c :: s) = ((cUnres c || cSub c) && nameL s) := by
  rw [nameL.eq_def]; simp only [h, Bool.false_eq_true, if_false]
def nameOk (s : Str) : Bool := !(s == []) && nameL s
theorem hostport_Name_eq (s : Str) (hs : s.length < 1000000000) : hostport_Name s = some (nameOk s) := by
  unfold hostport_Name nameOk
  rcases bcase (s == []) with h0 | h0
  · rw [h0]; simp
  rw [h0]
  simp only [Bool.false_eq_true, if_false, Bool.not_false, Bool.true_and]
  have key : ∀ (n : Nat) (s : Str), s.length < n → s.length < 1000000000 → hostport_Name_L1 n s = some (nameL s) := by
    intro n
    induction n with
    | zero => intro s h; omega
    | succ n ih =>
      intro s h hs
      rw [hostport_Name_L1]
      cases s with
      | nil => simp [nameL]
      | cons c s =>
        have h1 : ((c :: s == ([] : Str))) = false := rfl
        have e1 : sFrom (c :: s) 1 = some s := by
          have := sFrom_nat (l := c :: s) (i := 1) (by simp)
          simpa using this
        simp only [List.length_cons] at h hs
        simp only [h1, Bool.not_false, if_true, hostport_percent, sAt_zero, List.getElem?_cons_zero, Option.bind_some, octet_IsUnreserved_eq, octet_IsSub_eq, hostport_Name_j2, e1, ih s (by omega) (by omega), Bool.false_eq_true, if_false]
        rcases bcase (c == 37) with hc | hc
        · have : c = 37 := by simpa using hc
          subst this
          have hu : cUnres 37 = false := by decide
          have hb : cSub 37 = false := by decide
          rw [nameL_pct]
          match s, h, hs with
          | [], _, _ => simp [hu, hb, hostport_percent_j1]
          | [a], _, _ => simp [hu, hb, hostport_percent_j1]
          | a :: b :: r, h, hs =>
            have h2 : (3 : Int) ≤ ((37 :: a :: b :: r : Str).length : Int) := by simp only [List.length_cons]; omega
            have e3 : sFrom (37 :: a :: b :: r) 3 = some r := by
              have := sFrom_nat (l := 37 :: a :: b :: r) (i := 3) (by simp)
              simpa using this
            have e2 : sSub (37 :: a :: b :: r) 1 3 = some [a, b] := by
              have := sSub_nat (l := 37 :: a :: b :: r) (i := 1) (h := 3) (by decide) (by simp)
              simpa using this
            simp only [List.length_cons] at h hs
            simp only [h2, decide_true, if_true, beq_self_eq_true, e2, Option.bind_some, octet_All_one octet_IsHex_eq [a, b] (by simp), hostport_percent_j1, e3, ih r (by omega) (by omega), hu, hb, Bool.false_eq_true, if_false]
            cases ha : cHex a <;> cases hb : cHex b <;> simp [ha, hb]
        · rw [nameL_oth c s hc, hc]
          simp only [Bool.false_eq_true, if_false, hostport_percent_j1]
          have : (if (decide ((3 : Int) ≤ ((c :: s).length : Int))) = true then some false else some false) = some false := by split <;> rfl
          rw [this]
          simp only [Option.bind_some, Bool.false_eq_true, if_false]
          cases hp : cUnres c <;> cases hq : cSub c <;> simp
  exact key fuel s (fuel_gt (by omega)) hs
/-- Does a name stand under a domain? -/
def under (a b : Str) : Bool := nameOk a && nameOk b && !fourOk a && !fourOk b && (low a == low b || ((46 :: low b) : Str).isSuffixOf (low a))
end Go.Dm
