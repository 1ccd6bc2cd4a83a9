/-
  Layer 29 (domains): Map, Check: the program's and the document's come to the same; DomainsMaps. No program in sight.
-/
import Derived.Test.YtgdhdeemlhllpabGreatDoorT08
namespace Go.Dm
def bare (s : Str) : Str := if s.head? == some 46 then s.drop 1 else s
theorem bare_len (s : Str) : (bare s).length ≤ s.length := by unfold bare; split <;> simp
def mapL (name b : Str) : List api_Swap → Str × Bool
  | [] => (name, false)
  | x :: l => if under b x.From = true then (b.take (b.length - x.From.length) ++ x.To, true) else mapL name b l
def mapD (name : Str) (l : List api_Swap) : Str × Bool := mapL name (bare name) l
def fineS (l : List api_Swap) : Prop := l.length < 1000000000 ∧ ∀ x ∈ l, x.From.length < 900000000 ∧ x.To.length < 900000000
theorem mapL_foldr (name b : Str) (l : List api_Swap) : l.foldr (fun x r => if under b x.From = true then some (b.take (b.length - x.From.length) ++ x.To, true) else r) (some (name, false)) = some (mapL name b l) := by
  induction l with
  | nil => rfl
  | cons x l ih => rw [List.foldr_cons, ih, mapL]; split <;> rfl
theorem domains_Map_eq (s : Str) (l : List api_Swap) (hs : s.length < 900000000) (hl : fineS l) : domains_Map s l = some (mapD s l) := by
  obtain ⟨hl, hx⟩ := hl
  unfold domains_Map mapD
  have hb := bare_len s
  rw [TrimPrefix_one s 46 (by omega), Option.bind_some]
  show domains_Map_L1 s l (bare s) fuel 0 = _
  generalize bare s = b at hb
  rw [loop_start l (domains_Map_L1 s l b) (fun x r => if under b x.From = true then some (b.take (b.length - x.From.length) ++ x.To, true) else r) (some (s, false)) (by omega)]
  · exact mapL_foldr s b l
  · intro n; rw [domains_Map_L1]; simp only [Int.lt_irrefl, decide_false, Bool.false_eq_true, if_false]
  · intro n i x hi hxi
    obtain ⟨h1, h2⟩ := hx x (List.mem_of_getElem? hxi)
    rw [domains_Map_L1]
    simp only [Int.ofNat_lt, hi, decide_true, if_true, lAt_nat, hxi, Option.bind_some, hostport_Under_eq b x.From (by omega) h1, iAdd_one (show i < 4611686018427387904 by omega)]
    rcases bcase (under b x.From) with h | h
    · have hle := under_len h
      have e : iSub (b.length : Int) (x.From.length : Int) = some ((b.length - x.From.length : Nat) : Int) := by rw [iSub_ok (by omega) (by omega)]; congr 1; omega
      rw [h]
      simp only [if_true, e, Option.bind_some, sTo_nat (Nat.sub_le _ _)]
      rw [sCat_ok (by simp; omega)]; rfl
    · rw [h]; simp
theorem ref29_Map_eq (s : Str) (l : List api_Swap) (hs : s.length < 900000000) (hl : fineS l) : ref29_Map s l = some (mapD s l) := by
  obtain ⟨hl, hx⟩ := hl
  have key : ∀ b : Str, b.length < 900000000 → ref29_Map_j2 s l b = some (mapL s b l) := by
    intro b hb
    unfold ref29_Map_j2
    rw [loop_start l (ref29_Map_L3 s l b) (fun x r => if under b x.From = true then some (b.take (b.length - x.From.length) ++ x.To, true) else r) (some (s, false)) (by omega)]
    · exact mapL_foldr s b l
    · intro n; rw [ref29_Map_L3]; simp only [Int.lt_irrefl, decide_false, Bool.false_eq_true, if_false]
    · intro n i x hi hxi
      obtain ⟨h1, h2⟩ := hx x (List.mem_of_getElem? hxi)
      rw [ref29_Map_L3]
      simp only [Int.ofNat_lt, hi, decide_true, if_true, lAt_nat, hxi, Option.bind_some, ref08_Under_eq b x.From hb h1, iAdd_one (show i < 4611686018427387904 by omega)]
      rcases bcase (under b x.From) with h | h
      · have hle := under_len h
        have e : iSub (b.length : Int) (x.From.length : Int) = some ((b.length - x.From.length : Nat) : Int) := by rw [iSub_ok (by omega) (by omega)]; congr 1; omega
        rw [h]
        simp only [if_true, e, Option.bind_some, sTo_nat (Nat.sub_le _ _)]
        rw [sCat_ok (by simp; omega)]; rfl
      · rw [h]; simp
  unfold ref29_Map mapD bare
  cases s with
  | nil => simp [ref29_Map_j1, key [] (by simp)]
  | cons c r =>
    have e1 : sFrom (c :: r) 1 = some r := by
      have := sFrom_nat (l := c :: r) (i := 1) (by simp); simpa using this
    have h0 : ((c :: r) == ([] : Str)) = false := rfl
    have hh : (((c :: r) : Str).head? == some 46) = (c == 46) := by simp
    rw [hh]
    simp only [h0, Bool.not_false, if_true, sAt_zero, List.getElem?_cons_zero, Option.bind_some, ref29_Map_j1, e1, List.drop_succ_cons, List.drop_zero]
    rcases bcase (c == 46) with h | h
    · rw [h]; simp only [if_true]; exact key r (by simp at hs; omega)
    · rw [h]; simp only [Bool.false_eq_true, if_false]; exact key _ hs
end Go.Dm
