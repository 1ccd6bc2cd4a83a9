/-
  The library's functions that the models name: what they come to, in plain words on lists.
-/
import Derived.Test.YtnfkbhocbdheaacGreatDoorT01
namespace Go.Dm
/-- Up to the first byte that is one of some; from it on. -/
def upto (cs s : Str) : Str := s.takeWhile (fun c => !cs.contains c)
def from_ (cs s : Str) : Str := s.dropWhile (fun c => !cs.contains c)
theorem upto_from (cs s : Str) : upto cs s ++ from_ cs s = s := List.takeWhile_append_dropWhile
theorem upto_le (cs s : Str) : (upto cs s).length ≤ s.length := by
  have := congrArg List.length (upto_from cs s); simp at this; omega
theorem take_upto (cs s : Str) : s.take (upto cs s).length = upto cs s := by
  have h := upto_from cs s
  conv => lhs; arg 2; rw [← h]
  exact List.take_left
theorem drop_upto (cs s : Str) : s.drop (upto cs s).length = from_ cs s := by
  have h := upto_from cs s
  conv => lhs; arg 2; rw [← h]
  exact List.drop_left
theorem from_nil_iff (cs s : Str) : from_ cs s = [] ↔ (upto cs s).length = s.length := by
  have h := congrArg List.length (upto_from cs s)
  simp only [List.length_append] at h
  rw [← List.length_eq_zero_iff]; omega
theorem from_head {cs s : Str} {c : UInt8} {r : Str} (h : from_ cs s = c :: r) : cs.contains c = true := by
  have := List.head?_dropWhile_not (fun c => !cs.contains c) s
  unfold from_ at h
  rw [h] at this
  simpa using this
theorem upto_cons_t {cs s : Str} {x : UInt8} (h : cs.contains x = true) : upto cs (x :: s) = [] := by
  unfold upto; rw [List.takeWhile_cons_of_neg (by rw [h]; simp)]
theorem from_cons_t {cs s : Str} {x : UInt8} (h : cs.contains x = true) : from_ cs (x :: s) = x :: s := by
  unfold from_; rw [List.dropWhile_cons_of_neg (by rw [h]; simp)]
theorem upto_cons_f {cs s : Str} {x : UInt8} (h : cs.contains x = false) : upto cs (x :: s) = x :: upto cs s := by
  unfold upto; rw [List.takeWhile_cons_of_pos (by rw [h]; rfl)]
theorem from_cons_f {cs s : Str} {x : UInt8} (h : cs.contains x = false) : from_ cs (x :: s) = from_ cs s := by
  unfold from_; rw [List.dropWhile_cons_of_pos (by rw [h]; rfl)]

theorem idxAny_eq (cs : Str) : ∀ (s : Str) (k : Nat), idxAny s cs k = if from_ cs s = [] then -1 else ((k + (upto cs s).length : Nat) : Int)
  | [], k => by simp [idxAny, from_]
  | x :: s, k => by
    simp only [idxAny]
    by_cases h : cs.contains x = true
    · rw [if_pos h, upto_cons_t h, from_cons_t h]; simp
    · have h' : cs.contains x = false := by simpa using h
      rw [if_neg h, idxAny_eq cs s (k + 1)]
      rw [from_cons_f h', upto_cons_f h', List.length_cons]
      split
      · rfl
      · congr 1; omega
theorem HasPrefix_eq (s p : Str) (hs : s.length < 1000000000) : stringslite_HasPrefix s p = some (p.isPrefixOf s) := by
  unfold stringslite_HasPrefix
  by_cases h : p.length ≤ s.length
  · have h' : (p.length : Int) ≤ (s.length : Int) := by omega
    simp only [h', decide_true, if_true, sTo_nat h, Option.bind_some, stringslite_HasPrefix_j1]
    congr 1
    rw [Bool.eq_iff_iff, beq_iff_eq, List.isPrefixOf_iff_prefix, List.prefix_iff_eq_take]
    exact eq_comm
  · have h' : ¬ (p.length : Int) ≤ (s.length : Int) := by omega
    simp only [h', decide_false, Bool.false_eq_true, if_false, stringslite_HasPrefix_j1]
    congr 1
    rw [eq_comm, Bool.eq_false_iff]
    intro hp
    rw [List.isPrefixOf_iff_prefix] at hp
    exact h hp.length_le
theorem strings_HasPrefix_eq (s p : Str) (hs : s.length < 1000000000) : strings_HasPrefix s p = some (p.isPrefixOf s) := by
  unfold strings_HasPrefix
  rw [HasPrefix_eq s p hs]; rfl
theorem strings_IndexAny_eq (s cs : Str) (hs : s.length < 1000000000) (hc : cs.length < 1000000000) (ha : cs.all (fun c => c.toNat < 128) = true) :
    strings_IndexAny s cs = some (if from_ cs s = [] then -1 else ((upto cs s).length : Int)) := by
  unfold strings_IndexAny
  rw [if_pos ⟨by omega, by omega, ha⟩, idxAny_eq, Nat.zero_add]
theorem from_any (cs s : Str) : from_ cs s = [] ↔ s.any cs.contains = false := by
  induction s with
  | nil => simp [from_]
  | cons x s ih =>
    rcases bcase (cs.contains x) with h | h
    · rw [from_cons_t h, List.any_cons, h]; simp
    · rw [from_cons_f h, ih, List.any_cons, h, Bool.false_or]
theorem strings_ContainsAny_eq (s cs : Str) (hs : s.length < 1000000000) (hc : cs.length < 1000000000) (ha : cs.all (fun c => c.toNat < 128) = true) : strings_ContainsAny s cs = some (s.any cs.contains) := by
  unfold strings_ContainsAny
  rw [strings_IndexAny_eq s cs hs hc ha, Option.bind_some]
  rcases bcase (s.any cs.contains) with h | h
  · have e : ¬ from_ cs s = [] := fun e => by rw [(from_any cs s).1 e] at h; cases h
    rw [if_neg e, h]; simp
  · rw [if_pos ((from_any cs s).2 h), h]; rfl

end Go.Dm
