/-
  The library's functions that the models name: what they come to, in plain words on lists.
-/
import Derived.Test.YtnfkbhocbdheaabGreatDoorT01
namespace Go.Dm
/-- Up to the first byte that is one of some; from it on. -/
def upto (cs s : Str) : Str := s.takeWhile (fun c => !cs.contains c)
theorem HasPrefix_eq (s p : Str) (hs : s.length < 1000000000) : stringslite_HasPrefix s p = some (p.isPrefixOf s) := by
  unfold stringslite_HasPrefix
  by_cases h : p.length ≤ s.length
  · have h' : (p.length : Int) ≤ (s.length : Int) := by omega
    simp only [h', decide_true, if_true, sTo_nat h, Option.bind_some, stringslite_HasPrefix_j1]
    congr 1
    rw [Bool.eq_iff_iff, beq_iff_eq, List.isPrefixOf_iff_prefix, List.prefix_iff_eq_take]
    exact eq_comm
  · have h' : ¬ (p.length : Int) ≤ (s.length : Int) := by omega
    simp only [h', decide_false, Bool.false_eq_true, if_false, stringslite_HasPrefix_j1]
    congr 1
    rw [eq_comm, Bool.eq_false_iff]
    intro hp
    rw [List.isPrefixOf_iff_prefix] at hp
    exact h hp.length_le
theorem strings_CutPrefix_eq (s p : Str) (hs : s.length < 1000000000) : strings_CutPrefix s p = some (if p.isPrefixOf s then (s.drop p.length, true) else (s, false)) := by
  unfold strings_CutPrefix stringslite_CutPrefix
  rw [HasPrefix_eq s p hs]
  cases hp : p.isPrefixOf s with
  | false => simp
  | true =>
    have h : p.length ≤ s.length := (List.isPrefixOf_iff_prefix.1 hp).length_le
    simp [sFrom_nat h]
theorem HasSuffix_eq (s p : Str) (hs : s.length < 1000000000) (hp : p.length < 1000000000) : stringslite_HasSuffix s p = some (p.isSuffixOf s) := by
  unfold stringslite_HasSuffix
  by_cases h : p.length ≤ s.length
  · have h' : (p.length : Int) ≤ (s.length : Int) := by omega
    have e : (s.length : Int) - (p.length : Int) = ((s.length - p.length : Nat) : Int) := by omega
    simp only [h', decide_true, if_true, iSub_ok (show -9223372036854775808 ≤ (s.length : Int) - (p.length : Int) by omega) (by omega), Option.bind_some, e, sFrom_nat (show s.length - p.length ≤ s.length by omega), stringslite_HasSuffix_j1]
    congr 1
    rw [Bool.eq_iff_iff, beq_iff_eq, List.isSuffixOf_iff_suffix, List.suffix_iff_eq_drop]
    exact eq_comm
  · have h' : ¬ (p.length : Int) ≤ (s.length : Int) := by omega
    simp only [h', decide_false, Bool.false_eq_true, if_false, stringslite_HasSuffix_j1, Option.bind_some]
    congr 1
    rw [eq_comm, Bool.eq_false_iff]
    intro hp
    rw [List.isSuffixOf_iff_suffix] at hp
    exact h hp.length_le
end Go.Dm
