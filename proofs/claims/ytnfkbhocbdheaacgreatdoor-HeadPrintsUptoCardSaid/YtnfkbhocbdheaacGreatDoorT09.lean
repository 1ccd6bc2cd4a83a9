/-
  Paths and queries: the program's, and the document's.
-/
import Derived.Test.YtnfkbhocbdheaacGreatDoorT01
import Derived.Test.YtnfkbhocbdheaacGreatDoorTLib
import Derived.Test.YtnfkbhocbdheaacGreatDoorTSplit
namespace Go.Dm
/-- The bytes of a path, or of a query, and others. -/
def pqL (more : Str) : Str → Bool
  | [] => true
  | c :: s => if c == 37 then (match s with
    | a :: b :: r => cHex a && cHex b && pqL more r
    | _ => false) else (cPath c || more.contains c) && pqL more s
theorem pqL_pct (more s : Str) : pqL more (37 :: s) = (match s with | a :: b :: r => cHex a && cHex b && pqL more r | _ => false) := by
  rw [pqL.eq_def]
  match s with
  | [] => rfl
  | [_] => rfl
  | _ :: _ :: _ => rfl
theorem pqL_oth (more : Str) (c : UInt8) (s : Str) (h : (c == 37) = false) : pqL more (c :: s) = ((cPath c || more.contains c) && pqL more s) := by
  rw [pqL.eq_def]; simp only [h, Bool.false_eq_true, if_false]
theorem idx_has (l : Str) (c : UInt8) : decide (0 ≤ idxByte l c 0) = l.contains c := idxByte_ge l c 0
theorem pathq_j4_eq (rec1 : Int → Option Bool) (i : Nat) (hi : i < 4000000000) : pathq_of_j4 rec1 (i : Int) = rec1 ((i + 1 : Nat) : Int) := by
  unfold pathq_of_j4; rw [iAdd_one (by omega), Option.bind_some]
theorem pathq_j3_eq (rec1 : Int → Option Bool) (i : Nat) (t : Bool) (hi : i < 3000000000) : pathq_of_j3 rec1 (i : Int) t = if t = true then rec1 ((i + 3 : Nat) : Int) else some false := by
  unfold pathq_of_j3
  have i2 : iAdd (i : Int) 2 = some ((i + 2 : Nat) : Int) := by rw [iAdd_ok (by omega) (by omega)]; simp
  rw [i2, Option.bind_some, pathq_j4_eq rec1 (i + 2) (by omega)]
theorem pathq_of_eq (s more : Str) (hs : s.length < 1000000000) (hm : more.contains 37 = false) : pathq_of s more = some (pqL more s) := by
  unfold pathq_of
  have key : ∀ (n i : Nat), i ≤ s.length → s.length - i < n → pathq_of_L1 s more n (i : Int) = some (pqL more (s.drop i)) := by
    intro n
    induction n with
    | zero => intro i _ h; omega
    | succ n ih =>
      intro i hi h
      rw [pathq_of_L1]
      cases hd : s.drop i with
      | nil =>
        have : i = s.length := by have := congrArg List.length hd; simp at this; omega
        subst this
        simp only [Int.lt_irrefl, decide_false, Bool.false_eq_true, if_false, pqL]
      | cons c t =>
        have hlt : i < s.length := by have := congrArg List.length hd; simp at this; omega
        have hx : s[i]? = some c := by have := congrArg (·[0]?) hd; simpa using this
        have ht : s.drop (i + 1) = t := by rw [← List.drop_drop, hd]; rfl
        have htl : t.length = s.length - (i + 1) := by rw [← ht]; simp
        have i2 : iAdd (i : Int) 2 = some ((i + 2 : Nat) : Int) := by rw [iAdd_ok (by omega) (by omega)]; simp
        have i3 : iAdd (i : Int) 3 = some ((i + 3 : Nat) : Int) := by rw [iAdd_ok (by omega) (by omega)]; simp
        have hih := ih (i + 1) (by omega) (by omega)
        rw [ht] at hih
        have j4 := pathq_j4_eq (pathq_of_L1 s more n) i (by omega)
        have j3 := pathq_j3_eq (pathq_of_L1 s more n) i
        simp only [Int.ofNat_lt, hlt, decide_true, if_true, sAt_nat, hx, Option.bind_some, octet_IsPath_eq, strings_IndexByte, idx_has, pathq_of_j2, j4, hih]
        rcases bcase (c == 37) with hc | hc
        · have : c = 37 := by simpa using hc
          subst this
          have hp : cPath 37 = false := by decide
          rw [pqL_pct, hp, hm]
          simp only [Bool.false_eq_true, if_false, beq_self_eq_true, if_true, i2, Option.bind_some, iAdd_one (show i < 4611686018427387904 by omega), i3]
          match t, ht, htl with
          | [], ht, htl =>
            have : ¬ ((i + 2 : Nat) : Int) < (s.length : Int) := by simp at htl; omega
            simp only [this, decide_false, Bool.false_eq_true, if_false, j3 false (by omega)]
          | [a], ht, htl =>
            have : ¬ ((i + 2 : Nat) : Int) < (s.length : Int) := by simp at htl; omega
            simp only [this, decide_false, Bool.false_eq_true, if_false, j3 false (by omega)]
          | a :: b :: r, ht, htl =>
            have hlt2 : ((i + 2 : Nat) : Int) < (s.length : Int) := by simp at htl; omega
            have hr : s.drop (i + 3) = r := by
              have : (s.drop (i + 1)).drop 2 = r := by rw [ht]; rfl
              rwa [List.drop_drop] at this
            have hi3 : i + 3 ≤ s.length := by simp at htl; omega
            have hih := ih (i + 3) hi3 (by omega)
            rw [hr] at hih
            have hsub : sSub s ((i + 1 : Nat) : Int) ((i + 3 : Nat) : Int) = some [a, b] := by
              rw [sSub_nat (by omega) hi3, List.drop_take, ht]
              have : i + 3 - (i + 1) = 2 := by omega
              rw [this]; rfl
            simp only [hlt2, decide_true, if_true, hsub, Option.bind_some, octet_All_one octet_IsHex_eq [a, b] (by simp), j3 _ (show i < 3000000000 by omega), hih]
            cases ha : cHex a <;> cases hb : cHex b <;> simp [ha, hb]
        · rw [pqL_oth more c t hc, hc]
          cases cPath c <;> cases hq : more.contains c <;> simp [pathq_of_j3]
  have := key fuel 0 (Nat.zero_le _) (by unfold fuel; omega)
  simpa using this
/-- A path that begins with a slash. -/
def pathOk (s : Str) : Bool := (([47] : Str).isPrefixOf s) && pqL [47] s
def queryOk (s : Str) : Bool := pqL [47, 63] s
theorem pathq_Path_eq (s : Str) (hs : s.length < 1000000000) : pathq_Path s = some (pathOk s) := by
  unfold pathq_Path pathOk
  rw [strings_HasPrefix_eq s [47] hs, Option.bind_some, pathq_of_eq s [47] hs (by decide), Option.bind_some]
  cases ([47] : Str).isPrefixOf s <;> simp [pathq_Path_j1]
theorem pathq_Query_eq (s : Str) (hs : s.length < 1000000000) : pathq_Query s = some (queryOk s) := by
  unfold pathq_Query queryOk
  rw [pathq_of_eq s [47, 63] hs (by decide), Option.bind_some]
/-- strings.Cut at one byte. -/
theorem index_one (c : UInt8) : ∀ s : Str, Go.Lib.index s [c] = if from_ [c] s = [] then -1 else ((upto [c] s).length : Int) := by
  intro s
  induction s with
  | nil => rfl
  | cons x s ih =>
    by_cases h : x = c
    · subst h
      rw [index_cons_eq, from_cons_t (by simp), upto_cons_t (by simp)]; simp
    · rw [index_cons_ne h, ih]
      have hx : ([c] : Str).contains x = false := by simp [h]
      rw [from_cons_f hx, upto_cons_f hx]
      split
      · rfl
      · rename_i h2
        rw [if_neg (by omega)]
        simp
def cutOn (c : UInt8) (s : Str) : Str × Str × Bool := (upto [c] s, (from_ [c] s).drop 1, !(from_ [c] s == []))
theorem strings_Cut_one (s : Str) (c : UInt8) (hs : s.length < 1000000000) : strings_Cut s [c] = some (cutOn c s) := by
  unfold strings_Cut Go.Lib.cut cutOn
  rw [if_pos (by omega), index_one]
  congr 1
  by_cases h2 : from_ [c] s = []
  · rw [if_pos h2, if_neg (by omega)]
    have e := upto_from [c] s
    rw [h2, List.append_nil] at e
    rw [h2, e]; rfl
  · have h3 : (from_ [c] s == []) = false := beq_eq_false_iff_ne.2 h2
    rw [h3, if_neg h2, if_pos (by omega)]
    have e : s.drop ((upto [c] s).length + 1) = (from_ [c] s).drop 1 := by rw [← List.drop_drop, drop_upto]
    simp only [Int.toNat_natCast, take_upto, List.length_singleton, e, Bool.not_false]
theorem cutOn_len (c : UInt8) (s : Str) : (cutOn c s).1.length ≤ s.length ∧ (cutOn c s).2.1.length ≤ s.length := by
  have e := congrArg List.length (upto_from [c] s)
  rw [List.length_append] at e
  unfold cutOn
  simp only [List.length_drop]
  omega
def cutQ (s : Str) : Str × Str × Bool × Int :=
  if pathOk (cutOn 63 s).1 && queryOk (cutOn 63 s).2.1 then ((cutOn 63 s).1, (cutOn 63 s).2.1, (cutOn 63 s).2.2, 0) else ([], [], false, 2)
theorem pathq_Cut_eq (s : Str) (hs : s.length < 1000000000) : pathq_Cut s = some (cutQ s) := by
  unfold pathq_Cut cutQ
  have := cutOn_len 63 s
  rw [strings_Cut_one s 63 hs, Option.bind_some, pathq_Path_eq _ (by omega), Option.bind_some, pathq_Query_eq _ (by omega), Option.bind_some]
  cases pathOk (cutOn 63 s).1 <;> cases queryOk (cutOn 63 s).2.1 <;> simp [pathq_Cut_j1]
end Go.Dm
