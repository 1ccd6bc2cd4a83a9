/-
  A request's line: its parts come out as they went in.
-/
import Derived.Test.YtnfkbhocbdheaaaGreatDoorT14
namespace Go.Dm
theorem no32_ver {v : Str} (h : 0 ≤ verK v) (h2 : (verK v == 2) = false) : (32 : UInt8) ∉ v := by
  rcases verK_taken h h2 with ⟨h, _⟩ | ⟨h, _⟩ <;> rw [h] <;> decide
theorem split_parts {m t v : Str} (h1 : (32 : UInt8) ∉ m) (h2 : (32 : UInt8) ∉ t) (h3 : (32 : UInt8) ∉ v) : splitOn 32 (m ++ 32 :: (t ++ 32 :: v)) = [m, t, v] := by
  rw [splitOn_at _ h1, splitOn_at _ h2, splitOn_none h3]
theorem splitOn_join (c : UInt8) : ∀ (x y : Str), splitOn c (x ++ c :: y) = splitOn c x ++ splitOn c y
  | [], y => by rw [List.nil_append, splitOn_cons, if_pos rfl]; rfl
  | z :: x, y => by
    rw [List.cons_append, splitOn_cons, splitOn_cons, splitOn_join c x y]
    split
    · rfl
    · cases h : splitOn c x with
      | nil => exact absurd h (splitOn_ne c x)
      | cons a l => rfl
theorem splitOn_single {c : UInt8} : ∀ {s x : Str}, splitOn c s = [x] → x = s
  | [], x, h => by rw [splitOn] at h; cases h; rfl
  | y :: s, x, h => by
    rw [splitOn_cons] at h
    split at h
    · injection h with h1 h2
      exact absurd h2 (splitOn_ne c s)
    · cases h3 : splitOn c s with
      | nil => exact absurd h3 (splitOn_ne c s)
      | cons a l =>
        rw [h3] at h
        injection h with h1 h2
        subst h2
        have := splitOn_single h3
        rw [← h1, this]; rfl
theorem parts_in {m t v m' t' v' : Str} (h : m ++ 32 :: (t ++ 32 :: v) = m' ++ 32 :: (t' ++ 32 :: v')) (h1 : (32 : UInt8) ∉ m) (h2 : (32 : UInt8) ∉ t) (h3 : (32 : UInt8) ∉ v) (h4 : (32 : UInt8) ∉ v') : m = m' ∧ t = t' ∧ v = v' := by
  have e := congrArg (splitOn 32) h
  rw [split_parts h1 h2 h3, splitOn_join, splitOn_join, splitOn_none h4] at e
  have hl := congrArg List.length e
  simp only [List.length_append, List.length_cons, List.length_nil] at hl
  have p1 := List.length_pos_iff.2 (splitOn_ne 32 m')
  have p2 := List.length_pos_iff.2 (splitOn_ne 32 t')
  obtain ⟨x, hx⟩ := List.length_eq_one_iff.1 (show (splitOn 32 m').length = 1 by omega)
  obtain ⟨y, hy⟩ := List.length_eq_one_iff.1 (show (splitOn 32 t').length = 1 by omega)
  rw [hx, hy] at e
  have e1 := splitOn_single hx
  have e2 := splitOn_single hy
  simp only [List.cons_append, List.nil_append, List.cons.injEq, and_true] at e
  exact ⟨by rw [e.1, e1], by rw [e.2.1, e2], e.2.2⟩
theorem reqP_cases (s : Str) : (reqP s = (zeroH, 26) ∨ reqP s = (zeroH, 20)) ∨ reqF s = true ∧ reqP s = (⟨1, reqM s, reqT s, 0, [], (minR (byteR 32 (reqR3 s))).1, []⟩, 0) := by
  unfold reqP
  split
  · exact .inl (.inl rfl)
  · cases h : reqF s with
    | true => exact .inr ⟨rfl, rfl⟩
    | false => exact .inl (.inr rfl)
theorem lineP_req (s : Str) : ((lineP 1 s).1 = zeroH ∧ ((lineP 1 s).2 == 0) = false) ∨ reqF s = true ∧ lineP 1 s = (⟨1, reqM s, reqT s, 0, [], (minR (byteR 32 (reqR3 s))).1, []⟩, 0) := by
  unfold lineP
  rw [if_neg (by decide)]
  cases s.any ([13, 10] : Str).contains with
  | true => exact .inl ⟨rfl, rfl⟩
  | false =>
    rw [if_neg (by decide), if_pos (by decide)]
    rcases reqP_cases s with (h | h) | h
    · rw [h]; exact .inl ⟨rfl, rfl⟩
    · rw [h]; exact .inl ⟨rfl, rfl⟩
    · exact .inr h
theorem StartParts_j1_eq (minor d : Int) (m t : Str) (hm : m.length ≤ 200) (ht : t.length ≤ 200) (v : Str) (hv : v = httpP ++ [49, 46, 48] ∧ d = 0 ∨ v = httpP ++ [49, 46, 49] ∧ d = 1) (hd : (d == 1) = (minor == 1)) :
    law14_StartParts_j1 minor m t (m ++ 32 :: (t ++ 32 :: v)) = some true := by
  have hvl : v.length = 8 := by rcases hv with ⟨h, _⟩ | ⟨h, _⟩ <;> rw [h] <;> rfl
  have hv32 : (32 : UInt8) ∉ v := by rcases hv with ⟨h, _⟩ | ⟨h, _⟩ <;> rw [h] <;> decide
  unfold law14_StartParts_j1
  rw [startline_Parse_eq _ _ (by simp; omega), Option.bind_some]
  rcases lineP_req (m ++ 32 :: (t ++ 32 :: v)) with ⟨h1, h2⟩ | ⟨h1, h2⟩
  · rw [h1, h2]; rfl
  · obtain ⟨v', e, n1, n2, _, _, k1, k2, k3, _⟩ := reqF_parts h1
    obtain ⟨q1, q2, q3⟩ := parts_in e.symm n1 n2 (no32_ver k1 k2) hv32
    rw [h2]
    dsimp only
    rw [q1, q2, k3, q3]
    have hk : verK v = d := by rcases hv with ⟨h, h'⟩ | ⟨h, h'⟩ <;> rw [h, h'] <;> decide
    rw [hk, hd]
    unfold law14_StartParts_j2
    rw [if_neg (by decide), beq_self_eq_true, if_pos rfl, beq_self_eq_true, if_pos rfl]
    simp
theorem StartParts_true (method at_ : Str) (minor : Int) (_ : inI minor = true) : law14_StartParts method at_ minor = some true := by
  unfold law14_StartParts
  rw [law14_awake_eq, Option.bind_some, Bool.not_true, if_neg (by decide), law14_few_eq, law14_few_eq, Option.bind_some, Option.bind_some]
  have hm : (method.take 200).length ≤ 200 := by simp; omega
  have ht : (at_.take 200).length ≤ 200 := by simp; omega
  generalize method.take 200 = m at hm
  generalize at_.take 200 = t at ht
  rw [sCat_ok (by simp; omega), Option.bind_some, sCat_ok (by simp; omega), Option.bind_some, sCat_ok (by simp; omega), Option.bind_some, Option.bind_some, sCat_ok (by simp; omega), Option.bind_some, sCat_ok (by simp; omega), Option.bind_some]
  have e0 : m ++ [32] ++ t ++ [32, 72, 84, 84, 80, 47, 49, 46, 48] = m ++ 32 :: (t ++ 32 :: (httpP ++ [49, 46, 48])) := by simp [httpP]
  have e1 : m ++ [32] ++ t ++ [32, 72, 84, 84, 80, 47, 49, 46, 49] = m ++ 32 :: (t ++ 32 :: (httpP ++ [49, 46, 49])) := by simp [httpP]
  rw [e0, e1]
  cases h1 : minor == 1 with
  | true => rw [if_pos rfl]; exact StartParts_j1_eq minor 1 m t hm ht _ (.inr ⟨rfl, rfl⟩) (by rw [h1]; rfl)
  | false => rw [if_neg (by decide)]; exact StartParts_j1_eq minor 0 m t hm ht _ (.inl ⟨rfl, rfl⟩) (by rw [h1]; rfl)
end Go.Dm
