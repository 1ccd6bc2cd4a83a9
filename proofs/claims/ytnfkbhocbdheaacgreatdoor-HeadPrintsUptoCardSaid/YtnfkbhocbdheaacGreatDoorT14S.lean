/-
  First lines written, and read again.
-/
import Derived.Test.YtnfkbhocbdheaacGreatDoorT14R
namespace Go.Dm
def verT (n : Int) : Str := httpP ++ 49 :: 46 :: textN 10 n
/-- A first line, before it is read again. -/
def rawL (h : api_Head) : Str := if h.Kind == 2 then verT h.Minor ++ 32 :: (textN 10 h.Code ++ 32 :: h.Reason) else h.Method ++ 32 :: (h.Target ++ 32 :: verT h.Minor)
def sameL (x h : api_Head) : Bool := x.Method == h.Method && x.Target == h.Target && x.Minor == h.Minor && x.Code == h.Code && x.Reason == h.Reason
def textL (h : api_Head) : Str × Int := if (lineP h.Kind (rawL h)).2 == 1 then ([], 1) else if (lineP h.Kind (rawL h)).2 == 0 && sameL (lineP h.Kind (rawL h)).1 h then (rawL h, 0) else ([], 20)
structure smallH (h : api_Head) : Prop where
  code : inI h.Code = true
  minor : inI h.Minor = true
  method : h.Method.length < 10000000
  target : h.Target.length < 10000000
  reason : h.Reason.length < 10000000
theorem verT_len {n : Int} (hn : inI n = true) : (verT n).length ≤ 80 := by
  have := textN_len n hn
  unfold verT
  simp only [List.length_append, List.length_cons]
  have : httpP.length = 5 := rfl
  omega
theorem rawL_len {h : api_Head} (hs : smallH h) : (rawL h).length < 100000000 := by
  have h1 := verT_len hs.minor
  have h2 := textN_len h.Code hs.code
  have h3 := hs.method
  have h4 := hs.target
  have h5 := hs.reason
  unfold rawL
  split <;> simp only [List.length_append, List.length_cons] <;> omega
theorem join3 (a b c : Str) (hl : (a ++ [32] ++ b ++ [32] ++ c).length < 4000000000) : quill_Join [32] [a, b, c] = some (a ++ 32 :: (b ++ 32 :: c)) := by
  unfold quill_Join strings_Join
  have e : Go.Lib.join [a, b, c] [32] = a ++ [32] ++ b ++ [32] ++ c := by
    rw [Go.Lib.join_cons]; simp [Go.Lib.joinTail]
  rw [e, if_pos ⟨by simp, by omega⟩]
  simp
theorem startline_Text_eq (h : api_Head) (hs : smallH h) : startline_Text h = some (textL h) := by
  have hl := rawL_len hs
  have h1 := verT_len hs.minor
  have h2 := textN_len h.Code hs.code
  have h2' := textN_len h.Minor hs.minor
  have h3 := hs.method
  have h4 := hs.target
  have h5 := hs.reason
  have j1 : startline_Text_j1 h (rawL h) = some (textL h) := by
    unfold startline_Text_j1 startline_Text_j2 startline_Text_j3
    rw [startline_Parse_eq _ _ (by omega), Option.bind_some]
    unfold textL sameL
    generalize rawL h = u
    generalize lineP h.Kind u = p
    obtain ⟨x, e⟩ := p
    dsimp only
    cases h1 : e == 1 with
    | true =>
      have : e = 1 := by simpa using h1
      subst this; rfl
    | false =>
      rw [if_neg Bool.false_ne_true, if_neg Bool.false_ne_true]
      cases e == 0 <;> cases x.Method == h.Method <;> cases x.Target == h.Target <;> cases x.Minor == h.Minor <;> cases x.Code == h.Code <;> cases x.Reason == h.Reason <;> rfl
  unfold startline_Text
  have hv : ([72, 84, 84, 80, 47, 49, 46] : Str) ++ textN 10 h.Minor = verT h.Minor := rfl
  rw [numeral_Text_eq _ hs.minor, Option.bind_some, sCat_ok (by simp; omega), Option.bind_some, hv, join3 _ _ _ (by simp only [List.length_append, List.length_cons, List.length_nil]; omega), Option.bind_some, numeral_Text_eq _ hs.code, Option.bind_some, join3 _ _ _ (by simp only [List.length_append, List.length_cons, List.length_nil]; omega), Option.bind_some]
  unfold rawL at j1
  cases hk : h.Kind == 2 with
  | true => rw [hk, if_pos rfl] at j1; rw [if_pos rfl]; exact j1
  | false => rw [hk, if_neg Bool.false_ne_true] at j1; rw [if_neg Bool.false_ne_true]; exact j1
/-- Three digits of a number that is at least 100. -/
theorem three_digits : ∀ a, a < 10 → ∀ b, b < 10 → ∀ c, c < 10 → 100 ≤ a * 100 + b * 10 + c → digs 10 (a * 100 + b * 10 + c) = [a, b, c] := by decide +kernel
theorem dch_dig (c : UInt8) : (!cDigit c || (decide ((c - 48).toNat < 10) && dch (c - 48).toNat == c && wor c == (c - 48).toNat)) = true := all_bytes (fun c => !cDigit c || (decide ((c - 48).toNat < 10) && dch (c - 48).toNat == c && wor c == (c - 48).toNat)) (by decide +kernel) c
theorem text_three {w : Str} (hl : w.length = 3) (h : (readN 10 w 599).2 = 0) (h1 : ¬ (readN 10 w 599).1 < 100) : textN 10 (readN 10 w 599).1 = w ∧ inI (readN 10 w 599).1 = true := by
  have hin := readN_in h (by decide)
  refine ⟨?_, hin.2.2⟩
  have hd := (readN_digits h).1
  match w, hl with
  | [x, y, z], _ =>
    simp only [List.all_cons, List.all_nil, Bool.and_true, Bool.and_eq_true] at hd
    have fx := dch_dig x
    have fy := dch_dig y
    have fz := dch_dig z
    rw [hd.1] at fx
    rw [hd.2.1] at fy
    rw [hd.2.2] at fz
    simp only [Bool.not_true, Bool.false_or, Bool.and_eq_true, decide_eq_true_eq, beq_iff_eq] at fx fy fz
    have hval : (readN 10 [x, y, z] 599).1 = (((x - 48).toNat * 100 + (y - 48).toNat * 10 + (z - 48).toNat : Nat) : Int) := by
      unfold readN at h ⊢
      split at h
      · cases h
      · rename_i g1
        rw [if_neg g1]
        split at h
        · cases h
        · rename_i g2
          rw [if_neg g2]
          have : valB 10 (vals [x, y, z]) = (x - 48).toNat * 100 + (y - 48).toNat * 10 + (z - 48).toNat := by
            unfold vals valB
            simp only [List.map_cons, List.map_nil, List.foldl_cons, List.foldl_nil, fx.2, fy.2, fz.2]
            omega
          rw [this]
    rw [hval] at h1 ⊢
    unfold textN
    rw [if_neg (by omega), Int.toNat_natCast, three_digits _ fx.1.1 _ fy.1.1 _ fz.1.1 (by omega)]
    unfold chars
    simp only [List.map_cons, List.map_nil, fx.1.2, fy.1.2, fz.1.2]
theorem lineP_kind {k : Int} {s : Str} {x : api_Head} (h : lineP k s = (x, 0)) : (k = 1 ∧ reqP s = (x, 0)) ∨ (k = 2 ∧ staP s = (x, 0)) := by
  unfold lineP at h
  cases h1 : k == 1 with
  | true =>
    have hk : k = 1 := by simpa using h1
    rw [h1, Bool.not_true, Bool.false_and, if_neg Bool.false_ne_true] at h
    split at h
    · exact absurd (show (24 : Int) = 0 from congrArg Prod.snd h) (by decide)
    · rw [if_pos rfl] at h; exact .inl ⟨hk, h⟩
  | false =>
    cases h2 : k == 2 with
    | true =>
      have hk : k = 2 := by simpa using h2
      rw [h1, h2, Bool.not_true, Bool.and_false, if_neg Bool.false_ne_true] at h
      split at h
      · exact absurd (show (24 : Int) = 0 from congrArg Prod.snd h) (by decide)
      · rw [if_neg Bool.false_ne_true] at h; exact .inr ⟨hk, h⟩
    | false =>
      rw [h1, h2, Bool.not_false, Bool.true_and, if_pos rfl] at h
      exact absurd (show (1 : Int) = 0 from congrArg Prod.snd h) (by decide)
structure LineBack (k : Int) (s : Str) (x : api_Head) : Prop where
  kind : x.Kind = k
  raw : rawL x = s
  code : inI x.Code = true
  minor : inI x.Minor = true
  method : x.Method.length ≤ s.length
  target : x.Target.length ≤ s.length
  reason : x.Reason.length ≤ s.length
theorem verT_taken {v : Str} (h : 0 ≤ verK v) (h2 : (verK v == 2) = false) : verT (verK v) = v ∧ inI (verK v) = true := by
  rcases verK_taken h h2 with ⟨e, e2⟩ | ⟨e, e2⟩ <;> rw [e2, e] <;> exact ⟨by decide, by decide⟩
theorem line_back {k : Int} {s : Str} {x : api_Head} (h : lineP k s = (x, 0)) : LineBack k s x := by
  rcases lineP_kind h with ⟨hk, h⟩ | ⟨hk, h⟩
  · rcases reqP_cases s with (h1 | h1) | ⟨h1, h2⟩
    · rw [h1] at h; exact absurd (show (26 : Int) = 0 from congrArg Prod.snd h) (by decide)
    · rw [h1] at h; exact absurd (show (20 : Int) = 0 from congrArg Prod.snd h) (by decide)
    · obtain ⟨v, e, n1, n2, h3, h4, k1, k2, k3, k4⟩ := reqF_parts h1
      rw [h2] at h
      have hx := congrArg Prod.fst h
      dsimp only at hx
      subst hx
      obtain ⟨q1, q2⟩ := verT_taken k1 k2
      have hlen := congrArg List.length e
      simp only [List.length_append, List.length_cons] at hlen
      rw [k3]
      refine ⟨hk.symm, ?_, rfl, q2, by dsimp only; omega, by dsimp only; omega, by simp⟩
      show reqM s ++ 32 :: (reqT s ++ 32 :: verT (verK v)) = s
      rw [q1]; exact e.symm
  · unfold staP at h
    split at h
    · exact absurd (show (26 : Int) = 0 from congrArg Prod.snd h) (by decide)
    · split at h
      · rename_i h26 hF
        have hF' := hF
        obtain ⟨b, w, r, hb, e, hw, hl⟩ := staF_parts hF
        obtain ⟨m1, m2, m3⟩ := sta_scan (r := r) hb hw
        rw [← e] at m1 m2 m3
        unfold staF at hF'
        rw [m1, m2, m3] at hF'
        simp only [Bool.and_eq_true, Bool.not_eq_true', decide_eq_false_iff_not] at hF'
        have hx := congrArg Prod.fst h
        dsimp only at hx
        subst hx
        obtain ⟨q1, q2⟩ := text_three hl (by simpa using hF'.1.1.2) hF'.1.2
        have hlen := congrArg List.length e
        simp only [List.length_append, List.length_cons] at hlen
        rw [m1, m2, m3, byteR_cons]
        have hv : verT ((b - 48).toNat : Int) = httpP ++ [49, 46, b] ∧ inI ((b - 48).toNat : Int) = true := by rcases hb with h | h <;> subst h <;> exact ⟨by decide, by decide⟩
        refine ⟨hk.symm, ?_, q2, hv.2, by simp, by simp, by dsimp only; omega⟩
        show verT ((b - 48).toNat : Int) ++ 32 :: (textN 10 (readN 10 w 599).1 ++ 32 :: r) = s
        rw [hv.1, q1, e]; simp
      · exact absurd (show (20 : Int) = 0 from congrArg Prod.snd h) (by decide)
theorem lineP_fields (k : Int) (s : Str) : (lineP k s).1.Fields = [] := by
  unfold lineP reqP staP
  split
  · rfl
  · split
    · rfl
    · split
      · split
        · rfl
        · split <;> rfl
      · split
        · rfl
        · split <;> rfl
end Go.Dm
