/-
  Quoted texts, and lists between commas: the document's, as the program's.
-/
import Derived.Test.YtmdocoobecckdaaGreatDoorT05Q
namespace Go.Dm
theorem sSub_one {s : Str} {i : Nat} {c : UInt8} (h : s[i]? = some c) : sSub s (i : Int) ((i + 1 : Nat) : Int) = some [c] := by
  have hlt := (List.getElem?_eq_some_iff.1 h).1
  rw [sSub_nat (by omega) (by omega), List.drop_take, show i + 1 - i = 1 by omega, List.drop_eq_getElem_cons hlt, List.take_succ_cons, List.take_zero, (List.getElem?_eq_some_iff.1 h).2]
theorem Front_j4_eq (rec2 : Str → Int → Option (Str × Int)) (s out : Str) (i : Nat) (c : UInt8) (h : s[i]? = some c) (hs : s.length < 1000000000) (ho : out.length < 1000000000) (q : Bool) :
    ref05_Front_j4 rec2 s out (i : Int) q = if q then some ([], 0) else rec2 (out ++ [c]) ((i + 1 : Nat) : Int) := by
  have hlt := (List.getElem?_eq_some_iff.1 h).1
  unfold ref05_Front_j4
  rw [iAdd_one (by omega), Option.bind_some, sSub_one h, Option.bind_some, sCat_ok (by simp; omega), Option.bind_some, Option.bind_some]
theorem Front_L2_eq (s : Str) (hs : s.length < 1000000000) : ∀ (n i : Nat) (out : Str), i ≤ s.length → s.length - i < n → out.length ≤ i →
    ref05_Front_L2 s n out (i : Int) = some (match qread (s.drop i) with | some p => (out ++ p.1, ((i + p.2 : Nat) : Int)) | none => ([], 0))
  | 0, _, _, _, h, _ => by omega
  | n + 1, i, out, hi, h, ho => by
    rw [ref05_Front_L2]
    cases hd : s.drop i with
    | nil =>
      have : i = s.length := by have := congrArg List.length hd; simp at this; omega
      rw [decide_eq_false (by omega), if_neg (by decide)]
      rfl
    | cons c r =>
      obtain ⟨hlt, hr⟩ := drop_cons_lt hd
      have hx : s[i]? = some c := by have := congrArg (·[0]?) hd; simpa using this
      have hrl : r.length = s.length - (i + 1) := by rw [← hr]; simp
      rw [decide_eq_true (show (i : Int) < (s.length : Int) by omega), if_pos rfl, sAt_nat, hx, Option.bind_some, iAdd_one (by omega), Option.bind_some, Option.bind_some, Option.bind_some]
      cases h34 : c == 34 with
      | true =>
        have : c = 34 := by simpa using h34
        subst this
        rw [if_pos rfl, qread_end]; simp
      | false =>
        rw [if_neg (by decide)]
        unfold ref05_Front_j3
        cases h92 : c == 92 with
        | true =>
          have : c = 92 := by simpa using h92
          subst this
          rw [if_pos rfl]
          cases r with
          | nil =>
            simp only [List.length_nil] at hrl
            have : (((i + 1 : Nat) : Int) == (s.length : Int)) = true := by simp; omega
            rw [this, if_pos rfl, qread_esc0]
            unfold ref05_Front_j4
            rw [if_pos rfl]
          | cons d t =>
            obtain ⟨hlt2, hr2⟩ := drop_cons_lt hr
            have hx2 : s[i + 1]? = some d := by have := congrArg (·[0]?) hr; simpa using this
            have : (((i + 1 : Nat) : Int) == (s.length : Int)) = false := beq_eq_false_iff_ne.2 (by omega)
            have ih := Front_L2_eq s hs n (i + 2) (out ++ [d]) (by omega) (by omega) (by simp; omega)
            rw [show i + 2 = i + 1 + 1 from rfl, hr2] at ih
            rw [this, if_neg (by decide), sAt_nat, hx2, Option.bind_some, ref01_Value_eq, Option.bind_some, Front_j4_eq _ _ _ _ d hx2 hs (by omega), qread_esc, ih]
            cases cVal d with
            | false => rfl
            | true =>
              rw [Bool.not_true, if_neg (by decide), if_pos rfl]
              cases qread t with
              | none => rfl
              | some p => simp only [Option.map_some, List.append_assoc, List.singleton_append]; rw [show i + 1 + 1 + p.2 = i + (p.2 + 2) by omega]
        | false =>
          have : ((i : Int) == (s.length : Int)) = false := beq_eq_false_iff_ne.2 (by omega)
          have ih := Front_L2_eq s hs n (i + 1) (out ++ [c]) (by omega) (by omega) (by simp; omega)
          rw [hr] at ih
          rw [if_neg (by decide), this, if_neg (by decide), sAt_nat, hx, Option.bind_some, ref01_Value_eq, Option.bind_some, Front_j4_eq _ _ _ _ c hx hs (by omega), qread_oth r h34 h92, ih]
          cases cVal c with
          | false => rfl
          | true =>
            rw [Bool.not_true, if_neg (by decide), if_pos rfl]
            cases qread r with
            | none => rfl
            | some p => simp only [Option.map_some, List.append_assoc, List.singleton_append]; rw [show i + 1 + p.2 = i + (p.2 + 1) by omega]
theorem Front_quote (r : Str) (hs : r.length < 900000000) : ref05_Front (34 :: r) = some (match qread r with | some p => (p.1, ((p.2 + 1 : Nat) : Int)) | none => ([], 0)) := by
  unfold ref05_Front ref05_Front_j1
  have h0 : (((34 :: r : Str).length : Int) == 0) = false := beq_eq_false_iff_ne.2 (by simp only [List.length_cons]; omega)
  have := Front_L2_eq (34 :: r) (by simp; omega) fuel 1 [] (by simp) (by simp only [List.length_cons]; unfold fuel; omega) (by simp)
  rw [h0, if_neg (by decide), sAt_zero, List.getElem?_cons_zero, Option.bind_some]
  show ref05_Front_L2 (34 :: r) fuel [] ((1 : Nat) : Int) = _
  rw [this]
  show some (match qread r with | some p => (([] : Str) ++ p.1, ((1 + p.2 : Nat) : Int)) | none => ([], 0)) = _
  cases qread r with
  | none => rfl
  | some p => simp only [List.nil_append, Nat.add_comm]
theorem Inner_L1_eq (s : Str) (hs : s.length < 900000000) : ∀ (n i d : Nat), i ≤ s.length + 1 → s.length + 1 - i < n → d ≤ i → ref06_Inner_L1 s n ((d + 1 : Nat) : Int) (i : Int) = some (match clen (d + 1) (s.drop i) with | some m => ((i + m : Nat) : Int) | none => 0)
  | 0, _, _, _, h, _ => by omega
  | n + 1, i, d, hi, h, hdi => by
    rw [ref06_Inner_L1]
    cases hd : s.drop i with
    | nil =>
      have : s.length ≤ i := by have := congrArg List.length hd; simp at this; omega
      rw [decide_eq_false (by omega), if_neg (by decide)]
      rfl
    | cons c r =>
      obtain ⟨hlt, hr⟩ := drop_cons_lt hd
      have hx : s[i]? = some c := by have := congrArg (·[0]?) hd; simpa using this
      have j2 : ∀ (d' i' : Nat), i' < 4000000000 → ref06_Inner_j2 (ref06_Inner_L1 s n) ((d' + 1 : Nat) : Int) (i' : Int) = ref06_Inner_L1 s n ((d' + 1 : Nat) : Int) ((i' + 1 : Nat) : Int) := fun d' i' h' => by
        unfold ref06_Inner_j2
        have : (((d' + 1 : Nat) : Int) == 0) = false := beq_eq_false_iff_ne.2 (by omega)
        rw [this, if_neg (by decide), iAdd_one (by omega), Option.bind_some]
      have i1 : iAdd ((d + 1 : Nat) : Int) 1 = some ((d + 1 + 1 : Nat) : Int) := iAdd_one (by omega)
      have i2 : iSub ((d + 1 : Nat) : Int) 1 = some (d : Int) := by rw [iSub_ok (by omega) (by omega)]; simp
      rw [decide_eq_true (show (i : Int) < (s.length : Int) by omega), if_pos rfl, sAt_nat, hx, Option.bind_some, i1, Option.bind_some, i2, Option.bind_some, iAdd_one (by omega), Option.bind_some, j2 _ _ (by omega), j2 _ _ (by omega), j2 _ _ (by omega)]
      have ih := fun i' d' h1 h2 h3 => Inner_L1_eq s hs n i' d' h1 h2 h3
      cases c40 : c == 40 with
      | true =>
        have : c = 40 := by simpa using c40
        subst this
        rw [if_pos rfl, ih (i + 1) (d + 1) (by omega) (by omega) (by omega), hr, clen_open]
        cases clen (d + 2) r with
        | none => rfl
        | some m => simp only [Option.map_some]; rw [show i + 1 + m = i + (m + 1) by omega]
      | false =>
        rw [if_neg (by decide)]
        cases c41 : c == 41 with
        | true =>
          have : c = 41 := by simpa using c41
          subst this
          rw [if_pos rfl, clen_close]
          cases d with
          | zero =>
            rw [clen_zero]
            unfold ref06_Inner_j2
            rw [if_pos (by decide), iAdd_one (by omega)]
            rfl
          | succ d =>
            rw [j2 _ _ (by omega), ih (i + 1) d (by omega) (by omega) (by omega), hr]
            cases clen (d + 1) r with
            | none => rfl
            | some m => simp only [Option.map_some]; rw [show i + 1 + m = i + (m + 1) by omega]
        | false =>
          rw [if_neg (by decide)]
          cases c92 : c == 92 with
          | true =>
            have : c = 92 := by simpa using c92
            subst this
            rw [if_pos rfl, ih (i + 1 + 1) d (by omega) (by omega) (by omega)]
            cases r with
            | nil =>
              have : s.drop (i + 1 + 1) = [] := by rw [← List.drop_drop, hr]; rfl
              rw [this, clen_esc0]
              rfl
            | cons x t =>
              have : s.drop (i + 1 + 1) = t := by rw [← List.drop_drop, hr]; rfl
              rw [this, clen_esc]
              cases clen (d + 1) t with
              | none => rfl
              | some m => simp only [Option.map_some]; rw [show i + 1 + 1 + m = i + (m + 2) by omega]
          | false =>
            rw [if_neg (by decide), ih (i + 1) d (by omega) (by omega) (by omega), hr, clen_oth d r c40 c41 c92]
            cases clen (d + 1) r with
            | none => rfl
            | some m => simp only [Option.map_some]; rw [show i + 1 + m = i + (m + 1) by omega]
theorem ref06_Inner_eq (c : UInt8) (r : Str) (hs : r.length < 800000000) (hc : (c == 34 || c == 40) = true) : ref06_Inner (c :: r) = some (passN c r : Int) := by
  unfold ref06_Inner passN
  rw [sAt_zero, List.getElem?_cons_zero, Option.bind_some]
  cases h34 : c == 34 with
  | true =>
    have : c = 34 := by simpa using h34
    subst this
    rw [if_pos rfl, if_pos rfl, Front_quote r (by omega), Option.bind_some]
    cases qread r <;> rfl
  | false =>
    have h40 : c = 40 := by rw [h34, Bool.false_or] at hc; simpa using hc
    subst h40
    rw [if_neg (by decide), if_neg (by decide), show fuel = 999999999999999999 + 1 from rfl, ref06_Inner_L1]
    have h0 : decide ((0 : Int) < ((40 :: r : Str).length : Int)) = true := decide_eq_true (by simp only [List.length_cons]; omega)
    rw [h0, if_pos rfl, sAt_zero, List.getElem?_cons_zero, Option.bind_some, if_pos (by decide), show iAdd 0 1 = some 1 from by decide, Option.bind_some]
    unfold ref06_Inner_j2
    rw [if_neg (by decide), show iAdd 0 1 = some 1 from by decide, Option.bind_some]
    have := Inner_L1_eq (40 :: r) (by simp; omega) 999999999999999999 1 0 (by simp) (by simp only [List.length_cons]; omega) (by omega)
    show ref06_Inner_L1 (40 :: r) 999999999999999999 ((0 + 1 : Nat) : Int) ((1 : Nat) : Int) = _
    rw [this]
    show some (match clen 1 r with | some m => ((1 + m : Nat) : Int) | none => 0) = _
    cases clen 1 r with
    | none => rfl
    | some m => simp only [Nat.add_comm]
theorem Split_L4_eq (l : List Str) (x : Str) (hl : l.length < 900000000) : ref06_Split_L4 l x fuel [] 0 = some ((l ++ [x]).filter (fun x => !(x == [])), 0) := by
  have key : ∀ (n i : Nat) (out : List Str), i ≤ (l ++ [x]).length → (l ++ [x]).length - i < n → out.length ≤ i → ref06_Split_L4 l x n out (i : Int) = some (out ++ ((l ++ [x]).drop i).filter (fun x => !(x == [])), 0) := by
    have hll : (l ++ [x]).length = l.length + 1 := by simp
    intro n
    induction n with
    | zero => intro i _ _ h; omega
    | succ n ih =>
      intro i out hi h ho
      rw [ref06_Split_L4]
      by_cases hlt : i < (l ++ [x]).length
      · have g : (l ++ [x])[i]? = some (l ++ [x])[i] := List.getElem?_eq_getElem hlt
        unfold ref06_Split_j5
        rw [decide_eq_true (show (i : Int) < ((l ++ [x]).length : Int) by omega), if_pos rfl, lAt_nat, g, Option.bind_some, Option.bind_some, if_pos (fits_ok (by omega) (by omega)), iAdd_one (by omega), Option.bind_some, Option.bind_some, ih (i + 1) _ (by omega) (by omega) (by simp; omega), ih (i + 1) _ (by omega) (by omega) (by omega), List.drop_eq_getElem_cons hlt, List.filter_cons]
        cases (l ++ [x])[i] == [] <;> simp
      · have : i = (l ++ [x]).length := by omega
        subst this
        rw [decide_eq_false (by omega), if_neg (by decide), List.drop_length]
        simp
  have := key fuel 0 [] (Nat.zero_le _) (by simp; unfold fuel; omega) (by simp)
  rw [List.drop_zero, List.nil_append] at this
  exact this
theorem ref06_Split_L1_eq (s : Str) (hs : s.length < 800000000) : ∀ (n k a : Nat) (out : List Str), k ≤ s.length → s.length - k < n → a ≤ k → out.length ≤ k →
    ref06_Split_L1 s n out (a : Int) (k : Int) = some (match segs 0 (mid s a k) (s.drop k) with | some l => ((out ++ l.map trim).filter (fun x => !(x == [])), 0) | none => ([], 2))
  | 0, _, _, _, _, h, _, _ => by omega
  | n + 1, k, a, out, hk, hn, ha, ho => by
    have hat : At s k (s.drop k) := ⟨hk, rfl⟩
    have hl := hat.len
    rw [ref06_Split_L1]
    cases hd : s.drop k with
    | nil =>
      have : k = s.length := by have := congrArg List.length hd; simp at this; omega
      subst this
      have hm : mid s a s.length = s.drop a := by unfold mid; rw [List.take_length]
      have hdl : (s.drop a).length ≤ s.length := by simp
      rw [decide_eq_false (by omega), if_neg (by decide), sFrom_nat ha, Option.bind_some, ref06_Trim_eq _ (by omega), Option.bind_some, if_pos (fits_ok (by omega) (by omega)), Split_L4_eq _ _ (by omega), segs_nil, hm]
      rfl
    | cons c t =>
      obtain ⟨hlt, hr⟩ := drop_cons_lt hd
      have hx : s[k]? = some c := by have := congrArg (·[0]?) hd; simpa using this
      have htl : t.length = s.length - (k + 1) := by rw [← hr]; simp
      rw [hd] at hat
      have j2t : (c == 34 || c == 40) = true → ref06_Split_j2 (ref06_Split_L1 s n) s out (a : Int) (k : Int) true = some (match segs 0 (mid s a k) (c :: t) with | some l => ((out ++ l.map trim).filter (fun x => !(x == [])), 0) | none => ([], 2)) := fun hc => by
        unfold ref06_Split_j2
        rw [if_pos rfl, sFrom_nat hk, Option.bind_some, hd, ref06_Inner_eq c t (by omega) hc, Option.bind_some, segs_in _ t hc]
        by_cases hp : passN c t = 0
        · rw [hp, if_pos rfl]; rfl
        · have hple := passN_le c t
          have h0 : ((passN c t : Int) == 0) = false := beq_eq_false_iff_ne.2 (by omega)
          have hadd : iAdd (k : Int) (passN c t : Int) = some ((k + passN c t : Nat) : Int) := by rw [iAdd_ok (by omega) (by omega)]; simp
          have ih := ref06_Split_L1_eq s hs n (k + passN c t) a out (by omega) (by omega) (by omega) (by omega)
          have hdp : s.drop (k + passN c t) = (c :: t).drop (passN c t) := by rw [← List.drop_drop, hd]
          rw [mid_more hat ha (by simp; omega), hdp] at ih
          obtain ⟨q, hq⟩ : ∃ q, passN c t = q + 1 := ⟨passN c t - 1, by omega⟩
          rw [h0, if_neg (by decide), if_neg hp, hadd, Option.bind_some, ih, hq, Nat.add_sub_cancel, segs_pass q _ t (by omega)]
          simp
      have j2f : (c == 34 || c == 40) = false → ref06_Split_j2 (ref06_Split_L1 s n) s out (a : Int) (k : Int) false = some (match segs 0 (mid s a k) (c :: t) with | some l => ((out ++ l.map trim).filter (fun x => !(x == [])), 0) | none => ([], 2)) := fun hc => by
        unfold ref06_Split_j2 ref06_Split_j3
        have hml := mid_len s a k
        have hsub : sSub s (a : Int) (k : Int) = some (mid s a k) := sSub_nat ha hk
        rw [if_neg (by decide), sAt_nat, hx, Option.bind_some, hsub, Option.bind_some, ref06_Trim_eq _ (by omega), Option.bind_some, if_pos (fits_ok (by omega) (by omega)), iAdd_one (by omega), Option.bind_some, Option.bind_some]
        cases h44 : c == 44 with
        | true =>
          have : c = 44 := by simpa using h44
          subst this
          have ih := ref06_Split_L1_eq s hs n (k + 1) (k + 1) (out ++ [trim (mid s a k)]) (by omega) (by omega) (Nat.le_refl _) (by simp; omega)
          rw [mid_self, hr] at ih
          rw [if_pos rfl, ih, segs_comma]
          cases segs 0 [] t with
          | none => rfl
          | some l => simp
        | false =>
          have ih := ref06_Split_L1_eq s hs n (k + 1) a out (by omega) (by omega) (by omega) (by omega)
          have m1 := mid_more (n := 1) hat ha (by simp)
          rw [m1, hr] at ih
          rw [if_neg (by decide), Option.bind_some, ih, segs_oth _ t hc h44]
          rfl
      rw [decide_eq_true (show (k : Int) < (s.length : Int) by omega), if_pos rfl, sAt_nat, hx, Option.bind_some, Option.bind_some]
      cases h34 : c == 34 with
      | true => rw [if_pos rfl]; exact j2t (by rw [h34]; rfl)
      | false =>
        rw [if_neg (by decide)]
        cases h40 : c == 40 with
        | true => exact j2t (by rw [h40, Bool.or_true])
        | false => exact j2f (by rw [h34, h40]; rfl)
theorem ref06_Split_eq (s : Str) (hs : s.length < 800000000) : ref06_Split s = some (splitR s) := by
  unfold ref06_Split splitR splitC
  have := ref06_Split_L1_eq s hs fuel 0 0 [] (Nat.zero_le _) (by unfold fuel; omega) (Nat.le_refl _) (by simp)
  rw [mid_self, List.drop_zero] at this
  show ref06_Split_L1 s fuel [] ((0 : Nat) : Int) ((0 : Nat) : Int) = _
  rw [this]
  cases segs 0 [] s with
  | none => rfl
  | some l => rfl
end Go.Dm
