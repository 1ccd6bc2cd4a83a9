/-
  Layer 11 (references to places): the program's Parse and Swap, and the document's, come to the same.
-/
import Derived.Test.YtgdhdeemlhllpabGreatDoorTLib
namespace Go.Dm
theorem uriref_upto_eq (s cs : Str) (hs : s.length < 1000000000) (hc : cs.length < 1000000000) (ha : cs.all (fun c => c.toNat < 128) = true) :
    uriref_upto s cs = some (upto cs s, from_ cs s) := by
  unfold uriref_upto
  rw [strings_IndexAny_eq s cs hs hc ha]
  by_cases h : from_ cs s = []
  · have h2 : upto cs s = s := by have := upto_from cs s; rw [h, List.append_nil] at this; exact this
    simp [h, h2]
  · simp only [h, if_false, Option.bind_some, Int.natCast_nonneg, decide_true, if_true, sTo_nat (upto_le cs s), sFrom_nat (upto_le cs s), take_upto, drop_upto]
theorem ref11_first_eq (s cs : Str) (hs : s.length < 1000000000) (hc : cs.length < 1000000000) : ref11_first s cs = some ((upto cs s).length : Int) := by
  unfold ref11_first
  have key : ∀ (n i : Nat), i ≤ s.length → s.length - i < n → ref11_first_L1 s cs n (i : Int) = some ((i + (upto cs (s.drop i)).length : Nat) : Int) := by
    intro n
    induction n with
    | zero => intro i _ h; omega
    | succ n ih =>
      intro i hi h
      rw [ref11_first_L1]
      by_cases hlt : i < s.length
      · rw [List.drop_eq_getElem_cons hlt]
        simp only [Int.ofNat_lt, hlt, decide_true, if_true, sAt_nat, List.getElem?_eq_getElem hlt, Option.bind_some, ref01_In_eq _ cs hc]
        cases hb : cs.contains s[i] with
        | true => rw [upto_cons_t hb]; simp [ref11_first_j2]
        | false =>
          rw [upto_cons_f hb]
          simp only [Bool.not_false, ref11_first_j2, if_true, iAdd_one (show i < 4611686018427387904 by omega), Option.bind_some, ih (i + 1) (by omega) (by omega), List.length_cons]
          congr 2; omega
      · have : i = s.length := by omega
        subst this
        simp only [Int.lt_irrefl, decide_false, Bool.false_eq_true, if_false, ref11_first_j2, List.drop_length]
        rfl
  have := key fuel 0 (Nat.zero_le _) (fuel_gt (by omega))
  simpa using this

def cScheme (c : UInt8) : Bool := cAlpha c || cDigit c || ([43, 45, 46] : Str).contains c
def isScheme : Str → Bool
  | [] => false
  | c :: s => cAlpha c && s.all cScheme
theorem uriref_scheme_1_eq (b : UInt8) : uriref_scheme_1 b = some (cScheme b) :=
  of_decide_eq_true (all_bytes (fun b => decide (uriref_scheme_1 b = some (cScheme b))) (by decide +kernel) b)
theorem alpha_scheme (b : UInt8) (h : cAlpha b = true) : cScheme b = true := by simp [cScheme, h]
theorem uriref_scheme_eq (s : Str) (hs : s.length < 1000000000) : uriref_scheme s = some (isScheme s) := by
  unfold uriref_scheme
  cases s with
  | nil => rfl
  | cons c s =>
    have h1 : ((c :: s == ([] : Str))) = false := rfl
    simp only [h1, Bool.not_false, if_true, sAt_zero, List.getElem?_cons_zero, Option.bind_some, octet_IsAlpha_eq]
    cases ha : cAlpha c with
    | false => simp [uriref_scheme_j1, isScheme, ha]
    | true =>
      simp only [if_true, octet_All_one uriref_scheme_1_eq _ hs, Option.bind_some, uriref_scheme_j1, isScheme, ha, Bool.true_and, List.all_cons, alpha_scheme c ha]
theorem ref11_scheme_eq (s : Str) (hs : s.length < 1000000000) : ref11_scheme s = some (isScheme s) := by
  unfold ref11_scheme
  have step : ∀ n (i : Nat) x, i < s.length → s[i]? = some x → ref11_scheme_L1 s (n + 1) (i : Int) = if (cAlpha x || (decide (i ≠ 0) && cScheme x)) = true then ref11_scheme_L1 s n ((i + 1 : Nat) : Int) else some false := by
    intro n i x hi hx
    rw [ref11_scheme_L1]
    simp only [Int.ofNat_lt, hi, decide_true, if_true, sAt_nat, hx, Option.bind_some, ref01_Alpha_eq, ref01_Digit_eq, ref01_In_eq _ [43, 45, 46] (by decide), ref11_scheme_j2, iAdd_one (show i < 4611686018427387904 by omega), cScheme]
    by_cases h0 : i = 0
    · subst h0; cases ha : cAlpha x <;> simp
    · have h0' : ((i : Int) == 0) = false := by simp; omega
      simp only [h0', Bool.false_eq_true, if_false]
      rcases bcase (cAlpha x) with ha | ha <;> rcases bcase (cDigit x) with hd | hd <;> rcases bcase (([43, 45, 46] : Str).contains x) with hc | hc <;> simp only [ha, hd, hc] <;> simp [h0]
  have endE : ∀ n, ref11_scheme_L1 s (n + 1) (s.length : Int) = some (decide (0 < (s.length : Int))) := by
    intro n; rw [ref11_scheme_L1]; simp only [Int.lt_irrefl, decide_false, Bool.false_eq_true, if_false]
  have key : ∀ (n i : Nat), 1 ≤ i → i ≤ s.length → s.length - i < n → ref11_scheme_L1 s n (i : Int) = some ((s.drop i).all cScheme) := by
    intro n
    induction n with
    | zero => intro i _ _ h; omega
    | succ n ih =>
      intro i h1 hi h
      by_cases hlt : i < s.length
      · rw [step n i _ hlt (List.getElem?_eq_getElem hlt), List.drop_eq_getElem_cons hlt, ih (i + 1) (by omega) (by omega) (by omega)]
        have : i ≠ 0 := by omega
        generalize s[i] = x
        generalize List.drop (i + 1) s = r
        cases ha : cAlpha x with
        | true => simp [alpha_scheme _ ha]
        | false => cases hc : cScheme x <;> simp [this, hc]
      · have : i = s.length := by omega
        subst this
        rw [endE]
        simp; omega
  cases s with
  | nil => exact endE _
  | cons c s =>
    have hfu : fuel = (fuel - 1) + 1 := rfl
    rw [hfu]
    have := step (fuel - 1) 0 c (by simp) (by simp)
    simp only [Int.natCast_zero] at this
    rw [show ((0 : Int)) = ((0 : Nat) : Int) from rfl, step (fuel - 1) 0 c (by simp) (by simp), key (fuel - 1) 1 (by omega) (by simp) (by simp only [List.length_cons] at hs ⊢; unfold fuel; omega)]
    simp only [isScheme, List.drop_succ_cons, List.drop_zero]
    cases ha : cAlpha c <;> simp

def okB (more : Str) : Str → Bool
  | [] => true
  | c :: s => if c == 37 then (match s with
    | a :: b :: r => cHex a && cHex b && okB more r
    | _ => false) else (cPath c || more.contains c) && okB more s
theorem okB_pct (more : Str) (s : Str) : okB more (37 :: s) = (match s with | a :: b :: r => cHex a && cHex b && okB more r | _ => false) := by
  rw [okB.eq_def]
  match s with
  | [] => rfl
  | [_] => rfl
  | _ :: _ :: _ => rfl
theorem okB_oth (more : Str) (c : UInt8) (s : Str) (h : (c == 37) = false) : okB more (c :: s) = ((cPath c || more.contains c) && okB more s) := by
  rw [okB.eq_def]; simp only [h, Bool.false_eq_true, if_false]

theorem ref09_Of_eq (s more : Str) (hs : s.length < 1000000000) (hm : more.length < 1000000000) : ref09_Of s more = some (okB more s) := by
  unfold ref09_Of
  have key : ∀ (n : Nat) (s : Str), s.length < n → s.length < 1000000000 → ref09_Of_r n s more = some (okB more s) := by
    intro n
    induction n with
    | zero => intro s h; omega
    | succ n ih =>
      intro s h hs
      rw [ref09_Of_r]
      cases s with
      | nil => rfl
      | cons c s =>
        have h1 : ((c :: s == ([] : Str))) = false := rfl
        simp only [h1, Bool.false_eq_true, if_false, sAt_zero, List.getElem?_cons_zero, Option.bind_some]
        simp only [List.length_cons] at h hs
        cases hc : (c == 37) with
        | true =>
          have : c = 37 := by simpa using hc
          subst this
          rw [okB_pct]
          match s, h, hs with
          | [], _, _ => simp [ref09_Of_j1]
          | [a], _, _ => simp [ref09_Of_j1]
          | a :: b :: r, h, hs =>
            have h2 : (2 : Int) < ((37 :: a :: b :: r : Str).length : Int) := by simp only [List.length_cons]; omega
            have e3 : sFrom (37 :: a :: b :: r) 3 = some r := by
              have := sFrom_nat (l := 37 :: a :: b :: r) (i := 3) (by simp)
              simpa using this
            simp only [List.length_cons] at h hs
            simp only [if_true, h2, decide_true, sAt_one, sAt_two, List.getElem?_cons_succ, List.getElem?_cons_zero, Option.bind_some, ref01_Hex_eq, e3, ih r (by omega) (by omega), ref09_Of_j1]
            cases ha : cHex a <;> cases hb : cHex b <;> simp
        | false =>
          have e1 : sFrom (c :: s) 1 = some s := by
            have := sFrom_nat (l := c :: s) (i := 1) (by simp)
            simpa using this
          rw [okB_oth more c s hc]
          simp only [Bool.false_eq_true, if_false, ref01_Path_eq, Option.bind_some, e1, ih s (by omega) (by omega), ref09_Of_j2, ref01_In_eq c more hm]
          cases hp : cPath c <;> cases hq : more.contains c <;> simp
  exact key fuel s (fuel_gt (by omega)) hs

theorem uriref_bytes_eq (s more : Str) (hs : s.length < 1000000000) (hm : more.length < 1000000000) : uriref_bytes s more = some (okB more s) := by
  unfold uriref_bytes
  have key : ∀ (n i : Nat), i ≤ s.length → s.length - i < n → uriref_bytes_L1 s more n (i : Int) = some (okB more (s.drop i)) := by
    intro n
    induction n with
    | zero => intro i _ h; omega
    | succ n ih =>
      intro i hi h
      rw [uriref_bytes_L1]
      by_cases hlt : i < s.length
      · have ea : iAdd (i : Int) 1 = some ((i + 1 : Nat) : Int) := iAdd_one (by omega)
        have ea2 : iAdd (i : Int) 2 = some ((i + 2 : Nat) : Int) := iAdd_nat (k := 2) (by omega)
        have ea3 : iAdd (i : Int) 3 = some ((i + 3 : Nat) : Int) := iAdd_nat (k := 3) (by omega)
        have ea4 : iAdd ((i + 2 : Nat) : Int) 1 = some ((i + 3 : Nat) : Int) := iAdd_one (by omega)
        have hd := List.drop_eq_getElem_cons hlt
        simp only [Int.ofNat_lt, hlt, decide_true, if_true, sAt_nat, List.getElem?_eq_getElem hlt, Option.bind_some, ea, ea2, ea3]
        cases hc : (s[i] == 37) with
        | true =>
          have h37 : s[i] = 37 := by simpa using hc
          have hlen : s.length - i = (List.drop (i + 1) s).length + 1 := by rw [List.length_drop]; omega
          have hsub : i + 2 < s.length → sSub s ((i + 1 : Nat) : Int) ((i + 3 : Nat) : Int) = some ((List.drop (i + 1) s).take 2) := by
            intro h2
            rw [sSub_nat (by omega) (by omega), List.drop_take, show i + 3 - (i + 1) = 2 by omega]
          have hd3 : List.drop (i + 3) s = (List.drop (i + 1) s).drop 2 := by rw [List.drop_drop]
          rw [hd, h37, okB_pct]
          simp only [if_true]
          generalize List.drop (i + 1) s = u at *
          match u, hlen, hsub, hd3 with
          | [], hlen, _, _ =>
            have h2' : (s.length : Int) ≤ ((i + 2 : Nat) : Int) := by simp only [List.length_cons, List.length_nil] at hlen; omega
            simp only [h2', decide_true, if_true, uriref_bytes_j2]
          | [_], hlen, _, _ =>
            have h2' : (s.length : Int) ≤ ((i + 2 : Nat) : Int) := by simp only [List.length_cons, List.length_nil] at hlen; omega
            simp only [h2', decide_true, if_true, uriref_bytes_j2]
          | a :: b :: r, hlen, hsub, hd3 =>
            have h2 : i + 2 < s.length := by simp only [List.length_cons] at hlen; omega
            have h2' : ¬ (s.length : Int) ≤ ((i + 2 : Nat) : Int) := by omega
            have e4 : uriref_bytes_L1 s more n ((i + 3 : Nat) : Int) = some (okB more r) := by
              rw [ih (i + 3) (by omega) (by omega), hd3]; rfl
            have e5 : uriref_bytes_j4 (uriref_bytes_L1 s more n) ((i + 2 : Nat) : Int) = some (okB more r) := by rw [uriref_bytes_j4, ea4, Option.bind_some, e4]
            have e6 : ∀ t, uriref_bytes_j2 (uriref_bytes_L1 s more n) (i : Int) t = if t = true then some false else some (okB more r) := by intro t; rw [uriref_bytes_j2, ea2, Option.bind_some, e5]
            simp only [h2', decide_false, Bool.false_eq_true, if_false, hsub h2, List.take_succ_cons, List.take_zero, Option.bind_some, octet_All_one octet_IsHex_eq ([a, b] : Str) (by simp only [List.length_cons, List.length_nil]; omega), e6, List.all_cons, List.all_nil, Bool.and_true]
            cases ha : cHex a <;> cases hb : cHex b <;> simp
        | false =>
          rw [hd, okB_oth more _ _ hc]
          simp only [Bool.false_eq_true, if_false, octet_IsPath_eq, Option.bind_some, uriref_bytes_j3, uriref_bytes_j4, ea, ih (i + 1) (by omega) (by omega), strings_IndexByte, idxByte_lt]
          generalize s[i] = x
          cases hp : cPath x <;> cases hq : more.contains x <;> simp
      · have : i = s.length := by omega
        subst this
        simp only [Int.lt_irrefl, decide_false, Bool.false_eq_true, if_false, List.drop_length]
        rfl
  have := key fuel 0 (Nat.zero_le _) (fuel_gt (by omega))
  simpa using this

def av (cs a : Str) : Prop := ∀ x ∈ a, cs.contains x = false
theorem upto_av {cs a b : Str} (h : av cs a) : upto cs (a ++ b) = a ++ upto cs b := by
  induction a with
  | nil => rfl
  | cons x a ih =>
    rw [List.cons_append, upto_cons_f (h x (List.mem_cons_self ..)), ih (fun y hy => h y (List.mem_cons_of_mem _ hy))]; rfl
theorem from_av {cs a b : Str} (h : av cs a) : from_ cs (a ++ b) = from_ cs b := by
  induction a with
  | nil => rfl
  | cons x a ih =>
    rw [List.cons_append, from_cons_f (h x (List.mem_cons_self ..)), ih (fun y hy => h y (List.mem_cons_of_mem _ hy))]
theorem upto_all {cs a : Str} (h : av cs a) : upto cs a = a := by have := upto_av (b := []) h; simpa [upto] using this
theorem from_all {cs a : Str} (h : av cs a) : from_ cs a = [] := by have := from_av (b := []) h; simpa [from_] using this
theorem upto_split {cs a b : Str} {c : UInt8} (h : av cs a) (hc : cs.contains c = true) : upto cs (a ++ c :: b) = a := by rw [upto_av h, upto_cons_t hc, List.append_nil]
theorem from_split {cs a b : Str} {c : UInt8} (h : av cs a) (hc : cs.contains c = true) : from_ cs (a ++ c :: b) = c :: b := by rw [from_av h, from_cons_t hc]
theorem split_or (cs s : Str) : av cs s ∨ ∃ a c b, s = a ++ c :: b ∧ av cs a ∧ cs.contains c = true := by
  cases h : from_ cs s with
  | nil =>
    left
    have := upto_from cs s
    rw [h, List.append_nil] at this
    rw [← this]
    exact upto_not
  | cons c b => exact .inr ⟨upto cs s, c, b, by rw [← h]; exact (upto_from cs s).symm, upto_not, from_head h⟩
theorem av_sub {cs ds a : Str} (hs : ∀ x, ds.contains x = true → cs.contains x = true) (h : av cs a) : av ds a := by
  intro x hx
  cases hd : ds.contains x with
  | false => rfl
  | true => have := hs x hd; rw [h x hx] at this; cases this
theorem scheme_av {a : Str} (h : isScheme a = true) : av [47, 63, 35, 58] a := by
  intro x hx
  have hall : a.all cScheme = true := by
    cases a with
    | nil => cases h
    | cons c a =>
      simp only [isScheme, Bool.and_eq_true] at h
      simp [h.2, alpha_scheme c h.1]
  have hc := List.all_eq_true.1 hall x hx
  have := all_bytes (fun x => !cScheme x || !([47, 63, 35, 58] : Str).contains x) (by decide +kernel) x
  simp only [hc, Bool.not_true, Bool.false_or, Bool.not_eq_true'] at this
  exact this

/-- Scheme, and what stands behind it, of a text without ? and #. -/
def sch (u : Str) : Str × Str := match from_ [58, 47] u with
  | c :: r => if c == 58 && isScheme (upto [58, 47] u) then (upto [58, 47] u, r) else ([], u)
  | [] => ([], u)
/-- Authority, and path. -/
def auth (u : Str) : Bool × Str × Str := if ([47, 47] : Str).isPrefixOf u then (true, upto [47] (u.drop 2), from_ [47] (u.drop 2)) else (false, [], u)
/-- Query, and fragment, of what begins with ? or #, or is nothing. -/
def back (t : Str) : Bool × Str × Bool × Str := match t with
  | [] => (false, [], false, [])
  | c :: r => if c == 63 then (true, upto [35] r, !(from_ [35] r == []), (from_ [35] r).drop 1) else (false, [], true, r)
def refOf (s : Str) : api_Ref :=
  let u := upto [63, 35] s
  let t := from_ [63, 35] s
  ⟨(sch u).1, (auth (sch u).2).2.1, (auth (sch u).2).2.2, (back t).2.1, (back t).2.2.2, (auth (sch u).2).1, (back t).1, (back t).2.2.1⟩

theorem from_le (cs s : Str) : (from_ cs s).length ≤ s.length := by
  have := congrArg List.length (upto_from cs s); simp only [List.length_append] at this; omega
/-- What begins with ? or #, or is nothing. -/
def Tail (t : Str) : Prop := t = [] ∨ ∃ c r, t = c :: r ∧ (c = 63 ∨ c = 35)
theorem tail_from (s : Str) : Tail (from_ [63, 35] s) := by
  cases h : from_ [63, 35] s with
  | nil => exact .inl rfl
  | cons c r =>
    refine .inr ⟨c, r, rfl, ?_⟩
    have := from_head h
    simpa using this
theorem tail_upto {v t : Str} (hv : av [63, 35] v) (ht : Tail t) : upto [63, 35] (v ++ t) = v ∧ from_ [63, 35] (v ++ t) = t := by
  rcases ht with rfl | ⟨c, r, rfl, h⟩
  · simp [upto_all hv, from_all hv]
  · have hc : ([63, 35] : Str).contains c = true := by rcases h with rfl | rfl <;> decide
    exact ⟨upto_split hv hc, from_split hv hc⟩
theorem not_scheme {p : Str} {c : UInt8} (hc : ([47, 63, 35, 58] : Str).contains c = true) (h : c ∈ p) : isScheme p = false := by
  cases hs : isScheme p with
  | false => rfl
  | true => have := scheme_av hs c h; rw [hc] at this; cases this

theorem parts_colon (s : Str) (hs : s.length < 1000000000) : uriref_parts s = match from_ [58] s with
    | [] => uriref_parts_j2 s []
    | _ :: r => if isScheme (upto [58] s) = true then uriref_parts_j2 r (upto [58] s) else uriref_parts_j2 s [] := by
  unfold uriref_parts
  simp only [strings_IndexByte, Option.bind_some, idxByte_eq, Nat.zero_add]
  cases hf : from_ [58] s with
  | nil => simp [uriref_parts_j1]
  | cons c r =>
    have hle := upto_le [58] s
    simp only [reduceCtorEq, if_false, sTo_nat hle, take_upto, Option.bind_some, uriref_scheme_eq _ (Nat.lt_of_le_of_lt hle hs)]
    have hlt : (upto [58] s).length + 1 ≤ s.length := by
      have := congrArg List.length (upto_from [58] s)
      rw [hf] at this
      simp only [List.length_append, List.length_cons] at this
      omega
    by_cases h0 : 0 < (upto [58] s).length
    · have h0' : (0 : Int) < ((upto [58] s).length : Int) := by omega
      simp only [h0', decide_true, if_true, uriref_parts_j1, sTo_nat hle, take_upto, Option.bind_some, iAdd_one (show (upto [58] s).length < 4611686018427387904 by omega), sFrom_nat hlt]
      have hd : List.drop ((upto [58] s).length + 1) s = r := by
        rw [← List.drop_drop, drop_upto, hf]; rfl
      rw [hd]
    · have h0' : ¬ (0 : Int) < ((upto [58] s).length : Int) := by omega
      have hn : upto [58] s = [] := List.eq_nil_of_length_eq_zero (by omega)
      simp only [h0', decide_false, Bool.false_eq_true, if_false, uriref_parts_j1, hn, isScheme]
      split <;> rfl

theorem parts_sch {u t : Str} (hu : av [63, 35] u) (ht : Tail t) (hs : (u ++ t).length < 1000000000) : uriref_parts (u ++ t) = uriref_parts_j2 ((sch u).2 ++ t) (sch u).1 := by
  rw [parts_colon _ hs]
  have hno : ∀ p, isScheme p = false → (match from_ [58] (u ++ t) with
      | [] => uriref_parts_j2 (u ++ t) []
      | _ :: r => if isScheme p = true then uriref_parts_j2 r p else uriref_parts_j2 (u ++ t) []) = uriref_parts_j2 (u ++ t) [] := by
    intro p hp
    cases from_ [58] (u ++ t) with
    | nil => rfl
    | cons c r => simp [hp]
  rcases split_or [58, 47] u with h | ⟨a, c, b, rfl, ha, hc⟩
  · have e : sch u = ([], u) := by unfold sch; rw [from_all h]
    rw [e]
    rcases ht with rfl | ⟨c, r, rfl, hc⟩
    · have h58 : av [58] u := av_sub (by intro x hx; simp at hx; subst hx; decide) h
      simp [from_all h58]
    · refine hno _ ?_
      have h58 : av [58] u := av_sub (by intro x hx; simp at hx; subst hx; decide) h
      rw [upto_av h58, upto_cons_f (by rcases hc with rfl | rfl <;> decide)]
      exact not_scheme (c := c) (by rcases hc with rfl | rfl <;> decide) (by simp)
  · have h58 : av [58] a := av_sub (by intro x hx; simp at hx; subst hx; decide) ha
    have hc' : c = 58 ∨ c = 47 := by simpa using hc
    rcases hc' with rfl | rfl
    · have e1 : from_ [58] (a ++ 58 :: b ++ t) = 58 :: (b ++ t) := by
        rw [List.append_assoc, List.cons_append]; exact from_split h58 (by decide)
      have e2 : upto [58] (a ++ 58 :: b ++ t) = a := by
        rw [List.append_assoc, List.cons_append]; exact upto_split h58 (by decide)
      rw [e1, e2]
      unfold sch
      rw [from_split ha hc, upto_split ha hc]
      cases hi : isScheme a with
      | true => simp
      | false => simp
    · have e : sch (a ++ 47 :: b) = ([], a ++ 47 :: b) := by unfold sch; rw [from_split ha hc]; simp
      rw [e]
      refine hno _ ?_
      rw [List.append_assoc, List.cons_append, upto_av h58, upto_cons_f (by decide)]
      exact not_scheme (c := 47) (by decide) (by simp)

theorem pre_slash {v t : Str} (ht : Tail t) : ([47, 47] : Str).isPrefixOf (v ++ t) = ([47, 47] : Str).isPrefixOf v := by
  match v with
  | [] =>
    rcases ht with rfl | ⟨c, r, rfl, hc⟩
    · rfl
    · rcases hc with rfl | rfl <;> rfl
  | [x] =>
    rcases ht with rfl | ⟨c, r, rfl, hc⟩
    · rfl
    · rcases hc with rfl | rfl <;> simp [List.isPrefixOf]
  | x :: y :: v => simp [List.isPrefixOf]
theorem slash_two {v : Str} (h : ([47, 47] : Str).isPrefixOf v = true) : ∃ r, v = 47 :: 47 :: r := by
  rw [List.isPrefixOf_iff_prefix] at h
  obtain ⟨r, rfl⟩ := h
  exact ⟨r, rfl⟩
theorem parts_auth {v t : Str} (hv : av [63, 35] v) (ht : Tail t) (sc : Str) (hs : (v ++ t).length < 1000000000) :
    uriref_parts_j2 (v ++ t) sc = uriref_parts_j3 sc ((auth v).2.2 ++ t) (auth v).2.1 (auth v).1 := by
  unfold uriref_parts_j2
  rw [strings_HasPrefix_eq _ _ hs, pre_slash ht]
  unfold auth
  cases hp : ([47, 47] : Str).isPrefixOf v with
  | false => simp
  | true =>
    obtain ⟨r, rfl⟩ := slash_two hp
    have hr : av [63, 35] r := fun x hx => hv x (by simp [hx])
    have e1 : sFrom (47 :: 47 :: r ++ t) 2 = some (r ++ t) := by
      have := sFrom_nat (l := 47 :: 47 :: r ++ t) (i := 2) (by simp)
      simpa using this
    have hlen : (r ++ t).length < 1000000000 := by simp only [List.cons_append, List.length_cons] at hs; omega
    have e2 : upto [47, 63, 35] (r ++ t) = upto [47] r ∧ from_ [47, 63, 35] (r ++ t) = from_ [47] r ++ t := by
      rcases split_or [47] r with h | ⟨a, c, b, rfl, ha, hc⟩
      · have h3 : av [47, 63, 35] r := by
          intro x hx
          have h1 := h x hx; have h2 := hr x hx
          simp only [List.contains_cons, List.contains_nil, Bool.or_false, Bool.or_eq_false_iff] at h1 h2 ⊢
          exact ⟨h1, h2⟩
        rw [upto_all h, from_all h]
        rcases ht with rfl | ⟨c, q, rfl, hc⟩
        · simp [upto_all h3, from_all h3]
        · have hcc : ([47, 63, 35] : Str).contains c = true := by rcases hc with rfl | rfl <;> decide
          exact ⟨upto_split h3 hcc, from_split h3 hcc⟩
      · have hcc : c = 47 := by simpa using hc
        subst hcc
        have h3 : av [47, 63, 35] a := by
          intro x hx
          have h1 := ha x hx; have h2 := hr x (by simp [hx])
          simp only [List.contains_cons, List.contains_nil, Bool.or_false, Bool.or_eq_false_iff] at h1 h2 ⊢
          exact ⟨h1, h2⟩
        rw [upto_split ha hc, from_split ha hc, List.append_assoc, List.cons_append]
        exact ⟨upto_split h3 (by decide), from_split h3 (by decide)⟩
    simp only [Option.bind_some, if_true, e1, uriref_upto_eq (r ++ t) [47, 63, 35] hlen (by decide) (by decide), e2.1, e2.2]
    rfl
theorem parts_back {w t : Str} (hw : av [63, 35] w) (ht : Tail t) (sc au : Str) (ha : Bool) (hs : (w ++ t).length < 1000000000) :
    uriref_parts_j3 sc (w ++ t) au ha = some ⟨sc, au, w, (back t).2.1, (back t).2.2.2, ha, (back t).1, (back t).2.2.1⟩ := by
  unfold uriref_parts_j3
  obtain ⟨e1, e2⟩ := tail_upto hw ht
  have htl : t.length < 1000000000 := by simp only [List.length_append] at hs; omega
  simp only [uriref_upto_eq (w ++ t) [63, 35] hs (by decide) (by decide), Option.bind_some, e1, e2, strings_HasPrefix_eq t [63] htl]
  rcases ht with rfl | ⟨c, r, rfl, hc⟩
  · simp [back, uriref_parts_j4, uriref_parts_j5, List.isPrefixOf]
  · rcases hc with rfl | rfl
    · have e3 : sFrom (63 :: r) 1 = some r := by
        have := sFrom_nat (l := 63 :: r) (i := 1) (by simp)
        simpa using this
      have hrl : r.length < 1000000000 := by simp only [List.length_cons] at htl; omega
      simp only [List.isPrefixOf, beq_self_eq_true, Bool.and_self, if_true, e3, Option.bind_some, uriref_upto_eq r [35] hrl (by decide) (by decide), uriref_parts_j4, back]
      cases hf : from_ [35] r with
      | nil => simp [uriref_parts_j5]
      | cons x q =>
        have e4 : sFrom (x :: q) 1 = some q := by
          have := sFrom_nat (l := x :: q) (i := 1) (by simp)
          simpa using this
        have e5 : ((x :: q == ([] : Str))) = false := rfl
        simp only [e5, Bool.not_false, if_true, e4, Option.bind_some, uriref_parts_j5]
        rfl
    · have e3 : sFrom (35 :: r) 1 = some r := by
        have := sFrom_nat (l := 35 :: r) (i := 1) (by simp)
        simpa using this
      have e5 : ((35 :: r == ([] : Str))) = false := rfl
      have e6 : ([63] : Str).isPrefixOf (35 :: r) = false := by simp [List.isPrefixOf]
      simp only [e6, Bool.false_eq_true, if_false, uriref_parts_j4, e5, Bool.not_false, if_true, e3, Option.bind_some, uriref_parts_j5, back]
      rfl
theorem sch_app (u : Str) : ((sch u).1 = [] ∧ (sch u).2 = u) ∨ (sch u).1 ++ 58 :: (sch u).2 = u := by
  unfold sch
  cases h : from_ [58, 47] u with
  | nil => left; exact ⟨rfl, rfl⟩
  | cons c r =>
    simp only
    split
    · rename_i hc
      right
      simp only [Bool.and_eq_true, beq_iff_eq] at hc
      obtain ⟨rfl, _⟩ := hc
      simp only
      rw [← h]; exact upto_from _ _
    · left; exact ⟨rfl, rfl⟩
theorem sch_av {u : Str} (hu : av [63, 35] u) : av [63, 35] (sch u).2 := by
  rcases sch_app u with ⟨_, h⟩ | h
  · rw [h]; exact hu
  · intro x hx; exact hu x (by rw [← h]; simp [hx])
theorem sch_len (u : Str) : (sch u).1.length ≤ u.length ∧ (sch u).2.length ≤ u.length := by
  rcases sch_app u with ⟨h1, h2⟩ | h
  · rw [h1, h2]; simp
  · have := congrArg List.length h
    simp only [List.length_append, List.length_cons] at this
    omega
theorem auth_av {u : Str} (hu : av [63, 35] u) : av [63, 35] (auth u).2.2 := by
  unfold auth
  split
  · intro x hx
    have h1 : x ∈ u.drop 2 := by
      have := upto_from [47] (u.drop 2)
      rw [← this]; exact List.mem_append_right _ hx
    exact hu x (List.mem_of_mem_drop h1)
  · exact hu
theorem auth_len (u : Str) : (auth u).2.1.length ≤ u.length ∧ (auth u).2.2.length ≤ u.length := by
  unfold auth
  split
  · have h1 := upto_le [47] (u.drop 2); have h2 := from_le [47] (u.drop 2)
    simp only [List.length_drop] at h1 h2
    exact ⟨Nat.le_trans h1 (Nat.sub_le _ _), Nat.le_trans h2 (Nat.sub_le _ _)⟩
  · simp
theorem uriref_parts_eq (s : Str) (hs : s.length < 1000000000) : uriref_parts s = some (refOf s) := by
  have hu : av [63, 35] (upto [63, 35] s) := upto_not
  have ht := tail_from s
  have hst := upto_from [63, 35] s
  have hl : (upto [63, 35] s).length + (from_ [63, 35] s).length < 1000000000 := by rw [← List.length_append, hst]; exact hs
  conv => lhs; rw [← hst]
  have h1 := sch_len (upto [63, 35] s)
  have h2 := auth_len (sch (upto [63, 35] s)).2
  rw [parts_sch hu ht (by rw [hst]; exact hs), parts_auth (sch_av hu) ht _ (by rw [List.length_append]; omega), parts_back (auth_av (sch_av hu)) ht _ _ _ (by rw [List.length_append]; omega)]
  rfl

theorem take_len (a b : Str) : (a ++ b).take a.length = a := List.take_left
theorem drop_len1 (a b : Str) (c : UInt8) : (a ++ c :: b).drop (a.length + 1) = b := by rw [← List.drop_drop, List.drop_left]; rfl

theorem ref_back {u t : Str} (hu : av [63, 35] u) (ht : Tail t) (hs : (u ++ t).length < 1000000000) :
    ref11_Parse (u ++ t) = ref11_Parse_j2 (back t).2.2.2 (back t).2.2.1 u (back t).2.1 (back t).1 := by
  have h35 : av [35] u := av_sub (by intro x hx; simp at hx; subst hx; decide) hu
  have h63 : av [63] u := av_sub (by intro x hx; simp at hx; subst hx; decide) hu
  have hul : u.length < 1000000000 := by simp only [List.length_append] at hs; omega
  -- a first part without a number sign, and what stands behind that sign
  have top : ∀ (a b : Str), av [35] a → (a ++ 35 :: b).length < 1000000000 → ref11_Parse (a ++ 35 :: b) = ref11_Parse_j1 a b true := by
    intro a b ha hl
    unfold ref11_Parse
    have hl2 : a.length + 1 ≤ (a ++ 35 :: b).length := by simp
    have hlt : (a.length : Int) < ((a ++ 35 :: b).length : Int) := by simp; omega
    simp only [ref11_first_eq _ [35] hl (by decide), upto_split ha (by decide : ([35] : Str).contains 35 = true), Option.bind_some, hlt, decide_true, if_true,
      iAdd_one (show a.length < 4611686018427387904 by omega), sFrom_nat hl2, drop_len1, sTo_nat (Nat.le_of_succ_le hl2), take_len]
  have top0 : ∀ a : Str, av [35] a → a.length < 1000000000 → ref11_Parse a = ref11_Parse_j1 a [] false := by
    intro a ha hl
    unfold ref11_Parse
    simp only [ref11_first_eq _ [35] hl (by decide), upto_all ha, Option.bind_some, Int.lt_irrefl, decide_false, Bool.false_eq_true, if_false]
  have mid : ∀ (b f : Str) (hf : Bool), (u ++ 63 :: b).length < 1000000000 → ref11_Parse_j1 (u ++ 63 :: b) f hf = ref11_Parse_j2 f hf u b true := by
    intro b f hf hl
    unfold ref11_Parse_j1
    have hl2 : u.length + 1 ≤ (u ++ 63 :: b).length := by simp
    have hlt : (u.length : Int) < ((u ++ 63 :: b).length : Int) := by simp; omega
    simp only [ref11_first_eq _ [63] hl (by decide), upto_split h63 (by decide : ([63] : Str).contains 63 = true), Option.bind_some, hlt, decide_true, if_true,
      iAdd_one (show u.length < 4611686018427387904 by omega), sFrom_nat hl2, drop_len1, sTo_nat (Nat.le_of_succ_le hl2), take_len]
  have mid0 : ∀ (f : Str) (hf : Bool), ref11_Parse_j1 u f hf = ref11_Parse_j2 f hf u [] false := by
    intro f hf
    unfold ref11_Parse_j1
    simp only [ref11_first_eq _ [63] hul (by decide), upto_all h63, Option.bind_some, Int.lt_irrefl, decide_false, Bool.false_eq_true, if_false]
  rcases ht with rfl | ⟨c, r, rfl, hc⟩
  · rw [List.append_nil, top0 u h35 hul, mid0]; rfl
  · rcases hc with rfl | rfl
    · rcases split_or [35] r with h | ⟨a, c, b, rfl, ha, hc⟩
      · have h3 : av [35] (u ++ 63 :: r) := by
          intro x hx
          rcases List.mem_append.1 hx with hx | hx
          · exact h35 x hx
          · rcases List.mem_cons.1 hx with rfl | hx
            · decide
            · exact h x hx
        rw [top0 _ h3 hs, mid _ _ _ hs]
        simp [back, upto_all h, from_all h]
      · have hcc : c = 35 := by simpa using hc
        subst hcc
        have h3 : av [35] (u ++ 63 :: a) := by
          intro x hx
          rcases List.mem_append.1 hx with hx | hx
          · exact h35 x hx
          · rcases List.mem_cons.1 hx with rfl | hx
            · decide
            · exact ha x hx
        have e : u ++ 63 :: (a ++ 35 :: b) = (u ++ 63 :: a) ++ 35 :: b := by simp
        rw [e] at hs ⊢
        rw [top _ _ h3 hs, mid _ _ _ (by simp only [List.length_append, List.length_cons] at hs ⊢; omega)]
        have e1 := upto_split (b := b) ha hc
        have e2 := from_split (b := b) ha hc
        simp [back, e1, e2]
    · rw [top u r h35 hs, mid0]
      simp [back]

theorem ref_sch {u : Str} (hl : u.length < 1000000000) (f q : Str) (hf hq : Bool) : ref11_Parse_j2 f hf u q hq = ref11_Parse_j4 f hf q hq (sch u).2 (sch u).1 := by
  unfold ref11_Parse_j2
  have hle := upto_le [58, 47] u
  simp only [ref11_first_eq _ [58, 47] hl (by decide), Option.bind_some, sch]
  cases h : from_ [58, 47] u with
  | nil =>
    have := (from_nil_iff [58, 47] u).1 h
    have hlt : ¬ (((upto [58, 47] u).length : Int) < (u.length : Int)) := by omega
    simp only [hlt, decide_false, Bool.false_eq_true, if_false, ref11_Parse_j3]
  | cons c r =>
    have hlen := congrArg List.length (upto_from [58, 47] u)
    rw [h] at hlen
    simp only [List.length_append, List.length_cons] at hlen
    have hlt : ((upto [58, 47] u).length : Int) < (u.length : Int) := by omega
    have hget : u[(upto [58, 47] u).length]? = some c := by
      have e := upto_from [58, 47] u
      rw [h] at e
      conv => lhs; arg 1; rw [← e]
      rw [List.getElem?_append_right (Nat.le_refl _), Nat.sub_self]
      rfl
    simp only [hlt, decide_true, if_true, sAt_nat, hget, Option.bind_some, sTo_nat hle, take_upto, ref11_scheme_eq _ (Nat.lt_of_le_of_lt hle hl)]
    cases hc : (c == 58) with
    | false => simp [ref11_Parse_j3]
    | true =>
      cases hi : isScheme (upto [58, 47] u) with
      | false => simp [ref11_Parse_j3]
      | true =>
        have hd : List.drop ((upto [58, 47] u).length + 1) u = r := by rw [← List.drop_drop, drop_upto, h]; rfl
        simp only [if_true, ref11_Parse_j3, sTo_nat hle, take_upto, Option.bind_some, iAdd_one (show (upto [58, 47] u).length < 4611686018427387904 by omega), sFrom_nat (show (upto [58, 47] u).length + 1 ≤ u.length by omega), hd, Bool.and_true]
theorem two_pre (x y : UInt8) (v : Str) : (([x, y] : Str) == [47, 47]) = ([47, 47] : Str).isPrefixOf (x :: y :: v) := by
  rw [Bool.eq_iff_iff]
  simp only [List.isPrefixOf, beq_iff_eq, Bool.and_true, Bool.and_eq_true, List.cons.injEq, and_true]
  constructor <;> rintro ⟨rfl, rfl⟩ <;> exact ⟨rfl, rfl⟩
theorem ref_auth {u : Str} (hl : u.length < 1000000000) (f q sc : Str) (hf hq : Bool) :
    ref11_Parse_j4 f hf q hq u sc = ref11_Parse_j6 f hf q hq sc (auth u).2.2 (auth u).2.1 (auth u).1 := by
  unfold ref11_Parse_j4
  have key : (if decide (1 < (u.length : Int)) = true then (sTo u 2).bind fun s45 => ref11_Parse_j5 f hf q hq u sc (s45 == [47, 47]) else ref11_Parse_j5 f hf q hq u sc false) = ref11_Parse_j5 f hf q hq u sc (([47, 47] : Str).isPrefixOf u) := by
    match u with
    | [] => rfl
    | [x] => simp [List.isPrefixOf]
    | x :: y :: v =>
      have h1 : (1 : Int) < ((x :: y :: v : Str).length : Int) := by simp only [List.length_cons]; omega
      have e : sTo (x :: y :: v) 2 = some [x, y] := by
        have := sTo_nat (l := x :: y :: v) (h := 2) (by simp)
        simpa using this
      simp only [h1, decide_true, if_true, e, Option.bind_some]
      rw [two_pre]
  rw [key]
  unfold auth
  cases hp : ([47, 47] : Str).isPrefixOf u with
  | false => simp [ref11_Parse_j5]
  | true =>
    obtain ⟨r, rfl⟩ := slash_two hp
    have hrl : r.length < 1000000000 := by simp only [List.length_cons] at hl; omega
    have hle := upto_le [47] r
    have e1 : sFrom (47 :: 47 :: r) 2 = some r := by
      have := sFrom_nat (l := 47 :: 47 :: r) (i := 2) (by simp)
      simpa using this
    have e2 : iAdd 2 ((upto [47] r).length : Int) = some ((2 + (upto [47] r).length : Nat) : Int) := iAdd_nat (i := 2) (by omega)
    have e3 : sSub (47 :: 47 :: r) 2 ((2 + (upto [47] r).length : Nat) : Int) = some (upto [47] r) := by
      have := sSub_nat (l := 47 :: 47 :: r) (i := 2) (h := 2 + (upto [47] r).length) (by omega) (by simp only [List.length_cons]; omega)
      rw [show ((2 : Nat) : Int) = 2 from rfl] at this
      rw [this, List.drop_take, show 2 + (upto [47] r).length - 2 = (upto [47] r).length by omega]
      simp [take_upto]
    have e4 : sFrom (47 :: 47 :: r) ((2 + (upto [47] r).length : Nat) : Int) = some (from_ [47] r) := by
      rw [sFrom_nat (by simp only [List.length_cons]; omega), ← List.drop_drop]
      simp [drop_upto]
    unfold ref11_Parse_j5
    rw [if_pos rfl, e1, Option.bind_some, ref11_first_eq r [47] hrl (by decide), Option.bind_some, e2, Option.bind_some, e3, Option.bind_some, Option.bind_some, e4, Option.bind_some]
    rfl

def wellB (r : api_Ref) : Bool :=
  okB [91, 93] r.Auth && !r.Auth.contains 64 && okB [47] r.Path && okB [47, 63] r.Query && okB [47, 63] r.Frag &&
  (if r.HasAuth = true then r.Path == [] || r.Path.head? == some 47 else !([47, 47] : Str).isPrefixOf r.Path && (!(r.Scheme == []) || !(upto [47] r.Path).contains 58))
structure Fine (r : api_Ref) : Prop where
  auth : r.Auth.length < 1000000000
  path : r.Path.length < 1000000000
  query : r.Query.length < 1000000000
  frag : r.Frag.length < 1000000000
theorem strings_Contains_one (s : Str) (c : UInt8) (hs : s.length < 1000000000) : strings_Contains s [c] = some (s.contains c) := by
  unfold strings_Contains
  rw [if_pos (by omega), idxStr_one]
theorem uriref_well_eq (r : api_Ref) (h : Fine r) : uriref_well r = some (wellB r) := by
  have j1 : ∀ t, uriref_well_j1 r (upto [47] r.Path, from_ [47] r.Path) t = some (!t && (if r.HasAuth = true then r.Path == [] || r.Path.head? == some 47 else !([47, 47] : Str).isPrefixOf r.Path && (!(r.Scheme == []) || !(upto [47] r.Path).contains 58))) := by
    intro t
    unfold uriref_well_j1
    cases t with
    | true => rfl
    | false =>
      simp only [Bool.false_eq_true, if_false, Bool.not_false, Bool.true_and]
      cases hA : r.HasAuth with
      | true =>
        simp only [if_true]
        cases hP : r.Path with
        | nil => rfl
        | cons x q =>
          have e : ((x :: q == ([] : Str))) = false := rfl
          simp [e, uriref_well_j2]
      | false =>
        simp only [Bool.false_eq_true, if_false, strings_HasPrefix_eq _ _ h.path, Option.bind_some]
        cases hp : ([47, 47] : Str).isPrefixOf r.Path with
        | true => rfl
        | false =>
          simp only [Bool.false_eq_true, if_false]
          cases hsc : (r.Scheme == []) with
          | false => rfl
          | true =>
            simp only [Bool.not_true, Bool.false_eq_true, if_false, strings_Contains_one _ _ (Nat.lt_of_le_of_lt (upto_le _ _) h.path), Option.bind_some, uriref_well_j3]
            simp
  unfold uriref_well
  simp only [uriref_upto_eq r.Path [47] h.path (by decide) (by decide), uriref_bytes_eq _ [91, 93] h.auth (by decide), uriref_bytes_eq _ [47] h.path (by decide), uriref_bytes_eq _ [47, 63] h.query (by decide), uriref_bytes_eq _ [47, 63] h.frag (by decide),
    strings_Contains_one _ _ h.auth, Option.bind_some, j1, wellB]
  cases okB [91, 93] r.Auth <;> cases r.Auth.contains 64 <;> cases okB [47] r.Path <;> cases okB [47, 63] r.Query <;> cases okB [47, 63] r.Frag <;> simp
theorem contains_upto (c : UInt8) (s : Str) : (!decide ((upto [c] s).length < s.length)) = !s.contains c := by
  congr 1
  rcases split_or [c] s with h | ⟨a, x, b, rfl, ha, hx⟩
  · rw [upto_all h]
    have : s.contains c = false := by
      rw [Bool.eq_false_iff]
      intro hc
      have hm : c ∈ s := by simpa using hc
      have := h c hm
      simp at this
    rw [this]; simp
  · have : x = c := by simpa using hx
    subst this
    rw [upto_split ha hx]
    simp
theorem ref11_right_eq (r : api_Ref) (h : Fine r) : ref11_right r = some (wellB r) := by
  have hfirst : decide (((upto [64] r.Auth).length : Int) < (r.Auth.length : Int)) = r.Auth.contains 64 := by
    have := contains_upto 64 r.Auth
    have e : decide (((upto [64] r.Auth).length : Int) < (r.Auth.length : Int)) = decide ((upto [64] r.Auth).length < r.Auth.length) := by
      rw [decide_eq_decide]; omega
    rw [e]
    exact Bool.not_inj this
  have j3 : ref11_right_j3 r (([47, 47] : Str).isPrefixOf r.Path) = some (!([47, 47] : Str).isPrefixOf r.Path && (!(r.Scheme == []) || !(upto [47] r.Path).contains 58)) := by
    unfold ref11_right_j3
    cases hp : ([47, 47] : Str).isPrefixOf r.Path with
    | true => rfl
    | false =>
      simp only [Bool.false_eq_true, if_false, ref11_first_eq _ [58, 47] h.path (by decide), Option.bind_some]
      cases hsc : (r.Scheme == []) with
      | false => rfl
      | true =>
        simp only [Bool.not_true, Bool.false_eq_true, if_false]
        rcases split_or [58, 47] r.Path with hh | ⟨a, x, b, he, ha, hx⟩
        · have h47 : av [47] r.Path := av_sub (by intro x hx; simp at hx; subst hx; decide) hh
          have h58 : r.Path.contains 58 = false := by
            rw [Bool.eq_false_iff]
            intro hc
            have hm : (58 : UInt8) ∈ r.Path := by simpa using hc
            have := hh 58 hm
            simp at this
          rw [upto_all hh, upto_all h47, h58]
          simp [ref11_right_j4]
        · have hx' : x = 58 ∨ x = 47 := by simpa using hx
          have h47 : av [47] a := av_sub (by intro x hx; simp at hx; subst hx; decide) ha
          have ha58 : a.contains 58 = false := by
            rw [Bool.eq_false_iff]
            intro hc
            have hm : (58 : UInt8) ∈ a := by simpa using hc
            have := ha 58 hm
            simp at this
          have e1 : ((a.length : Int) == ((a ++ x :: b).length : Int)) = false := by simp; omega
          have e2 : (a ++ x :: b)[a.length]? = some x := by rw [List.getElem?_append_right (Nat.le_refl _), Nat.sub_self]; rfl
          rw [he, upto_split ha hx, e1]
          simp only [Bool.false_eq_true, if_false, sAt_nat, e2, Option.bind_some, ref11_right_j4]
          rcases hx' with rfl | rfl
          · rw [upto_av h47, upto_cons_f (by decide)]
            simp
          · rw [upto_split h47 (by decide), ha58]
            simp
  have j1 : ∀ t, ref11_right_j1 r t = some (!t && (if r.HasAuth = true then r.Path == [] || r.Path.head? == some 47 else !([47, 47] : Str).isPrefixOf r.Path && (!(r.Scheme == []) || !(upto [47] r.Path).contains 58))) := by
    intro t
    unfold ref11_right_j1
    cases t with
    | true => rfl
    | false =>
      simp only [Bool.false_eq_true, if_false, Bool.not_false, Bool.true_and]
      cases hA : r.HasAuth with
      | true =>
        simp only [if_true]
        cases hP : r.Path with
        | nil => rfl
        | cons x q =>
          have e : ((x :: q == ([] : Str))) = false := rfl
          simp [e, ref11_right_j2]
      | false =>
        simp only [Bool.false_eq_true, if_false]
        rw [← j3]
        match hP : r.Path with
        | [] => simp [List.isPrefixOf]
        | [x] => simp [List.isPrefixOf]
        | x :: y :: v =>
          have h1 : (1 : Int) < ((x :: y :: v : Str).length : Int) := by simp only [List.length_cons]; omega
          have e : sTo (x :: y :: v) 2 = some [x, y] := by
            have := sTo_nat (l := x :: y :: v) (h := 2) (by simp)
            simpa using this
          simp only [h1, decide_true, if_true, e, Option.bind_some]
          rw [two_pre]
  unfold ref11_right
  simp only [ref09_Of_eq _ [91, 93] h.auth (by decide), ref09_Of_eq _ [47] h.path (by decide), ref09_Of_eq _ [47, 63] h.query (by decide), ref09_Of_eq _ [47, 63] h.frag (by decide),
    ref11_first_eq _ [64] h.auth (by decide), hfirst, Option.bind_some, j1, wellB]
  cases okB [91, 93] r.Auth <;> cases r.Auth.contains 64 <;> cases okB [47] r.Path <;> cases okB [47, 63] r.Query <;> cases okB [47, 63] r.Frag <;> simp

theorem back_len {t : Str} (ht : Tail t) : (back t).2.1.length ≤ t.length ∧ (back t).2.2.2.length ≤ t.length := by
  rcases ht with rfl | ⟨c, r, rfl, hc⟩
  · simp [back]
  · rcases hc with rfl | rfl
    · have h1 := upto_le [35] r; have h2 := from_le [35] r
      simp only [back, beq_self_eq_true, if_true, List.length_cons, List.length_drop]
      omega
    · simp [back]
theorem refOf_fine (s : Str) (hs : s.length < 1000000000) : Fine (refOf s) := by
  have hst := congrArg List.length (upto_from [63, 35] s)
  simp only [List.length_append] at hst
  have h1 := sch_len (upto [63, 35] s)
  have h2 := auth_len (sch (upto [63, 35] s)).2
  have h3 := back_len (tail_from s)
  exact ⟨by simp only [refOf]; omega, by simp only [refOf]; omega, by simp only [refOf]; omega, by simp only [refOf]; omega⟩
def noRef : api_Ref := ⟨[], [], [], [], [], false, false, false⟩
/-- What both say of a text. -/
def parseR (s : Str) : api_Ref × Int := if wellB (refOf s) = true then (refOf s, 0) else (noRef, 2)
theorem uriref_Parse_eq (s : Str) (hs : s.length < 1000000000) : uriref_Parse s = some (parseR s) := by
  unfold uriref_Parse parseR
  rw [uriref_parts_eq s hs, Option.bind_some, uriref_well_eq _ (refOf_fine s hs), Option.bind_some]
  cases wellB (refOf s) <;> rfl
theorem ref11_Parse_eq (s : Str) (hs : s.length < 1000000000) : ref11_Parse s = some (parseR s) := by
  have hu : av [63, 35] (upto [63, 35] s) := upto_not
  have ht := tail_from s
  have hst := upto_from [63, 35] s
  have hl : (upto [63, 35] s).length < 1000000000 := Nat.lt_of_le_of_lt (upto_le _ _) hs
  have h1 := sch_len (upto [63, 35] s)
  conv => lhs; rw [← hst]
  rw [ref_back hu ht (by rw [hst]; exact hs), ref_sch hl, ref_auth (by omega)]
  unfold ref11_Parse_j6
  have := ref11_right_eq (refOf s) (refOf_fine s hs)
  simp only [refOf] at this
  rw [this, Option.bind_some]
  unfold parseR
  simp only [refOf]
  split <;> rename_i hw <;> simp only [Bool.not_eq_true', Bool.not_eq_true, Bool.not_eq_false] at hw <;> simp only [hw, Bool.not_true, Bool.not_false, Bool.false_eq_true, if_true, if_false] <;> rfl

def fits1 (s : Str) (x : api_Swap) : Bool := x.From.isPrefixOf s && !(x.From == []) && (s.length == x.From.length || x.From.getLast? == some 47 || (match s.drop x.From.length with | c :: _ => ([47, 63, 35] : Str).contains c | [] => false))
def swapOf (s : Str) : List api_Swap → Str × Bool
  | [] => (s, false)
  | x :: l => if fits1 s x = true then (x.To ++ s.drop x.From.length, true) else swapOf s l
theorem foldr_swap (s : Str) (l : List api_Swap) : l.foldr (fun x r => if fits1 s x = true then some (x.To ++ s.drop x.From.length, true) else r) (some (s, false)) = some (swapOf s l) := by
  induction l with
  | nil => rfl
  | cons x l ih => simp only [List.foldr_cons, ih, swapOf]; split <;> rfl
theorem suffix_one (c : UInt8) (s : Str) : ([c] : Str).isSuffixOf s = (s.getLast? == some c) := by
  rw [Bool.eq_iff_iff, List.isSuffixOf_iff_suffix, beq_iff_eq]
  constructor
  · rintro ⟨t, rfl⟩; simp
  · intro h
    obtain ⟨t, rfl⟩ := List.getLast?_eq_some_iff.1 h
    exact ⟨t, rfl⟩
theorem prefix_len {p s : Str} (h : p.isPrefixOf s = true) : p.length ≤ s.length := (List.isPrefixOf_iff_prefix.1 h).length_le

theorem uriref_Swap_eq (s : Str) (l : List api_Swap) (hs : s.length < 1000000000) (hl : l.length < 1000000000) (hx : ∀ x ∈ l, x.From.length < 1000000000 ∧ x.To.length < 1000000000) : uriref_Swap s l = some (swapOf s l) := by
  unfold uriref_Swap
  rw [loop_start l (uriref_Swap_L1 s l) (fun x r => if x.From.length < 1000000000 ∧ x.To.length < 1000000000 then (if fits1 s x = true then some (x.To ++ s.drop x.From.length, true) else r) else r) (some (s, false)) (by omega)]
  · rw [← foldr_swap]
    clear hl
    induction l with
    | nil => rfl
    | cons x l ih =>
      simp only [List.foldr_cons]
      rw [ih (fun y hy => hx y (List.mem_cons_of_mem _ hy)), if_pos (hx x (List.mem_cons_self ..))]
  · intro n; rw [uriref_Swap_L1]; simp only [Int.lt_irrefl, decide_false, Bool.false_eq_true, if_false]
  · intro n i x hi hxi
    have hxl := hx x (List.mem_of_getElem? hxi)
    rw [uriref_Swap_L1]
    simp only [Int.ofNat_lt, hi, decide_true, if_true, lAt_nat, hxi, Option.bind_some, strings_CutPrefix_eq s x.From hs, if_pos hxl]
    have j4 : uriref_Swap_j4 (uriref_Swap_L1 s l n) (i : Int) = uriref_Swap_L1 s l n ((i + 1 : Nat) : Int) := by
      unfold uriref_Swap_j4; rw [iAdd_one (by omega), Option.bind_some]
    cases hp : x.From.isPrefixOf s with
    | false => simp [fits1, hp, uriref_Swap_j2, j4]
    | true =>
      have hle := prefix_len hp
      simp only [if_true, Bool.not_true, Bool.false_eq_true, if_false]
      cases hn : (x.From == []) with
      | true => simp [fits1, hn, uriref_Swap_j2, j4]
      | false =>
        have j3 : ∀ t, uriref_Swap_j3 (uriref_Swap_L1 s l n) (i : Int) x (s.drop x.From.length, true) t = if t = true then some (x.To ++ s.drop x.From.length, true) else uriref_Swap_L1 s l n ((i + 1 : Nat) : Int) := by
          intro t
          unfold uriref_Swap_j3
          rw [j4, sCat_ok (by simp only [List.length_drop]; omega), Option.bind_some]
        simp only [uriref_Swap_j2, Bool.false_eq_true, if_false, j3, strings_HasSuffix_eq x.From [47] hxl.1 (by decide), suffix_one, Option.bind_some]
        have hlen : (s.length == x.From.length) = (s.drop x.From.length == []) := by
          rw [Bool.eq_iff_iff, beq_iff_eq, beq_iff_eq, List.drop_eq_nil_iff]; omega
        simp only [fits1, hp, hn, hlen, Bool.not_false, Bool.and_self, Bool.true_and]
        cases hd : s.drop x.From.length with
        | nil => simp
        | cons c r =>
          have e : ((c :: r == ([] : Str))) = false := rfl
          simp only [e, Bool.false_eq_true, if_false, Bool.false_or, sAt_zero, List.getElem?_cons_zero, Option.bind_some, strings_IndexByte, idxByte_ge]
          cases hg : (x.From.getLast? == some 47) with
          | true => simp
          | false => simp only [Bool.false_eq_true, if_false, Bool.false_or]
theorem last_get (p s : Str) (h : p.isPrefixOf s = true) (hn : (p == []) = false) : s[p.length - 1]? = p.getLast? := by
  rw [List.isPrefixOf_iff_prefix] at h
  obtain ⟨t, rfl⟩ := h
  have h0 : p ≠ [] := by intro e; rw [e] at hn; cases hn
  have hpos : 0 < p.length := List.length_pos_iff.2 h0
  rw [List.getElem?_append_left (by omega), List.getLast?_eq_getElem?]
theorem ref11_Swap_eq (s : Str) (l : List api_Swap) (hs : s.length < 1000000000) (hl : l.length < 1000000000) (hx : ∀ x ∈ l, x.From.length < 1000000000 ∧ x.To.length < 1000000000) : ref11_Swap s l = some (swapOf s l) := by
  unfold ref11_Swap
  rw [loop_start l (ref11_Swap_L1 s l) (fun x r => if x.From.length < 1000000000 ∧ x.To.length < 1000000000 then (if fits1 s x = true then some (x.To ++ s.drop x.From.length, true) else r) else r) (some (s, false)) (by omega)]
  · rw [← foldr_swap]
    clear hl
    induction l with
    | nil => rfl
    | cons x l ih =>
      simp only [List.foldr_cons]
      rw [ih (fun y hy => hx y (List.mem_cons_of_mem _ hy)), if_pos (hx x (List.mem_cons_self ..))]
  · intro n; rw [ref11_Swap_L1]; simp only [Int.lt_irrefl, decide_false, Bool.false_eq_true, if_false]
  · intro n i x hi hxi
    have hxl := hx x (List.mem_of_getElem? hxi)
    rw [ref11_Swap_L1]
    simp only [Int.ofNat_lt, hi, decide_true, if_true, lAt_nat, hxi, Option.bind_some, if_pos hxl]
    have j4 : ref11_Swap_j4 (ref11_Swap_L1 s l n) (i : Int) = ref11_Swap_L1 s l n ((i + 1 : Nat) : Int) := by
      unfold ref11_Swap_j4; rw [iAdd_one (by omega), Option.bind_some]
    have j2t : ref11_Swap_j2 (ref11_Swap_L1 s l n) s l (i : Int) x true = ref11_Swap_L1 s l n ((i + 1 : Nat) : Int) := by
      unfold ref11_Swap_j2; rw [if_pos rfl, j4]
    cases hn : (x.From == []) with
    | true =>
      have : x.From = [] := by simpa using hn
      simp [this, fits1, j2t]
    | false =>
      have hpos : 0 < x.From.length := List.length_pos_iff.2 (by intro e; rw [e] at hn; cases hn)
      have e0 : (((x.From.length : Int)) == 0) = false := by rw [beq_eq_false_iff_ne]; omega
      simp only [e0, Bool.false_eq_true, if_false]
      by_cases hle : x.From.length ≤ s.length
      · have hle' : ¬ s.length < x.From.length := by omega
        have hpre : (s.take x.From.length == x.From) = x.From.isPrefixOf s := by
          rw [Bool.eq_iff_iff, beq_iff_eq, List.isPrefixOf_iff_prefix, List.prefix_iff_eq_take]; exact eq_comm
        simp only [hle', decide_false, Bool.false_eq_true, if_false, sTo_nat hle, Option.bind_some, hpre]
        cases hp : x.From.isPrefixOf s with
        | false => simp [fits1, hp, j2t]
        | true =>
          have j3 : ∀ t, ref11_Swap_j3 (ref11_Swap_L1 s l n) s l (i : Int) x t = if t = true then some (x.To ++ s.drop x.From.length, true) else ref11_Swap_L1 s l n ((i + 1 : Nat) : Int) := by
            intro t
            unfold ref11_Swap_j3
            rw [j4, lAt_nat, hxi, Option.bind_some, sFrom_nat hle, Option.bind_some, sCat_ok (by simp only [List.length_drop]; omega), Option.bind_some]
          have e1 : iSub (x.From.length : Int) 1 = some ((x.From.length - 1 : Nat) : Int) := by
            have e : (x.From.length : Int) - 1 = ((x.From.length - 1 : Nat) : Int) := by omega
            rw [iSub_ok (by omega) (by omega), e]
          have hg := last_get x.From s hp hn
          obtain ⟨z, hz⟩ : ∃ z, x.From.getLast? = some z := by
            cases h : x.From.getLast? with
            | none => rw [List.getLast?_eq_none_iff] at h; rw [h] at hpos; simp at hpos
            | some z => exact ⟨z, rfl⟩
          rw [hz] at hg
          have e2 : (((x.From.length : Int)) == (s.length : Int)) = (s.length == x.From.length) := by
            rw [Bool.eq_iff_iff, beq_iff_eq, beq_iff_eq]; omega
          simp only [Bool.not_true, ref11_Swap_j2, Bool.false_eq_true, if_false, e2, j3, e1, Option.bind_some, sAt_nat, hg]
          simp only [fits1, hp, hn, hz, Bool.not_false, Bool.and_self, Bool.true_and]
          cases hL : (s.length == x.From.length) with
          | true => simp
          | false =>
            have hlt : x.From.length < s.length := by
              have : ¬ s.length = x.From.length := by simpa using hL
              omega
            simp only [Bool.false_eq_true, if_false, Bool.false_or]
            have e3 : (some z == some (47 : UInt8)) = (z == 47) := rfl
            rw [e3]
            cases hz47 : (z == 47) with
            | true => simp
            | false =>
              have e4 : s[x.From.length]? = some s[x.From.length] := List.getElem?_eq_getElem hlt
              simp only [Bool.false_eq_true, if_false, Bool.false_or, e4, Option.bind_some, ref01_In_eq _ [47, 63, 35] (by decide), List.drop_eq_getElem_cons hlt]
      · have hlt : s.length < x.From.length := by omega
        have hp : x.From.isPrefixOf s = false := by
          rw [Bool.eq_false_iff]; intro h; exact hle (prefix_len h)
        simp [hlt, fits1, hp, j2t]
end Go.Dm
