/-
  Hosts: addresses of six parts, and what stands behind a colon: the program's, and the document's.
-/
import Derived.Test.YtnfkbhocbdheaacGreatDoorT08
import Derived.Test.YtnfkbhocbdheaacGreatDoorLibEq
namespace Go.Dm
/-- The first place of a text in another one: what stands ahead of it, and behind it. -/
def cutAt (t : Str) : Str → Option (Str × Str)
  | [] => none
  | x :: s => if t.isPrefixOf (x :: s) then some ([], (x :: s).drop t.length) else (cutAt t s).map fun p => (x :: p.1, p.2)
theorem cutAt_some {t : Str} : ∀ {s a b : Str}, cutAt t s = some (a, b) → s = a ++ t ++ b
  | [], _, _, h => by cases h
  | x :: s, a, b, h => by
    rw [cutAt] at h
    split at h
    · rename_i hp
      obtain ⟨r, hr⟩ := List.isPrefixOf_iff_prefix.1 hp
      simp only [Option.some.injEq, Prod.mk.injEq] at h
      obtain ⟨rfl, rfl⟩ := h
      rw [← hr]; simp
    · cases hc : cutAt t s with
      | none => rw [hc] at h; cases h
      | some p =>
        rw [hc] at h
        simp only [Option.map_some, Option.some.injEq, Prod.mk.injEq] at h
        obtain ⟨rfl, rfl⟩ := h
        have := cutAt_some (a := p.1) (b := p.2) hc
        rw [List.cons_append, List.cons_append, ← this]
theorem index_cut {t : Str} (ht : t ≠ []) : ∀ s : Str, Go.Lib.index s t = match cutAt t s with | none => -1 | some p => (p.1.length : Int)
  | [] => by
    cases t with
    | nil => exact absurd rfl ht
    | cons y t => rfl
  | x :: s => by
    rw [Go.Lib.index, cutAt, index_cut ht s]
    cases t.isPrefixOf (x :: s) with
    | true => rfl
    | false =>
      cases cutAt t s with
      | none => rfl
      | some p =>
        simp only [Bool.false_eq_true, if_false, Option.map_some, List.length_cons]
        have : ((p.1.length : Int) == -1) = false := beq_eq_false_iff_ne.2 (by omega)
        rw [this]
        simp
theorem strings_Cut_eq (s t : Str) (hs : s.length < 1000000000) (ht : t ≠ []) : strings_Cut s t = some (match cutAt t s with | none => (s, [], false) | some p => (p.1, p.2, true)) := by
  unfold strings_Cut Go.Lib.cut
  rw [if_pos (by omega), index_cut ht]
  congr 1
  cases hc : cutAt t s with
  | none => rfl
  | some p =>
    have e := cutAt_some (a := p.1) (b := p.2) hc
    have h0 : (0 : Int) ≤ (p.1.length : Int) := by omega
    simp only [h0, if_true, Int.toNat_natCast]
    have e1 : s.take p.1.length = p.1 := by rw [e, List.append_assoc, List.take_left']; rfl
    have e2 : s.drop (p.1.length + t.length) = p.2 := by rw [e, List.drop_left']; simp
    rw [e1, e2]
/-- A group of an address. -/
def grp (x : Str) : Bool := decide (1 ≤ x.length) && decide (x.length ≤ 4) && x.all cHex
/-- What groups come to, if they are such; the last one may be an address of four parts. -/
def worthG (last : Bool) : List Str → Option Nat
  | [] => some 0
  | [x] => if last && fourOk x then some 2 else if grp x then some 1 else none
  | x :: y :: l => if grp x then (worthG last (y :: l)).map (· + 1) else none
def resG (a : Nat) : Option Nat → Int
  | none => -1
  | some k => ((a + k : Nat) : Int)
theorem groups_j4_eq (rec1 : Int → Int → Option Int) (a i : Nat) (hi : i < 4000000000) : hostport_groups_j4 rec1 (i : Int) (a : Int) = rec1 (a : Int) ((i + 1 : Nat) : Int) := by
  unfold hostport_groups_j4; rw [iAdd_one (by omega), Option.bind_some]
theorem groups_j3_eq (rec1 : Int → Int → Option Int) (a i : Nat) (t : Bool) (hi : i < 4000000000) (ha : a < 4000000000) : hostport_groups_j3 rec1 (a : Int) (i : Int) t = if t = true then rec1 ((a + 1 : Nat) : Int) ((i + 1 : Nat) : Int) else some (-1) := by
  unfold hostport_groups_j3
  rw [iAdd_one (by omega), Option.bind_some, groups_j4_eq rec1 (a + 1) i hi]
theorem groups_j2_eq (rec1 : Int → Int → Option Int) (a i : Nat) (x : Str) (t : Bool) (hi : i < 4000000000) (ha : a < 4000000000) (hx : x.length < 1000000000) :
    hostport_groups_j2 rec1 (a : Int) (i : Int) x t = if t = true then rec1 ((a + 2 : Nat) : Int) ((i + 1 : Nat) : Int) else if grp x = true then rec1 ((a + 1 : Nat) : Int) ((i + 1 : Nat) : Int) else some (-1) := by
  unfold hostport_groups_j2 grp
  have i2 : iAdd (a : Int) 2 = some ((a + 2 : Nat) : Int) := by rw [iAdd_ok (by omega) (by omega)]; simp
  have e1 : decide ((1 : Int) ≤ (x.length : Int)) = decide (1 ≤ x.length) := decide_eq_decide.2 (by omega)
  have e2 : decide ((x.length : Int) ≤ 4) = decide (x.length ≤ 4) := decide_eq_decide.2 (by omega)
  rw [i2, Option.bind_some, groups_j4_eq rec1 (a + 2) i hi, octet_All_one octet_IsHex_eq x hx, Option.bind_some, groups_j3_eq rec1 a i _ hi ha, groups_j3_eq rec1 a i _ hi ha, e1, e2]
  generalize rec1 _ _ = r1
  generalize rec1 _ _ = r2
  generalize decide (1 ≤ x.length) = d1
  generalize decide (x.length ≤ 4) = d2
  generalize x.all cHex = d3
  cases t <;> cases d1 <;> cases d2 <;> cases d3 <;> rfl
theorem worthG_one (last : Bool) (x : Str) : worthG last [x] = if last && fourOk x then some 2 else if grp x then some 1 else none := rfl
theorem worthG_more (last : Bool) (x y : Str) (l : List Str) : worthG last (x :: y :: l) = if grp x then (worthG last (y :: l)).map (· + 1) else none := rfl
theorem resG_next (a : Nat) (o : Option Nat) : resG a (o.map (· + 1)) = resG (a + 1) o := by
  cases o with
  | none => rfl
  | some k => simp only [Option.map_some, resG]; congr 1; omega
theorem groups_L1_eq (last : Bool) (l : List Str) (hl : l.length < 1000000000) (hx : ∀ x ∈ l, x.length < 1000000000) : ∀ (n i a : Nat), i ≤ l.length → l.length - i < n → a ≤ 2 * i → hostport_groups_L1 last l n (a : Int) (i : Int) = some (resG a (worthG last (l.drop i)))
  | 0, _, _, _, h, _ => by omega
  | n + 1, i, a, hi, h, ha => by
    rw [hostport_groups_L1]
    cases hd : l.drop i with
    | nil =>
      have : i = l.length := by have := congrArg List.length hd; simp at this; omega
      subst this
      simp [worthG, resG]
    | cons x t =>
      have hlt : i < l.length := by have := congrArg List.length hd; simp at this; omega
      have hxx : l[i]? = some x := by have := congrArg (·[0]?) hd; simpa using this
      have ht : l.drop (i + 1) = t := by rw [← List.drop_drop, hd]; rfl
      have htl : t.length = l.length - (i + 1) := by rw [← ht]; simp
      have hxl := hx x (List.mem_of_getElem? hxx)
      have hsub : iSub (l.length : Int) 1 = some ((l.length - 1 : Nat) : Int) := by rw [iSub_ok (by omega) (by omega)]; congr 1; omega
      have ih1 := groups_L1_eq last l hl hx n (i + 1) (a + 1) (by omega) (by omega) (by omega)
      have ih2 := groups_L1_eq last l hl hx n (i + 1) (a + 2) (by omega) (by omega) (by omega)
      rw [ht] at ih1 ih2
      have j2 := fun t => groups_j2_eq (hostport_groups_L1 last l n) a i x t (by omega) (by omega) hxl
      simp only [Int.ofNat_lt, hlt, decide_true, if_true, lAt_nat, hxx, Option.bind_some, hsub, hostport_Four_eq x hxl, j2, ih1, ih2]
      cases t with
      | nil =>
        have hei : ((i : Int) == ((l.length - 1 : Nat) : Int)) = true := by simp at htl; simp; omega
        rw [hei, worthG_one]
        have en : ∀ b, worthG b [] = some 0 := fun _ => rfl
        rw [en]
        cases last <;> cases fourOk x <;> cases grp x <;> rfl
      | cons y t =>
        have hei : ((i : Int) == ((l.length - 1 : Nat) : Int)) = false := by simp at htl; simp; omega
        rw [hei, worthG_more]
        have := resG_next a (worthG last (y :: t))
        have hn : resG a none = -1 := rfl
        cases last <;> cases grp x <;> simp only [if_true, Bool.false_eq_true, if_false, this, hn]
/-- The groups of a text. -/
def partsG (s : Str) : List Str := if s = [] then [] else splitOn 58 s
theorem groups_eq (s : Str) (last : Bool) (hs : s.length < 900000000) : hostport_groups s last = some (resG 0 (worthG last (partsG s))) := by
  unfold hostport_groups partsG
  by_cases h0 : s = []
  · subst h0; rfl
  · have h1 : (s == []) = false := beq_eq_false_iff_ne.2 h0
    rw [h1, if_neg h0]
    have hl := splitOn_len 58 s
    simp only [Bool.false_eq_true, if_false, strings_Split_eq s 58 (by omega), Option.bind_some]
    have := groups_L1_eq last (splitOn 58 s) (by omega) (fun x hx => by have := (splitOn_mem hx).2.1; omega) fuel 0 0 (by omega) (by unfold fuel; omega) (by omega)
    simpa using this
theorem worthG_le (last : Bool) : ∀ (l : List Str) (k : Nat), worthG last l = some k → k ≤ l.length + 1
  | [], k, h => by cases h; omega
  | [x], k, h => by
    rw [worthG_one] at h
    split at h
    · cases h; simp
    · split at h
      · cases h; simp
      · cases h
  | x :: y :: l, k, h => by
    rw [worthG_more] at h
    split at h
    · obtain ⟨j, hj, rfl⟩ := Option.map_eq_some_iff.1 h
      have := worthG_le last (y :: l) j hj
      simp only [List.length_cons] at this ⊢
      omega
    · cases h
theorem groups_bound (s : Str) (last : Bool) (hs : s.length < 900000000) (k : Nat) (h : worthG last (partsG s) = some k) : k < 1000000000 := by
  have h1 := worthG_le last _ k h
  have h2 := splitOn_len 58 s
  unfold partsG at h1
  split at h1
  · simp at h1; omega
  · omega
def wholeOk (s : Str) : Bool := worthG true (splitOn 58 s) == some 8
def sixOk (s : Str) : Bool := match cutAt [58, 58] s with
  | none => wholeOk s
  | some p => match worthG false (partsG p.1), worthG true (partsG p.2) with
    | some a, some b => decide (a + b ≤ 7)
    | _, _ => false
theorem Six_eq (s : Str) (hs : s.length < 900000000) : hostport_Six s = some (sixOk s) := by
  unfold hostport_Six sixOk
  rw [strings_Cut_eq s [58, 58] (by omega) (by simp), Option.bind_some]
  cases hc : cutAt [58, 58] s with
  | none =>
    simp only [Bool.not_false, if_true, groups_eq s true hs, Option.bind_some, wholeOk]
    unfold partsG
    split
    · rename_i h; subst h; rfl
    · cases worthG true (splitOn 58 s) with
      | none => rfl
      | some k =>
        simp only [resG, Nat.zero_add, Option.some.injEq]
        by_cases h : k = 8
        · subst h; rfl
        · have h1 : ((k : Int) == 8) = false := beq_eq_false_iff_ne.2 (by omega)
          rw [h1]; simp [h]
  | some p =>
    have e := congrArg List.length (cutAt_some (a := p.1) (b := p.2) hc)
    simp only [List.length_append] at e
    simp only [Bool.not_true, Bool.false_eq_true, if_false, groups_eq p.1 false (by omega), groups_eq p.2 true (by omega), Option.bind_some]
    cases ha : worthG false (partsG p.1) with
    | none => simp [resG, hostport_Six_j1]
    | some a =>
      cases hb : worthG true (partsG p.2) with
      | none => simp [resG, hostport_Six_j1]
      | some b =>
        have hb' := (groups_bound p.1 false (by omega) a ha)
        have hb2 := (groups_bound p.2 true (by omega) b hb)
        simp only [resG, Nat.zero_add]
        have e0 : decide ((0 : Int) ≤ (a : Int)) = true := by simp
        have e1 : decide ((0 : Int) ≤ (b : Int)) = true := by simp
        rw [e0, e1, if_pos rfl, if_pos rfl, iAdd_nat (by omega), Option.bind_some]
        unfold hostport_Six_j1
        congr 1
        exact decide_eq_decide.2 (by omega)
end Go.Dm
