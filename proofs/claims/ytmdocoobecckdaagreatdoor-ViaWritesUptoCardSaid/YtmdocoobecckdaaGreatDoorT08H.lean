/-
  Hosts: addresses of six parts, and what stands behind a colon: the program's, and the document's.
-/
import Derived.Test.YtmdocoobecckdaaGreatDoorT08
import Derived.Test.YtmdocoobecckdaaGreatDoorLibEq
namespace Go.Dm
/-- The first place of a text in another one: what stands ahead of it, and behind it. -/
def cutAt (t : Str) : Str → Option (Str × Str)
  | [] => none
  | x :: s => if t.isPrefixOf (x :: s) then some ([], (x :: s).drop t.length) else (cutAt t s).map fun p => (x :: p.1, p.2)
theorem cutAt_some {t : Str} : ∀ {s a b : Str}, cutAt t s = some (a, b) → s = a ++ t ++ b
  | [], _, _, h => by cases h
  | x :: s, a, b, h => by
    rw [cutAt] at h
    split at h
    · rename_i hp
      obtain ⟨r, hr⟩ := List.isPrefixOf_iff_prefix.1 hp
      simp only [Option.some.injEq, Prod.mk.injEq] at h
      obtain ⟨rfl, rfl⟩ := h
      rw [← hr]; simp
    · cases hc : cutAt t s with
      | none => rw [hc] at h; cases h
      | some p =>
        rw [hc] at h
        simp only [Option.map_some, Option.some.injEq, Prod.mk.injEq] at h
        obtain ⟨rfl, rfl⟩ := h
        have := cutAt_some (a := p.1) (b := p.2) hc
        rw [List.cons_append, List.cons_append, ← this]
theorem index_cut {t : Str} (ht : t ≠ []) : ∀ s : Str, Go.Lib.index s t = match cutAt t s with | none => -1 | some p => (p.1.length : Int)
  | [] => by
    cases t with
    | nil => exact absurd rfl ht
    | cons y t => rfl
  | x :: s => by
    rw [Go.Lib.index, cutAt, index_cut ht s]
    cases t.isPrefixOf (x :: s) with
    | true => rfl
    | false =>
      cases cutAt t s with
      | none => rfl
      | some p =>
        simp only [Bool.false_eq_true, if_false, Option.map_some, List.length_cons]
        have : ((p.1.length : Int) == -1) = false := beq_eq_false_iff_ne.2 (by omega)
        rw [this]
        simp
theorem strings_Cut_eq (s t : Str) (hs : s.length < 1000000000) (ht : t ≠ []) : strings_Cut s t = some (match cutAt t s with | none => (s, [], false) | some p => (p.1, p.2, true)) := by
  unfold strings_Cut Go.Lib.cut
  rw [if_pos (by omega), index_cut ht]
  congr 1
  cases hc : cutAt t s with
  | none => rfl
  | some p =>
    have e := cutAt_some (a := p.1) (b := p.2) hc
    have h0 : (0 : Int) ≤ (p.1.length : Int) := by omega
    simp only [h0, if_true, Int.toNat_natCast]
    have e1 : s.take p.1.length = p.1 := by rw [e, List.append_assoc, List.take_left']; rfl
    have e2 : s.drop (p.1.length + t.length) = p.2 := by rw [e, List.drop_left']; simp
    rw [e1, e2]
/-- A group of an address. -/
def grp (x : Str) : Bool := decide (1 ≤ x.length) && decide (x.length ≤ 4) && x.all cHex
/-- What groups come to, if they are such; the last one may be an address of four parts. -/
def worthG (last : Bool) : List Str → Option Nat
  | [] => some 0
  | [x] => if last && fourOk x then some 2 else if grp x then some 1 else none
  | x :: y :: l => if grp x then (worthG last (y :: l)).map (· + 1) else none
theorem worthG_app (last : Bool) : ∀ (l m : List Str), m ≠ [] → worthG last (l ++ m) = (worthG false l).bind fun a => (worthG last m).map (· + a)
  | [], m, _ => by simp [worthG]
  | [x], m, hm => by
    cases m with
    | nil => exact absurd rfl hm
    | cons y m =>
      show worthG last (x :: y :: m) = _
      rw [worthG, worthG]
      cases grp x <;> simp
  | x :: y :: l, m, hm => by
    show worthG last (x :: y :: (l ++ m)) = _
    have ih := worthG_app last (y :: l) m hm
    rw [worthG, worthG]
    rw [List.cons_append] at ih
    rw [ih]
    cases grp x with
    | false => rfl
    | true =>
      simp only [if_true]
      cases worthG false (y :: l) with
      | none => rfl
      | some a =>
        cases worthG last m with
        | none => rfl
        | some b => simp; omega
def resG (a : Nat) : Option Nat → Int
  | none => -1
  | some k => ((a + k : Nat) : Int)
theorem groups_j4_eq (rec1 : Int → Int → Option Int) (a i : Nat) (hi : i < 4000000000) : hostport_groups_j4 rec1 (i : Int) (a : Int) = rec1 (a : Int) ((i + 1 : Nat) : Int) := by
  unfold hostport_groups_j4; rw [iAdd_one (by omega), Option.bind_some]
theorem groups_j3_eq (rec1 : Int → Int → Option Int) (a i : Nat) (t : Bool) (hi : i < 4000000000) (ha : a < 4000000000) : hostport_groups_j3 rec1 (a : Int) (i : Int) t = if t = true then rec1 ((a + 1 : Nat) : Int) ((i + 1 : Nat) : Int) else some (-1) := by
  unfold hostport_groups_j3
  rw [iAdd_one (by omega), Option.bind_some, groups_j4_eq rec1 (a + 1) i hi]
theorem groups_j2_eq (rec1 : Int → Int → Option Int) (a i : Nat) (x : Str) (t : Bool) (hi : i < 4000000000) (ha : a < 4000000000) (hx : x.length < 1000000000) :
    hostport_groups_j2 rec1 (a : Int) (i : Int) x t = if t = true then rec1 ((a + 2 : Nat) : Int) ((i + 1 : Nat) : Int) else if grp x = true then rec1 ((a + 1 : Nat) : Int) ((i + 1 : Nat) : Int) else some (-1) := by
  unfold hostport_groups_j2 grp
  have i2 : iAdd (a : Int) 2 = some ((a + 2 : Nat) : Int) := by rw [iAdd_ok (by omega) (by omega)]; simp
  have e1 : decide ((1 : Int) ≤ (x.length : Int)) = decide (1 ≤ x.length) := decide_eq_decide.2 (by omega)
  have e2 : decide ((x.length : Int) ≤ 4) = decide (x.length ≤ 4) := decide_eq_decide.2 (by omega)
  rw [i2, Option.bind_some, groups_j4_eq rec1 (a + 2) i hi, octet_All_one octet_IsHex_eq x hx, Option.bind_some, groups_j3_eq rec1 a i _ hi ha, groups_j3_eq rec1 a i _ hi ha, e1, e2]
  generalize rec1 _ _ = r1
  generalize rec1 _ _ = r2
  generalize decide (1 ≤ x.length) = d1
  generalize decide (x.length ≤ 4) = d2
  generalize x.all cHex = d3
  cases t <;> cases d1 <;> cases d2 <;> cases d3 <;> rfl
theorem worthG_one (last : Bool) (x : Str) : worthG last [x] = if last && fourOk x then some 2 else if grp x then some 1 else none := rfl
theorem worthG_more (last : Bool) (x y : Str) (l : List Str) : worthG last (x :: y :: l) = if grp x then (worthG last (y :: l)).map (· + 1) else none := rfl
theorem resG_next (a : Nat) (o : Option Nat) : resG a (o.map (· + 1)) = resG (a + 1) o := by
  cases o with
  | none => rfl
  | some k => simp only [Option.map_some, resG]; congr 1; omega
theorem groups_L1_eq (last : Bool) (l : List Str) (hl : l.length < 1000000000) (hx : ∀ x ∈ l, x.length < 1000000000) : ∀ (n i a : Nat), i ≤ l.length → l.length - i < n → a ≤ 2 * i → hostport_groups_L1 last l n (a : Int) (i : Int) = some (resG a (worthG last (l.drop i)))
  | 0, _, _, _, h, _ => by omega
  | n + 1, i, a, hi, h, ha => by
    rw [hostport_groups_L1]
    cases hd : l.drop i with
    | nil =>
      have : i = l.length := by have := congrArg List.length hd; simp at this; omega
      subst this
      simp [worthG, resG]
    | cons x t =>
      have hlt : i < l.length := by have := congrArg List.length hd; simp at this; omega
      have hxx : l[i]? = some x := by have := congrArg (·[0]?) hd; simpa using this
      have ht : l.drop (i + 1) = t := by rw [← List.drop_drop, hd]; rfl
      have htl : t.length = l.length - (i + 1) := by rw [← ht]; simp
      have hxl := hx x (List.mem_of_getElem? hxx)
      have hsub : iSub (l.length : Int) 1 = some ((l.length - 1 : Nat) : Int) := by rw [iSub_ok (by omega) (by omega)]; congr 1; omega
      have ih1 := groups_L1_eq last l hl hx n (i + 1) (a + 1) (by omega) (by omega) (by omega)
      have ih2 := groups_L1_eq last l hl hx n (i + 1) (a + 2) (by omega) (by omega) (by omega)
      rw [ht] at ih1 ih2
      have j2 := fun t => groups_j2_eq (hostport_groups_L1 last l n) a i x t (by omega) (by omega) hxl
      simp only [Int.ofNat_lt, hlt, decide_true, if_true, lAt_nat, hxx, Option.bind_some, hsub, hostport_Four_eq x hxl, j2, ih1, ih2]
      cases t with
      | nil =>
        have hei : ((i : Int) == ((l.length - 1 : Nat) : Int)) = true := by simp at htl; simp; omega
        rw [hei, worthG_one]
        have en : ∀ b, worthG b [] = some 0 := fun _ => rfl
        rw [en]
        cases last <;> cases fourOk x <;> cases grp x <;> rfl
      | cons y t =>
        have hei : ((i : Int) == ((l.length - 1 : Nat) : Int)) = false := by simp at htl; simp; omega
        rw [hei, worthG_more]
        have := resG_next a (worthG last (y :: t))
        have hn : resG a none = -1 := rfl
        cases last <;> cases grp x <;> simp only [if_true, Bool.false_eq_true, if_false, this, hn]
/-- The groups of a text. -/
def partsG (s : Str) : List Str := if s = [] then [] else splitOn 58 s
theorem groups_eq (s : Str) (last : Bool) (hs : s.length < 900000000) : hostport_groups s last = some (resG 0 (worthG last (partsG s))) := by
  unfold hostport_groups partsG
  by_cases h0 : s = []
  · subst h0; rfl
  · have h1 : (s == []) = false := beq_eq_false_iff_ne.2 h0
    rw [h1, if_neg h0]
    have hl := splitOn_len 58 s
    simp only [Bool.false_eq_true, if_false, strings_Split_eq s 58 (by omega), Option.bind_some]
    have := groups_L1_eq last (splitOn 58 s) (by omega) (fun x hx => by have := (splitOn_mem hx).2.1; omega) fuel 0 0 (by omega) (by unfold fuel; omega) (by omega)
    simpa using this
theorem worthG_le (last : Bool) : ∀ (l : List Str) (k : Nat), worthG last l = some k → k ≤ l.length + 1
  | [], k, h => by cases h; omega
  | [x], k, h => by
    rw [worthG_one] at h
    split at h
    · cases h; simp
    · split at h
      · cases h; simp
      · cases h
  | x :: y :: l, k, h => by
    rw [worthG_more] at h
    split at h
    · obtain ⟨j, hj, rfl⟩ := Option.map_eq_some_iff.1 h
      have := worthG_le last (y :: l) j hj
      simp only [List.length_cons] at this ⊢
      omega
    · cases h
theorem groups_bound (s : Str) (last : Bool) (hs : s.length < 900000000) (k : Nat) (h : worthG last (partsG s) = some k) : k < 1000000000 := by
  have h1 := worthG_le last _ k h
  have h2 := splitOn_len 58 s
  unfold partsG at h1
  split at h1
  · simp at h1; omega
  · omega
def wholeOk (s : Str) : Bool := worthG true (splitOn 58 s) == some 8
def sixOk (s : Str) : Bool := match cutAt [58, 58] s with
  | none => wholeOk s
  | some p => match worthG false (partsG p.1), worthG true (partsG p.2) with
    | some a, some b => decide (a + b ≤ 7)
    | _, _ => false
theorem Six_eq (s : Str) (hs : s.length < 900000000) : hostport_Six s = some (sixOk s) := by
  unfold hostport_Six sixOk
  rw [strings_Cut_eq s [58, 58] (by omega) (by simp), Option.bind_some]
  cases hc : cutAt [58, 58] s with
  | none =>
    simp only [Bool.not_false, if_true, groups_eq s true hs, Option.bind_some, wholeOk]
    unfold partsG
    split
    · rename_i h; subst h; rfl
    · cases worthG true (splitOn 58 s) with
      | none => rfl
      | some k =>
        simp only [resG, Nat.zero_add, Option.some.injEq]
        by_cases h : k = 8
        · subst h; rfl
        · have h1 : ((k : Int) == 8) = false := beq_eq_false_iff_ne.2 (by omega)
          rw [h1]; simp [h]
  | some p =>
    have e := congrArg List.length (cutAt_some (a := p.1) (b := p.2) hc)
    simp only [List.length_append] at e
    simp only [Bool.not_true, Bool.false_eq_true, if_false, groups_eq p.1 false (by omega), groups_eq p.2 true (by omega), Option.bind_some]
    cases ha : worthG false (partsG p.1) with
    | none => simp [resG, hostport_Six_j1]
    | some a =>
      cases hb : worthG true (partsG p.2) with
      | none => simp [resG, hostport_Six_j1]
      | some b =>
        have hb' := (groups_bound p.1 false (by omega) a ha)
        have hb2 := (groups_bound p.2 true (by omega) b hb)
        simp only [resG, Nat.zero_add]
        have e0 : decide ((0 : Int) ≤ (a : Int)) = true := by simp
        have e1 : decide ((0 : Int) ≤ (b : Int)) = true := by simp
        rw [e0, e1, if_pos rfl, if_pos rfl, iAdd_nat (by omega), Option.bind_some]
        unfold hostport_Six_j1
        congr 1
        exact decide_eq_decide.2 (by omega)
/-- The document's groups. -/
theorem whole_L3_eq (rec1 : Int → Int → Option Bool) (l : List Str) (a i : Nat) (x : Str) (hx : l[i]? = some x) (hxl : x.length < 1000000000) (hi : i < 2000000000) (ha : a < 4000000000) :
    ref08_whole_L3 rec1 l (a : Int) (i : Int) fuel 0 = if grp x = true then rec1 ((a + 1 : Nat) : Int) ((i + 1 : Nat) : Int) else some false := by
  have key : ∀ (n j : Nat), j ≤ x.length → x.length - j < n → ref08_whole_L3 rec1 l (a : Int) (i : Int) n (j : Int) = if (x.drop j).all cHex = true then (if (decide (1 ≤ x.length) && decide (x.length ≤ 4)) = true then rec1 ((a + 1 : Nat) : Int) ((i + 1 : Nat) : Int) else some false) else some false := by
    intro n
    induction n with
    | zero => intro j _ h; omega
    | succ n ih =>
      intro j hj h
      rw [ref08_whole_L3]
      rw [lAt_nat, hx]
      simp only [Option.bind_some]
      by_cases hlt : j < x.length
      · have e : decide ((j : Int) < (x.length : Int)) = true := decide_eq_true (by omega)
        have hc : x[j]? = some x[j] := List.getElem?_eq_getElem hlt
        rw [e, if_pos rfl, sAt_nat, hc, Option.bind_some, ref01_Hex_eq, Option.bind_some, iAdd_one (by omega), Option.bind_some, ih (j + 1) (by omega) (by omega), List.drop_eq_getElem_cons hlt, List.all_cons]
        cases cHex x[j] <;> rfl
      · have hjl : j = x.length := by omega
        subst hjl
        have e : decide ((x.length : Int) < (x.length : Int)) = false := decide_eq_false (by omega)
        have e1 : decide ((x.length : Int) < 1) = !decide (1 ≤ x.length) := by rw [← decide_not]; exact decide_eq_decide.2 (by omega)
        have e2 : decide (4 < (x.length : Int)) = !decide (x.length ≤ 4) := by rw [← decide_not]; exact decide_eq_decide.2 (by omega)
        rw [e, if_neg (by decide), List.drop_length, e1, e2]
        unfold ref08_whole_j4 ref08_whole_j5
        rw [iAdd_one (by omega), Option.bind_some, iAdd_one (by omega), Option.bind_some]
        generalize rec1 _ _ = r1
        generalize decide (1 ≤ x.length) = d1
        generalize decide (x.length ≤ 4) = d2
        cases d1 <;> cases d2 <;> rfl
  have := key fuel 0 (Nat.zero_le _) (by unfold fuel; omega)
  rw [show (0 : Int) = ((0 : Nat) : Int) from rfl, this, List.drop_zero]
  unfold grp
  generalize rec1 _ _ = r1
  generalize decide (1 ≤ x.length) = d1
  generalize decide (x.length ≤ 4) = d2
  generalize x.all cHex = d3
  cases d1 <;> cases d2 <;> cases d3 <;> rfl
def isW (a : Nat) : Option Nat → Bool
  | none => false
  | some k => a + k == 8
theorem isW_next (a : Nat) (o : Option Nat) : isW a (o.map (· + 1)) = isW (a + 1) o := by
  cases o with
  | none => rfl
  | some k => simp only [Option.map_some, isW]; congr 1; omega
theorem whole_L1_eq (l : List Str) (hl : l.length < 1000000000) (hx : ∀ x ∈ l, x.length < 1000000000) : ∀ (n i a : Nat), i ≤ l.length → l.length - i < n → a ≤ 2 * i → ref08_whole_L1 l n (a : Int) (i : Int) = some (isW a (worthG true (l.drop i)))
  | 0, _, _, _, h, _ => by omega
  | n + 1, i, a, hi, h, ha => by
    rw [ref08_whole_L1]
    cases hd : l.drop i with
    | nil =>
      have : i = l.length := by have := congrArg List.length hd; simp at this; omega
      subst this
      have e : decide ((l.length : Int) < (l.length : Int)) = false := decide_eq_false (by omega)
      rw [e, if_neg (by decide)]
      show some ((a : Int) == 8) = some (a + 0 == 8)
      congr 1
      by_cases h8 : a = 8
      · subst h8; rfl
      · rw [beq_eq_false_iff_ne.2 (show (a : Int) ≠ 8 by omega), beq_eq_false_iff_ne.2 (show a + 0 ≠ 8 by omega)]
    | cons x t =>
      have hlt : i < l.length := by have := congrArg List.length hd; simp at this; omega
      have hxx : l[i]? = some x := by have := congrArg (·[0]?) hd; simpa using this
      have ht : l.drop (i + 1) = t := by rw [← List.drop_drop, hd]; rfl
      have htl : t.length = l.length - (i + 1) := by rw [← ht]; simp
      have hxl := hx x (List.mem_of_getElem? hxx)
      have hsub : iSub (l.length : Int) 1 = some ((l.length - 1 : Nat) : Int) := by rw [iSub_ok (by omega) (by omega)]; congr 1; omega
      have ih1 := whole_L1_eq l hl hx n (i + 1) (a + 1) (by omega) (by omega) (by omega)
      have ih2 := whole_L1_eq l hl hx n (i + 1) (a + 2) (by omega) (by omega) (by omega)
      rw [ht] at ih1 ih2
      have e : decide ((i : Int) < (l.length : Int)) = true := decide_eq_true (by omega)
      have i2 : iAdd (a : Int) 2 = some ((a + 2 : Nat) : Int) := by rw [iAdd_ok (by omega) (by omega)]; simp
      have j2 : ∀ t, ref08_whole_j2 (ref08_whole_L1 l n) l (a : Int) (i : Int) t = if t = true then some (isW (a + 2) (worthG true (l.drop (i + 1)))) else if grp x = true then some (isW (a + 1) (worthG true (l.drop (i + 1)))) else some false := by
        intro t
        unfold ref08_whole_j2 ref08_whole_j5
        rw [i2, Option.bind_some, iAdd_one (by omega), Option.bind_some, whole_L3_eq _ l a i x hxx hxl (by omega) (by omega), ht, ih1, ih2]
      rw [e, if_pos rfl, hsub, Option.bind_some, lAt_nat, hxx, Option.bind_some, ref08_Four_eq x hxl, Option.bind_some, j2, j2, ht]
      cases t with
      | nil =>
        have hei : ((i : Int) == ((l.length - 1 : Nat) : Int)) = true := by simp at htl; simp; omega
        rw [hei, worthG_one]
        have en : ∀ b, worthG b [] = some 0 := fun _ => rfl
        rw [en]
        cases fourOk x <;> cases grp x <;> rfl
      | cons y t =>
        have hei : ((i : Int) == ((l.length - 1 : Nat) : Int)) = false := by simp at htl; simp; omega
        rw [hei, worthG_more]
        have := isW_next a (worthG true (y :: t))
        have hn : isW a none = false := rfl
        cases grp x <;> simp only [if_true, Bool.false_eq_true, if_false, this, hn]
theorem whole_eq (s : Str) (hs : s.length < 900000000) : ref08_whole s = some (wholeOk s) := by
  unfold ref08_whole wholeOk
  have hl := splitOn_len 58 s
  rw [ref08_Parts_eq s 58 (by omega), Option.bind_some]
  have := whole_L1_eq (splitOn 58 s) (by omega) (fun x hx => by have := (splitOn_mem hx).2.1; omega) fuel 0 0 (by omega) (by unfold fuel; omega) (by omega)
  rw [List.drop_zero] at this
  rw [show (0 : Int) = ((0 : Nat) : Int) from rfl, this]
  congr 1
  cases worthG true (splitOn 58 s) with
  | none => rfl
  | some k => simp only [isW, Nat.zero_add]; exact (Option.some_beq_some ..).symm
/-- Zeros that are put in. -/
def addZ : Nat → Str → Str
  | 0, s => s
  | k + 1, s => addZ k (if s = [] then [48] else s ++ [58, 48])
def joinG (s b : Str) : Str := if b = [] then s else s ++ 58 :: b
theorem headed_app (p : Str) (l m : List Str) (h : l ≠ []) : headed p (l ++ m) = headed p l ++ m := by
  cases l with
  | nil => exact absurd rfl h
  | cons x l => rfl
theorem splitOn_mid (c : UInt8) : ∀ x y : Str, splitOn c (x ++ c :: y) = splitOn c x ++ splitOn c y
  | [], y => by rw [List.nil_append, splitOn_cons, if_pos rfl]; rfl
  | z :: x, y => by
    rw [List.cons_append, splitOn_cons, splitOn_cons, splitOn_mid c x y]
    split
    · rfl
    · rw [headed_app _ _ _ (splitOn_ne c x)]
theorem splitOn_addZ : ∀ (k : Nat) (s : Str), s ≠ [] → splitOn 58 (addZ k s) = splitOn 58 s ++ List.replicate k [48]
  | 0, s, _ => by simp [addZ]
  | k + 1, s, h => by
    rw [addZ, if_neg h, splitOn_addZ k _ (by simp), show s ++ [58, 48] = s ++ (58 : UInt8) :: [48] from rfl, splitOn_mid, List.append_assoc]
    rfl
theorem parts_addZ (k : Nat) (s : Str) : splitOn 58 (addZ (k + 1) s) = partsG s ++ List.replicate (k + 1) [48] := by
  unfold partsG
  split
  · rename_i h
    subst h
    rw [addZ, if_pos rfl, splitOn_addZ k _ (by simp)]
    rfl
  · rename_i h
    rw [splitOn_addZ _ _ h]
theorem four_zero : fourOk [48] = false := by simp [fourOk, splitOn]
theorem grp_zero : grp [48] = true := by decide
theorem worth_zeros (last : Bool) : ∀ k : Nat, worthG last (List.replicate (k + 1) [48]) = some (k + 1)
  | 0 => by rw [show List.replicate (0 + 1) ([48] : Str) = [[48]] from rfl, worthG_one, four_zero, grp_zero]; cases last <;> rfl
  | k + 1 => by
    have ih := worth_zeros last k
    rw [List.replicate_succ] at ih
    rw [List.replicate_succ, List.replicate_succ, worthG_more, grp_zero, ih]
    rfl
def sixG (k : Nat) (a b : Str) : Bool := match worthG false (partsG a), worthG true (partsG b) with
  | some x, some y => decide (x + y + k ≤ 8)
  | _, _ => false
def sixE (k : Nat) (a b : Str) : Bool := match worthG false (partsG a), worthG true (partsG b) with
  | some x, some y => x + y + k == 8
  | _, _ => false
theorem whole_join (k : Nat) (a b : Str) : wholeOk (joinG (addZ (k + 1) a) b) = sixE (k + 1) a b := by
  unfold wholeOk sixE
  have e : splitOn 58 (joinG (addZ (k + 1) a) b) = partsG a ++ (List.replicate (k + 1) [48] ++ partsG b) := by
    unfold joinG
    split
    · rename_i h; subst h; rw [parts_addZ]; simp [partsG]
    · rename_i h
      rw [splitOn_mid, parts_addZ, List.append_assoc]
      congr 2
      unfold partsG; rw [if_neg h]
  rw [e, worthG_app _ _ _ (by simp [List.replicate_succ])]
  have e2 : worthG true (List.replicate (k + 1) [48] ++ partsG b) = (worthG true (partsG b)).map (· + (k + 1)) := by
    by_cases hb : partsG b = []
    · rw [hb, List.append_nil, worth_zeros]
      simp [worthG]
    · rw [worthG_app _ _ _ hb, worth_zeros]; rfl
  rw [e2]
  cases worthG false (partsG a) with
  | none => rfl
  | some x =>
    cases worthG true (partsG b) with
    | none => rfl
    | some y =>
      simp only [Option.bind_some, Option.map_some]
      have : y + (k + 1) + x = x + y + (k + 1) := by omega
      rw [this]
      exact Option.some_beq_some ..
theorem Six_j6_eq (rec3 : Int → Option Bool) (k : Nat) (t : Str) (ht : t.length < 900000000) (hk : k < 100) : ref08_Six_j6 rec3 (k : Int) t = if wholeOk t = true then some true else rec3 ((k + 1 : Nat) : Int) := by
  unfold ref08_Six_j6
  rw [whole_eq t ht, Option.bind_some, iAdd_one (by omega), Option.bind_some]
theorem Six_L4_eq (rec3 : Int → Option Bool) (s b : Str) (i k : Nat) (hi : i + 2 ≤ s.length) (hs : s.length < 400000000) (hb : s.drop (i + 2) = b) (hk : k < 100) : ∀ (n j : Nat) (t : Str), j ≤ k → k - j < n → t.length ≤ s.length + 2 * j →
    ref08_Six_L4 rec3 s (i : Int) (k : Int) n t (j : Int) = if wholeOk (joinG (addZ (k - j) t) b) = true then some true else rec3 ((k + 1 : Nat) : Int)
  | 0, _, _, _, h, _ => by omega
  | n + 1, j, t, hj, h, ht => by
    rw [ref08_Six_L4]
    by_cases hlt : j < k
    · have e : decide ((j : Int) < (k : Int)) = true := decide_eq_true (by omega)
      have hkj : k - j = (k - (j + 1)) + 1 := by omega
      rw [e, if_pos rfl, hkj, addZ]
      unfold ref08_Six_j5
      rw [iAdd_one (by omega)]
      simp only [Option.bind_some]
      by_cases h0 : t = []
      · subst h0
        have hn : (!(([] : Str) == [])) = false := rfl
        have := Six_L4_eq rec3 s b i k hi hs hb hk n (j + 1) [48] (by omega) (by omega) (by simp; omega)
        rw [hn, if_neg (by decide), sCat_ok (by simp), Option.bind_some, if_pos rfl]
        exact this
      · have hn : (!(t == [])) = true := by simp [h0]
        have := Six_L4_eq rec3 s b i k hi hs hb hk n (j + 1) (t ++ [58, 48]) (by omega) (by omega) (by simp; omega)
        rw [hn, if_pos rfl, sCat_ok (by simp; omega), Option.bind_some, sCat_ok (by simp; omega), Option.bind_some, if_neg h0, List.append_assoc]
        exact this
    · have hjk : j = k := by omega
      subst hjk
      have e : decide ((j : Int) < (j : Int)) = false := decide_eq_false (by omega)
      have i2 : iAdd (i : Int) 2 = some ((i + 2 : Nat) : Int) := by rw [iAdd_ok (by omega) (by omega)]; simp
      have hbl : b.length ≤ s.length := by rw [← hb]; simp
      rw [e, if_neg (by decide), Nat.sub_self, addZ, i2, Option.bind_some, sFrom_nat hi, Option.bind_some, hb]
      unfold joinG
      by_cases h0 : b = []
      · subst h0
        have hn : (!(([] : Str) == [])) = false := rfl
        rw [hn, if_neg (by decide), if_pos rfl, Six_j6_eq rec3 j t (by omega) hk]
      · have hn : (!(b == [])) = true := by simp [h0]
        rw [hn, if_pos rfl, sCat_ok (by simp; omega), Option.bind_some, Option.bind_some, sFrom_nat hi, Option.bind_some, hb, sCat_ok (by simp; omega), Option.bind_some, if_neg h0, List.append_assoc]
        exact Six_j6_eq rec3 j (t ++ 58 :: b) (by simp; omega) hk
theorem six_step (k : Nat) (a b : Str) : sixG k a b = (sixE k a b || sixG (k + 1) a b) := by
  unfold sixG sixE
  cases worthG false (partsG a) with
  | none => rfl
  | some x =>
    cases worthG true (partsG b) with
    | none => rfl
    | some y =>
      show decide (x + y + k ≤ 8) = (x + y + k == 8 || decide (x + y + (k + 1) ≤ 8))
      rw [Bool.eq_iff_iff]
      simp only [decide_eq_true_eq, Bool.or_eq_true, beq_iff_eq]
      omega
theorem Six_L3_eq (s b : Str) (i : Nat) (hi : i + 2 ≤ s.length) (hs : s.length < 400000000) (hb : s.drop (i + 2) = b) : ∀ (n k : Nat), k ≤ 8 → 8 - k + 1 < n → ref08_Six_L3 s (i : Int) n ((k + 1 : Nat) : Int) = some (sixG (k + 1) (s.take i) b)
  | 0, _, _, h => by omega
  | n + 1, k, hk, h => by
    rw [ref08_Six_L3]
    by_cases hlt : k < 8
    · have e : decide (((k + 1 : Nat) : Int) ≤ 8) = true := decide_eq_true (by omega)
      have ih := Six_L3_eq s b i hi hs hb n (k + 1) (by omega) (by omega)
      rw [e, if_pos rfl, sTo_nat (by omega), Option.bind_some]
      have := Six_L4_eq (ref08_Six_L3 s (i : Int) n) s b i (k + 1) hi hs hb (by omega) fuel 0 (s.take i) (by omega) (by unfold fuel; omega) (by simp; omega)
      rw [Nat.sub_zero] at this
      rw [show (0 : Int) = ((0 : Nat) : Int) from rfl, this, ih, whole_join, six_step (k + 1)]
      cases sixE (k + 1) (s.take i) b <;> rfl
    · have : k = 8 := by omega
      subst this
      have e : decide (((8 + 1 : Nat) : Int) ≤ 8) = false := by decide
      rw [e, if_neg (by decide)]
      congr 1
      unfold sixG
      cases worthG false (partsG (s.take i)) with
      | none => rfl
      | some x =>
        cases worthG true (partsG b) with
        | none => rfl
        | some y => exact (decide_eq_false (by omega)).symm
theorem six_one (a b : Str) : sixG 1 a b = (match worthG false (partsG a), worthG true (partsG b) with | some a, some b => decide (a + b ≤ 7) | _, _ => false) := by
  unfold sixG
  cases worthG false (partsG a) with
  | none => rfl
  | some x =>
    cases worthG true (partsG b) with
    | none => rfl
    | some y => exact decide_eq_decide.2 (by omega)
theorem ref08_Six_eq (s : Str) (hs : s.length < 400000000) : ref08_Six s = some (sixOk s) := by
  unfold ref08_Six
  have key : ∀ (n i : Nat), i ≤ s.length → s.length - i < n → ref08_Six_L1 s n (i : Int) = some (match cutAt [58, 58] (s.drop i) with | none => wholeOk s | some p => sixG 1 (s.take (i + p.1.length)) p.2) := by
    intro n
    induction n with
    | zero => intro i _ h; omega
    | succ n ih =>
      intro i hi h
      rw [ref08_Six_L1, iAdd_one (by omega), Option.bind_some]
      by_cases hlt : i + 1 < s.length
      · have e : decide (((i + 1 : Nat) : Int) < (s.length : Int)) = true := decide_eq_true (by omega)
        have hd : s.drop i = s[i] :: s[i + 1] :: s.drop (i + 2) := by rw [List.drop_eq_getElem_cons (by omega), List.drop_eq_getElem_cons hlt]
        have hd1 : s.drop (i + 1) = s[i + 1] :: s.drop (i + 2) := List.drop_eq_getElem_cons hlt
        have g0 : s[i]? = some s[i] := List.getElem?_eq_getElem (by omega)
        have g1 : s[i + 1]? = some s[i + 1] := List.getElem?_eq_getElem hlt
        have ih1 := ih (i + 1) (by omega) (by omega)
        have hL3 := Six_L3_eq s (s.drop (i + 2)) i (by omega) hs rfl fuel 0 (by omega) (by unfold fuel; omega)
        have next : (match cutAt [58, 58] (s[i] :: s.drop (i + 1)) with | none => wholeOk s | some p => sixG 1 (s.take (i + p.1.length)) p.2) = if ([58, 58] : Str).isPrefixOf (s[i] :: s.drop (i + 1)) = true then sixG 1 (s.take i) (s.drop (i + 2)) else (match cutAt [58, 58] (s.drop (i + 1)) with | none => wholeOk s | some p => sixG 1 (s.take (i + 1 + p.1.length)) p.2) := by
          rw [cutAt]
          cases ([58, 58] : Str).isPrefixOf (s[i] :: s.drop (i + 1)) with
          | true =>
            rw [if_pos rfl, if_pos rfl]
            show sixG 1 (s.take (i + 0)) (List.drop (1 + 1) (s[i] :: s.drop (i + 1))) = _
            rw [hd1]; rfl
          | false =>
            rw [if_neg (by decide), if_neg (by decide)]
            cases cutAt [58, 58] (s.drop (i + 1)) with
            | none => rfl
            | some p =>
              show sixG 1 (s.take (i + (p.1.length + 1))) p.2 = _
              rw [show i + (p.1.length + 1) = i + 1 + p.1.length from by omega]
        rw [e, if_pos rfl, sAt_nat, g0, Option.bind_some, Option.bind_some, sAt_nat, g1, Option.bind_some, List.drop_eq_getElem_cons (show i < s.length by omega), next]
        unfold ref08_Six_j2
        rw [iAdd_one (by omega), Option.bind_some, ih1]
        have hp : ([58, 58] : Str).isPrefixOf (s[i] :: s.drop (i + 1)) = (s[i] == 58 && s[i + 1] == 58) := by
          rw [hd1]
          simp only [List.isPrefixOf_cons_cons, List.isPrefixOf_nil_left, Bool.and_true]
          rw [beq_swap 58, beq_swap 58]
        rw [hp]
        have hL3' : ref08_Six_L3 s (i : Int) fuel 1 = some (sixG 1 (s.take i) (s.drop (i + 2))) := hL3
        rw [hL3']
        cases s[i] == 58 <;> cases s[i + 1] == 58 <;> rfl
      · have e : decide (((i + 1 : Nat) : Int) < (s.length : Int)) = false := decide_eq_false (by omega)
        rw [e, if_neg (by decide), whole_eq s (by omega), Option.bind_some]
        have : cutAt [58, 58] (s.drop i) = none := by
          cases hd : s.drop i with
          | nil => rfl
          | cons x t =>
            have : t = [] := by have := congrArg List.length hd; simp at this; exact List.eq_nil_of_length_eq_zero (by omega)
            subst this
            rw [cutAt]
            simp [List.isPrefixOf, cutAt]
        rw [this]
  have := key fuel 0 (Nat.zero_le _) (by unfold fuel; omega)
  rw [List.drop_zero] at this
  rw [show (0 : Int) = ((0 : Nat) : Int) from rfl, this]
  unfold sixOk
  congr 1
  cases hc : cutAt [58, 58] s with
  | none => rfl
  | some p =>
    have e := cutAt_some (a := p.1) (b := p.2) hc
    have e1 : s.take (0 + p.1.length) = p.1 := by rw [Nat.zero_add, e, List.append_assoc, List.take_left']; rfl
    simp only [e1]
    exact six_one p.1 p.2
end Go.Dm
