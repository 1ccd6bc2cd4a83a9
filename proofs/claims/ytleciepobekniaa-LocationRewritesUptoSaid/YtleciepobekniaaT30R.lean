/-
  LocationRewrites: the plain law: what its model comes to is true.
-/
import Derived.Test.YtleciepobekniaaT11
namespace Go.Dm

/-! what the law lets through -/
def few (l : List api_Swap) : List api_Swap := (l.take 70).map fun x => ⟨x.From.take 60, x.To.take 60⟩
theorem few_len (l : List api_Swap) : (few l).length ≤ 70 := by simp [few]; omega
theorem few_small (l : List api_Swap) : ∀ x ∈ few l, x.From.length ≤ 60 ∧ x.To.length ≤ 60 := by
  intro x hx
  simp only [few, List.mem_map] at hx
  obtain ⟨y, _, rfl⟩ := hx
  exact ⟨by simp; omega, by simp; omega⟩
theorem sTo_min (s : Str) (k : Nat) : sTo s (min (s.length : Int) (k : Int)) = some (s.take k) := by
  have e : min (s.length : Int) (k : Int) = ((min s.length k : Nat) : Int) := by omega
  rw [e, sTo_nat (Nat.min_le_left _ _)]
  congr 1
  rcases Nat.le_total s.length k with h | h
  · rw [Nat.min_eq_left h, List.take_length, List.take_of_length_le h]
  · rw [Nat.min_eq_right h]
theorem law29_Few_eq (l : List api_Swap) (hl : l.length < 1000000000) : law29_Few l = some (few l) := by
  unfold law29_Few
  have step : ∀ (k i : Nat) (acc : List api_Swap), acc.length = i → i ≤ l.length → 70 - i + 1 < k + 1 → law29_Few_L1 l (k + 1) acc (i : Int) = some (acc ++ few (l.drop i |>.take (70 - i))) := by
    intro k
    induction k with
    | zero => intro i acc _ _ h; omega
    | succ k ih =>
      intro i acc ha hi h
      rw [law29_Few_L1]
      by_cases hlt : i < l.length
      · have hx : l[i]? = some l[i] := List.getElem?_eq_getElem hlt
        simp only [Int.ofNat_lt, hlt, decide_true, if_true]
        by_cases h70 : i < 70
        · have h70' : (i : Int) < 70 := by omega
          have e60 : ∀ s : Str, sTo s (min (s.length : Int) 60) = some (s.take 60) := fun s => sTo_min s 60
          have hfit : fitsApp acc.length 1 32 = true := by simp only [fitsApp, Bool.and_eq_true, decide_eq_true_eq]; omega
          simp only [law29_Few_j2, h70', decide_true, if_true, lAt_nat, hx, Option.bind_some, e60, hfit, iAdd_one (show i < 4611686018427387904 by omega)]
          rw [ih (i + 1) _ (by simp [ha]) (by omega) (by omega)]
          have e1 : 70 - i = (70 - (i + 1)) + 1 := by omega
          rw [List.drop_eq_getElem_cons hlt, e1, List.take_succ_cons]
          have hm : ∀ (x : api_Swap) (r : List api_Swap), r.length + 1 ≤ 70 → few (x :: r) = ⟨x.From.take 60, x.To.take 60⟩ :: few r := by
            intro x r hr
            have h1 : (x :: r).take 70 = x :: r := List.take_of_length_le (by simp only [List.length_cons]; omega)
            have h2 : r.take 70 = r := List.take_of_length_le (by omega)
            simp only [few, h1, h2, List.map_cons]
          rw [hm _ _ (by simp; omega)]
          simp
        · have h70' : ¬ (i : Int) < 70 := by omega
          have e0 : 70 - i = 0 := by omega
          simp [law29_Few_j2, h70', e0, few]
      · have : i = l.length := by omega
        subst this
        simp only [Int.lt_irrefl, decide_false, Bool.false_eq_true, if_false, law29_Few_j2, List.drop_length]
        simp [few]
  have hf : fuel = (fuel - 1) + 1 := rfl
  rw [hf]
  have := step (fuel - 1) 0 [] rfl (Nat.zero_le _) (by unfold fuel; omega)
  simp only [Int.natCast_zero, List.nil_append, List.drop_zero, Nat.sub_zero] at this
  rw [this]
  congr 1
  unfold few
  rw [List.take_take, Nat.min_self]

/-! the program's rewriting, and the document's -/
def okR (s : Str) : Bool := (parseR s).2 == 0
theorem location_is_eq (s : Str) (hs : s.length < 1000000000) : location_is s = some (okR s) := by
  unfold location_is
  rw [uriref_Parse_eq s hs]; rfl
def rewriteOf (s : Str) (l : List api_Swap) : Str := if (swapOf s l).2 = true ∧ okR s = true ∧ okR (swapOf s l).1 = true then (swapOf s l).1 else s
theorem swapOf_len (s : Str) (l : List api_Swap) (k : Nat) (h : ∀ x ∈ l, x.To.length ≤ k) : (swapOf s l).1.length ≤ s.length + k := by
  induction l with
  | nil => simp [swapOf]
  | cons x l ih =>
    unfold swapOf
    split
    · have := h x (List.mem_cons_self ..)
      simp only [List.length_append, List.length_drop]; omega
    · exact ih fun y hy => h y (List.mem_cons_of_mem _ hy)
section
variable {s : Str} {l : List api_Swap} (hs : s.length ≤ 200) (hl : l.length ≤ 70) (hx : ∀ x ∈ l, x.From.length ≤ 60 ∧ x.To.length ≤ 60)
include hs hl hx
omit hl in
theorem small_swap : (swapOf s l).1.length < 1000000000 := by
  have := swapOf_len s l 60 (fun x h => (hx x h).2); omega
theorem location_Rewrite_eq : location_Rewrite s l = some (rewriteOf s l) := by
  unfold location_Rewrite
  rw [uriref_Swap_eq s l (by omega) (by omega) (fun x h => by have := hx x h; omega), Option.bind_some]
  unfold rewriteOf
  cases h1 : (swapOf s l).2 with
  | false => simp [location_Rewrite_j1]
  | true =>
    simp only [Bool.not_true, Bool.false_eq_true, if_false, location_is_eq s (by omega), Option.bind_some]
    cases h2 : okR s with
    | false => simp [location_Rewrite_j1]
    | true =>
      simp only [Bool.not_true, Bool.false_eq_true, if_false, location_is_eq _ (small_swap hs hx), Option.bind_some]
      cases h3 : okR (swapOf s l).1 <;> simp [location_Rewrite_j1]
theorem ref30_Rewrite_eq : ref30_Rewrite s l = some (rewriteOf s l) := by
  unfold ref30_Rewrite
  rw [ref11_Parse_eq s (by omega), Option.bind_some, ref11_Swap_eq s l (by omega) (by omega) (fun x h => by have := hx x h; omega), Option.bind_some, ref11_Parse_eq _ (small_swap hs hx), Option.bind_some]
  unfold rewriteOf okR
  cases h2 : ((parseR s).2 == 0) with
  | false => simp [ref30_Rewrite_j1]
  | true =>
    cases h1 : (swapOf s l).2 with
    | false => simp [ref30_Rewrite_j1]
    | true => cases h3 : ((parseR (swapOf s l).1).2 == 0) <;> simp [ref30_Rewrite_j1]
end
def badSwap (x : api_Swap) : Bool := x.From == [] || !okR x.From || !okR x.To
def checkOf (l : List api_Swap) : Int := if l.any badSwap = true then 2 else if 64 < l.length then 3 else 0
theorem foldr_two {α : Type} (p : α → Bool) (l : List α) (e : Int) : l.foldr (fun x r => if p x = true then some (2 : Int) else r) (some e) = some (if l.any p = true then 2 else e) := by
  induction l with
  | nil => rfl
  | cons x l ih => simp only [List.foldr_cons, ih, List.any_cons]; rcases bcase (p x) with hp | hp <;> simp only [hp] <;> simp
theorem foldr_small {β : Type} {l : List api_Swap} (hx : ∀ x ∈ l, x.From.length ≤ 60 ∧ x.To.length ≤ 60) (F : api_Swap → Option β → Option β) (E : Option β) :
    l.foldr (fun x r => if x.From.length ≤ 60 ∧ x.To.length ≤ 60 then F x r else none) E = l.foldr F E := by
  induction l with
  | nil => rfl
  | cons x l ih =>
    simp only [List.foldr_cons]
    rw [ih (fun y hy => hx y (List.mem_cons_of_mem _ hy)), if_pos (hx x (List.mem_cons_self ..))]
theorem location_Check_eq {l : List api_Swap} (hl : l.length ≤ 70) (hx : ∀ x ∈ l, x.From.length ≤ 60 ∧ x.To.length ≤ 60) : location_Check l = some (checkOf l) := by
  unfold location_Check
  rw [loop_start l (location_Check_L1 l) (fun x r => if x.From.length ≤ 60 ∧ x.To.length ≤ 60 then (if badSwap x = true then some 2 else r) else none) (some (if 64 < l.length then 3 else 0)) (by omega)]
  · rw [foldr_small hx, foldr_two]; rfl
  · intro n
    rw [location_Check_L1]
    simp only [Int.lt_irrefl, decide_false, Bool.false_eq_true, if_false]
    by_cases h : 64 < l.length
    · have h' : (64 : Int) < (l.length : Int) := by omega
      simp [h, h']
    · have h' : ¬ (64 : Int) < (l.length : Int) := by omega
      simp [h, h']
  · intro n i x hi hxi
    have hxl := hx x (List.mem_of_getElem? hxi)
    rw [location_Check_L1]
    simp only [Int.ofNat_lt, hi, decide_true, if_true, lAt_nat, hxi, Option.bind_some, if_pos hxl, location_is_eq x.From (by omega), location_is_eq x.To (by omega), location_Check_j2, iAdd_one (show i < 4611686018427387904 by omega), badSwap]
    rcases bcase (x.From == []) with hA | hA <;> rcases bcase (okR x.From) with hB | hB <;> rcases bcase (okR x.To) with hC | hC <;> simp only [hA, hB, hC] <;> simp
theorem ref30_Check_eq {l : List api_Swap} (hl : l.length ≤ 70) (hx : ∀ x ∈ l, x.From.length ≤ 60 ∧ x.To.length ≤ 60) : ref30_Check l = some (checkOf l) := by
  unfold ref30_Check
  rw [loop_start l (ref30_Check_L1 l) (fun x r => if x.From.length ≤ 60 ∧ x.To.length ≤ 60 then (if badSwap x = true then some 2 else r) else none) (some (if 64 < l.length then 3 else 0)) (by omega)]
  · rw [foldr_small hx, foldr_two]; rfl
  · intro n
    rw [ref30_Check_L1]
    simp only [Int.lt_irrefl, decide_false, Bool.false_eq_true, if_false]
    by_cases h : 64 < l.length
    · have h' : (64 : Int) < (l.length : Int) := by omega
      simp [h, h']
    · have h' : ¬ (64 : Int) < (l.length : Int) := by omega
      simp [h, h']
  · intro n i x hi hxi
    have hxl := hx x (List.mem_of_getElem? hxi)
    rw [ref30_Check_L1]
    simp only [Int.ofNat_lt, hi, decide_true, if_true, lAt_nat, hxi, Option.bind_some, if_pos hxl, ref11_Parse_eq x.From (by omega), ref11_Parse_eq x.To (by omega), ref30_Check_j2, iAdd_one (show i < 4611686018427387904 by omega), badSwap, okR]
    rcases bcase (x.From == []) with hA | hA <;> rcases bcase ((parseR x.From).2 == 0) with hB | hB <;> rcases bcase ((parseR x.To).2 == 0) with hC | hC <;> simp only [hA, hB, hC] <;> simp

theorem law30_awake_eq : law30_awake = some true := by
  unfold law30_awake
  rw [location_Rewrite_eq (by decide) (by decide) (by decide), Option.bind_some]
  decide +kernel

theorem LocationRewrites_true (s : Str) (l : List api_Swap) (hl : l.length < 1000000000) : law30_LocationRewrites s l = some true := by
  unfold law30_LocationRewrites
  have hs2 : (s.take 200).length ≤ 200 := by simp; omega
  have hL := few_len l
  have hS := few_small l
  have e200 : sTo s (min (s.length : Int) 200) = some (s.take 200) := sTo_min s 200
  rw [law30_awake_eq, Option.bind_some]
  have hr : (rewriteOf (s.take 200) (few l)).length < 1000000000 := by
    unfold rewriteOf; split
    · exact small_swap hs2 hS
    · omega
  simp only [Bool.not_true, Bool.false_eq_true, if_false, e200, Option.bind_some, law29_Few_eq l hl, location_Rewrite_eq hs2 hL hS, ref30_Rewrite_eq hs2 hL hS,
    ref11_Parse_eq _ (show (s.take 200).length < 1000000000 by omega), ref11_Parse_eq _ hr, location_Check_eq hL hS, ref30_Check_eq hL hS, beq_self_eq_true, if_true, law30_LocationRewrites_j1]
  have key : (okR (s.take 200) = false ∧ rewriteOf (s.take 200) (few l) = s.take 200) ∨ okR (rewriteOf (s.take 200) (few l)) = true := by
    rcases bcase (okR (s.take 200)) with h | h
    · right
      unfold rewriteOf
      split
      · rename_i h2; exact h2.2.2
      · exact h
    · left
      refine ⟨h, ?_⟩
      unfold rewriteOf
      rw [if_neg]
      simp [h]
  rcases key with ⟨h1, h2⟩ | h1
  · unfold okR at h1
    rw [h2]; simp only [h1]; simp
  · unfold okR at h1
    rcases bcase ((parseR (s.take 200)).2 == 0) with h2 | h2 <;> rcases bcase (rewriteOf (s.take 200) (few l) == s.take 200) with h3 | h3 <;> simp only [h1, h2, h3] <;> simp
end Go.Dm
