/-
  Layer 29 (domains): Map, Check: the program's and the document's come to the same; DomainsMaps. No program in sight.
-/
import Derived.Test.YtpingffipghifaaGreatDoorT08
namespace Go.Dm
def few (l : List api_Swap) : List api_Swap := (l.take 70).map fun x => ⟨x.From.take 60, x.To.take 60⟩
theorem few_len (l : List api_Swap) : (few l).length ≤ 70 := by simp [few]; omega
theorem few_small (l : List api_Swap) : ∀ x ∈ few l, x.From.length ≤ 60 ∧ x.To.length ≤ 60 := by
  intro x hx
  simp only [few, List.mem_map] at hx
  obtain ⟨y, _, rfl⟩ := hx
  exact ⟨by simp; omega, by simp; omega⟩
theorem law29_Few_eq (l : List api_Swap) (hl : l.length < 1000000000) : law29_Few l = some (few l) := by
  unfold law29_Few
  have step : ∀ (k i : Nat) (acc : List api_Swap), acc.length = i → i ≤ l.length → 70 - i + 1 < k + 1 → law29_Few_L1 l (k + 1) acc (i : Int) = some (acc ++ few (l.drop i |>.take (70 - i))) := by
    intro k
    induction k with
    | zero => intro i acc _ _ h; omega
    | succ k ih =>
      intro i acc ha hi h
      rw [law29_Few_L1]
      by_cases hlt : i < l.length
      · have hx : l[i]? = some l[i] := List.getElem?_eq_getElem hlt
        simp only [Int.ofNat_lt, hlt, decide_true, if_true]
        by_cases h70 : i < 70
        · have h70' : (i : Int) < 70 := by omega
          have e60 : ∀ s : Str, sTo s (min (s.length : Int) 60) = some (s.take 60) := fun s => sTo_min s 60
          have hfit : fitsApp acc.length 1 32 = true := by simp only [fitsApp, Bool.and_eq_true, decide_eq_true_eq]; omega
          simp only [law29_Few_j2, h70', decide_true, if_true, lAt_nat, hx, Option.bind_some, e60, hfit, iAdd_one (show i < 4611686018427387904 by omega)]
          rw [ih (i + 1) _ (by simp [ha]) (by omega) (by omega)]
          have e1 : 70 - i = (70 - (i + 1)) + 1 := by omega
          rw [List.drop_eq_getElem_cons hlt, e1, List.take_succ_cons]
          have hm : ∀ (x : api_Swap) (r : List api_Swap), r.length + 1 ≤ 70 → few (x :: r) = ⟨x.From.take 60, x.To.take 60⟩ :: few r := by
            intro x r hr
            have h1 : (x :: r).take 70 = x :: r := List.take_of_length_le (by simp only [List.length_cons]; omega)
            have h2 : r.take 70 = r := List.take_of_length_le (by omega)
            simp only [few, h1, h2, List.map_cons]
          rw [hm _ _ (by simp; omega)]
          simp
        · have h70' : ¬ (i : Int) < 70 := by omega
          have e0 : 70 - i = 0 := by omega
          simp [law29_Few_j2, h70', e0, few]
      · have : i = l.length := by omega
        subst this
        simp only [Int.lt_irrefl, decide_false, Bool.false_eq_true, if_false, law29_Few_j2, List.drop_length]
        simp [few]
  have hf : fuel = (fuel - 1) + 1 := rfl
  rw [hf]
  have := step (fuel - 1) 0 [] rfl (Nat.zero_le _) (by unfold fuel; omega)
  simp only [Int.natCast_zero, List.nil_append, List.drop_zero, Nat.sub_zero] at this
  rw [this]
  congr 1
  unfold few
  rw [List.take_take, Nat.min_self]

def bare (s : Str) : Str := if s.head? == some 46 then s.drop 1 else s
theorem bare_len (s : Str) : (bare s).length ≤ s.length := by unfold bare; split <;> simp
def mapL (name b : Str) : List api_Swap → Str × Bool
  | [] => (name, false)
  | x :: l => if under b x.From = true then (b.take (b.length - x.From.length) ++ x.To, true) else mapL name b l
def mapD (name : Str) (l : List api_Swap) : Str × Bool := mapL name (bare name) l
def fineS (l : List api_Swap) : Prop := l.length < 1000000000 ∧ ∀ x ∈ l, x.From.length < 900000000 ∧ x.To.length < 900000000
theorem fineS_few (l : List api_Swap) : fineS (few l) := ⟨by have := few_len l; omega, fun x hx => by have := few_small l x hx; omega⟩
theorem mapL_foldr (name b : Str) (l : List api_Swap) : l.foldr (fun x r => if under b x.From = true then some (b.take (b.length - x.From.length) ++ x.To, true) else r) (some (name, false)) = some (mapL name b l) := by
  induction l with
  | nil => rfl
  | cons x l ih => rw [List.foldr_cons, ih, mapL]; split <;> rfl
theorem domains_Map_eq (s : Str) (l : List api_Swap) (hs : s.length < 900000000) (hl : fineS l) : domains_Map s l = some (mapD s l) := by
  obtain ⟨hl, hx⟩ := hl
  unfold domains_Map mapD
  have hb := bare_len s
  rw [TrimPrefix_one s 46 (by omega), Option.bind_some]
  show domains_Map_L1 s l (bare s) fuel 0 = _
  generalize bare s = b at hb
  rw [loop_start l (domains_Map_L1 s l b) (fun x r => if under b x.From = true then some (b.take (b.length - x.From.length) ++ x.To, true) else r) (some (s, false)) (by omega)]
  · exact mapL_foldr s b l
  · intro n; rw [domains_Map_L1]; simp only [Int.lt_irrefl, decide_false, Bool.false_eq_true, if_false]
  · intro n i x hi hxi
    obtain ⟨h1, h2⟩ := hx x (List.mem_of_getElem? hxi)
    rw [domains_Map_L1]
    simp only [Int.ofNat_lt, hi, decide_true, if_true, lAt_nat, hxi, Option.bind_some, hostport_Under_eq b x.From (by omega) h1, iAdd_one (show i < 4611686018427387904 by omega)]
    rcases bcase (under b x.From) with h | h
    · have hle := under_len h
      have e : iSub (b.length : Int) (x.From.length : Int) = some ((b.length - x.From.length : Nat) : Int) := by rw [iSub_ok (by omega) (by omega)]; congr 1; omega
      rw [h]
      simp only [if_true, e, Option.bind_some, sTo_nat (Nat.sub_le _ _)]
      rw [sCat_ok (by simp; omega)]; rfl
    · rw [h]; simp
def nameD (s : Str) : Bool := nameOk s && !fourOk s
theorem domains_name_eq (s : Str) (hs : s.length < 1000000000) : domains_name s = some (nameD s) := by
  unfold domains_name nameD
  rw [hostport_Name_eq s hs, hostport_Four_eq s hs]
  cases nameOk s <;> simp [domains_name_j1]
def badD (x : api_Swap) : Bool := !nameD x.From || !nameD x.To || x.To.any ([44, 59] : Str).contains
def checkD (l : List api_Swap) : Int := if l.any badD then 27 else if 64 < l.length then 3 else 0
theorem foldr_bad {α : Type} (p : α → Bool) (l : List α) (e v : Int) : l.foldr (fun x r => if p x = true then some v else r) (some e) = some (if l.any p = true then v else e) := by
  induction l with
  | nil => rfl
  | cons x l ih => rw [List.foldr_cons, ih, List.any_cons]; rcases bcase (p x) with h | h <;> simp [h]
theorem domains_Check_eq (l : List api_Swap) (hl : fineS l) : domains_Check l = some (checkD l) := by
  obtain ⟨hl, hx⟩ := hl
  unfold domains_Check checkD
  rw [loop_start l (domains_Check_L1 l) (fun x r => if badD x = true then some 27 else r) (some (if 64 < l.length then 3 else 0)) (by omega)]
  · exact foldr_bad _ _ _ _
  · intro n; rw [domains_Check_L1]; simp only [Int.lt_irrefl, decide_false, Bool.false_eq_true, if_false]
    by_cases h : 64 < l.length
    · have : (64 : Int) < (l.length : Int) := by omega
      simp [h, this]
    · have : ¬ (64 : Int) < (l.length : Int) := by omega
      simp [h, this]
  · intro n i x hi hxi
    obtain ⟨h1, h2⟩ := hx x (List.mem_of_getElem? hxi)
    rw [domains_Check_L1]
    simp only [Int.ofNat_lt, hi, decide_true, if_true, lAt_nat, hxi, Option.bind_some, domains_name_eq x.From (by omega), domains_name_eq x.To (by omega), strings_ContainsAny_eq x.To [44, 59] (by omega) (by simp) (by decide), domains_Check_j2, iAdd_one (show i < 4611686018427387904 by omega)]
    unfold badD
    cases nameD x.From <;> cases nameD x.To <;> cases x.To.any ([44, 59] : Str).contains <;> rfl
theorem ref29_Check_L3_eq (rec1 : Int → Option Int) (i : Int) (x : api_Swap) (hx : x.To.length < 900000000) : ref29_Check_L3 rec1 i x fuel 0 = if x.To.any ([44, 59] : Str).contains = true then some 27 else (iAdd i 1).bind fun j => rec1 j := by
  rw [loop_start x.To (ref29_Check_L3 rec1 i x) (fun c r => if ([44, 59] : Str).contains c = true then some 27 else r) ((iAdd i 1).bind fun j => rec1 j) (by omega)]
  · generalize ((iAdd i 1).bind fun j => rec1 j) = e
    generalize x.To = l
    induction l with
    | nil => rfl
    | cons c l ih => rw [List.foldr_cons, ih, List.any_cons]; cases ([44, 59] : Str).contains c <;> simp
  · intro n; rw [ref29_Check_L3]; simp only [Int.lt_irrefl, decide_false, Bool.false_eq_true, if_false]
  · intro n k c hk hc
    rw [ref29_Check_L3]
    simp only [Int.ofNat_lt, hk, decide_true, if_true, sAt_nat, hc, Option.bind_some, ref29_Check_j4, iAdd_one (show k < 4611686018427387904 by omega)]
    have e : ([44, 59] : Str).contains c = (c == 44 || c == 59) := by simp only [List.contains_cons, List.contains_nil, Bool.or_false]
    rw [e]
    cases (c == 44) <;> cases (c == 59) <;> simp
theorem ref29_Check_eq (l : List api_Swap) (hl : fineS l) : ref29_Check l = some (checkD l) := by
  obtain ⟨hl, hx⟩ := hl
  unfold ref29_Check checkD
  rw [loop_start l (ref29_Check_L1 l) (fun x r => if badD x = true then some 27 else r) (some (if 64 < l.length then 3 else 0)) (by omega)]
  · exact foldr_bad _ _ _ _
  · intro n; rw [ref29_Check_L1]; simp only [Int.lt_irrefl, decide_false, Bool.false_eq_true, if_false]
    by_cases h : 64 < l.length
    · have : (64 : Int) < (l.length : Int) := by omega
      simp [h, this]
    · have : ¬ (64 : Int) < (l.length : Int) := by omega
      simp [h, this]
  · intro n i x hi hxi
    obtain ⟨h1, h2⟩ := hx x (List.mem_of_getElem? hxi)
    rw [ref29_Check_L1]
    simp only [Int.ofNat_lt, hi, decide_true, if_true, lAt_nat, hxi, Option.bind_some, ref08_Name_eq x.From (by omega), ref08_Name_eq x.To (by omega), ref08_Four_eq x.From (by omega), ref08_Four_eq x.To (by omega), ref29_Check_j2, ref29_Check_L3_eq _ _ x h2, iAdd_one (show i < 4611686018427387904 by omega)]
    unfold badD nameD
    cases nameOk x.From <;> cases fourOk x.From <;> cases nameOk x.To <;> cases fourOk x.To <;> cases x.To.any ([44, 59] : Str).contains <;> rfl
theorem law29_awake_eq : law29_awake = some true := by
  unfold law29_awake
  rw [domains_Map_eq _ _ (by decide) ⟨by decide, by decide⟩, domains_Check_eq _ ⟨by decide, by decide⟩]
  decide +kernel

end Go.Dm
