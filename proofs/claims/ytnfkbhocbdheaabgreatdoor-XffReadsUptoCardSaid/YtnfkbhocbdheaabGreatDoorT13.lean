/-
  Rows of fields: the program's bag, and the document's. No program in sight.
-/
import Derived.Test.YtnfkbhocbdheaabGreatDoorT05
import Derived.Test.YtnfkbhocbdheaabGreatDoorTFold
import Derived.Test.YtnfkbhocbdheaabGreatDoorLibEq
namespace Go.Dm
def isN (nm : Str) (f : api_Field) : Bool := low f.Name == low nm
/-- Names and values that are not too long. -/
def smallF (m : Nat) (l : List api_Field) : Prop := ∀ f ∈ l, f.Name.length < m ∧ f.Value.length < m
theorem clone_eq (l : List api_Field) (h : l.length < 1000000000) : slices_Clone_gapi_Field_api_Field_ l = some l := by
  unfold slices_Clone_gapi_Field_api_Field_
  rw [if_pos (fits_ok (by omega) (by omega))]
/-- The last place of a field that is such, below a place. -/
def lastP (p : api_Field → Bool) (l : List api_Field) : Nat → Option Nat
  | 0 => none
  | k + 1 => if (l[k]?).any p then some k else lastP p l k
theorem lastP_some {p : api_Field → Bool} {l : List api_Field} : ∀ {k i : Nat}, lastP p l k = some i → i < k ∧ ∃ f, l[i]? = some f ∧ p f = true ∧ ∀ j, i < j → j < k → ∀ g, l[j]? = some g → p g = false
  | 0, _, h => by cases h
  | k + 1, i, h => by
    rw [lastP] at h
    split at h
    · rename_i h2
      cases h
      cases hf : l[k]? with
      | none => rw [hf] at h2; cases h2
      | some f => rw [hf] at h2; exact ⟨by omega, f, rfl, by simpa using h2, fun j h1 h3 => by omega⟩
    · rename_i h2
      obtain ⟨h3, f, h4, h5, h6⟩ := lastP_some h
      refine ⟨by omega, f, h4, h5, fun j h7 h8 g hg => ?_⟩
      by_cases hj : j = k
      · subst hj; rw [hg] at h2; simpa using h2
      · exact h6 j h7 (by omega) g hg
theorem lastP_none {p : api_Field → Bool} {l : List api_Field} : ∀ {k : Nat}, lastP p l k = none → ∀ j, j < k → ∀ g, l[j]? = some g → p g = false
  | 0, _, j, h, _, _ => by omega
  | k + 1, h, j, hj, g, hg => by
    rw [lastP] at h
    split at h
    · cases h
    · rename_i h2
      by_cases e : j = k
      · subst e; rw [hg] at h2; simpa using h2
      · exact lastP_none h j (by omega) g hg
/-- Fields with an element more in the last field of a name. -/
def behindF (l : List api_Field) (nm x : Str) : List api_Field := match lastP (isN nm) l l.length with
  | none => l ++ [⟨nm, x⟩]
  | some i => match l[i]? with
    | none => l
    | some f => l.set i ⟨f.Name, appendC f.Value x⟩
theorem dropWhile_nil {p : UInt8 → Bool} : ∀ l : Str, l.dropWhile p = [] ↔ ∀ x ∈ l, p x = true
  | [] => by simp
  | y :: l => by
    rw [List.dropWhile_cons]
    cases h : p y with
    | true => rw [if_pos rfl, dropWhile_nil l]; simp [h]
    | false => rw [if_neg (by decide)]; simp [h]
theorem trimS3 (s : Str) : (Go.Lib.trimS s [32, 9, 44] == []) = s.all fun c => isBl c || c == 44 := by
  have hp : ∀ c : UInt8, ([32, 9, 44] : Str).contains c = (isBl c || c == 44) := by
    intro c; simp only [isBl, List.contains_cons, List.contains_nil, Bool.or_false, Bool.or_assoc]
  rw [Bool.eq_iff_iff, beq_iff_eq, List.all_eq_true]
  unfold Go.Lib.trimS Go.Lib.trimLeftS Go.Lib.trimRightS
  have hr : ∀ x, x ∈ (s.reverse.dropWhile (([32, 9, 44] : List UInt8).contains ·)).reverse → x ∈ s := fun x hx => List.mem_reverse.1 ((List.dropWhile_suffix _).mem (List.mem_reverse.1 hx))
  rw [dropWhile_nil]
  constructor
  · intro h x hx
    rw [← hp]
    by_cases hx2 : x ∈ (s.reverse.dropWhile (([32, 9, 44] : List UInt8).contains ·)).reverse
    · exact h x hx2
    · have hx3 : x ∈ s.reverse := List.mem_reverse.2 hx
      rw [← List.takeWhile_append_dropWhile (p := (([32, 9, 44] : List UInt8).contains ·)) (l := s.reverse)] at hx3
      rcases List.mem_append.1 hx3 with h1 | h1
      · have := List.all_takeWhile (p := (([32, 9, 44] : List UInt8).contains ·)) (l := s.reverse)
        exact List.all_eq_true.1 this x h1
      · exact absurd (List.mem_reverse.2 h1) hx2
  · intro h x hx
    rw [hp]; exact h x (hr x hx)
theorem trimRightS_eq (s : Str) : Go.Lib.trimRightS s [32, 9] = trimr s := by
  unfold Go.Lib.trimRightS trimr
  have : (fun x => ([32, 9] : List UInt8).contains x) = isBl := by funext b; exact contains_bl b
  rw [this]
theorem join_two (a b sep : Str) : Go.Lib.join [a, b] sep = a ++ sep ++ b := by
  rw [Go.Lib.join_cons]; simp [Go.Lib.joinTail]
theorem join_one (a sep : Str) : Go.Lib.join [a] sep = a := by
  rw [Go.Lib.join_cons]; simp [Go.Lib.joinTail]
theorem commas_Join_eq (l : List Str) (h : l.length < 1000000) (h2 : (Go.Lib.join l [44, 32]).length < 4000000000) : commas_Join l = some (Go.Lib.join l [44, 32]) := by
  unfold commas_Join quill_Join strings_Join
  rw [if_pos ⟨by omega, by omega⟩]
  rfl
theorem commas_Append_eq (s x : Str) (hs : s.length < 1000000000) (hx : x.length < 1000000000) : commas_Append s [x] = some (appendC s x) := by
  unfold commas_Append appendC
  have ht := trimr_le s
  have h0 : ((([x] : List Str).length : Int) == 0) = false := rfl
  have e1 : strings_Trim s [32, 9, 44] = some (Go.Lib.trimS s [32, 9, 44]) := by unfold strings_Trim; rw [if_pos ⟨by omega, by decide, by decide⟩]
  have e2 : strings_TrimRight s [32, 9] = some (trimr s) := by unfold strings_TrimRight; rw [if_pos ⟨by omega, by decide, by decide⟩, trimRightS_eq]
  have e3 : commas_Join [x] = some x := by rw [commas_Join_eq _ (by simp) (by rw [join_one]; omega), join_one]
  have e4 : commas_Join ([trimr s] ++ [x]) = some (trimr s ++ [44, 32] ++ x) := by
    rw [show ([trimr s] ++ [x] : List Str) = [trimr s, x] from rfl, commas_Join_eq _ (by simp) (by rw [join_two]; simp; omega), join_two]
  rw [h0, if_neg (by decide), e1, Option.bind_some, trimS3, e3, Option.bind_some, e2, Option.bind_some, if_pos (fits_ok (by simp) (by simp)), e4, Option.bind_some]
  cases s.all fun c => isBl c || c == 44 with
  | true => rfl
  | false => simp
theorem Behind_L1_eq (b : bag_Bag) (nm x : Str) (hn : nm.length < 1000000000) (hx : x.length < 1000000000) (hl : b.f_l.length < 1000000000) (hs : smallF 1000000000 b.f_l) : ∀ (n k : Nat), k ≤ b.f_l.length → k < n →
    bag_Bag_Behind_L1 b nm x n ((k : Int) - 1) = some ⟨match lastP (isN nm) b.f_l k with
      | none => b.f_l ++ [⟨nm, x⟩]
      | some i => match b.f_l[i]? with
        | none => b.f_l
        | some f => b.f_l.set i ⟨f.Name, appendC f.Value x⟩⟩
  | 0, _, _, h => by omega
  | n + 1, 0, hk, h => by
    rw [bag_Bag_Behind_L1, decide_eq_false (by omega), if_neg (by decide)]
    unfold bag_Bag_Add
    rw [if_pos (fits_ok (by simp; omega) (by simp; omega))]
    rfl
  | n + 1, k + 1, hk, h => by
    have e1 : ((k + 1 : Nat) : Int) - 1 = (k : Int) := by omega
    have g : b.f_l[k]? = some b.f_l[k] := List.getElem?_eq_getElem (by omega)
    have hsm := hs b.f_l[k] (List.getElem_mem _)
    have ih := Behind_L1_eq b nm x hn hx hl hs n k (by omega) (by omega)
    rw [bag_Bag_Behind_L1, e1, decide_eq_true (show (0 : Int) ≤ (k : Int) by omega), if_pos rfl, lAt_nat, g, Option.bind_some, octet_Same_eq _ _ hsm.1 hn, Option.bind_some, Option.bind_some, commas_Append_eq _ _ hsm.2 hx, Option.bind_some, Option.bind_some, iSub_ok (by omega) (by omega), Option.bind_some, ih, lastP, g]
    show (if isN nm b.f_l[k] = true then _ else _) = _
    rw [Option.any_some]
    cases isN nm b.f_l[k] with
    | false => rfl
    | true =>
      rw [if_pos rfl, if_pos rfl]
      have hset : lSet b.f_l (k : Int) (⟨b.f_l[k].Name, appendC b.f_l[k].Value x⟩ : api_Field) = some (b.f_l.set k ⟨b.f_l[k].Name, appendC b.f_l[k].Value x⟩) := by
        unfold lSet
        rw [if_pos ⟨by omega, by simp; omega⟩]; simp
      rw [hset, Option.bind_some]
      dsimp only
      rw [g]
theorem bag_Behind_eq (l : List api_Field) (nm x : Str) (hn : nm.length < 1000000000) (hx : x.length < 1000000000) (hl : l.length < 1000000000) (hs : smallF 1000000000 l) : bag_Bag_Behind ⟨l⟩ nm x = some ⟨behindF l nm x⟩ := by
  unfold bag_Bag_Behind
  have := Behind_L1_eq ⟨l⟩ nm x hn hx hl hs fuel l.length (Nat.le_refl _) (by unfold fuel; omega)
  dsimp only at this ⊢
  rw [iSub_ok (by omega) (by omega), Option.bind_some, this]
  rfl
theorem same_loop {α : Type} [BEq α] [LawfulBEq α] (a b : List α) (L : Nat → Int → Option Bool) (hl : a.length = b.length) (ha : a.length < 1000000000)
    (hE : ∀ n, L (n + 1) (a.length : Int) = some true) (hL : ∀ n (i : Nat) x y, i < a.length → a[i]? = some x → b[i]? = some y → L (n + 1) (i : Int) = if (x == y) = true then L n ((i + 1 : Nat) : Int) else some false) : L fuel 0 = some (a == b) := by
  have key : ∀ (n i : Nat), i ≤ a.length → a.length - i < n → L n (i : Int) = some (a.drop i == b.drop i) := by
    intro n
    induction n with
    | zero => intro i _ h; omega
    | succ n ih =>
      intro i hi h
      by_cases hlt : i < a.length
      · have g1 : a[i]? = some a[i] := List.getElem?_eq_getElem hlt
        have g2 : b[i]? = some (b[i]'(by omega)) := List.getElem?_eq_getElem (by omega)
        rw [hL n i _ _ hlt g1 g2, ih (i + 1) (by omega) (by omega), List.drop_eq_getElem_cons hlt, List.drop_eq_getElem_cons (show i < b.length by omega), List.cons_beq_cons]
        cases a[i] == b[i]'(by omega) <;> rfl
      · have : i = a.length := by omega
        subst this
        rw [hE, List.drop_length, List.drop_of_length_le (by omega)]
        rfl
  have := key fuel 0 (Nat.zero_le _) (by unfold fuel; omega)
  rw [List.drop_zero, List.drop_zero] at this
  exact this
theorem ref06_Same_eq (a b : List Str) (ha : a.length < 1000000000) : ref06_Same a b = some (a == b) := by
  unfold ref06_Same
  by_cases hl : a.length = b.length
  · rw [hl, beq_self_eq_true, Bool.not_true, if_neg (by decide)]
    refine same_loop a b (ref06_Same_L1 a b) hl ha (fun n => ?_) (fun n i x y hi hx hy => ?_)
    · rw [ref06_Same_L1, decide_eq_false (by omega), if_neg (by decide)]
    · rw [ref06_Same_L1, decide_eq_true (by omega), if_pos rfl, lAt_nat, hx, Option.bind_some, lAt_nat, hy, Option.bind_some, iAdd_one (by omega), Option.bind_some]
      cases x == y <;> rfl
  · have : (((a.length : Int) == (b.length : Int))) = false := beq_eq_false_iff_ne.2 (by omega)
    have h2 : (a == b) = false := beq_eq_false_iff_ne.2 (fun e => hl (by rw [e]))
    rw [this, h2]; rfl
theorem smallF_mono {m n : Nat} (h : m ≤ n) {l : List api_Field} (hs : smallF m l) : smallF n l := fun f hf => by have := hs f hf; omega
end Go.Dm
