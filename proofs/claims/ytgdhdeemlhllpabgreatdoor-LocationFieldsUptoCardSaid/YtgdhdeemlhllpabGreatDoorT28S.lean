/-
  Layer 28 (cookies): the last attribute of a name, and Set: the program's and the document's come to the same. No program in sight.
-/
import Derived.Test.YtgdhdeemlhllpabGreatDoorTFold
namespace Go.Dm
def lastIx {α : Type} (p : α → Bool) : List α → Nat → Int → Int
  | [], _, k => k
  | x :: l, i, k => lastIx p l (i + 1) (if p x = true then (i : Int) else k)
theorem lastIx_snoc {α : Type} (p : α → Bool) (x : α) : ∀ (l : List α) (i : Nat) (k : Int), lastIx p (l ++ [x]) i k = if p x = true then ((i + l.length : Nat) : Int) else lastIx p l i k
  | [], i, k => by simp [lastIx]
  | y :: l, i, k => by
    rw [List.cons_append, lastIx, lastIx_snoc p x l (i + 1), lastIx]
    congr 2
    simp; omega
def hasName (n : Str) (a : api_Attr) : Bool := low a.Name == low n
def smallC (c : api_Cookie) : Prop := c.Attrs.length < 1000000 ∧ ∀ a ∈ c.Attrs, a.Name.length < 1000000000
theorem cookie_last_eq (c : api_Cookie) (n : Str) (hc : smallC c) (hn : n.length < 1000000000) : cookie_last c n = some (lastIx (hasName n) c.Attrs 0 (-1)) := by
  obtain ⟨hl, hx⟩ := hc
  unfold cookie_last
  have key : ∀ (i m : Nat), i ≤ c.Attrs.length → i < m → cookie_last_L1 c n m ((i : Int) - 1) = some (lastIx (hasName n) (c.Attrs.take i) 0 (-1)) := by
    intro i
    induction i with
    | zero =>
      intro m _ hm
      obtain ⟨m, rfl⟩ : ∃ k, m = k + 1 := ⟨m - 1, by omega⟩
      rw [cookie_last_L1]; simp [lastIx]
    | succ i ih =>
      intro m hi hm
      obtain ⟨m, rfl⟩ : ∃ k, m = k + 1 := ⟨m - 1, by omega⟩
      have hlt : i < c.Attrs.length := by omega
      have hxi : c.Attrs[i]? = some c.Attrs[i] := List.getElem?_eq_getElem hlt
      have e : ((i + 1 : Nat) : Int) - 1 = (i : Int) := by omega
      have e0 : (0 : Int) ≤ (i : Int) := by omega
      have ht : c.Attrs.take (i + 1) = c.Attrs.take i ++ [c.Attrs[i]] := by simp
      rw [e, cookie_last_L1, ht, lastIx_snoc]
      simp only [e0, decide_true, if_true, lAt_nat, hxi, Option.bind_some, octet_Same_eq _ n (hx _ (List.getElem_mem hlt)) hn, iSub_ok (show -9223372036854775808 ≤ (i : Int) - 1 by omega) (show (i : Int) - 1 ≤ 9223372036854775807 by omega), ih m (by omega) (by omega)]
      have hln : (c.Attrs.take i).length = i := by simp; omega
      rw [hln, Nat.zero_add]
      rcases bcase (hasName n c.Attrs[i]) with h | h
      · rw [h]; unfold hasName at h; rw [h]; rfl
      · rw [h]; unfold hasName at h; rw [h]; rfl
  rw [iSub_ok (by omega) (by omega), Option.bind_some, key c.Attrs.length fuel (Nat.le_refl _) (by unfold fuel; omega), List.take_length]
theorem ref28_Place_eq (c : api_Cookie) (n : Str) (hc : smallC c) (hn : n.length < 1000000000) : ref28_Place c n = some (lastIx (hasName n) c.Attrs 0 (-1)) := by
  obtain ⟨hl, hx⟩ := hc
  unfold ref28_Place
  have key : ∀ (m i : Nat) (k : Int), i ≤ c.Attrs.length → c.Attrs.length - i < m → ref28_Place_L1 c n m k (i : Int) = some (lastIx (hasName n) (c.Attrs.drop i) i k) := by
    intro m
    induction m with
    | zero => intro i k _ h; omega
    | succ m ih =>
      intro i k hi h
      rw [ref28_Place_L1]
      by_cases hlt : i < c.Attrs.length
      · have hxi : c.Attrs[i]? = some c.Attrs[i] := List.getElem?_eq_getElem hlt
        simp only [Int.ofNat_lt, hlt, decide_true, if_true, lAt_nat, hxi, Option.bind_some, ref01_Fold_eq _ (hx _ (List.getElem_mem hlt)), ref01_Fold_eq n hn, ref28_Place_j2, iAdd_one (show i < 4611686018427387904 by omega)]
        rw [List.drop_eq_getElem_cons hlt, lastIx]
        rcases bcase (hasName n c.Attrs[i]) with h1 | h1
        · rw [h1, ih (i + 1) _ (by omega) (by omega)]
          unfold hasName at h1; rw [h1]; rfl
        · rw [h1, ih (i + 1) k (by omega) (by omega)]
          unfold hasName at h1; rw [h1]; rfl
      · have : i = c.Attrs.length := by omega
        subst this
        simp [lastIx]
  have := key fuel 0 (-1) (Nat.zero_le _) (by unfold fuel; omega)
  simpa using this
def setL (n v : Str) (k : Int) : List api_Attr → Nat → List api_Attr
  | [], _ => []
  | a :: l, i => if ((i : Int) == k) = true then ⟨a.Name, v, true⟩ :: setL n v k l (i + 1) else if hasName n a = true then setL n v k l (i + 1) else a :: setL n v k l (i + 1)
def setOf (c : api_Cookie) (n v : Str) : api_Cookie :=
  ⟨c.Name, c.Value, setL n v (lastIx (hasName n) c.Attrs 0 (-1)) c.Attrs 0 ++ (if lastIx (hasName n) c.Attrs 0 (-1) < 0 then [⟨n, v, true⟩] else [])⟩
theorem fits40 {n : Nat} (h : n ≤ 1000000) : fitsApp n 1 40 = true := by
  simp only [fitsApp, Bool.and_eq_true, decide_eq_true_eq]; omega
theorem cookie_Set_eq (c : api_Cookie) (n v : Str) (hc : smallC c) (hn : n.length < 1000000000) : cookie_Set c n v = some (setOf c n v) := by
  have hlast := cookie_last_eq c n hc hn
  obtain ⟨hl, hx⟩ := hc
  unfold cookie_Set setOf
  rw [hlast, Option.bind_some]
  generalize lastIx (hasName n) c.Attrs 0 (-1) = k
  have key : ∀ (m i : Nat) (acc : List api_Attr), acc.length ≤ i → i ≤ c.Attrs.length → c.Attrs.length - i < m → cookie_Set_L1 c n v k m acc c.Name c.Value (i : Int) = some ⟨c.Name, c.Value, acc ++ setL n v k (c.Attrs.drop i) i ++ (if k < 0 then [⟨n, v, true⟩] else [])⟩ := by
    intro m
    induction m with
    | zero => intro i acc _ _ h; omega
    | succ m ih =>
      intro i acc ha hi h
      rw [cookie_Set_L1]
      by_cases hlt : i < c.Attrs.length
      · have hxi : c.Attrs[i]? = some c.Attrs[i] := List.getElem?_eq_getElem hlt
        simp only [Int.ofNat_lt, hlt, decide_true, if_true, lAt_nat, hxi, Option.bind_some, octet_Same_eq _ n (hx _ (List.getElem_mem hlt)) hn, cookie_Set_j2, cookie_Set_j3, fits40 (show acc.length ≤ 1000000 by omega), iAdd_one (show i < 4611686018427387904 by omega)]
        rw [List.drop_eq_getElem_cons hlt, setL, ih (i + 1) _ (by simp; omega) (by omega) (by omega), ih (i + 1) _ (by omega) (by omega) (by omega), ih (i + 1) _ (by simp; omega) (by omega) (by omega)]
        rcases bcase ((i : Int) == k) with h1 | h1
        · rw [h1]; simp
        · rw [h1]
          rcases bcase (hasName n c.Attrs[i]) with h2 | h2
          · rw [h2]; unfold hasName at h2; rw [h2]; simp
          · rw [h2]; unfold hasName at h2; rw [h2]; simp
      · have : i = c.Attrs.length := by omega
        subst this
        have hd : c.Attrs.drop c.Attrs.length = [] := List.drop_length
        simp only [Int.lt_irrefl, decide_false, Bool.false_eq_true, if_false, cookie_Set_j4, cookie_Set_j5, fits40 (show acc.length ≤ 1000000 by omega), if_true, hd, setL, List.append_nil]
        by_cases hk : k < 0 <;> simp [hk]
  have := key fuel 0 [] (Nat.le_refl _) (Nat.zero_le _) (by unfold fuel; omega)
  simpa using this
theorem ref28_Set_eq (c : api_Cookie) (n v : Str) (hc : smallC c) (hn : n.length < 1000000000) : ref28_Set c n v = some (setOf c n v) := by
  have hlast := ref28_Place_eq c n hc hn
  obtain ⟨hl, hx⟩ := hc
  unfold ref28_Set setOf
  rw [hlast, Option.bind_some]
  generalize lastIx (hasName n) c.Attrs 0 (-1) = k
  have key : ∀ (m i : Nat) (acc : List api_Attr), acc.length ≤ i → i ≤ c.Attrs.length → c.Attrs.length - i < m → ref28_Set_L1 c n v k m acc c.Name c.Value (i : Int) = some ⟨c.Name, c.Value, acc ++ setL n v k (c.Attrs.drop i) i ++ (if k < 0 then [⟨n, v, true⟩] else [])⟩ := by
    intro m
    induction m with
    | zero => intro i acc _ _ h; omega
    | succ m ih =>
      intro i acc ha hi h
      rw [ref28_Set_L1]
      by_cases hlt : i < c.Attrs.length
      · have hxi : c.Attrs[i]? = some c.Attrs[i] := List.getElem?_eq_getElem hlt
        simp only [Int.ofNat_lt, hlt, decide_true, if_true, lAt_nat, hxi, Option.bind_some, ref01_Fold_eq _ (hx _ (List.getElem_mem hlt)), ref01_Fold_eq n hn, ref28_Set_j2, fits40 (show acc.length ≤ 1000000 by omega), iAdd_one (show i < 4611686018427387904 by omega)]
        rw [List.drop_eq_getElem_cons hlt, setL, ih (i + 1) _ (by simp; omega) (by omega) (by omega), ih (i + 1) _ (by simp; omega) (by omega) (by omega), ih (i + 1) _ (by omega) (by omega) (by omega)]
        rcases bcase ((i : Int) == k) with h1 | h1
        · rw [h1]; simp
        · rw [h1]
          rcases bcase (hasName n c.Attrs[i]) with h2 | h2
          · rw [h2]; unfold hasName at h2; rw [h2]; simp
          · rw [h2]; unfold hasName at h2; rw [h2]; simp
      · have : i = c.Attrs.length := by omega
        subst this
        have hd : c.Attrs.drop c.Attrs.length = [] := List.drop_length
        simp only [Int.lt_irrefl, decide_false, Bool.false_eq_true, if_false, ref28_Set_j3, ref28_Set_j4, fits40 (show acc.length ≤ 1000000 by omega), if_true, hd, setL, List.append_nil]
        by_cases hk : k < 0 <;> simp [hk]
  have := key fuel 0 [] (Nat.le_refl _) (Nat.zero_le _) (by unfold fuel; omega)
  simpa using this
theorem lastIx_spec {α : Type} (p : α → Bool) : ∀ (l : List α) (i : Nat) (k : Int), ((∀ y ∈ l, p y = false) ∧ lastIx p l i k = k) ∨ ∃ pre x post, l = pre ++ x :: post ∧ p x = true ∧ (∀ y ∈ post, p y = false) ∧ lastIx p l i k = ((i + pre.length : Nat) : Int)
  | [], i, k => .inl ⟨by simp, rfl⟩
  | a :: l, i, k => by
    rw [lastIx]
    rcases lastIx_spec p l (i + 1) (if p a = true then (i : Int) else k) with ⟨h1, h2⟩ | ⟨pre, x, post, h1, h2, h3, h4⟩
    · rcases bcase (p a) with ha | ha
      · refine .inr ⟨[], a, l, rfl, ha, h1, ?_⟩
        rw [h2, if_pos ha]; simp
      · refine .inl ⟨fun y hy => ?_, ?_⟩
        · rcases List.mem_cons.1 hy with rfl | hy
          · exact ha
          · exact h1 y hy
        · rw [h2, if_neg (by simp [ha])]
    · refine .inr ⟨a :: pre, x, post, by rw [h1]; rfl, h2, h3, ?_⟩
      rw [h4]; simp; omega
theorem cookie_Get_eq (c : api_Cookie) (n : Str) (hc : smallC c) (hn : n.length < 1000000000) : cookie_Get c n = (if lastIx (hasName n) c.Attrs 0 (-1) < 0 then some ([], false) else (lAt c.Attrs (lastIx (hasName n) c.Attrs 0 (-1))).bind fun x => some (x.Value, true)) := by
  unfold cookie_Get
  rw [cookie_last_eq c n hc hn, Option.bind_some]
  by_cases h : lastIx (hasName n) c.Attrs 0 (-1) < 0 <;> simp [h]
end Go.Dm
