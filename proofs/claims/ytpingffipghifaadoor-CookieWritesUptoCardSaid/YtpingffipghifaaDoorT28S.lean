/-
  Layer 28 (cookies): the last attribute of a name, and Set: the program's and the document's come to the same. No program in sight.
-/
import Derived.Test.YtpingffipghifaaDoorTFold
namespace Go.Dm
def lastIx {α : Type} (p : α → Bool) : List α → Nat → Int → Int
  | [], _, k => k
  | x :: l, i, k => lastIx p l (i + 1) (if p x = true then (i : Int) else k)
theorem lastIx_snoc {α : Type} (p : α → Bool) (x : α) : ∀ (l : List α) (i : Nat) (k : Int), lastIx p (l ++ [x]) i k = if p x = true then ((i + l.length : Nat) : Int) else lastIx p l i k
  | [], i, k => by simp [lastIx]
  | y :: l, i, k => by
    rw [List.cons_append, lastIx, lastIx_snoc p x l (i + 1), lastIx]
    congr 2
    simp; omega
def hasName (n : Str) (a : api_Attr) : Bool := low a.Name == low n
def smallC (c : api_Cookie) : Prop := c.Attrs.length < 1000000 ∧ ∀ a ∈ c.Attrs, a.Name.length < 1000000000
theorem cookie_last_eq (c : api_Cookie) (n : Str) (hc : smallC c) (hn : n.length < 1000000000) : cookie_last c n = some (lastIx (hasName n) c.Attrs 0 (-1)) := by
  obtain ⟨hl, hx⟩ := hc
  unfold cookie_last
  have key : ∀ (i m : Nat), i ≤ c.Attrs.length → i < m → cookie_last_L1 c n m ((i : Int) - 1) = some (lastIx (hasName n) (c.Attrs.take i) 0 (-1)) := by
    intro i
    induction i with
    | zero =>
      intro m _ hm
      obtain ⟨m, rfl⟩ : ∃ k, m = k + 1 := ⟨m - 1, by omega⟩
      rw [cookie_last_L1]; simp [lastIx]
    | succ i ih =>
      intro m hi hm
      obtain ⟨m, rfl⟩ : ∃ k, m = k + 1 := ⟨m - 1, by omega⟩
      have hlt : i < c.Attrs.length := by omega
      have hxi : c.Attrs[i]? = some c.Attrs[i] := List.getElem?_eq_getElem hlt
      have e : ((i + 1 : Nat) : Int) - 1 = (i : Int) := by omega
      have e0 : (0 : Int) ≤ (i : Int) := by omega
      have ht : c.Attrs.take (i + 1) = c.Attrs.take i ++ [c.Attrs[i]] := by simp
      rw [e, cookie_last_L1, ht, lastIx_snoc]
      simp only [e0, decide_true, if_true, lAt_nat, hxi, Option.bind_some, octet_Same_eq _ n (hx _ (List.getElem_mem hlt)) hn, iSub_ok (show -9223372036854775808 ≤ (i : Int) - 1 by omega) (show (i : Int) - 1 ≤ 9223372036854775807 by omega), ih m (by omega) (by omega)]
      have hln : (c.Attrs.take i).length = i := by simp; omega
      rw [hln, Nat.zero_add]
      rcases bcase (hasName n c.Attrs[i]) with h | h
      · rw [h]; unfold hasName at h; rw [h]; rfl
      · rw [h]; unfold hasName at h; rw [h]; rfl
  rw [iSub_ok (by omega) (by omega), Option.bind_some, key c.Attrs.length fuel (Nat.le_refl _) (by unfold fuel; omega), List.take_length]
theorem ref28_Place_eq (c : api_Cookie) (n : Str) (hc : smallC c) (hn : n.length < 1000000000) : ref28_Place c n = some (lastIx (hasName n) c.Attrs 0 (-1)) := by
  obtain ⟨hl, hx⟩ := hc
  unfold ref28_Place
  have key : ∀ (m i : Nat) (k : Int), i ≤ c.Attrs.length → c.Attrs.length - i < m → ref28_Place_L1 c n m k (i : Int) = some (lastIx (hasName n) (c.Attrs.drop i) i k) := by
    intro m
    induction m with
    | zero => intro i k _ h; omega
    | succ m ih =>
      intro i k hi h
      rw [ref28_Place_L1]
      by_cases hlt : i < c.Attrs.length
      · have hxi : c.Attrs[i]? = some c.Attrs[i] := List.getElem?_eq_getElem hlt
        simp only [Int.ofNat_lt, hlt, decide_true, if_true, lAt_nat, hxi, Option.bind_some, ref01_Fold_eq _ (hx _ (List.getElem_mem hlt)), ref01_Fold_eq n hn, ref28_Place_j2, iAdd_one (show i < 4611686018427387904 by omega)]
        rw [List.drop_eq_getElem_cons hlt, lastIx]
        rcases bcase (hasName n c.Attrs[i]) with h1 | h1
        · rw [h1, ih (i + 1) _ (by omega) (by omega)]
          unfold hasName at h1; rw [h1]; rfl
        · rw [h1, ih (i + 1) k (by omega) (by omega)]
          unfold hasName at h1; rw [h1]; rfl
      · have : i = c.Attrs.length := by omega
        subst this
        simp [lastIx]
  have := key fuel 0 (-1) (Nat.zero_le _) (by unfold fuel; omega)
  simpa using this
def setL (n v : Str) (k : Int) : List api_Attr → Nat → List api_Attr
  | [], _ => []
  | a :: l, i => if ((i : Int) == k) = true then ⟨a.Name, v, true⟩ :: setL n v k l (i + 1) else if hasName n a = true then setL n v k l (i + 1) else a :: setL n v k l (i + 1)
def setOf (c : api_Cookie) (n v : Str) : api_Cookie :=
  ⟨c.Name, c.Value, setL n v (lastIx (hasName n) c.Attrs 0 (-1)) c.Attrs 0 ++ (if lastIx (hasName n) c.Attrs 0 (-1) < 0 then [⟨n, v, true⟩] else [])⟩
theorem fits40 {n : Nat} (h : n ≤ 1000000) : fitsApp n 1 40 = true := by
  simp only [fitsApp, Bool.and_eq_true, decide_eq_true_eq]; omega
theorem cookie_Set_eq (c : api_Cookie) (n v : Str) (hc : smallC c) (hn : n.length < 1000000000) : cookie_Set c n v = some (setOf c n v) := by
  have hlast := cookie_last_eq c n hc hn
  obtain ⟨hl, hx⟩ := hc
  unfold cookie_Set setOf
  rw [hlast, Option.bind_some]
  generalize lastIx (hasName n) c.Attrs 0 (-1) = k
  have key : ∀ (m i : Nat) (acc : List api_Attr), acc.length ≤ i → i ≤ c.Attrs.length → c.Attrs.length - i < m → cookie_Set_L1 c n v k m acc c.Name c.Value (i : Int) = some ⟨c.Name, c.Value, acc ++ setL n v k (c.Attrs.drop i) i ++ (if k < 0 then [⟨n, v, true⟩] else [])⟩ := by
    intro m
    induction m with
    | zero => intro i acc _ _ h; omega
    | succ m ih =>
      intro i acc ha hi h
      rw [cookie_Set_L1]
      by_cases hlt : i < c.Attrs.length
      · have hxi : c.Attrs[i]? = some c.Attrs[i] := List.getElem?_eq_getElem hlt
        simp only [Int.ofNat_lt, hlt, decide_true, if_true, lAt_nat, hxi, Option.bind_some, octet_Same_eq _ n (hx _ (List.getElem_mem hlt)) hn, cookie_Set_j2, cookie_Set_j3, fits40 (show acc.length ≤ 1000000 by omega), iAdd_one (show i < 4611686018427387904 by omega)]
        rw [List.drop_eq_getElem_cons hlt, setL, ih (i + 1) _ (by simp; omega) (by omega) (by omega), ih (i + 1) _ (by omega) (by omega) (by omega), ih (i + 1) _ (by simp; omega) (by omega) (by omega)]
        rcases bcase ((i : Int) == k) with h1 | h1
        · rw [h1]; simp
        · rw [h1]
          rcases bcase (hasName n c.Attrs[i]) with h2 | h2
          · rw [h2]; unfold hasName at h2; rw [h2]; simp
          · rw [h2]; unfold hasName at h2; rw [h2]; simp
      · have : i = c.Attrs.length := by omega
        subst this
        have hd : c.Attrs.drop c.Attrs.length = [] := List.drop_length
        simp only [Int.lt_irrefl, decide_false, Bool.false_eq_true, if_false, cookie_Set_j4, cookie_Set_j5, fits40 (show acc.length ≤ 1000000 by omega), if_true, hd, setL, List.append_nil]
        by_cases hk : k < 0 <;> simp [hk]
  have := key fuel 0 [] (Nat.le_refl _) (Nat.zero_le _) (by unfold fuel; omega)
  simpa using this
theorem ref28_Set_eq (c : api_Cookie) (n v : Str) (hc : smallC c) (hn : n.length < 1000000000) : ref28_Set c n v = some (setOf c n v) := by
  have hlast := ref28_Place_eq c n hc hn
  obtain ⟨hl, hx⟩ := hc
  unfold ref28_Set setOf
  rw [hlast, Option.bind_some]
  generalize lastIx (hasName n) c.Attrs 0 (-1) = k
  have key : ∀ (m i : Nat) (acc : List api_Attr), acc.length ≤ i → i ≤ c.Attrs.length → c.Attrs.length - i < m → ref28_Set_L1 c n v k m acc c.Name c.Value (i : Int) = some ⟨c.Name, c.Value, acc ++ setL n v k (c.Attrs.drop i) i ++ (if k < 0 then [⟨n, v, true⟩] else [])⟩ := by
    intro m
    induction m with
    | zero => intro i acc _ _ h; omega
    | succ m ih =>
      intro i acc ha hi h
      rw [ref28_Set_L1]
      by_cases hlt : i < c.Attrs.length
      · have hxi : c.Attrs[i]? = some c.Attrs[i] := List.getElem?_eq_getElem hlt
        simp only [Int.ofNat_lt, hlt, decide_true, if_true, lAt_nat, hxi, Option.bind_some, ref01_Fold_eq _ (hx _ (List.getElem_mem hlt)), ref01_Fold_eq n hn, ref28_Set_j2, fits40 (show acc.length ≤ 1000000 by omega), iAdd_one (show i < 4611686018427387904 by omega)]
        rw [List.drop_eq_getElem_cons hlt, setL, ih (i + 1) _ (by simp; omega) (by omega) (by omega), ih (i + 1) _ (by simp; omega) (by omega) (by omega), ih (i + 1) _ (by omega) (by omega) (by omega)]
        rcases bcase ((i : Int) == k) with h1 | h1
        · rw [h1]; simp
        · rw [h1]
          rcases bcase (hasName n c.Attrs[i]) with h2 | h2
          · rw [h2]; unfold hasName at h2; rw [h2]; simp
          · rw [h2]; unfold hasName at h2; rw [h2]; simp
      · have : i = c.Attrs.length := by omega
        subst this
        have hd : c.Attrs.drop c.Attrs.length = [] := List.drop_length
        simp only [Int.lt_irrefl, decide_false, Bool.false_eq_true, if_false, ref28_Set_j3, ref28_Set_j4, fits40 (show acc.length ≤ 1000000 by omega), if_true, hd, setL, List.append_nil]
        by_cases hk : k < 0 <;> simp [hk]
  have := key fuel 0 [] (Nat.le_refl _) (Nat.zero_le _) (by unfold fuel; omega)
  simpa using this
theorem lastIx_spec {α : Type} (p : α → Bool) : ∀ (l : List α) (i : Nat) (k : Int), ((∀ y ∈ l, p y = false) ∧ lastIx p l i k = k) ∨ ∃ pre x post, l = pre ++ x :: post ∧ p x = true ∧ (∀ y ∈ post, p y = false) ∧ lastIx p l i k = ((i + pre.length : Nat) : Int)
  | [], i, k => .inl ⟨by simp, rfl⟩
  | a :: l, i, k => by
    rw [lastIx]
    rcases lastIx_spec p l (i + 1) (if p a = true then (i : Int) else k) with ⟨h1, h2⟩ | ⟨pre, x, post, h1, h2, h3, h4⟩
    · rcases bcase (p a) with ha | ha
      · refine .inr ⟨[], a, l, rfl, ha, h1, ?_⟩
        rw [h2, if_pos ha]; simp
      · refine .inl ⟨fun y hy => ?_, ?_⟩
        · rcases List.mem_cons.1 hy with rfl | hy
          · exact ha
          · exact h1 y hy
        · rw [h2, if_neg (by simp [ha])]
    · refine .inr ⟨a :: pre, x, post, by rw [h1]; rfl, h2, h3, ?_⟩
      rw [h4]; simp; omega
theorem setL_none (n v : Str) (k : Int) : ∀ (l : List api_Attr) (i : Nat), k < (i : Int) → (∀ y ∈ l, hasName n y = false) → setL n v k l i = l
  | [], _, _, _ => rfl
  | a :: l, i, hk, h => by
    have h1 : ((i : Int) == k) = false := beq_eq_false_iff_ne.2 (by omega)
    rw [setL, h1, h a (List.mem_cons_self ..), setL_none n v k l (i + 1) (by omega) fun y hy => h y (List.mem_cons_of_mem _ hy)]
    rfl
theorem setL_split (n v : Str) (x : api_Attr) (post : List api_Attr) (hp : ∀ y ∈ post, hasName n y = false) : ∀ (pre : List api_Attr) (i : Nat), setL n v ((i + pre.length : Nat) : Int) (pre ++ x :: post) i = setL n v ((i + pre.length : Nat) : Int) pre i ++ ⟨x.Name, v, true⟩ :: post
  | [], i => by
    rw [List.nil_append, setL]
    simp only [List.length_nil, Nat.add_zero, beq_self_eq_true, if_true, setL, List.nil_append]
    rw [setL_none n v _ post (i + 1) (by omega) hp]
  | a :: pre, i => by
    have e : i + (a :: pre).length = (i + 1) + pre.length := by simp; omega
    have h1 : ((i : Int) == ((i + 1 + pre.length : Nat) : Int)) = false := beq_eq_false_iff_ne.2 (by omega)
    have ih := setL_split n v x post hp pre (i + 1)
    rw [List.cons_append, e, setL, setL, h1, ih]
    rcases bcase (hasName n a) with h | h <;> rw [h] <;> simp
theorem lastIx_app {α : Type} (p : α → Bool) (x : α) (hx : p x = true) (post : List α) (hp : ∀ y ∈ post, p y = false) : ∀ (pre : List α) (i : Nat) (k : Int), lastIx p (pre ++ x :: post) i k = ((i + pre.length : Nat) : Int)
  | [], i, k => by
    rw [List.nil_append, lastIx, if_pos hx]
    rcases lastIx_spec p post (i + 1) (i : Int) with ⟨_, h⟩ | ⟨pre, y, q, h1, h2, _, _⟩
    · rw [h]; simp
    · have := hp y (by rw [h1]; simp)
      rw [h2] at this; cases this
  | a :: pre, i, k => by
    rw [List.cons_append, lastIx, lastIx_app p x hx post hp pre]
    simp; omega
/-- What Set has laid is what Get finds. -/
theorem set_get (c : api_Cookie) (n v : Str) : ∃ (pre : List api_Attr) (x : api_Attr), lastIx (hasName n) (setOf c n v).Attrs 0 (-1) = (pre.length : Int) ∧ (setOf c n v).Attrs[pre.length]? = some x ∧ x.Value = v := by
  unfold setOf
  rcases lastIx_spec (hasName n) c.Attrs 0 (-1) with ⟨h1, h2⟩ | ⟨pre, x, post, h1, h2, h3, h4⟩
  · refine ⟨c.Attrs, ⟨n, v, true⟩, ?_, ?_, rfl⟩
    · simp only [h2]
      rw [setL_none n v (-1) c.Attrs 0 (by omega) h1, if_pos (by omega)]
      have := lastIx_app (hasName n) ⟨n, v, true⟩ (by simp [hasName]) [] (by simp) c.Attrs 0 (-1)
      simpa using this
    · simp only [h2]
      rw [setL_none n v (-1) c.Attrs 0 (by omega) h1, if_pos (by omega)]
      simp
  · have hs := setL_split n v x post h3 pre 0
    rw [Nat.zero_add] at hs
    rw [Nat.zero_add] at h4
    have hk : ¬ ((pre.length : Int) < 0) := by omega
    refine ⟨setL n v (pre.length : Int) pre 0, ⟨x.Name, v, true⟩, ?_, ?_, rfl⟩
    · simp only [h4]
      rw [if_neg hk, List.append_nil, h1, hs]
      have := lastIx_app (hasName n) ⟨x.Name, v, true⟩ (by simpa [hasName] using h2) post h3 (setL n v (pre.length : Int) pre 0) 0 (-1)
      simpa using this
    · simp only [h4]
      rw [if_neg hk, List.append_nil, h1, hs]
      simp
theorem cookie_Get_eq (c : api_Cookie) (n : Str) (hc : smallC c) (hn : n.length < 1000000000) : cookie_Get c n = (if lastIx (hasName n) c.Attrs 0 (-1) < 0 then some ([], false) else (lAt c.Attrs (lastIx (hasName n) c.Attrs 0 (-1))).bind fun x => some (x.Value, true)) := by
  unfold cookie_Get
  rw [cookie_last_eq c n hc hn, Option.bind_some]
  by_cases h : lastIx (hasName n) c.Attrs 0 (-1) < 0 <;> simp [h]
theorem ref18_Same_self (l : List api_Attr) (hl : l.length < 1000000000) : ref18_Same l l = some true := by
  unfold ref18_Same
  simp only [beq_self_eq_true, Bool.not_true, Bool.false_eq_true, if_false]
  rw [loop_start l (ref18_Same_L1 l l) (fun _ r => r) (some true) (by omega)]
  · induction l with
    | nil => rfl
    | cons x l ih => exact ih (by simp at hl; omega)
  · intro n; rw [ref18_Same_L1]; simp only [Int.lt_irrefl, decide_false, Bool.false_eq_true, if_false]
  · intro n i x hi hx
    rw [ref18_Same_L1]
    simp only [Int.ofNat_lt, hi, decide_true, if_true, lAt_nat, hx, Option.bind_some, beq_self_eq_true, Bool.not_true, Bool.false_eq_true, if_false, iAdd_one (show i < 4611686018427387904 by omega)]
theorem ref28_Same_self (c : api_Cookie) (hc : c.Attrs.length < 1000000000) : ref28_Same c c = some true := by
  unfold ref28_Same
  simp [ref18_Same_self c.Attrs hc, ref28_Same_j1]
def fewC (c : api_Cookie) : api_Cookie := ⟨c.Name.take 60, c.Value.take 60, (c.Attrs.take 8).map fun a => ⟨a.Name.take 60, a.Value.take 60, a.Has⟩⟩
theorem fewC_small (c : api_Cookie) : smallC (fewC c) := by
  refine ⟨by simp [fewC]; omega, fun a ha => ?_⟩
  simp only [fewC, List.mem_map] at ha
  obtain ⟨b, _, rfl⟩ := ha
  simp; omega
theorem law28_awake_eq : law28_awake = some true := by decide +kernel
theorem sTo_min60 (s : Str) : sTo s (min (s.length : Int) 60) = some (s.take 60) := by
  have e : min (s.length : Int) 60 = ((min s.length 60 : Nat) : Int) := by omega
  rw [e, sTo_nat (Nat.min_le_left _ _)]
  congr 1
  rcases Nat.le_total s.length 60 with h | h
  · rw [Nat.min_eq_left h, List.take_length, List.take_of_length_le h]
  · rw [Nat.min_eq_right h]
def cutA (a : api_Attr) : api_Attr := ⟨a.Name.take 60, a.Value.take 60, a.Has⟩
theorem law28_few_eq (c : api_Cookie) (hc : c.Attrs.length < 1000000000) : law28_few c = some (fewC c) := by
  unfold law28_few
  rw [sTo_min60, Option.bind_some, sTo_min60, Option.bind_some]
  have key : ∀ (m i : Nat) (acc : List api_Attr) (s t : Str), acc.length = i → i ≤ c.Attrs.length → i ≤ 8 → 8 - i < m → law28_few_L1 c m acc s t (i : Int) = some ⟨s, t, acc ++ ((c.Attrs.drop i).take (8 - i)).map cutA⟩ := by
    intro m
    induction m with
    | zero => intro i acc s t _ _ _ h; omega
    | succ m ih =>
      intro i acc s t ha hi h8 h
      rw [law28_few_L1]
      by_cases hlt : i < c.Attrs.length
      · have hxi : c.Attrs[i]? = some c.Attrs[i] := List.getElem?_eq_getElem hlt
        by_cases h9 : i < 8
        · have h9' : (i : Int) < 8 := by omega
          simp only [Int.ofNat_lt, hlt, decide_true, if_true, law28_few_j2, h9', lAt_nat, hxi, Option.bind_some, sTo_min60, fits40 (show acc.length ≤ 1000000 by omega), iAdd_one (show i < 4611686018427387904 by omega)]
          rw [ih (i + 1) _ s t (by simp [ha]) (by omega) (by omega) (by omega), List.drop_eq_getElem_cons hlt, show 8 - i = (8 - (i + 1)) + 1 by omega, List.take_succ_cons]
          simp [cutA]
        · have h9' : ¬ (i : Int) < 8 := by omega
          have e0 : 8 - i = 0 := by omega
          simp [hlt, law28_few_j2, h9', law28_few_j3, e0]
      · have : i = c.Attrs.length := by omega
        subst this
        simp [law28_few_j2, law28_few_j3]
  have := key fuel 0 [] (c.Name.take 60) (c.Value.take 60) rfl (Nat.zero_le _) (by omega) (by unfold fuel; omega)
  simp only [Int.natCast_zero, List.nil_append, List.drop_zero, Nat.sub_zero] at this
  rw [this]; rfl
theorem setOf_small (c : api_Cookie) (n v : Str) (hc : c.Attrs.length ≤ 8) (hx : ∀ a ∈ c.Attrs, a.Name.length < 1000000000) (hn : n.length < 1000000000) : smallC (setOf c n v) := by
  have hs : ∀ (l : List api_Attr) (i : Nat) (k : Int), (setL n v k l i).length ≤ l.length ∧ ((∀ a ∈ l, a.Name.length < 1000000000) → ∀ a ∈ setL n v k l i, a.Name.length < 1000000000) := by
    intro l
    induction l with
    | nil => intro i k; exact ⟨Nat.le_refl _, fun _ a ha => by simp [setL] at ha⟩
    | cons x l ih =>
      intro i k
      obtain ⟨h1, h2⟩ := ih (i + 1) k
      rw [setL]
      split
      · exact ⟨by simp; omega, fun h a ha => by
          rcases List.mem_cons.1 ha with rfl | ha
          · exact h x (List.mem_cons_self ..)
          · exact h2 (fun y hy => h y (List.mem_cons_of_mem _ hy)) a ha⟩
      · split
        · exact ⟨by simp; omega, fun h a ha => h2 (fun y hy => h y (List.mem_cons_of_mem _ hy)) a ha⟩
        · exact ⟨by simp; omega, fun h a ha => by
            rcases List.mem_cons.1 ha with rfl | ha
            · exact h a (List.mem_cons_self ..)
            · exact h2 (fun y hy => h y (List.mem_cons_of_mem _ hy)) a ha⟩
  obtain ⟨h1, h2⟩ := hs c.Attrs 0 (lastIx (hasName n) c.Attrs 0 (-1))
  unfold setOf
  refine ⟨?_, fun a ha => ?_⟩
  · simp only [List.length_append]; split <;> simp <;> omega
  · simp only [List.mem_append] at ha
    rcases ha with ha | ha
    · exact h2 hx a ha
    · split at ha
      · simp at ha; subst ha; exact hn
      · simp at ha
theorem CookieSets_rest (C : api_Cookie) (N V : Str) (hC : smallC C) (h8 : C.Attrs.length ≤ 8) (hN : N.length < 1000000000) : law28_CookieSets_j1 C N V false = some true := by
  unfold law28_CookieSets_j1
  have hS := setOf_small C N V h8 hC.2 hN
  obtain ⟨pre, x, h1, h2, h3⟩ := set_get C N V
  have hk : ¬ ((pre.length : Int) < 0) := by omega
  simp only [Bool.false_eq_true, if_false, cookie_Set_eq C N V hC hN, Option.bind_some, cookie_Get_eq _ N hS hN, h1, hk, lAt_nat, h2, ref28_Set_eq C N V hC hN, ref28_Same_self _ (Nat.lt_trans hS.1 (by omega)), if_true, h3, beq_self_eq_true, law28_CookieSets_j2]
theorem CookieSets_true (c : api_Cookie) (n v : Str) (hc : c.Attrs.length < 1000000000) : law28_CookieSets c n v = some true := by
  unfold law28_CookieSets
  have hC := fewC_small c
  have h8 : (fewC c).Attrs.length ≤ 8 := by simp [fewC]; omega
  have hN : (n.take 60).length < 1000000000 := by simp; omega
  rw [law28_awake_eq, Option.bind_some]
  simp only [Bool.not_true, Bool.false_eq_true, if_false, law28_few_eq c hc, Option.bind_some, sTo_min60, cookie_Get_eq _ _ hC hN, ref28_Place_eq _ _ hC hN]
  generalize fewC c = C at hC h8
  generalize n.take 60 = N at hN
  rcases lastIx_spec (hasName N) C.Attrs 0 (-1) with ⟨_, h2⟩ | ⟨pre, x, post, h1, h2, h3, h4⟩
  · rw [h2]
    simp [CookieSets_rest C N _ hC h8 hN]
  · rw [Nat.zero_add] at h4
    have hx : C.Attrs[pre.length]? = some x := by rw [h1]; simp
    have hk : ¬ ((pre.length : Int) < 0) := by omega
    have hk2 : (0 : Int) ≤ (pre.length : Int) := by omega
    rw [h4]
    simp [hk, hk2, hx, CookieSets_rest C N _ hC h8 hN]
end Go.Dm
