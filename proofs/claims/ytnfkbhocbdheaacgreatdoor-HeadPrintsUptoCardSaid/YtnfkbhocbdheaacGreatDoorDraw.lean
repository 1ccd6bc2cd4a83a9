/-
  A region that draws its order, and in which memory is made or written: whatever order is drawn, the same comes of it, if what it does to memory is done in one order. Over any program.
-/
import Derived.Test.YtnfkbhocbdheaacGreatDoorMop
import Derived.Orders
namespace Go.Dk
open Go.RowKit Go.Dm

section
variable {P : Program} {Q : Exit → Act → World → Prop} {a : Act} {w w0 : World} {N : Nat}

/-- The rule: an invariant over what has been done so far. -/
theorem wp_region_inv {id : Nat} {ops : Array Oper} (hm : P.follows .mixedOrders = true) (I : Array Bool → Act → World → Prop)
    (hsz : ∀ l a w, I l a w → l.size = ops.size)
    (h0 : I (Array.replicate ops.size false) a w.drew)
    (hs : ∀ l a w i, I l a w → i ∈ Region.ready .any ops l → wpOp P ops Q i (fun a w => I (l.setIfInBounds i true) a w) a w)
    (he : ∀ l a w, I l a w → Region.ready .any ops l = [] → Q .normal a w) : (Code.region id ops true).wp P Q a w := by
  refine wp_region_any hm ?_
  have key : ∀ (n : Nat) (l : Array Bool) (a : Act) (w : World), I l a w → l.toList.count false ≤ n → wpAny P .any ops Q n l a w := by
    intro n
    induction n with
    | zero =>
      intro l a w hI hc
      have hr : Region.ready .any ops l = [] := by
        unfold Region.ready
        rw [List.filter_eq_nil_iff]
        intro i hi
        have hlt : i < l.size := by have h5 := hsz l _ _ hI; rw [h5]; simpa using hi
        have hn : false ∉ l.toList := by
          intro hmem
          have := List.count_pos_iff.2 hmem
          omega
        have ht : l[i] = true := by
          cases hb : l[i] with
          | true => rfl
          | false => exact absurd (by rw [← hb]; simp) hn
        simp [Array.getD_eq_getD_getElem?, hlt, ht]
      exact ⟨hr, he l _ _ hI hr⟩
    | succ n ih =>
      intro l a w hI hc
      refine ⟨he l _ _ hI, fun i hi => wpOp_mono (fun a w hI' => ih _ a w hI' ?_) (hs l _ _ i hI hi)⟩
      have hi' : i < ops.size ∧ l.getD i true = false := by
        unfold Region.ready at hi
        simp only [List.mem_filter, List.mem_range, Bool.and_eq_true, Bool.not_eq_true'] at hi
        exact ⟨hi.1, hi.2.1⟩
      have hlt : i < l.size := by have h5 := hsz l _ _ hI; rw [h5]; exact hi'.1
      have hf : l[i] = false := by
        have := hi'.2
        simpa [Array.getD_eq_getD_getElem?, hlt] using this
      have hcount : (l.setIfInBounds i true).toList.count false + 1 = l.toList.count false := by
        have h1 : (l.setIfInBounds i true).toList = l.toList.set i true := by simp
        rw [h1]
        have hlt' : i < l.toList.length := by simpa using hlt
        have h2 := List.count_set (a := true) (b := false) hlt'
        have h3 : l.toList[i] = false := by simpa using hf
        have h4 : 0 < l.toList.count false := List.count_pos_iff.2 (by rw [← h3]; exact List.getElem_mem hlt')
        rw [h2, h3]
        have e1 : (true == false) = false := rfl
        have e2 : (false == false) = true := rfl
        rw [e1, e2]
        simp only [Bool.false_eq_true, if_false, if_true]
        omega
      omega
  exact key _ _ _ _ h0 (by simp)

/-- What is said of one operation: the slots that it looks at, and what it leaves in its own. -/
structure DOp where
  E : Env
  v : Option (Nat × Value)

def before (l : List Oper) (i : Nat) : List Nat := match l[i]? with
  | none => []
  | some o => (o.after.toList.filter (Region.binds .any)).map (·.on)
/-- Which operation writes a slot. -/
def writer (D : List DOp) (t : Nat) : Option (Nat × Value) := go D 0
where go : List DOp → Nat → Option (Nat × Value)
  | [], _ => none
  | d :: D, i => match d.v with
    | some (s, u) => bif Nat.beq s t then some (i, u) else go D (i + 1)
    | none => go D (i + 1)
/-- What a slot holds where operation i comes up. -/
def envAt (l : List Oper) (D : List DOp) (E0 : Env) (i t : Nat) : Option Value := match writer D t with
  | none => look E0 t
  | some (j, u) => bif (before l i).any (Nat.beq j) then some u else bif (before l j).any (Nat.beq i) || Nat.beq i j then look E0 t else none
def AllE (p : Nat × Value → Prop) : Env → Prop
  | [] => True
  | x :: E => p x ∧ AllE p E
theorem AllE.look {p : Nat × Value → Prop} : ∀ {E : Env}, AllE p E → ∀ t v, look E t = some v → p (t, v)
  | [], _, _, _, h => by simp [Dk.look] at h
  | (k, u) :: E, ⟨h1, h2⟩, t, v, h => by
    simp only [Dk.look] at h
    by_cases e : Nat.beq k t = true
    · simp [e] at h
      have ekt : k = t := by simpa using e
      subst ekt; subst h
      exact h1
    · simp [e] at h
      exact AllE.look h2 t v h

theorem writer_go {t i : Nat} {u : Value} : ∀ (D : List DOp) (k : Nat), writer.go t D k = some (i, u) → ∃ d, k ≤ i ∧ D[i - k]? = some d ∧ d.v = some (t, u)
  | [], _, h => by simp [writer.go] at h
  | d :: D, k, h => by
    simp only [writer.go] at h
    cases hv : d.v with
    | none =>
      rw [hv] at h
      obtain ⟨d', h1, h2, h3⟩ := writer_go D (k + 1) h
      refine ⟨d', by omega, ?_, h3⟩
      rw [show i - k = (i - (k + 1)) + 1 by omega]; simpa using h2
    | some su =>
      obtain ⟨s, u'⟩ := su
      rw [hv] at h
      simp only at h
      by_cases e : Nat.beq s t = true
      · simp [e] at h
        have est : s = t := by simpa using e
        obtain ⟨rfl, rfl⟩ := h
        subst est
        exact ⟨d, Nat.le_refl _, by simp, hv⟩
      · simp [e] at h
        obtain ⟨d', h1, h2, h3⟩ := writer_go D (k + 1) h
        refine ⟨d', by omega, ?_, h3⟩
        rw [show i - k = (i - (k + 1)) + 1 by omega]; simpa using h2
theorem writer_none {t : Nat} : ∀ (D : List DOp) (k : Nat), writer.go t D k = none → ∀ (i : Nat) (d : DOp), D[i]? = some d → ∀ s u, d.v = some (s, u) → s ≠ t
  | [], _, _, _, _, h, _, _, _ => by simp at h
  | d :: D, k, h, i, d', hd, s, u, hv => by
    simp only [writer.go] at h
    cases i with
    | zero =>
      simp at hd; subst hd
      rw [hv] at h
      simp only at h
      intro e; subst e
      simp at h
    | succ i =>
      simp at hd
      cases hv' : d.v with
      | none => rw [hv'] at h; exact writer_none D (k + 1) h i d' hd s u hv
      | some su =>
        obtain ⟨s', u'⟩ := su
        rw [hv'] at h
        simp only at h
        by_cases e : Nat.beq s' t = true
        · simp [e] at h
        · simp [e] at h
          exact writer_none D (k + 1) h i d' hd s u hv

/-- Each slot has one writer at most. -/
def uniq : List DOp → Bool
  | [] => true
  | d :: D => (match d.v with
    | some (s, _) => D.all fun d' => match d'.v with
      | some (s', _) => !Nat.beq s s'
      | none => true
    | none => true) && uniq D
theorem uniq_spec : ∀ {D : List DOp}, uniq D = true → ∀ (i j : Nat) (d d' : DOp) (s : Nat) (u u' : Value), D[i]? = some d → D[j]? = some d' → d.v = some (s, u) → d'.v = some (s, u') → i = j
  | [], _, _, _, _, _, _, _, _, h, _, _, _ => by simp at h
  | x :: D, hu, i, j, d, d', s, u, u', hi, hj, hv, hv' => by
    simp only [uniq, Bool.and_eq_true] at hu
    cases i with
    | zero =>
      cases j with
      | zero => rfl
      | succ j =>
        simp at hi hj; subst hi
        rw [hv] at hu
        have := List.all_eq_true.1 hu.1 d' (List.mem_of_getElem? hj)
        rw [hv'] at this
        simp at this
    | succ i =>
      cases j with
      | zero =>
        simp at hi hj; subst hj
        rw [hv'] at hu
        have := List.all_eq_true.1 hu.1 d (List.mem_of_getElem? hi)
        rw [hv] at this
        simp at this
      | succ j =>
        simp at hi hj
        exact congrArg (· + 1) (uniq_spec hu.2 i j d d' s u u' hi hj hv hv')

/-- What an operation waits for stands ahead of it. -/
def lowOk (l : List Oper) : Bool := (List.range l.length).all fun i => (before l i).all fun e => Nat.blt e i
def Each {α : Type} (p : Nat → α → Prop) : Nat → List α → Prop
  | _, [] => True
  | i, x :: xs => p i x ∧ Each p (i + 1) xs
theorem Each.get {α : Type} {p : Nat → α → Prop} : ∀ {xs : List α} {k : Nat}, Each p k xs → ∀ (i : Nat) (x : α), xs[i]? = some x → p (k + i) x
  | [], _, _, _, _, h => by simp at h
  | y :: xs, k, ⟨h1, h2⟩, 0, x, h => by simp at h; subst h; exact h1
  | y :: xs, k, ⟨h1, h2⟩, i + 1, x, h => by
    have := Each.get h2 i x (by simpa using h)
    rwa [show k + 1 + i = k + (i + 1) by omega] at this
section
variable {W : Nat → World} {es : List Nat} {i j s : Nat} {o : Oper} {d : DOp} {u : Value}
end
theorem filter_prefix {α : Type} (p : α → Bool) : ∀ (es : List α) (j : Nat), (∀ x (h : x < es.length), x < j → p es[x] = true) → (∀ x (h : x < es.length), j ≤ x → p es[x] = false) → j ≤ es.length → (es.filter p).length = j
  | [], j, _, _, hj => by simp at hj; simp [hj]
  | e :: es, 0, _, h2, _ => by
    have h3 : p e = false := h2 0 (by simp) (Nat.le_refl _)
    simp only [List.filter_cons, h3]
    exact filter_prefix p es 0 (fun x h hx => by omega) (fun x h _ => h2 (x + 1) (by simpa using h) (Nat.zero_le _)) (Nat.zero_le _)
  | e :: es, j + 1, h1, h2, hj => by
    have h3 : p e = true := h1 0 (by simp) (by omega)
    simp only [List.filter_cons, h3, if_true, List.length_cons]
    rw [filter_prefix p es j (fun x h hx => h1 (x + 1) (by simpa using h) (by omega)) (fun x h hx => h2 (x + 1) (by simpa using h) (by omega)) (by simpa using hj)]

/-- Which operations come behind another one, in whatever order. -/
def depFrom (l : List Oper) (e : Nat) : List Nat → List Nat → List Nat
  | acc, [] => acc
  | acc, i :: is => depFrom l e (bif Nat.beq i e || (before l i).any (fun j => acc.any (Nat.beq j)) then i :: acc else acc) is
def depOn (l : List Oper) (e i : Nat) : Bool := (depFrom l e [] (List.range l.length)).any (Nat.beq i)
/-- As Steps1, where what an operation leaves may hang on what those before it have left ('σ'). -/
def StepS (P : Program) (N : Nat) (Q : Exit → Act → World → Prop) (l : List Oper) {S : Type} (St : Nat → S → World → Prop) (D : S → List DOp) (es : List Nat) (i : Nat) (o : Oper) : Prop :=
  match es.idxOf? i with
  | some j => ∀ σ a w d, St j σ w → (D σ)[i]? = some d → Fits N d.E a → o.wp P a w (fun a' w' => ∃ σ' d', St (j + 1) σ' w' ∧ (D σ')[i]? = some d' ∧ (∀ x, depOn l i x = false → (D σ')[x]? = (D σ)[x]?) ∧ a' = (match d'.v with | some (s, u) => a.put (some s) u | none => a)) Q
  | none => ∀ σ a w k d, k ≤ es.length → (∀ j (h : j < es.length), (before l i).any (fun b => depOn l es[j] b) = true → j < k) → (∀ j (h : j < es.length), (before l es[j]).any (fun b => depOn l i b) = true → k ≤ j) → St k σ w → (D σ)[i]? = some d → Fits N d.E a → ∃ s u, d.v = some (s, u) ∧ o.wp P a w (fun a' w' => a' = a.put o.dst u ∧ St k σ w') Q
theorem depFrom_closed {l : List Oper} {li : Array Bool} (hcl : ∀ j, li.getD j false = true → ∀ e ∈ before l j, li.getD e false = true) {e : Nat} :
    ∀ (is acc : List Nat), (∀ x ∈ acc, li.getD x false = true → li.getD e false = true) → ∀ x ∈ depFrom l e acc is, li.getD x false = true → li.getD e false = true
  | [], acc, h, x, hx, hl => h x hx hl
  | i :: is, acc, h, x, hx, hl => by
    refine depFrom_closed hcl is _ ?_ x hx hl
    intro y hy hly
    cases hb : (Nat.beq i e || (before l i).any (fun j => acc.any (Nat.beq j))) with
    | false => rw [hb] at hy; exact h y hy hly
    | true =>
      rw [hb] at hy
      simp only [cond_true, List.mem_cons] at hy
      rcases hy with rfl | hy
      · rw [Bool.or_eq_true] at hb
        rcases hb with hb | hb
        · have : y = e := by simpa using hb
          subst this; exact hly
        · obtain ⟨j, hj, hja⟩ := List.any_eq_true.1 hb
          obtain ⟨z, hz, hzb⟩ := List.any_eq_true.1 hja
          have : j = z := by simpa using hzb
          subst this
          exact h j hz (hcl y hly j hj)
      · exact h y hy hly
theorem depOn_closed {l : List Oper} {li : Array Bool} (hcl : ∀ j, li.getD j false = true → ∀ e ∈ before l j, li.getD e false = true) {e : Nat} (i : Nat) (h : depOn l e i = true) (hi : li.getD i false = true) : li.getD e false = true := by
  obtain ⟨x, hx, hxb⟩ := List.any_eq_true.1 h
  have : i = x := by simpa using hxb
  subst this
  exact depFrom_closed hcl _ [] (by simp) i hx hi
/-- The effects come one behind another, in whatever order is drawn. -/
def chain2 (l : List Oper) : List Nat → Bool
  | e :: f :: es => (before l f).any (fun b => depOn l e b) && chain2 l (f :: es)
  | _ => true
theorem chain2_spec {l : List Oper} : ∀ {es : List Nat}, chain2 l es = true → ∀ j (h : j + 1 < es.length), ∃ b ∈ before l (es[j + 1]), depOn l (es[j]'(by omega)) b = true
  | [], _, _, h => by simp at h
  | [_], _, _, h => by simp at h
  | e :: f :: es, hc, j, h => by
    simp only [chain2, Bool.and_eq_true] at hc
    cases j with
    | zero =>
      obtain ⟨b, hb, hd⟩ := List.any_eq_true.1 hc.1
      exact ⟨b, hb, hd⟩
    | succ j =>
      have := chain2_spec hc.2 j (by simpa using h)
      simpa using this
theorem chain2_pre {l : List Oper} {li : Array Bool} {es : List Nat} (hcl : ∀ j, li.getD j false = true → ∀ e ∈ before l j, li.getD e false = true) (hc : chain2 l es = true) (x : Nat) (h : x + 1 < es.length) (hp : ∀ e ∈ before l (es[x + 1]), li.getD e false = true) : li.getD (es[x]'(by omega)) false = true := by
  obtain ⟨b, hb, hd⟩ := chain2_spec hc x h
  exact depOn_closed hcl b hd (hp b hb)
theorem chain2_step {l : List Oper} {li : Array Bool} {es : List Nat} (hcl : ∀ j, li.getD j false = true → ∀ e ∈ before l j, li.getD e false = true) (hc : chain2 l es = true) (x : Nat) (h : x + 1 < es.length) (hd : li.getD (es[x + 1]) false = true) : li.getD (es[x]'(by omega)) false = true :=
  chain2_pre hcl hc x h fun e he => hcl _ hd e he
theorem wp_drawS {S : Type} {id : Nat} {l : List Oper} {D : S → List DOp} {E0 : Env} (hm : P.follows .mixedOrders = true) (St : Nat → S → World → Prop) (σ0 : S) (es : List Nat)
    (ps : List Nat) (hgd : ∀ (i : Nat) (o : Oper), l[i]? = some o → ∀ σ a d, (D σ)[i]? = some d → Fits N d.E a → Region.wanted o (yielded l.toArray a.tmps) = !(ps.any (Nat.beq i)))
    (hps : ∀ (i : Nat) (o : Oper), l[i]? = some o → ps.any (Nat.beq i) = true → i ∉ es ∧ ∀ σ d, (D σ)[i]? = some d → d.v = o.dst.map fun s => (s, undef)) (hdst : ∀ σ, l.map (·.dst) = (D σ).map (fun d => d.v.map (·.1))) (hN : ∀ σ, (D σ).all (fun d => match d.v with | some (s, _) => Nat.blt s N | none => true) = true)
    (hu : ∀ σ, uniq (D σ) = true) (hlow : lowOk l = true) (hch : chain2 l es = true) (hnd : es.Nodup) (hW0 : St 0 σ0 w.drew)
    (henv : ∀ σ (i : Nat) (d : DOp), (D σ)[i]? = some d → AllE (fun p => envAt l (D σ) E0 i p.1 = some p.2) d.E)
    (hrun : ∀ (i : Nat) (o : Oper), l[i]? = some o → ps.any (Nat.beq i) = true ∨ (ps.any (Nat.beq i) = false ∧ StepS P N Q l St D es i o))
    (hf : Fits N E0 a) (hes : es.all (fun e => Nat.blt e l.length) = true)
    (k : ∀ σ a w, Fits N ((D σ).filterMap (·.v) ++ E0) a → St es.length σ w → Q .normal a w) : (Code.region id l.toArray true).wp P Q a w := by
  have hlen : ∀ σ, l.length = (D σ).length := fun σ => by simpa using congrArg List.length (hdst σ)
  let cnt (li : Array Bool) : Nat := (es.filter fun e => li.getD e false).length
  refine wp_region_inv hm (fun li a w => a.defers = [] ∧ a.tmps.size = N ∧ li.size = l.length ∧
      (∀ j, li.getD j false = true → ∀ e ∈ before l j, li.getD e false = true) ∧
      ∃ σ, (∀ i d s u, (D σ)[i]? = some d → d.v = some (s, u) → li.getD i false = true → a.tmps[s]? = some u) ∧
      (∀ t v, look E0 t = some v → (∀ i d u, (D σ)[i]? = some d → d.v = some (t, u) → li.getD i false = false) → a.tmps[t]? = some v) ∧ St (cnt li) σ w) ?_ ?_ ?_ ?_
  · rintro li a w ⟨_, _, h, _⟩
    simpa using h
  · refine ⟨hf.nodef, hf.size, by simp, ?_, σ0, ?_, ?_, ?_⟩
    · intro j hj
      simp [Array.getD_eq_getD_getElem?, Array.getElem?_replicate] at hj
      split at hj <;> simp at hj
    · intro i d s u _ _ hi
      simp [Array.getD_eq_getD_getElem?, Array.getElem?_replicate] at hi
      split at hi <;> simp at hi
    · intro t v hv _
      exact hf.has t v hv
    · have : cnt (Array.replicate l.toArray.size false) = 0 := by
        simp only [cnt, List.length_eq_zero_iff, List.filter_eq_nil_iff]
        intro e _
        simp [Array.getD_eq_getD_getElem?, Array.getElem?_replicate]
        split <;> simp
      rw [this]; exact hW0
  · rintro li a w i ⟨hnod, hsize, hls, hcl, σ, hwr, hin, hw⟩ hi
    have hi' : i < l.length ∧ li.getD i true = false ∧ ∀ e ∈ before l i, li.getD e false = true := by
      unfold Region.ready at hi
      simp only [List.mem_filter, List.mem_range, Bool.and_eq_true, Bool.not_eq_true', List.size_toArray] at hi
      refine ⟨hi.1, hi.2.1, fun e he => ?_⟩
      have h2 := hi.2.2
      have hoi : l.toArray[i]? = some (l[i]'hi.1) := by simp [hi.1]
      rw [hoi] at h2
      simp only [Option.map_some, Option.getD_some, Array.all_eq_true'] at h2
      unfold before at he
      rw [List.getElem?_eq_getElem hi.1] at he
      simp only [List.mem_map, List.mem_filter] at he
      obtain ⟨ed, ⟨hed, hb⟩, rfl⟩ := he
      have := h2 ed (by simpa using hed)
      simpa [hb] using this
    obtain ⟨hil, hiu, hpre⟩ := hi'
    have hiu' : li.getD i false = false := by
      have h1 : i < li.size := by omega
      simp [Array.getD_eq_getD_getElem?, h1] at hiu ⊢
      exact hiu
    have hol : l[i]? = some l[i] := List.getElem?_eq_getElem hil
    have hDi : i < (D σ).length := by have := hlen σ; omega
    have hdl : (D σ)[i]? = some (D σ)[i] := List.getElem?_eq_getElem hDi
    -- the slots that it looks at
    have hfi : Fits N (D σ)[i].E a := by
      refine ⟨hnod, hsize, fun t v hv => ?_⟩
      have h1 := AllE.look (henv σ i _ hdl) t v hv
      simp only [envAt] at h1
      cases hwt : writer (D σ) t with
      | none =>
        rw [hwt] at h1
        exact hin t v h1 fun j d u hd hdv => absurd rfl (writer_none (D σ) 0 hwt j d hd t u hdv)
      | some ju =>
        obtain ⟨j, u⟩ := ju
        rw [hwt] at h1
        obtain ⟨d, _, hd, hdv⟩ := writer_go (D σ) 0 hwt
        simp only [Nat.sub_zero] at hd
        simp only at h1
        by_cases hb : (before l i).any (Nat.beq j) = true
        · rw [hb] at h1
          simp at h1
          subst h1
          obtain ⟨x, hx, hxb⟩ := List.any_eq_true.1 hb
          have : j = x := by simpa using hxb
          subst this
          exact hwr j d t u hd hdv (hpre j hx)
        · rw [Bool.eq_false_iff.2 hb] at h1
          simp only [cond_false] at h1
          by_cases hb2 : ((before l j).any (Nat.beq i) || Nat.beq i j) = true
          · rw [hb2] at h1
            simp only [cond_true] at h1
            refine hin t v h1 fun j' d' u' hd' hdv' => ?_
            have : j' = j := uniq_spec (hu σ) j' j d' d t u' u hd' hd hdv' hdv
            subst this
            rw [Bool.or_eq_true] at hb2
            rcases hb2 with hb2 | hb2
            · obtain ⟨x, hx, hxb⟩ := List.any_eq_true.1 hb2
              have : i = x := by simpa using hxb
              subst this
              cases hlj : li.getD j' false with
              | false => rfl
              | true =>
                have := hcl j' hlj i hx
                rw [hiu'] at this; cases this
            · have : i = j' := by simpa using hb2
              subst this
              exact hiu'
          · rw [Bool.eq_false_iff.2 hb2] at h1
            simp at h1
    have hdi : ∀ σ d, (D σ)[i]? = some d → l[i].dst = d.v.map (·.1) := by
      intro σ d hd
      have h1 := congrArg (fun x => x[i]?) (hdst σ)
      simp only [List.getElem?_map, hol, hd, Option.map_some, Option.some.injEq] at h1
      exact h1
    have hset : ∀ j, (li.setIfInBounds i true).getD j false = (if j = i then true else li.getD j false) := by
      intro j
      have h1 : i < li.size := by omega
      simp only [Array.getD_eq_getD_getElem?, Array.getElem?_setIfInBounds]
      by_cases e : i = j
      · subst e; simp [h1]
      · simp [e, Ne.symm e]
    -- what the invariant asks behind it, but for the world
    have hinv : ∀ (σ' : S) (d' : DOp) (a' : Act), (D σ')[i]? = some d' → (∀ x, li.getD x false = true → (D σ')[x]? = (D σ)[x]?) → (∀ s u, d'.v = some (s, u) → a' = a.put (some s) u) → (d'.v = none → a' = a) →
        a'.defers = [] ∧ a'.tmps.size = N ∧ (li.setIfInBounds i true).size = l.length ∧
        (∀ j, (li.setIfInBounds i true).getD j false = true → ∀ e ∈ before l j, (li.setIfInBounds i true).getD e false = true) ∧
        (∀ j d s u, (D σ')[j]? = some d → d.v = some (s, u) → (li.setIfInBounds i true).getD j false = true → a'.tmps[s]? = some u) ∧
        (∀ t v, look E0 t = some v → (∀ j d u, (D σ')[j]? = some d → d.v = some (t, u) → (li.setIfInBounds i true).getD j false = false) → a'.tmps[t]? = some v) := by
      intro σ' d' a' hdl' hag ha1 ha2
      have hsz' : a'.defers = [] ∧ a'.tmps.size = N := by
        cases hv : d'.v with
        | none => rw [ha2 hv]; exact ⟨hnod, hsize⟩
        | some su => obtain ⟨s, u⟩ := su; rw [ha1 s u hv]; exact ⟨hnod, by simp [Act.put, hsize]⟩
      have hget : ∀ t, (∀ s u, d'.v = some (s, u) → s ≠ t) → a'.tmps[t]? = a.tmps[t]? := by
        intro t ht
        cases hv : d'.v with
        | none => rw [ha2 hv]
        | some su =>
          obtain ⟨s, u⟩ := su
          rw [ha1 s u hv]
          have := ht s u hv
          simp [Act.put, Array.getElem?_setIfInBounds_ne this]
      refine ⟨hsz'.1, hsz'.2, by simpa using hls, ?_, ?_, ?_⟩
      · intro j hj e he
        rw [hset] at hj ⊢
        by_cases e1 : e = i
        · rw [if_pos e1]
        · rw [if_neg e1]
          by_cases e2 : j = i
          · subst e2; exact hpre e he
          · rw [if_neg e2] at hj; exact hcl j hj e he
      · intro j d s u hd hdv hj
        rw [hset] at hj
        by_cases e2 : j = i
        · subst e2
          rw [hdl'] at hd; obtain rfl := Option.some.inj hd
          rw [ha1 s u hdv]
          have hsN : s < N := by
            have := List.all_eq_true.1 (hN σ') _ (List.mem_of_getElem? hdl')
            rw [hdv] at this
            simpa [Nat.blt_eq] using this
          simp [Act.put, hsize, hsN]
        · rw [if_neg e2] at hj
          rw [hget s fun s' u' hv' e => ?_]
          · rw [hag j hj] at hd; exact hwr j d s u hd hdv hj
          · subst e
            exact e2 (uniq_spec (hu σ') j i d d' s' u u' hd hdl' hdv hv')
      · intro t v hv hall
        rw [hget t fun s u hv' e => ?_]
        · refine hin t v hv fun j d u hd hdv => ?_
          -- the same slot is written by the same operation, whatever it leaves
          obtain ⟨d2, hd2⟩ : ∃ d2, (D σ')[j]? = some d2 := by
            have h1 : j < (D σ).length := (List.getElem?_eq_some_iff.1 hd).1
            have h2 := hlen σ; have h3 := hlen σ'
            exact ⟨_, List.getElem?_eq_getElem (by omega)⟩
          have h4 := congrArg (fun x => x[j]?) (hdst σ)
          have h5 := congrArg (fun x => x[j]?) (hdst σ')
          simp only [List.getElem?_map, hd, hd2, Option.map_some] at h4 h5
          rw [h4, hdv] at h5
          cases hv2 : d2.v with
          | none => rw [hv2] at h5; simp at h5
          | some su =>
            obtain ⟨s2, u2⟩ := su
            rw [hv2] at h5
            simp at h5
            subst h5
            have := hall j d2 u2 hd2 hv2
            rw [hset] at this
            by_cases e2 : j = i
            · subst e2; exact hiu'
            · rwa [if_neg e2] at this
        · subst e
          have := hall i d' u hdl' hv'
          rw [hset, if_pos rfl] at this
          cases this
    have hwant := hgd i l[i] hol σ a _ hdl hfi
    unfold wpOp
    have hoa : l.toArray[i]? = some l[i] := by simp [hil]
    rw [hoa]
    simp only
    rcases hrun i l[i] hol with hpass | ⟨hnp, hrun'⟩
    · rw [if_neg (by rw [hwant, hpass]; simp)]
      obtain ⟨hne, hpv⟩ := hps i l[i] hol hpass
      have hv := hpv σ _ hdl
      have hcnt : cnt (li.setIfInBounds i true) = cnt li := by
        simp only [cnt]
        congr 1
        apply List.filter_congr
        intro e he
        rw [hset, if_neg (fun h => hne (by rw [← h]; exact he))]
      have h := hinv σ _ (a.put l[i].dst undef) hdl (fun _ _ => rfl) (fun s u h => by
          rw [hv] at h
          cases hds : l[i].dst with
          | none => rw [hds] at h; cases h
          | some d' => rw [hds] at h; cases h; rfl) (fun h => by
          rw [hv] at h
          cases hds : l[i].dst with
          | none => rfl
          | some d' => rw [hds] at h; cases h)
      rw [hcnt]
      exact ⟨h.1, h.2.1, h.2.2.1, h.2.2.2.1, σ, h.2.2.2.2.1, h.2.2.2.2.2, hw⟩
    unfold StepS at hrun'
    rw [if_pos (by rw [hwant, hnp]; rfl)]
    left
    cases hidx : es.idxOf? i with
    | none =>
      rw [hidx] at hrun'
      have hne : i ∉ es := by
        rw [List.idxOf?_eq_none_iff] at hidx
        exact hidx
      have hcnt : cnt (li.setIfInBounds i true) = cnt li := by
        simp only [cnt]
        congr 1
        apply List.filter_congr
        intro e he
        rw [hset, if_neg (fun h => hne (by rw [← h]; exact he))]
      have hup2 : ∀ j (h : j < es.length), (before l es[j]).any (fun b => depOn l i b) = true → cnt li ≤ j := by
        intro j h hmem
        obtain ⟨b, hb, hd⟩ := List.any_eq_true.1 hmem
        have hnd' : li.getD es[j] false = false := by
          cases hdn : li.getD es[j] false with
          | false => rfl
          | true =>
            have := depOn_closed hcl b hd (hcl _ hdn b hb)
            rw [hiu'] at this; cases this
        have hall : ∀ m x (hx : x < es.length), x = j + m → li.getD es[x] false = false := by
          intro m
          induction m with
          | zero => intro x hx e; obtain rfl : x = j := by omega
                    exact hnd'
          | succ m ih =>
            intro x hx e
            cases hdn : li.getD es[x] false with
            | false => rfl
            | true =>
              obtain ⟨y, rfl⟩ : ∃ y, x = y + 1 := ⟨x - 1, by omega⟩
              have h1 := chain2_step hcl hch y hx hdn
              have h2 := ih y (by omega) (by omega)
              rw [h1] at h2; cases h2
        have he : es.filter (fun e => li.getD e false) = (es.take j).filter (fun e => li.getD e false) := by
          conv => lhs; rw [← List.take_append_drop j es]
          rw [List.filter_append]
          have : (es.drop j).filter (fun e => li.getD e false) = [] := by
            rw [List.filter_eq_nil_iff]
            intro e he
            obtain ⟨x, hx, rfl⟩ := List.mem_iff_getElem.1 he
            rw [List.getElem_drop]
            have hx' : j + x < es.length := by simp at hx; omega
            rw [hall x (j + x) hx' rfl]; simp
          rw [this, List.append_nil]
        show (es.filter _).length ≤ j
        rw [he]
        exact Nat.le_trans (List.length_filter_le _ _) (by simp; omega)
      have hk : ∀ j (h : j < es.length), (before l i).any (fun b => depOn l es[j] b) = true → j < cnt li := by
        intro j h hmem
        obtain ⟨b, hb, hd⟩ := List.any_eq_true.1 hmem
        have hbj := depOn_closed hcl b hd (hpre b hb)
        -- all effects up to j are done
        have hup : ∀ m, ∀ x (h : x < es.length), x ≤ j → j - x = m → li.getD es[x] false = true := by
          intro m
          induction m with
          | zero => intro x h' hx hm'; have : x = j := by omega
                    subst this; exact hbj
          | succ m ih => intro x h' hx hm'; exact chain2_step hcl hch x (by omega) (ih (x + 1) (by omega) (by omega) (by omega))
        have h1 : (es.take (j + 1)).length ≤ cnt li := by
          simp only [cnt]
          have h2 : (es.take (j + 1)).filter (fun e => li.getD e false) = es.take (j + 1) := by
            rw [List.filter_eq_self]
            intro e he
            obtain ⟨x, hx, rfl⟩ := List.mem_iff_getElem.1 he
            rw [List.getElem_take]
            have hx' : x < j + 1 ∧ x < es.length := by simpa [Nat.lt_min] using hx
            exact hup (j - x) x hx'.2 (by omega) rfl
          rw [← h2]
          exact List.Sublist.length_le ((List.take_sublist (j + 1) es).filter _)
        simp at h1
        omega
      obtain ⟨s, u, hv, hr⟩ := hrun' σ a w (cnt li) _ (by simp only [cnt]; exact List.length_filter_le _ _) hk hup2 hw hdl hfi
      refine Oper.wp_mono ?_ hr
      rintro a' w' ⟨rfl, hst⟩
      rw [hdi σ _ hdl, hv, hcnt]
      have h := hinv σ _ (a.put (some s) u) hdl (fun _ _ => rfl) (fun s' u' h => by rw [hv] at h; cases h; rfl) (fun h => by rw [hv] at h; cases h)
      exact ⟨h.1, h.2.1, h.2.2.1, h.2.2.2.1, σ, h.2.2.2.2.1, h.2.2.2.2.2, hst⟩
    | some j =>
      rw [hidx] at hrun'
      obtain ⟨hj, hij⟩ : ∃ h : j < es.length, es[j] = i := by
        rw [List.idxOf?_eq_some_iff] at hidx
        exact ⟨hidx.1, hidx.2.1⟩
      have hbefore : ∀ x (h : x < es.length), x < j → li.getD es[x] false = true := by
        have hh : ∀ m, ∀ x (h : x < es.length), x < j → j - x = m + 1 → li.getD es[x] false = true := by
          intro m
          induction m with
          | zero =>
            intro x h hx hm
            have e : x + 1 = j := by omega
            have h2 : es[x + 1]'(by omega) = i := by rw [← hij]; congr 1
            exact chain2_pre hcl hch x (by omega) (by rw [h2]; exact hpre)
          | succ m ih =>
            intro x h hx hm
            have h3 := ih (x + 1) (by omega) (by omega) (by omega)
            exact chain2_step hcl hch x (by omega) h3
        intro x h hx
        exact hh (j - x - 1) x h hx (by omega)
      have hafter : ∀ x (h : x < es.length), j ≤ x → li.getD es[x] false = false := by
        intro x
        induction x with
        | zero =>
          intro h hx
          have : j = 0 := by omega
          subst this
          rw [hij]; exact hiu'
        | succ x ih =>
          intro h hx
          by_cases e : j = x + 1
          · subst e; rw [hij]; exact hiu'
          · cases hb : li.getD es[x + 1] false with
            | false => rfl
            | true =>
              have h1 := chain2_step hcl hch x h hb
              have h2 := ih (by omega) (by omega)
              rw [h1] at h2; cases h2
      have hc1 : cnt li = j := filter_prefix (fun e => li.getD e false) es j hbefore hafter (by omega)
      have hinj : ∀ x (h : x < es.length), es[x] = i → x = j := by
        intro x h hx
        exact (List.getElem_inj hnd).1 (hx.trans hij.symm)
      have hc2 : cnt (li.setIfInBounds i true) = j + 1 := by
        refine filter_prefix (fun e => (li.setIfInBounds i true).getD e false) es (j + 1) (fun x h hx => ?_) (fun x h hx => ?_) (by omega)
        · rw [hset]
          split
          · rfl
          · rename_i hne
            by_cases e : x = j
            · subst e; exact absurd hij hne
            · exact hbefore x h (by omega)
        · rw [hset, if_neg (fun e => by have := hinj x h e; omega)]
          exact hafter x h (by omega)
      rw [hc1] at hw
      refine Oper.wp_mono ?_ (hrun' σ a w _ hw hdl hfi)
      rintro a' w' ⟨σ', d', hst, hd', hag, rfl⟩
      rw [hc2]
      have h := hinv σ' d' (match d'.v with | some (s, u) => a.put (some s) u | none => a) hd' (fun x hx => hag x (by
        cases hb : depOn l i x with
        | false => rfl
        | true =>
          have := depOn_closed hcl x hb hx
          rw [hiu'] at this; cases this)) (fun s' u' h => by rw [h]) (fun h => by rw [h])
      exact ⟨h.1, h.2.1, h.2.2.1, h.2.2.2.1, σ', h.2.2.2.2.1, h.2.2.2.2.2, hst⟩
  · rintro li a w ⟨hnod, hsize, hls, hcl, σ, hwr, hin, hw⟩ hr
    -- all are done: the least one that is not would be ready
    have hall : ∀ i, i < l.length → li.getD i false = true := by
      intro i
      induction i using Nat.strongRecOn with
      | _ i ih =>
        intro hi
        cases hb : li.getD i false with
        | true => rfl
        | false =>
          exfalso
          have hmem : i ∈ Region.ready .any l.toArray li := by
            unfold Region.ready
            simp only [List.mem_filter, List.mem_range, Bool.and_eq_true, Bool.not_eq_true', List.size_toArray]
            have h1 : i < li.size := by omega
            refine ⟨hi, by simpa [Array.getD_eq_getD_getElem?, h1] using hb, ?_⟩
            have hoi : l.toArray[i]? = some l[i] := by simp [hi]
            rw [hoi]
            simp only [Option.map_some, Option.getD_some, Array.all_eq_true']
            intro e he
            cases hbe : Region.binds .any e with
            | false => rfl
            | true =>
              have hbf : e.on ∈ before l i := by
                unfold before
                rw [List.getElem?_eq_getElem hi]
                simp only [List.mem_map, List.mem_filter]
                exact ⟨e, ⟨by simpa using he, hbe⟩, rfl⟩
              have hlt : e.on < i := by
                have h2 := List.all_eq_true.1 hlow i (by simpa using hi)
                have h3 := List.all_eq_true.1 h2 _ hbf
                simpa [Nat.blt_eq] using h3
              simpa using ih e.on hlt (by omega)
          rw [hr] at hmem
          cases hmem
    have hcnt : cnt li = es.length := by
      refine filter_prefix (fun e => li.getD e false) es es.length (fun x h _ => ?_) (fun x h hx => by omega) (Nat.le_refl _)
      have := List.all_eq_true.1 hes _ (List.getElem_mem h)
      exact hall _ (by simpa [Nat.blt_eq] using this)
    rw [hcnt] at hw
    refine k σ a w ⟨hnod, hsize, fun t v hv => ?_⟩ hw
    -- a slot that was written, or that was not
    have look_app : ∀ (A : Env), look (A ++ E0) t = (match look A t with | some u => some u | none => look E0 t) := by
      intro A
      induction A with
      | nil => simp [look]
      | cons p A ih =>
        obtain ⟨s, u⟩ := p
        simp only [List.cons_append, look]
        cases Nat.beq s t <;> simp [ih]
    rw [look_app] at hv
    have look_fm : ∀ (D' : List DOp), (∀ u, look (D'.filterMap (·.v)) t = some u → ∃ (i : Nat) (d : DOp), D'[i]? = some d ∧ d.v = some (t, u)) ∧ (look (D'.filterMap (·.v)) t = none → ∀ (i : Nat) (d : DOp) (u : Value), D'[i]? = some d → d.v ≠ some (t, u)) := by
      intro D'
      induction D' with
      | nil => simp [look]
      | cons d D' ih =>
        cases hd : d.v with
        | none =>
          simp only [List.filterMap_cons, hd]
          refine ⟨fun u hu' => ?_, fun hn i d' u hi => ?_⟩
          · obtain ⟨i, d', h1, h2⟩ := ih.1 u hu'
            exact ⟨i + 1, d', by simpa using h1, h2⟩
          · cases i with
            | zero => simp at hi; subst hi; rw [hd]; simp
            | succ i => exact ih.2 hn i d' u (by simpa using hi)
        | some su =>
          obtain ⟨s, u0⟩ := su
          simp only [List.filterMap_cons, hd, look]
          by_cases e : Nat.beq s t = true
          · have est : s = t := by simpa using e
            subst est
            simp only [e, cond_true]
            exact ⟨fun u hu' => by cases hu'; exact ⟨0, d, by simp, hd⟩, fun hn => by cases hn⟩
          · simp only [Bool.eq_false_iff.2 e, cond_false]
            refine ⟨fun u hu' => ?_, fun hn i d' u hi => ?_⟩
            · obtain ⟨i, d', h1, h2⟩ := ih.1 u hu'
              exact ⟨i + 1, d', by simpa using h1, h2⟩
            · cases i with
              | zero =>
                simp at hi; subst hi; rw [hd]
                intro h; cases h; simp at e
              | succ i => exact ih.2 hn i d' u (by simpa using hi)
    cases hla : look ((D σ).filterMap (·.v)) t with
    | some u =>
      rw [hla] at hv
      cases hv
      obtain ⟨i, d, h1, h2⟩ := (look_fm (D σ)).1 _ hla
      have hi : i < l.length := by rw [hlen σ]; exact (List.getElem?_eq_some_iff.1 h1).1
      exact hwr i d t _ h1 h2 (hall i hi)
    | none =>
      rw [hla] at hv
      exact hin t v hv fun i d u h1 h2 => absurd h2 ((look_fm (D σ)).2 hla i d u h1)
def EachZ {α : Type} (p : Nat → α → α → Prop) : Nat → List α → List α → Prop
  | _, [], [] => True
  | i, x :: xs, y :: ys => p i x y ∧ EachZ p (i + 1) xs ys
  | _, _, _ => False
theorem EachZ.get {α : Type} {p : Nat → α → α → Prop} : ∀ {xs ys : List α} {k : Nat}, EachZ p k xs ys → ∀ i : Nat, (xs[i]? = none ∧ ys[i]? = none) ∨ ∃ x y, xs[i]? = some x ∧ ys[i]? = some y ∧ p (k + i) x y
  | [], [], _, _, _ => .inl (by simp)
  | [], _ :: _, _, h, _ => h.elim
  | _ :: _, [], _, h, _ => h.elim
  | x :: xs, y :: ys, k, ⟨h1, h2⟩, 0 => .inr ⟨x, y, by simp, by simp, h1⟩
  | x :: xs, y :: ys, k, ⟨h1, h2⟩, i + 1 => by
    rcases EachZ.get h2 i with ⟨h3, h4⟩ | ⟨x', y', h3, h4, h5⟩
    · exact .inl ⟨by simpa using h3, by simpa using h4⟩
    · exact .inr ⟨x', y', by simpa using h3, by simpa using h4, by rwa [show k + 1 + i = k + (i + 1) by omega] at h5⟩
theorem agree {l : List Oper} {e : Nat} {xs ys : List DOp} (h : EachZ (fun i x y => depOn l e i = true ∨ x = y) 0 xs ys) : ∀ x, depOn l e x = false → xs[x]? = ys[x]? := by
  intro x hx
  rcases h.get x with ⟨h1, h2⟩ | ⟨a, b, h1, h2, h3⟩
  · rw [h1, h2]
  · rw [Nat.zero_add, hx] at h3
    rcases h3 with h3 | h3
    · cases h3
    · rw [h1, h2, h3]
section
variable {S : Type} {l : List Oper} {St : Nat → S → World → Prop} {D : S → List DOp} {es : List Nat} {i j s : Nat} {o : Oper}
theorem sS_pure {d : S → DOp} {u : S → Value} (h : es.idxOf? i = none) (hd : ∀ σ, (D σ)[i]? = some (d σ)) (hv : ∀ σ, (d σ).v = some (s, u σ))
    (hr : ∀ σ a w k, k ≤ es.length → (∀ j (h : j < es.length), (before l i).any (fun b => depOn l es[j] b) = true → j < k) → (∀ j (h : j < es.length), (before l es[j]).any (fun b => depOn l i b) = true → k ≤ j) → St k σ w → Fits N (d σ).E a → (execOp a.eval o).run P w = .ok (.value (u σ)) w) : StepS P N Q l St D es i o := by
  unfold StepS; rw [h]
  intro σ a w k d' hk hmin hmax hst hd' hf
  rw [hd σ] at hd'
  obtain rfl := Option.some.inj hd'
  refine ⟨s, u σ, hv σ, ?_⟩
  unfold Oper.wp
  rw [hr σ a w k hk hmin hmax hst hf]
  simp only [Oper.upon]
  exact ⟨trivial, hst⟩
theorem sS_call {d : S → DOp} {u : S → Value} {f : Nat} {vs : S → Array Value} (h : es.idxOf? i = some j) (hd : ∀ σ, (D σ)[i]? = some (d σ)) (hv : ∀ σ, (d σ).v = some (s, u σ)) (hdst : o.dst = some s)
    (hx : ∀ σ a w, St j σ w → Fits N (d σ).E a → (execOp a.eval o).run P w = .ok (.enter f (vs σ)) w)
    (hc : ∀ σ w, St j σ w → Calls P f (vs σ) w fun e w' => ∃ σ', e = .returned (u σ') ∧ St (j + 1) σ' w' ∧ EachZ (fun x y z => depOn l i x = true ∨ y = z) 0 (D σ') (D σ)) : StepS P N Q l St D es i o := by
  unfold StepS; rw [h]
  intro σ a w d' hst hd' hf
  rw [hd σ] at hd'
  obtain rfl := Option.some.inj hd'
  unfold Oper.wp
  rw [hx σ a w hst hf, Oper.upon_enter]
  refine (hc σ w hst).mono fun e w' he => ?_
  obtain ⟨σ', rfl, hst', hag⟩ := he
  exact ⟨σ', d σ', hst', hd σ', agree hag, by rw [hv σ', hdst]⟩
theorem sS_val {d : S → DOp} {u : S → Value} (h : es.idxOf? i = some j) (hd : ∀ σ, (D σ)[i]? = some (d σ)) (hv : ∀ σ, (d σ).v = some (s, u σ)) (hdst : o.dst = some s)
    (hr : ∀ σ w, St j σ w → ∃ σ' w', St (j + 1) σ' w' ∧ EachZ (fun x y z => depOn l i x = true ∨ y = z) 0 (D σ') (D σ) ∧ ∀ a, Fits N (d σ).E a → (execOp a.eval o).run P w = .ok (.value (u σ')) w') : StepS P N Q l St D es i o := by
  unfold StepS; rw [h]
  intro σ a w d' hst hd' hf
  rw [hd σ] at hd'
  obtain rfl := Option.some.inj hd'
  obtain ⟨σ', w', hst', hag, hx⟩ := hr σ w hst
  unfold Oper.wp
  rw [hx a hf]
  exact ⟨σ', d σ', hst', hd σ', agree hag, by rw [hv σ', hdst]⟩
theorem sS_skip {d : S → DOp} (h : es.idxOf? i = some j) (hd : ∀ σ, (D σ)[i]? = some (d σ)) (hv : ∀ σ, (d σ).v = none) (hdst : o.dst = none)
    (hr : ∀ σ w, St j σ w → ∃ σ' w', St (j + 1) σ' w' ∧ EachZ (fun x y z => depOn l i x = true ∨ y = z) 0 (D σ') (D σ) ∧ ∀ a, Fits N (d σ).E a → (execOp a.eval o).run P w = .ok .skip w') : StepS P N Q l St D es i o := by
  unfold StepS; rw [h]
  intro σ a w d' hst hd' hf
  rw [hd σ] at hd'
  obtain rfl := Option.some.inj hd'
  obtain ⟨σ', w', hst', hag, hx⟩ := hr σ w hst
  unfold Oper.wp
  rw [hx a hf]
  exact ⟨σ', d σ', hst', hd σ', agree hag, by rw [hv σ', hdst]; rfl⟩
theorem no_guard {l : List Oper} {i : Nat} {o : Oper} {y : Nat → Option Bool} (hg : l.all (fun o => o.guard.isNone) = true) (ho : l[i]? = some o) : Region.wanted o y = !(([] : List Nat).any (Nat.beq i)) := by
  have := List.all_eq_true.1 hg o (List.mem_of_getElem? ho)
  have hn : o.guard = none := by simpa using this
  simp [Region.wanted, hn]
theorem wp_drawS' {id : Nat} {E0 : Env} (hm : P.follows .mixedOrders = true) (St : Nat → S → World → Prop) (D : S → List DOp) (σ0 : S) (es : List Nat)
    (hg : l.all (fun o => o.guard.isNone) = true) (hdst : ∀ σ, l.map (·.dst) = (D σ).map (fun d => d.v.map (·.1))) (hN : ∀ σ, (D σ).all (fun d => match d.v with | some (s, _) => Nat.blt s N | none => true) = true)
    (hu : ∀ σ, uniq (D σ) = true) (hlow : lowOk l = true) (hch : chain2 l es = true) (hnd : es.Nodup) (hes : es.all (fun e => Nat.blt e l.length) = true) (hW0 : St 0 σ0 w.drew) (hf : Fits N E0 a)
    (henv : ∀ σ, Each (fun i d => AllE (fun p => envAt l (D σ) E0 i p.1 = some p.2) d.E) 0 (D σ))
    (hrun : Each (fun i o => StepS P N Q l St D es i o) 0 l)
    (k : ∀ σ a w, Fits N ((D σ).filterMap (·.v) ++ E0) a → St es.length σ w → Q .normal a w) : (Code.region id l.toArray true).wp P Q a w := by
  refine wp_drawS hm St σ0 es [] (fun i o ho σ a d _ _ => no_guard hg ho) (fun i o _ h => by simp at h) hdst hN hu hlow hch hnd hW0 (fun σ i d hd => ?_) (fun i o ho => .inr ⟨rfl, ?_⟩) hf hes k
  · have := (henv σ).get i d hd
    rwa [Nat.zero_add] at this
  · have := hrun.get i o ho
    rwa [Nat.zero_add] at this
/-- An operation with no guard; one whose guard holds, or does not, or was passed over itself. -/
def GuardS (N : Nat) (l : List Oper) (D : S → List DOp) (ps : List Nat) (i : Nat) (o : Oper) : Prop := ∀ σ a d, (D σ)[i]? = some d → Fits N d.E a → Region.wanted o (yielded l.toArray a.tmps) = !(ps.any (Nat.beq i))
theorem g_none {ps : List Nat} (hg : o.guard = none) (hp : ps.any (Nat.beq i) = false) : GuardS N l D ps i o := fun σ a d _ _ => by simp [Region.wanted, hg, hp]
theorem g_some {ps : List Nat} {d : S → DOp} {u : S → Bool} {b : Bool} (hg : o.guard = some (j, b)) (hd : ∀ σ, (D σ)[i]? = some (d σ)) (hs : (l[j]?).bind (·.dst) = some s) (hl : ∀ σ, look (d σ).E s = some (.bool (u σ))) (hp : ∀ σ, (u σ == b) = !(ps.any (Nat.beq i))) : GuardS N l D ps i o := fun σ a d' hd' hf => by
  rw [hd σ] at hd'
  obtain rfl := Option.some.inj hd'
  have hy : yielded l.toArray a.tmps j = some (u σ) := by
    have h1 : (l.toArray[j]?).bind (·.dst) = some s := by simpa using hs
    unfold yielded
    rw [h1]
    simp [hf.has s _ (hl σ)]
  rw [← hp σ]
  simp [Region.wanted, hg, hy]
theorem wp_drawG' {id : Nat} {E0 : Env} (hm : P.follows .mixedOrders = true) (St : Nat → S → World → Prop) (D : S → List DOp) (σ0 : S) (es ps : List Nat)
    (hgd : Each (fun i o => GuardS N l D ps i o) 0 l) (hps : ∀ σ, Each (fun i (od : Oper × DOp) => ps.any (Nat.beq i) = false ∨ (es.any (Nat.beq i) = false ∧ od.2.v = od.1.dst.map fun s => (s, undef))) 0 (l.zip (D σ))) (hdst : ∀ σ, l.map (·.dst) = (D σ).map (fun d => d.v.map (·.1))) (hN : ∀ σ, (D σ).all (fun d => match d.v with | some (s, _) => Nat.blt s N | none => true) = true)
    (hu : ∀ σ, uniq (D σ) = true) (hlow : lowOk l = true) (hch : chain2 l es = true) (hnd : es.Nodup) (hes : es.all (fun e => Nat.blt e l.length) = true) (hW0 : St 0 σ0 w.drew) (hf : Fits N E0 a)
    (henv : ∀ σ, Each (fun i d => AllE (fun p => envAt l (D σ) E0 i p.1 = some p.2) d.E) 0 (D σ))
    (hrun : Each (fun i o => ps.any (Nat.beq i) = true ∨ (ps.any (Nat.beq i) = false ∧ StepS P N Q l St D es i o)) 0 l)
    (k : ∀ σ a w, Fits N ((D σ).filterMap (·.v) ++ E0) a → St es.length σ w → Q .normal a w) : (Code.region id l.toArray true).wp P Q a w := by
  refine wp_drawS hm St σ0 es ps (fun i o ho => ?_) (fun i o ho hp => ⟨?_, fun σ d hd => ?_⟩) hdst hN hu hlow hch hnd hW0 (fun σ i d hd => ?_) (fun i o ho => ?_) hf hes k
  · have := hgd.get i o ho
    rwa [Nat.zero_add] at this
  · have hl : l.length = (D σ0).length := by simpa using congrArg List.length (hdst σ0)
    have hi : i < (D σ0).length := by rw [← hl]; exact (List.getElem?_eq_some_iff.1 ho).1
    have := (hps σ0).get i (o, (D σ0)[i]) (by rw [List.getElem?_zip_eq_some]; exact ⟨ho, List.getElem?_eq_getElem hi⟩)
    rw [Nat.zero_add, hp] at this
    rcases this with h | h
    · cases h
    · intro hm
      have := List.any_eq_false.1 h.1 i hm
      simp at this
  · have := (hps σ).get i (o, d) (by rw [List.getElem?_zip_eq_some]; exact ⟨ho, hd⟩)
    rw [Nat.zero_add, hp] at this
    rcases this with h | h
    · cases h
    · exact h.2
  · have := (henv σ).get i d hd
    rwa [Nat.zero_add] at this
  · have := hrun.get i o ho
    rwa [Nat.zero_add] at this
end

variable {L : List Res} {F : List Nat} {E : Env} {t t' ty d : Nat} {p : String} {af : Array Edge} {x y : Operand} {dst : Option Nat} {gd : Option (Nat × Bool)}
theorem ef_store1 {i b o bty : Nat} {cs : List Value} {v : Value} (ht : sizeO P t' = some 1) (hi : L[i]? = some (.blk b cs bty)) (ho : Nat.blt o cs.length = true) (hv : v.oneCell' = true) (hvc : v.cells = #[v]) (hO : Own w0 F w L)
    (hx : evl E x = some (ptr b o)) (hy : evl E y = some v) :
    ∃ w', Own w0 F w' (L.set i (.blk b (cs.set o v) bty)) ∧ ∀ a, Fits N E a → (execOp a.eval { dst := dst, op := .store t' x y, type := t, pos := p, after := af, guard := gd }).run P w = .ok .skip w' := by
  refine ⟨_, hO.store hi v, fun a hf => ?_⟩
  have ho' : o < cs.length := by simpa [Nat.blt_eq] using ho
  have hb : w.heap[b]? = some (.cells cs.toArray bty (0, 0)) := hO.get hi
  have hc : w.cell? ⟨b, o, none⟩ = some cs[o] := by simp [World.cell?, hb, ho']
  have hfz : w.frozen? ⟨b, o, none⟩ = false := by simp [World.frozen?, hb]
  simp only [execOp]; rw [hf.ev hx, hf.ev hy]
  have := run_store P w ⟨b, o, none⟩ v .plain hv
  simp only [hc, hfz, Bool.false_eq_true, if_false] at this
  simp [this, Instr.storeAt, Instr.sureAddr, storeVar, run_sizeO ht, hvc, storeCells, Result.andThen, Addr.add]
theorem ef_storeN {i b bty n : Nat} {cs vs : List Value} (ht : sizeO P t' = some n) (hi : L[i]? = some (.blk b cs bty)) (hlv : vs.length = n) (hlc : cs.length = n) (hv : ∀ v ∈ vs, v.oneCell' = true) (hO : Own w0 F w L)
    (hx : evl E x = some (ptr b 0)) (hy : evl E y = some (.agg vs.toArray)) :
    ∃ w', Own w0 F w' (L.set i (.blk b vs bty)) ∧ ∀ a, Fits N E a → (execOp a.eval { dst := dst, op := .store t' x y, type := t, pos := p, after := af, guard := gd }).run P w = .ok .skip w' := by
  have hb : w.heap[b]? = some (.cells cs.toArray bty (0, 0)) := hO.get hi
  have hst := run_storeCells_at P b 0 bty vs 0 cs.toArray w hb (by simp; omega) hv
  have e1 : (cs.toArray.toList.take (0 + 0) ++ vs ++ cs.toArray.toList.drop (0 + 0 + vs.length)) = vs := by
    simp [List.drop_eq_nil_of_le (show cs.length ≤ vs.length by omega)]
  rw [e1] at hst
  have hlt : b < w.heap.size := (Array.getElem?_eq_some_iff.1 hb).1
  refine ⟨w.setRow b vs.toArray, ?_, fun a hf => ?_⟩
  · refine hO.turn (b := b) hi rfl rfl rfl rfl rfl rfl rfl (by simp [World.setRow]) (fun j hj => setRow_other w b j _ hj) ?_
    exact setRow_heap w b cs.toArray vs.toArray bty (0, 0) hb
  · simp only [execOp]; rw [hf.ev hx, hf.ev hy]
    simp [Instr.storeAt, Instr.sureAddr, storeVar, run_sizeO ht, Value.cells, hlv, hst, Result.andThen]
theorem ef_buildSlice {n e sz : Nat} {parts : Array (Nat × Operand)} {vs : List (Nat × Value)} {cs : List Value}
    (hb : ∀ w, (Instr.buildSlice t' n vs.toArray).run P w = .ok (.slice (some ⟨w.heap.size, 0, none⟩) n n) (w.alloc (.cells cs.toArray e))) (hl : cs.length = n * sz) (hm : Nat.ble n 1000000 = true) (hO : Own w0 F w L) (hx : Dk.evps E parts.toList = some vs) :
    ∃ b w', Own w0 F w' (.row (.slice (some ⟨b, 0, none⟩) n n) e sz n cs :: L) ∧ ∀ a, Fits N E a → (execOp a.eval { dst := dst, op := .buildSlice t' n parts, type := t, pos := p, after := af, guard := gd }).run P w = .ok (.value (.slice (some ⟨b, 0, none⟩) n n)) w' := by
  have hm' : n ≤ maxLen := by
    have : n ≤ 1000000 := by simpa using hm
    unfold maxLen; omega
  refine ⟨_, _, hO.newRow cs e sz n hl hm', fun a hf => ?_⟩
  have hp : parts.map (fun (i, x) => (i, a.eval x)) = vs.toArray := by
    apply Array.toList_inj.1
    simpa using hf.evps hx
  simp only [execOp, hp, Sem.run_bind, hb, Result.andThen, Sem.run_pure]
end
end Go.Dk
