/-
  One law for each operation that touches memory. Over any program.
-/
import Derived.Test.YtnfkbhocbdheaacGreatDoorMem
namespace Go.Dk
open Go.RowKit Go.Dm

abbrev ptr (b o : Nat) : Value := .pointer (some ⟨b, o, none⟩)
def aggO (P : Program) (t : TypeId) : Option Bool := (P.underlying t).map fun
  | .struct _ | .array _ _ => true
  | _ => false
def sizeO (P : Program) (t : TypeId) : Option Nat := (P.info? t).map (·.size)

section
variable {P : Program} {w : World}
theorem run_isAgg {t : TypeId} {b : Bool} (h : aggO P t = some b) : (isAgg t).run P w = .ok b w := by
  unfold aggO at h
  cases hu : P.underlying t with
  | none => rw [hu] at h; cases h
  | some d =>
    rw [hu] at h
    simp only [Option.map_some, Option.some.injEq] at h
    unfold isAgg
    simp only [Sem.run_bind, run_underlying hu]
    cases d <;> simp_all
theorem run_sizeO {t : TypeId} {n : Nat} (h : sizeO P t = some n) : (sizeOf t).run P w = .ok n w := by
  unfold sizeO at h
  cases hu : P.info? t with
  | none => rw [hu] at h; cases h
  | some i =>
    rw [hu] at h
    simp only [Option.map_some, Option.some.injEq] at h
    simp [sizeOf, typeInfo, hu, h]
theorem run_loadVar1 {t : TypeId} {a : Addr} {v : Value} (h : aggO P t = some false) (hc : w.cell? a = some v) : (loadVar t a).run P w = .ok v w := by
  simp [loadVar, run_isAgg h, hc]
theorem run_loadVarN {t : TypeId} {b o n : Nat} {vs : List Value} (h : aggO P t = some true) (hn : sizeO P t = some n) (hl : vs.length = n) (hc : ∀ (j : Nat) v, vs[j]? = some v → w.cell? ⟨b, o + j, none⟩ = some v) :
    (loadVar t ⟨b, o, none⟩).run P w = .ok (.agg vs.toArray) w := by
  subst hl
  have hadd : ∀ j, (⟨b, o, none⟩ : Addr).add j = ⟨b, o + j, none⟩ := by intro j; unfold Addr.add; split <;> simp_all
  have := run_loadCells_list (P := P) w ⟨b, o, none⟩ vs (fun j v hv => by rw [hadd]; exact hc j v hv)
  simp [loadVar, run_isAgg h, run_sizeO hn, this]
theorem Sees.cell {b ob o : Nat} {cs : List Value} (h : Sees w (some ⟨b, ob, none⟩) cs) {v : Value} (hv : cs[o]? = some v) : w.cell? ⟨b, ob + o, none⟩ = some v := h.2.2 o v hv
theorem Sees.cells {b ob o n : Nat} {cs vs : List Value} (h : Sees w (some ⟨b, ob, none⟩) cs) (hv : (cs.drop o).take n = vs) (j : Nat) (v : Value) (hj : vs[j]? = some v) : w.cell? ⟨b, ob + o + j, none⟩ = some v := by
  subst hv
  rw [List.getElem?_take] at hj
  split at hj
  · rw [List.getElem?_drop] at hj
    rw [Nat.add_assoc]
    exact h.2.2 _ v hj
  · cases hj
end

section
variable {P : Program} {Q : Exit → Act → World → Prop} {a : Act} {w w0 : World} {N : Nat} {E : Env} {F : List Nat} {L : List Res}
variable {ops : Array Oper} {rest : List Oper} {t t' ty d : Nat} {p : String} {af : Array Edge} {x y : Operand} {dst : Option Nat} {gd : Option (Nat × Bool)}

theorem op_alloc {cs : List Value} (hal : ∀ w, (Instr.alloc ty true (.tuple #[])).run P w = .ok (ptr w.heap.size 0) (w.alloc (.cells cs.toArray ty)))
    (hf : Fits N E a) (hd : Nat.blt d N = true) (hO : Own w0 F w L) (k : ∀ a b w, Fits N ((d, ptr b 0) :: E) a → Own w0 F w (.blk b cs ty :: L) → wpList P ops Q rest a w) :
    wpList P ops Q ({ dst := some d, op := .alloc ty, type := t, pos := p, after := af, guard := none } :: rest) a w :=
  op_run rfl (by simp only [execOp, Sem.run_bind, hal w, Result.andThen, Sem.run_pure]) (k _ _ _ (hf.put hd _) (hO.newBlk cs ty))
theorem op_box {v : Value} {cs : List Value} (hcs : v.cells = cs.toArray)
    (hf : Fits N E a) (hd : Nat.blt d N = true) (hx : evl E x = some v) (hO : Own w0 F w L) (k : ∀ a b w, Fits N ((d, ptr b 0) :: E) a → Own w0 F w (.blk b cs ty :: L) → wpList P ops Q rest a w) :
    wpList P ops Q ({ dst := some d, op := .box ty x, type := t, pos := p, after := af, guard := none } :: rest) a w :=
  op_run (v := ptr w.heap.size 0) (w' := w.alloc (.cells cs.toArray ty)) rfl (by simp only [execOp]; rw [hf.ev hx]; unfold Instr.box newVar; rw [hcs]; simp [newRow, go_sem]) (k _ _ _ (hf.put hd _) (hO.newBlk cs ty))

theorem ex_load1 {b ob o : Nat} {cs : List Value} {v : Value} (ht : aggO P t' = some false) (hS : Sees w (some ⟨b, ob, none⟩) cs) (hv : cs[o]? = some v)
    (hf : Fits N E a) (hx : evl E x = some (ptr b (ob + o))) : (execOp a.eval { dst := dst, op := .load t' x, type := t, pos := p, after := af, guard := gd }).run P w = .ok (.value v) w := by
  simp only [execOp]; rw [hf.ev hx]; simp [Instr.loadAt, Instr.sureAddr, run_loadVar1 ht (hS.cell hv), Result.andThen]
theorem ex_loadN {b ob o n : Nat} {cs vs : List Value} (ht : aggO P t' = some true) (hn : sizeO P t' = some n) (hS : Sees w (some ⟨b, ob, none⟩) cs) (hv : (cs.drop o).take n = vs) (hl : vs.length = n)
    (hf : Fits N E a) (hx : evl E x = some (ptr b (ob + o))) : (execOp a.eval { dst := dst, op := .load t' x, type := t, pos := p, after := af, guard := gd }).run P w = .ok (.value (.agg vs.toArray)) w := by
  simp only [execOp]; rw [hf.ev hx]; simp [Instr.loadAt, Instr.sureAddr, run_loadVarN ht hn hl (hS.cells hv), Result.andThen]
theorem ex_field {b o off i : Nat} (hfa : ∀ b o w, (Instr.fieldAt t' (ptr b o) i).run P w = .ok (ptr b (o + off)) w) (hf : Fits N E a) (hx : evl E x = some (ptr b o)) :
    (execOp a.eval { dst := dst, op := .fieldAddr t' x i, type := t, pos := p, after := af, guard := gd }).run P w = .ok (.value (ptr b (o + off))) w := by
  simp only [execOp]; rw [hf.ev hx]; simp [hfa, Result.andThen]

theorem op_store1 {i b o bty : Nat} {cs : List Value} {v : Value} (ht : sizeO P t' = some 1) (hi : L[i]? = some (.blk b cs bty)) (ho : Nat.blt o cs.length = true) (hv : v.oneCell' = true) (hvc : v.cells = #[v])
    (hf : Fits N E a) (hx : evl E x = some (ptr b o)) (hy : evl E y = some v) (hO : Own w0 F w L) (k : ∀ w, Own w0 F w (L.set i (.blk b (cs.set o v) bty)) → wpList P ops Q rest a w) :
    wpList P ops Q ({ dst := none, op := .store t' x y, type := t, pos := p, after := af, guard := none } :: rest) a w := by
  unfold wpList
  rw [if_pos (by simp [Region.wanted])]
  left
  unfold Oper.wp
  have ho' : o < cs.length := by simpa [Nat.blt_eq] using ho
  have hb : w.heap[b]? = some (.cells cs.toArray bty (0, 0)) := hO.get hi
  have hc : w.cell? ⟨b, o, none⟩ = some cs[o] := by simp [World.cell?, hb, ho']
  have hfz : w.frozen? ⟨b, o, none⟩ = false := by simp [World.frozen?, hb]
  have hrun : (execOp a.eval { dst := none, op := .store t' x y, type := t, pos := p, after := af, guard := none }).run P w = .ok .skip (w.setCell ⟨b, o, none⟩ v) := by
    simp only [execOp]; rw [hf.ev hx, hf.ev hy]
    have := run_store P w ⟨b, o, none⟩ v .plain hv
    simp only [hc, hfz, Bool.false_eq_true, if_false] at this
    simp [this, Instr.storeAt, Instr.sureAddr, storeVar, run_sizeO ht, hvc, storeCells, Result.andThen, Addr.add]
  rw [hrun]
  exact k _ (hO.store hi v)

/-- A whole variable stored anew. -/
theorem op_storeN {i b bty n : Nat} {cs vs : List Value} (ht : sizeO P t' = some n) (hi : L[i]? = some (.blk b cs bty)) (hlv : vs.length = n) (hlc : cs.length = n) (hv : ∀ v ∈ vs, v.oneCell' = true)
    (hf : Fits N E a) (hx : evl E x = some (ptr b 0)) (hy : evl E y = some (.agg vs.toArray)) (hO : Own w0 F w L) (k : ∀ w, Own w0 F w (L.set i (.blk b vs bty)) → wpList P ops Q rest a w) :
    wpList P ops Q ({ dst := none, op := .store t' x y, type := t, pos := p, after := af, guard := none } :: rest) a w := by
  have hb : w.heap[b]? = some (.cells cs.toArray bty (0, 0)) := hO.get hi
  have hst := run_storeCells_at P b 0 bty vs 0 cs.toArray w hb (by simp; omega) hv
  have e1 : (cs.toArray.toList.take (0 + 0) ++ vs ++ cs.toArray.toList.drop (0 + 0 + vs.length)) = vs := by
    simp [List.drop_eq_nil_of_le (show cs.length ≤ vs.length by omega)]
  rw [e1] at hst
  have hlt : b < w.heap.size := (Array.getElem?_eq_some_iff.1 hb).1
  have hrun : (execOp a.eval { dst := none, op := .store t' x y, type := t, pos := p, after := af, guard := none }).run P w = .ok .skip (w.setRow b vs.toArray) := by
    simp only [execOp]; rw [hf.ev hx, hf.ev hy]
    simp [Instr.storeAt, Instr.sureAddr, storeVar, run_sizeO ht, Value.cells, hlv, hst, Result.andThen]
  refine op_skipw hrun rfl rfl (k _ ?_)
  refine hO.turn (b := b) hi rfl rfl rfl rfl rfl rfl rfl (by simp [World.setRow]) (fun j hj => setRow_other w b j _ hj) ?_
  exact setRow_heap w b cs.toArray vs.toArray bty (0, 0) hb

/-- A part of a variable stored anew. -/
theorem op_storeP {i b bty n o : Nat} {cs vs cs' : List Value} (ht : sizeO P t' = some n) (hi : L[i]? = some (.blk b cs bty)) (hlv : vs.length = n) (hlc : Nat.ble (o + n) cs.length = true) (hv : ∀ v ∈ vs, v.oneCell' = true)
    (hcs : cs' = cs.take o ++ vs ++ cs.drop (o + vs.length))
    (hf : Fits N E a) (hx : evl E x = some (ptr b o)) (hy : evl E y = some (.agg vs.toArray)) (hO : Own w0 F w L) (k : ∀ w, Own w0 F w (L.set i (.blk b cs' bty)) → wpList P ops Q rest a w) :
    wpList P ops Q ({ dst := none, op := .store t' x y, type := t, pos := p, after := af, guard := none } :: rest) a w := by
  have hb : w.heap[b]? = some (.cells cs.toArray bty (0, 0)) := hO.get hi
  have hlc' : o + n ≤ cs.length := by simpa using hlc
  have hst := run_storeCells_at P b o bty vs 0 cs.toArray w hb (by simp; omega) hv
  have e1 : (cs.toArray.toList.take (o + 0) ++ vs ++ cs.toArray.toList.drop (o + 0 + vs.length)) = cs' := by
    simp [hcs]
  rw [e1] at hst
  have hlt : b < w.heap.size := (Array.getElem?_eq_some_iff.1 hb).1
  have hrun : (execOp a.eval { dst := none, op := .store t' x y, type := t, pos := p, after := af, guard := none }).run P w = .ok .skip (w.setRow b cs'.toArray) := by
    simp only [execOp]; rw [hf.ev hx, hf.ev hy]
    simp [Instr.storeAt, Instr.sureAddr, storeVar, run_sizeO ht, Value.cells, hlv, hst, Result.andThen]
  refine op_skipw hrun rfl rfl (k _ ?_)
  refine hO.turn (b := b) hi rfl rfl rfl rfl rfl rfl rfl (by simp [World.setRow]) (fun j hj => setRow_other w b j _ hj) ?_
  exact setRow_heap w b cs.toArray cs'.toArray bty (0, 0) hb

/-- The cells of a list. -/
def cells {α : Type} (enc : α → List Value) (xs : List α) : List Value := xs.flatMap enc
theorem cells_get {α : Type} {enc : α → List Value} {sz : Nat} (hsz : ∀ x, (enc x).length = sz) : ∀ (xs : List α) (i j : Nat) (x : α), xs[i]? = some x → j < sz → (cells enc xs)[i * sz + j]? = (enc x)[j]?
  | [], _, _, _, h, _ => by simp at h
  | y :: xs, 0, j, x, h, hj => by
    simp at h; subst h
    simp only [cells, List.flatMap_cons, Nat.zero_mul, Nat.zero_add]
    rw [List.getElem?_append_left (by rw [hsz]; exact hj)]
  | y :: xs, i + 1, j, x, h, hj => by
    simp at h
    have := cells_get hsz xs i j x h hj
    simp only [cells, List.flatMap_cons] at this ⊢
    rw [List.getElem?_append_right (by rw [hsz, Nat.add_mul]; omega), hsz, ← this]
    congr 1
    rw [Nat.add_mul]; omega
theorem cells_length {α : Type} {enc : α → List Value} {sz : Nat} (hsz : ∀ x, (enc x).length = sz) (xs : List α) : (cells enc xs).length = xs.length * sz := by
  induction xs with
  | nil => simp [cells]
  | cons y xs ih => simp only [cells, List.flatMap_cons, List.length_append, hsz, List.length_cons, Nat.add_mul] at ih ⊢; omega
theorem cells_append {α : Type} (enc : α → List Value) (xs ys : List α) : cells enc (xs ++ ys) = cells enc xs ++ cells enc ys := by simp [cells]
theorem run_indexAt {ad : Addr} {n c e sz : Nat} {i : Int} (ht : P.underlying t = some (.slice e)) (hn : sizeO P e = some sz) (h0 : 0 ≤ i) (h1 : i < n) :
    (Instr.indexAt t (.slice (some ad) n c) (int i)).run P w = .ok (.pointer (some (ad.add (i.toNat * sz)))) w := by
  have h : 0 ≤ i ∧ i < (n : Int) := ⟨h0, h1⟩
  simp [Instr.indexAt, asIntOf, run_underlying ht, h, run_sizeO hn, Result.andThen]

/-- An element's place, of a slice that is looked at. -/
theorem elemAt {α : Type} {enc : α → List Value} {sz e c : Nat} {ad : Option Addr} {xs : List α} {m : Int} {z : α} (t : TypeId)
    (ht : P.underlying t = some (.slice e)) (hn : sizeO P e = some sz) (hpos : 0 < sz) (hsz : ∀ x, (enc x).length = sz) (hs : Sees w ad (cells enc xs)) (hr : lAt xs m = some z) :
    ∃ b o, (∀ w, (Instr.indexAt t (.slice ad xs.length c) (int m)).run P w = .ok (ptr b o) w) ∧ ∀ w, Sees w ad (cells enc xs) → Sees w (some ⟨b, o, none⟩) (enc z) := by
  unfold lAt at hr
  split at hr
  · rename_i h0
    have hlt : m.toNat < xs.length := (List.getElem?_eq_some_iff.1 hr).1
    have hlen := cells_length hsz xs
    cases ad with
    | none =>
      exfalso
      have hnil : cells enc xs = [] := hs
      rw [hnil] at hlen
      have : 1 * sz ≤ xs.length * sz := Nat.mul_le_mul_right _ (by omega)
      simp at hlen
      omega
    | some ad =>
      have hsp := hs.1
      have hadd : ad.add (m.toNat * sz) = ⟨ad.block, ad.off + m.toNat * sz, none⟩ := by
        unfold Addr.add
        split
        · rename_i h
          rw [h, Nat.add_zero, ← hsp]
        · rfl
      refine ⟨ad.block, ad.off + m.toNat * sz, fun w => ?_, fun w hs => ?_⟩
      · rw [run_indexAt ht hn h0 (by omega : m < (xs.length : Int)), hadd]
      · obtain ⟨_, hlt', hc⟩ := hs
        refine ⟨rfl, hlt', fun j v hv => ?_⟩
        have hj : j < sz := by rw [← hsz z]; exact (List.getElem?_eq_some_iff.1 hv).1
        have := hc (m.toNat * sz + j) v (by rw [cells_get hsz xs m.toNat j z hr hj]; exact hv)
        rwa [Nat.add_assoc]
  · cases hr
theorem cells_drop {α : Type} {enc : α → List Value} {sz : Nat} (hsz : ∀ x, (enc x).length = sz) : ∀ (xs : List α) (l : Nat), cells enc (xs.drop l) = (cells enc xs).drop (l * sz)
  | xs, 0 => by simp
  | [], l + 1 => by simp [cells]
  | x :: xs, l + 1 => by
    have e : cells enc (x :: xs) = enc x ++ cells enc xs := rfl
    rw [List.drop_succ_cons, cells_drop hsz xs l, e, Nat.add_mul, Nat.one_mul, List.drop_append, hsz, List.drop_eq_nil_of_le (show (enc x).length ≤ _ by rw [hsz]; omega), Nat.add_sub_cancel, List.nil_append]
theorem cells_take {α : Type} {enc : α → List Value} {sz : Nat} (hsz : ∀ x, (enc x).length = sz) : ∀ (xs : List α) (l : Nat), cells enc (xs.take l) = (cells enc xs).take (l * sz)
  | xs, 0 => by simp [cells]
  | [], l + 1 => by simp [cells]
  | x :: xs, l + 1 => by
    have e : cells enc (x :: xs) = enc x ++ cells enc xs := rfl
    have e2 : cells enc (x :: xs.take l) = enc x ++ cells enc (xs.take l) := rfl
    rw [List.take_succ_cons, e2, cells_take hsz xs l, e, Nat.add_mul, Nat.one_mul, List.take_append, hsz, List.take_of_length_le (show (enc x).length ≤ _ by rw [hsz]; omega), Nat.add_sub_cancel]
/-- A part of a slice. -/
theorem sliceGen {α : Type} {enc : α → List Value} {sz c : Nat} {ad : Option Addr} {xs : List α} {l h : Nat} (hsz : ∀ x, (enc x).length = sz) (hc : xs.length ≤ c) (hlh : l ≤ h) (hhn : h ≤ xs.length) :
    (∀ w, Sees w ad (cells enc xs) → Sees w (if c = l then ad else ad.map (·.add (l * sz))) (cells enc ((xs.take h).drop l))) ∧ ((xs.take h).drop l).length = h - l ∧ h - l ≤ c - l ∧
      (Sees w ad (cells enc xs) → ∀ x, (if c = l then ad else ad.map (·.add (l * sz))) = some x → ∃ y, ad = some y ∧ y.block = x.block) := by
  have hadd : ∀ (b o k : Nat), (⟨b, o, none⟩ : Addr).add k = ⟨b, o + k, none⟩ := by intro b o k; unfold Addr.add; split <;> simp_all
  refine ⟨fun w hs => ?_, by rw [List.length_drop, List.length_take, Nat.min_eq_left hhn], by omega, fun hs x hx => ?_⟩
  · have hcell : ∀ j v, (cells enc ((xs.take h).drop l))[j]? = some v → (cells enc xs)[l * sz + j]? = some v := by
      intro j v hj
      rw [cells_drop hsz, cells_take hsz, List.getElem?_drop] at hj
      rw [List.getElem?_take] at hj
      split at hj
      · exact hj
      · cases hj
    cases ad with
    | none =>
      have hnil : cells enc xs = [] := hs
      split
      · show cells enc _ = []
        apply List.eq_nil_iff_forall_not_mem.2
        intro v hv
        obtain ⟨j, hj⟩ := List.mem_iff_getElem?.1 hv
        have := hcell j v hj
        rw [hnil] at this; simp at this
      · show cells enc _ = []
        apply List.eq_nil_iff_forall_not_mem.2
        intro v hv
        obtain ⟨j, hj⟩ := List.mem_iff_getElem?.1 hv
        have := hcell j v hj
        rw [hnil] at this; simp at this
    | some a =>
      obtain ⟨b, o, spot⟩ := a
      obtain ⟨h1, h2, h3⟩ := hs
      simp only at h1; subst h1
      split
      · rename_i hcl
        have hz : (xs.take h).drop l = [] := List.drop_eq_nil_of_le (by rw [List.length_take]; omega)
        rw [hz]
        exact ⟨rfl, h2, fun i v hv => by simp [cells] at hv⟩
      · show Sees w (some ((⟨b, o, none⟩ : Addr).add (l * sz))) _
        rw [hadd]
        exact ⟨rfl, h2, fun i v hv => by have := h3 _ v (hcell i v hv); rwa [← Nat.add_assoc] at this⟩
  · cases ad with
    | none => split at hx <;> cases hx
    | some a =>
      obtain ⟨b, o, spot⟩ := a
      obtain ⟨h1, _, _⟩ := hs
      simp only at h1; subst h1
      refine ⟨_, rfl, ?_⟩
      split at hx
      · cases hx; rfl
      · simp only [Option.map_some, hadd, Option.some.injEq] at hx
        subst hx; rfl
theorem sliceFrom {α : Type} {enc : α → List Value} {sz e c : Nat} {ad : Option Addr} {xs z : List α} {i : Int} (t : TypeId) (ht : P.underlying t = some (.slice e)) (hn : sizeO P e = some sz) (hsz : ∀ x, (enc x).length = sz) (hs : Sees w ad (cells enc xs)) (hc : xs.length ≤ c) (hr : lFrom xs i = some z) :
    ∃ ad' c', (∀ w, (Instr.slice t (.slice ad xs.length c) (some (int i)) none none).run P w = .ok (.slice ad' z.length c') w) ∧ (∀ w, Sees w ad (cells enc xs) → Sees w ad' (cells enc z)) ∧ z.length ≤ c' ∧ ∀ x, ad' = some x → ∃ y, ad = some y ∧ y.block = x.block := by
  unfold lFrom at hr
  split at hr
  · rename_i hb
    obtain rfl := Option.some.inj hr
    obtain ⟨h1, h2, h3, h4⟩ := sliceGen (w := w) (enc := enc) (ad := ad) (l := i.toNat) (h := xs.length) hsz hc (by omega) (Nat.le_refl _)
    rw [List.take_length] at h1 h2
    refine ⟨_, c - i.toNat, fun w => ?_, h1, by rw [h2]; exact h3, h4 hs⟩
    have hb' : 0 ≤ i ∧ i ≤ (xs.length : Int) := hb
    rw [h2]
    simp [Instr.slice, Instr.sliceBounds, Instr.sliceBound, asIntOf, run_underlying ht, run_sizeO hn, hb', Result.andThen]
  · cases hr
theorem ex_sliceFrom {e : TypeId} {ad ad' : Option Addr} {n c n' c' : Nat} {i : Int} (ht : P.underlying t' = some (.slice e)) (hi : ∀ w, (Instr.slice t' (.slice ad n c) (some (int i)) none none).run P w = .ok (.slice ad' n' c') w) (hf : Fits N E a) (hx : evl E x = some (.slice ad n c)) (hy : evl E y = some (int i)) :
    (execOp a.eval { dst := dst, op := .slice t' x (some y) none none, type := t, pos := p, after := af, guard := gd }).run P w = .ok (.value (.slice ad' n' c')) w := by
  simp only [execOp, Option.map_some, Option.map_none]; rw [hf.ev hx, hf.ev hy]; simp [Instr.sliceAt, run_underlying ht, hi, Result.andThen]
theorem ex_indexAddr {ad : Option Addr} {n c b o : Nat} {m : Int} (hi : ∀ w, (Instr.indexAt t' (.slice ad n c) (int m)).run P w = .ok (ptr b o) w) (hf : Fits N E a) (hx : evl E x = some (.slice ad n c)) (hy : evl E y = some (int m)) :
    (execOp a.eval { dst := dst, op := .indexAddr t' x y, type := t, pos := p, after := af, guard := gd }).run P w = .ok (.value (ptr b o)) w := by
  simp only [execOp]
  rw [hf.ev hx, hf.ev hy]
  simp only [Sem.run_bind, hi, Result.andThen, Sem.run_pure]

def evps (E : Env) : List (Nat × Operand) → Option (List (Nat × Value))
  | [] => some []
  | (i, x) :: xs => match evl E x with
    | none => none
    | some v => match evps E xs with
      | none => none
      | some vs => some ((i, v) :: vs)
theorem Fits.evps (h : Fits N E a) : ∀ {xs : List (Nat × Operand)} {vs : List (Nat × Value)}, Dk.evps E xs = some vs → xs.map (fun (i, x) => (i, a.eval x)) = vs
  | [], _, e => by simp [Dk.evps] at e; simp [e]
  | (i, x) :: xs, vs, e => by
    cases hx : evl E x with
    | none => simp [Dk.evps, hx] at e
    | some v =>
      cases hxs : Dk.evps E xs with
      | none => simp [Dk.evps, hx, hxs] at e
      | some us =>
        simp [Dk.evps, hx, hxs] at e
        subst e
        simp only [List.map_cons, h.ev hx, Fits.evps h hxs]
theorem ex_build {parts : Array (Nat × Operand)} {vs : List (Nat × Value)} {v : Value} (hf : Fits N E a) (hx : Dk.evps E parts.toList = some vs) (hb : (Instr.build t' vs.toArray).run P w = .ok v w) :
    (execOp a.eval { dst := dst, op := .build t' parts, type := t, pos := p, after := af, guard := gd }).run P w = .ok (.value v) w := by
  have hp : parts.map (fun (i, x) => (i, a.eval x)) = vs.toArray := by
    apply Array.toList_inj.1
    simpa using hf.evps hx
  simp only [execOp, hp, Sem.run_bind, hb, Result.andThen, Sem.run_pure]
theorem op_buildSlice {n e sz : Nat} {parts : Array (Nat × Operand)} {vs : List (Nat × Value)} {cs : List Value} (hf : Fits N E a) (hd : Nat.blt d N = true) (hx : Dk.evps E parts.toList = some vs)
    (hb : ∀ w, (Instr.buildSlice t' n vs.toArray).run P w = .ok (.slice (some ⟨w.heap.size, 0, none⟩) n n) (w.alloc (.cells cs.toArray e))) (hl : cs.length = n * sz) (hm : Nat.ble n 1000000 = true) (hO : Own w0 F w L)
    (k : ∀ a b w, Fits N ((d, .slice (some ⟨b, 0, none⟩) n n) :: E) a → Own w0 F w (.row (.slice (some ⟨b, 0, none⟩) n n) e sz n cs :: L) → wpList P ops Q rest a w) :
    wpList P ops Q ({ dst := some d, op := .buildSlice t' n parts, type := t, pos := p, after := af, guard := none } :: rest) a w := by
  have hp : parts.map (fun (i, x) => (i, a.eval x)) = vs.toArray := by
    apply Array.toList_inj.1
    simpa using hf.evps hx
  have hm' : n ≤ maxLen := by
    have : n ≤ 1000000 := by simpa using hm
    unfold maxLen; omega
  exact op_run rfl (by simp only [execOp, hp, Sem.run_bind, hb, Result.andThen, Sem.run_pure]) (k _ _ _ (hf.put hd _) (hO.newRow cs e sz n hl hm'))

/-- What is owned, and no longer written, is shared from here on. -/
theorem Own.give {i : Nat} {r : Res} {ad : Option Addr} {cs : List Value} (h : Own w0 F w L) (hi : L[i]? = some r) (hs : Sees w ad cs) (hfp : ad.map (·.block) = r.fp) : Own w0 F w (L.set i (.shr ad cs)) := by
  obtain ⟨hi1, hi2⟩ := List.getElem?_eq_some_iff.1 hi
  have hp := List.pairwise_iff_getElem.1 h.sep
  refine ⟨h.os, h.tape, h.output, h.size, h.frame, ?_, ?_, ?_⟩
  · intro s hs'
    obtain ⟨j, hj, rfl⟩ := List.mem_iff_getElem.1 hs'
    rw [List.getElem_set] at *
    split
    · exact hs
    · exact h.holds _ (List.getElem_mem (by simpa using hj))
  · intro s hs' hsh b hb
    obtain ⟨j, hj, rfl⟩ := List.mem_iff_getElem.1 hs'
    rw [List.getElem_set] at hsh hb
    split at hb
    · rename_i e; rw [if_pos e] at hsh; cases hsh
    · rename_i e; rw [if_neg e] at hsh
      exact h.fresh _ (List.getElem_mem (by simpa using hj)) hsh b hb
  · refine List.pairwise_iff_getElem.2 fun j k hj hk hlt => ?_
    have hj' : j < L.length := by simpa using hj
    have hk' : k < L.length := by simpa using hk
    have h0 := hp j k hj' hk' hlt
    rw [List.getElem_set, List.getElem_set]
    by_cases e1 : i = j
    · subst e1
      rw [if_pos rfl, if_neg (by omega : ¬ i = k)]
      rw [hi2] at h0
      by_cases hsk : (L[k]).shared = true
      · exact .inl ⟨rfl, hsk⟩
      · rcases h0 with ⟨_, h2⟩ | h2
        · exact absurd h2 hsk
        · exact .inr fun b h3 h4 => h2 b (by rw [← hfp]; exact h3) h4
    · by_cases e2 : i = k
      · subst e2
        rw [if_neg e1, if_pos rfl]
        rw [hi2] at h0
        by_cases hsk : (L[j]).shared = true
        · exact .inl ⟨hsk, rfl⟩
        · rcases h0 with ⟨h2, _⟩ | h2
          · exact absurd h2 hsk
          · exact .inr fun b h3 h4 => h2 b h3 (by rw [← hfp]; exact h4)
      · rw [if_neg e1, if_neg e2]
        exact h0
theorem Own.giveRow {i e sz n c : Nat} {ad : Option Addr} {xs : List Value} (h : Own w0 F w L) (hi : L[i]? = some (.row (.slice ad n c) e sz n xs)) : Own w0 F w (L.set i (.shr ad xs)) := by
  refine h.give hi (h.rowSees hi) ?_
  cases ad <;> rfl
theorem Sees.nil (w : World) : Sees w none [] := rfl
theorem Own.nilRow (h : Own w0 F w L) (e sz : Nat) : Own w0 F w (.row (.slice none 0 0) e sz 0 [] :: L) := by
  refine ⟨h.os, h.tape, h.output, h.size, h.frame, ?_, ?_, ?_⟩
  · intro r hr
    rcases List.mem_cons.1 hr with rfl | hr
    · exact World.ownsRow_nil w 0 e sz
    · exact h.holds r hr
  · intro r hr hsh b hb
    rcases List.mem_cons.1 hr with rfl | hr
    · simp [Res.fp, Value.ownBlock] at hb
    · exact h.fresh r hr hsh b hb
  · exact List.pairwise_cons.2 ⟨fun s _ => .inr fun b h1 _ => by simp [Res.fp, Value.ownBlock] at h1, h.sep⟩
theorem Own.addShr (h : Own w0 F w L) {ad : Option Addr} {cs : List Value} (hs : Sees w ad cs) (hL : ∀ r ∈ L, r.shared = true) : Own w0 F w (.shr ad cs :: L) := by
  refine ⟨h.os, h.tape, h.output, h.size, h.frame, ?_, ?_, ?_⟩
  · intro r hr
    rcases List.mem_cons.1 hr with rfl | hr
    · exact hs
    · exact h.holds r hr
  · intro r hr hsh b hb
    rcases List.mem_cons.1 hr with rfl | hr
    · cases hsh
    · exact h.fresh r hr hsh b hb
  · exact List.pairwise_cons.2 ⟨fun s hs => .inl ⟨rfl, hL s hs⟩, h.sep⟩

theorem run_append_strong (t ty e : TypeId) (i : TypeInfo) (z : Value) (size bytes : Nat) (ht : P.underlying t = some (.slice e)) (hi : P.info? e = some i) (hz : i.zero = some z)
    (hsize : i.size = size) (hby : i.bytes = bytes) (hzs : z.cells.size = size) (hsz : 0 < size)
    (v : Value) (n : Nat) (xs : List Value) (hown : w.ownsRow 0 e size v n xs)
    (ad : Addr) (m c : Nat) (news : List Value) (hl : news.length = m * size) (hnews : ∀ j u, news[j]? = some u → w.cell? (ad.add j) = some u) (h1 : ∀ u ∈ news, u.oneCell' = true)
    (h63 : n + m ≤ maxLen) (hbytes : (n + m) * bytes ≤ 140737488355328) :
    ∃ ad' c' w', (Builtin.append_ #[t, t] ty #[v, .slice (some ad) m c]).run P w = .ok (.slice ad' (n + m) c') w' ∧ w'.ownsRow 0 e size (.slice ad' (n + m) c') (n + m) (xs ++ news) ∧ w.grownBy w' v.ownBlock ∧
      ((Value.slice ad' (n + m) c').ownBlock = v.ownBlock ∨ (Value.slice ad' (n + m) c').ownBlock = some w.heap.size) := by
  obtain ⟨v', w', hr, h2, h3, h4⟩ := run_append_own (P := P) w 0 t ty e i z size bytes ht hi hz hsize hby hzs hsz v n xs hown ad m c news hl hnews h1 h63 hbytes (Nat.zero_le _)
  have hsmall : n + m ≤ 9223372036854775807 := by simp only [maxLen] at h63; omega
  subst hsize
  subst hby
  have key : ∃ ad' c', v' = .slice ad' (n + m) c' ∧ (v'.ownBlock = v.ownBlock ∨ v'.ownBlock = some w.heap.size) := by
    rcases hown.2 with ⟨rfl, rfl⟩ | ⟨g, cap, cur, rfl, hbg, hg, hnc, hcm, hcs, htake⟩
    · by_cases hm : m = 0
      · subst hm
        have := h4.2 ⟨rfl, rfl⟩
        subst this
        exact ⟨none, 0, rfl, .inl rfl⟩
      · have hr2 := run_append_nil (P := P) w t ty e i z ht hi hz ad m c news hl hnews (by omega) (by omega) (by have hb := hbytes; simp only [Nat.zero_add] at hb; omega)
        rw [hr2] at hr
        injection hr with e1 e2
        subst e1
        exact ⟨_, _, by rw [Nat.zero_add], .inr rfl⟩
    · by_cases hroom : n + m ≤ cap
      · have hfit : n * i.size + news.length ≤ cur.size := by rw [hl, hcs, ← Nat.add_mul]; exact Nat.mul_le_mul_right _ hroom
        have hr2 := run_append_room (P := P) w t ty e i ht hi g n cap cur hg ad m c news hl hnews h1 hroom hfit
        rw [hr2] at hr
        injection hr with e1 e2
        subst e1
        exact ⟨_, _, rfl, .inl rfl⟩
      · have holds : ∀ j u, xs[j]? = some u → w.cell? ((⟨g, 0, none⟩ : Addr).add j) = some u := hown.cells (g := g) rfl
        have hr2 := run_append_grow (P := P) w t ty e i z ht hi hz ⟨g, 0, none⟩ n cap xs hown.1 holds ad m c news hl hnews (by omega) (by omega) (growslice_fits (by omega) hbytes)
        rw [hr2] at hr
        injection hr with e1 e2
        subst e1
        exact ⟨_, _, rfl, .inr rfl⟩
  obtain ⟨ad', c', rfl, hk⟩ := key
  exact ⟨ad', c', w', hr, h2, h3, hk⟩

/-- A row that has grown. -/
theorem Own.grown {i e sz n n' : Nat} {v v' : Value} {xs xs' : List Value} {w' : World} (h : Own w0 F w L) (hi : L[i]? = some (.row v e sz n xs)) (hg : w.grownBy w' v.ownBlock) (ho : w'.ownsRow 0 e sz v' n' xs')
    (hb : v'.ownBlock = v.ownBlock ∨ v'.ownBlock = some w.heap.size) : Own w0 F w' (L.set i (.row v' e sz n' xs')) := by
  obtain ⟨hi1, hi2⟩ := List.getElem?_eq_some_iff.1 hi
  have hp := List.pairwise_iff_getElem.1 h.sep
  have hold := h.get hi
  have hfr := h.fresh _ (List.mem_of_getElem? hi) rfl
  have hne : ∀ j (hj : j < L.length), j ≠ i → ∀ b, (L[j]).fp = some b → v.ownBlock ≠ some b := by
    intro j hj hji b e1 e2
    rcases Nat.lt_or_gt_of_ne hji with hlt | hlt
    · rcases hp j i hj hi1 hlt with ⟨_, h2⟩ | h2
      · rw [hi2] at h2; cases h2
      · exact h2 b e1 (by rw [hi2]; exact e2)
    · rcases hp i j hi1 hj hlt with ⟨h2, _⟩ | h2
      · rw [hi2] at h2; cases h2
      · exact h2 b (by rw [hi2]; exact e2) e1
  have hapart : ∀ j (hj : j < L.length), j ≠ i → ∀ b, v'.ownBlock = some b → (L[j]).fp = some b → False := by
    intro j hj hji b h1 h2
    rcases hb with h3 | h3
    · exact hne j hj hji b h2 (by rw [← h3]; exact h1)
    · rw [h3] at h1; obtain rfl := Option.some.inj h1
      have := Res.fp_lt (h.holds _ (List.getElem_mem hj)) h2
      omega
  refine ⟨hg.os.trans h.os, hg.tape.trans h.tape, hg.output.trans h.output, Nat.le_trans h.size hg.size, ?_, ?_, ?_, ?_⟩
  · intro k h1 h2
    refine (hg.block k (Nat.lt_of_lt_of_le h1 h.size) ?_).trans (h.frame k h1 h2)
    intro e
    rcases hfr k e.symm with h3 | h3
    · exact h2 h3
    · omega
  · intro s hs
    obtain ⟨j, hj, rfl⟩ := List.mem_iff_getElem.1 hs
    rw [List.getElem_set] at *
    split
    · exact ho
    · rename_i hji
      have hj' : j < L.length := by simpa using hj
      have hh := h.holds _ (List.getElem_mem hj')
      exact Res.holds_of hh hg.size fun b hbf => hg.block b (Res.fp_lt hh hbf) fun e => hne j hj' (fun e => hji e.symm) b hbf e.symm
  · intro s hs hsh b hbf
    obtain ⟨j, hj, rfl⟩ := List.mem_iff_getElem.1 hs
    rw [List.getElem_set] at hsh hbf
    split at hbf
    · rcases hb with h3 | h3
      · exact hfr b (by show v.ownBlock = some b; rw [← h3]; exact hbf)
      · simp only [Res.fp] at hbf
        rw [h3] at hbf; obtain rfl := Option.some.inj hbf
        exact .inr h.size
    · rename_i e1; rw [if_neg e1] at hsh
      exact h.fresh _ (List.getElem_mem (by simpa using hj)) hsh b hbf
  · refine List.pairwise_iff_getElem.2 fun j k hj hk hlt => ?_
    have hj' : j < L.length := by simpa using hj
    have hk' : k < L.length := by simpa using hk
    rw [List.getElem_set, List.getElem_set]
    by_cases e1 : i = j
    · subst e1
      rw [if_pos rfl, if_neg (by omega : ¬ i = k)]
      exact .inr fun b h1 h2 => hapart k hk' (by omega) b h1 h2
    · by_cases e2 : i = k
      · subst e2
        rw [if_neg e1, if_pos rfl]
        exact .inr fun b h1 h2 => hapart j hj' (fun e => e1 e.symm) b h2 h1
      · rw [if_neg e1, if_neg e2]
        exact hp j k hj' hk' hlt

/-- What a type's row of the table says, for append. -/
structure Elem (P : Program) (t e size bytes : Nat) : Prop where
  under : P.underlying t = some (.slice e)
  info : ∃ i z, P.info? e = some i ∧ i.zero = some z ∧ i.size = size ∧ i.bytes = bytes ∧ z.cells.size = size
  pos : 0 < size

theorem op_append {e size bytes i n m c c2 : Nat} {ad : Option Addr} {b2 o2 : Nat} {xs news : List Value} (he : Elem P t' e size bytes)
    (hi : L[i]? = some (.row (.slice ad n c) e size n xs)) (hS : Sees w (some ⟨b2, o2, none⟩) news) (hl : news.length = m * size) (h1 : ∀ u ∈ news, u.oneCell' = true) (hfit : fitsApp n m bytes = true)
    (hf : Fits N E a) (hd : Nat.blt d N = true) (hx : evl E x = some (.slice ad n c)) (hy : evl E y = some (.slice (some ⟨b2, o2, none⟩) m c2)) (hO : Own w0 F w L)
    (k : ∀ a ad c w, Fits N ((d, .slice ad (n + m) c) :: E) a → Own w0 F w (L.set i (.row (.slice ad (n + m) c) e size (n + m) (xs ++ news))) → wpList P ops Q rest a w) :
    wpList P ops Q ({ dst := some d, op := .call { callee := .builtin .append, args := #[x, y], argTypes := #[t', t'] }, type := t, pos := p, after := af, guard := none } :: rest) a w := by
  obtain ⟨hu, ⟨ti, z, hti, hz, hs1, hs2, hzs⟩, hpos⟩ := he
  simp only [fitsApp, Bool.and_eq_true, decide_eq_true_eq] at hfit
  have hadd : ∀ j, (⟨b2, o2, none⟩ : Addr).add j = ⟨b2, o2 + j, none⟩ := by intro j; unfold Addr.add; split <;> simp_all
  obtain ⟨ad', c', w', hr, h2, h3, h4⟩ := run_append_strong (P := P) (w := w) t' t e ti z size bytes hu hti hz hs1 hs2 hzs hpos (.slice ad n c) n xs (hO.get hi) ⟨b2, o2, none⟩ m c2 news hl
    (fun j u hj => by rw [hadd]; exact hS.2.2 j u hj) h1 (by unfold maxLen; omega) hfit.2
  have hxv := hf.ev hx
  have hyv := hf.ev hy
  refine op_run (v := .slice ad' (n + m) c') (w' := w') rfl ?_ (k _ _ _ _ (hf.put hd _) (hO.grown hi h3 h2 h4))
  simp only [execOp, resolve, invoke, builtin, Sem.run_bind, Sem.run_pure, Result.andThen_ok, List.map_toArray, List.map_cons, List.map_nil, hxv, hyv, hr]
theorem op_appendT {α : Type} {enc : α → List Value} {e size bytes i c c2 : Nat} {ad : Option Addr} {b2 o2 : Nat} {xs ys : List α} {news : List Value} (he : Elem P t' e size bytes) (hsz : ∀ x, (enc x).length = size)
    (hi : L[i]? = some (.row (.slice ad xs.length c) e size xs.length (cells enc xs))) (hS : Sees w (some ⟨b2, o2, none⟩) news) (h1 : ∀ u ∈ cells enc ys, u.oneCell' = true) (hfit : fitsApp xs.length ys.length bytes = true)
    (hf : Fits N E a) (hd : Nat.blt d N = true) (hx : evl E x = some (.slice ad xs.length c)) (hy : evl E y = some (.slice (some ⟨b2, o2, none⟩) ys.length c2)) (hO : Own w0 F w L)
    (k : ∀ a ad c w, Fits N ((d, .slice ad (xs ++ ys).length c) :: E) a → Own w0 F w (L.set i (.row (.slice ad (xs ++ ys).length c) e size (xs ++ ys).length (cells enc (xs ++ ys)))) → wpList P ops Q rest a w)
    (hnews : news = cells enc ys := by rfl) :
    wpList P ops Q ({ dst := some d, op := .call { callee := .builtin .append, args := #[x, y], argTypes := #[t', t'] }, type := t, pos := p, after := af, guard := none } :: rest) a w := by
  subst hnews
  refine op_append he hi hS (cells_length hsz ys) h1 hfit hf hd hx hy hO fun a ad c w hf hO => ?_
  rw [← List.length_append, ← cells_append] at hO
  rw [← List.length_append] at hf
  exact k a ad c w hf hO
theorem run_append_noneC (t ty e : TypeId) (i : TypeInfo) (size c : Nat) (ht : P.underlying t = some (.slice e)) (hi : P.info? e = some i) (v : Value) (n : Nat) (xs : List Value) (hown : w.ownsRow 0 e size v n xs) :
    (Builtin.append_ #[t, t] ty #[v, .slice none 0 c]).run P w = .ok v w := by
  rcases hown.2 with ⟨rfl, rfl⟩ | ⟨g, cap, cur, rfl, _, _, hnc, _⟩
  · simp [Builtin.append_, run_underlying ht, sizeOf, typeInfo, hi, Builtin.lenOf, Builtin.firstCells]
  · simp [Builtin.append_, run_underlying ht, sizeOf, typeInfo, hi, Builtin.lenOf, Builtin.firstCells, hnc, storeCells]
theorem cells_nil_of {α : Type} {enc : α → List Value} {sz : Nat} (hsz : ∀ x, (enc x).length = sz) (hpos : 0 < sz) {ys : List α} (h : cells enc ys = []) : ys = [] := by
  have := cells_length hsz ys
  rw [h] at this
  cases ys with
  | nil => rfl
  | cons y ys =>
    simp only [List.length_nil, List.length_cons] at this
    have h2 : 0 < (ys.length + 1) * sz := Nat.mul_pos (by omega) hpos
    omega
theorem set_same {α : Type} {l : List α} {i : Nat} {x : α} (h : l[i]? = some x) : l.set i x = l := by
  obtain ⟨h1, h2⟩ := List.getElem?_eq_some_iff.1 h
  rw [← h2]; exact List.set_getElem_self h1
theorem cells_one' {α : Type} {enc : α → List Value} (h : ∀ x, ∀ u ∈ enc x, u.oneCell' = true) (ys : List α) : ∀ u ∈ cells enc ys, u.oneCell' = true := by
  intro u hu
  unfold cells at hu
  obtain ⟨y, _, hy⟩ := List.mem_flatMap.1 hu
  exact h y u hy
theorem ef_appendS {α : Type} {enc : α → List Value} {e size bytes i c c2 : Nat} {ad ad2 : Option Addr} {xs ys : List α} (he : Elem P t' e size bytes) (hsz : ∀ x, (enc x).length = size)
    (hi : L[i]? = some (.row (.slice ad xs.length c) e size xs.length (cells enc xs))) (hS : Sees w ad2 (cells enc ys)) (h1 : ∀ x, ∀ u ∈ enc x, u.oneCell' = true) (hfit : fitsApp xs.length ys.length bytes = true) (hO : Own w0 F w L)
    (hx : evl E x = some (.slice ad xs.length c)) (hy : evl E y = some (.slice ad2 ys.length c2)) :
    ∃ ad' c' w', Own w0 F w' (L.set i (.row (.slice ad' (xs ++ ys).length c') e size (xs ++ ys).length (cells enc (xs ++ ys)))) ∧
      ∀ a, Fits N E a → (execOp a.eval { dst := dst, op := .call { callee := .builtin .append, args := #[x, y], argTypes := #[t', t'] }, type := t, pos := p, after := af, guard := gd }).run P w = .ok (.value (.slice ad' (xs ++ ys).length c')) w' := by
  obtain ⟨hu, ⟨ti, z, hti, hz, hs1, hs2, hzs⟩, hpos⟩ := he
  cases ad2 with
  | none =>
    have : ys = [] := cells_nil_of hsz hpos hS
    subst this
    have hr := run_append_noneC (P := P) (w := w) t' t e ti size c2 hu hti (.slice ad xs.length c) xs.length _ (hO.get hi)
    refine ⟨ad, c, w, ?_, fun a hf => ?_⟩
    · rw [List.append_nil, set_same hi]; exact hO
    · have hxv := hf.ev hx
      have hyv := hf.ev hy
      simp only [List.length_nil] at hyv
      simp only [execOp, resolve, invoke, builtin, Sem.run_bind, Sem.run_pure, Result.andThen_ok, List.map_toArray, List.map_cons, List.map_nil, hxv, hyv, hr, List.append_nil]
  | some ad2 =>
    obtain ⟨b2, o2, spot⟩ := ad2
    obtain ⟨rfl, hlt, hcell⟩ := hS
    simp only [fitsApp, Bool.and_eq_true, decide_eq_true_eq] at hfit
    have hadd : ∀ j, (⟨b2, o2, none⟩ : Addr).add j = ⟨b2, o2 + j, none⟩ := by intro j; unfold Addr.add; split <;> simp_all
    obtain ⟨ad', c', w', hr, h2, h3, h4⟩ := run_append_strong (P := P) (w := w) t' t e ti z size bytes hu hti hz hs1 hs2 hzs hpos (.slice ad xs.length c) xs.length _ (hO.get hi) ⟨b2, o2, none⟩ ys.length c2 _ (cells_length hsz ys)
      (fun j u hj => by rw [hadd]; exact hcell j u hj) (cells_one' h1 ys) (by unfold maxLen; omega) hfit.2
    have hown := hO.grown hi h3 h2 h4
    rw [← List.length_append, ← cells_append] at hown
    refine ⟨ad', c', w', hown, fun a hf => ?_⟩
    have hxv := hf.ev hx
    have hyv := hf.ev hy
    simp only [execOp, resolve, invoke, builtin, Sem.run_bind, Sem.run_pure, Result.andThen_ok, List.map_toArray, List.map_cons, List.map_nil, hxv, hyv, hr]
    rw [List.length_append]
theorem op_appendS {α : Type} {enc : α → List Value} {e size bytes i c c2 : Nat} {ad ad2 : Option Addr} {xs ys : List α} (he : Elem P t' e size bytes) (hsz : ∀ x, (enc x).length = size)
    (hi : L[i]? = some (.row (.slice ad xs.length c) e size xs.length (cells enc xs))) (hS : Sees w ad2 (cells enc ys)) (h1 : ∀ x, ∀ u ∈ enc x, u.oneCell' = true) (hfit : fitsApp xs.length ys.length bytes = true)
    (hf : Fits N E a) (hd : Nat.blt d N = true) (hx : evl E x = some (.slice ad xs.length c)) (hy : evl E y = some (.slice ad2 ys.length c2)) (hO : Own w0 F w L)
    (k : ∀ a ad c w, Fits N ((d, .slice ad (xs ++ ys).length c) :: E) a → Own w0 F w (L.set i (.row (.slice ad (xs ++ ys).length c) e size (xs ++ ys).length (cells enc (xs ++ ys)))) → wpList P ops Q rest a w) :
    wpList P ops Q ({ dst := some d, op := .call { callee := .builtin .append, args := #[x, y], argTypes := #[t', t'] }, type := t, pos := p, after := af, guard := none } :: rest) a w := by
  obtain ⟨ad', c', w', hown, hr⟩ := ef_appendS (N := N) (gd := none) (t := t) (p := p) (af := af) (dst := some d) he hsz hi hS h1 hfit hO hx hy
  exact op_run (v := .slice ad' (xs ++ ys).length c') (w' := w') rfl (hr a hf) (k _ _ _ _ (hf.put hd _) hown)

section quiet
variable {C : World → Prop} {Qq : Act → Prop}
theorem wp_quiet {id : Nat} {l : List Oper} (hm : P.follows .mixedOrders = true) (hlex : Region.lexB .any l.toArray = true) (hO : Own w0 F w L)
    (h : wpQuiet P l.toArray (fun w => Own w0 F w L) (fun a => ∀ w, Own w0 F w L → Q .normal a w) l a) : (Code.region id l.toArray true).wp P Q a w :=
  wp_region_quiet (C := fun w => Own w0 F w L) hm hlex hO.drew (by simpa using h)
theorem q_val {o : Oper} {v : Value} (hx : ∀ w, C w → (execOp a.eval o).run P w = .ok (.value v) w) (hg : o.guard = none) (hf : Fits N E a) (hdst : o.dst = some d) (hd : Nat.blt d N = true)
    (k : ∀ a, Fits N ((d, v) :: E) a → wpQuiet P ops C Qq rest a) : wpQuiet P ops C Qq (o :: rest) a := by
  unfold wpQuiet
  rw [if_pos (by simp [Region.wanted, hg])]
  refine ⟨v, fun w hw => ?_, by rw [hdst]; exact k _ (hf.put hd _)⟩
  unfold Oper.quietAt
  rw [hx w hw]
  exact ⟨rfl, rfl⟩
end quiet
end
end Go.Dk
