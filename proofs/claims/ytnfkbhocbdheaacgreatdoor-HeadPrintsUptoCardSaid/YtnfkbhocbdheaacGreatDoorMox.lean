/-
  More operations on memory: bytes made a text, a text appended to bytes, a store into an element of an own row. Over any program.
-/
import Derived.Test.YtnfkbhocbdheaacGreatDoorObj
import Derived.Laws.BytesArg
import Derived.Lib.AppendStr
import Derived.Laws.Append
namespace Go.Dk
open Go.RowKit Go.Dm
variable {P : Program} {N : Nat} {E : Env} {a : Act} {w w0 : World} {F : List Nat} {L : List Res} {ops : Array Oper} {rest : List Oper} {Q : Exit → Act → World → Prop} {t' t ty d : Nat} {p : String} {af : Array Edge} {gd : Option (Nat × Bool)} {dst : Option Nat} {x y : Operand}

/-- Bytes made a text. -/
theorem ex_conv_bs {en : UInt8 → List Value} {l : Str} {ad : Option Addr} {c s e : Nat} (hen : ∀ b, en b = [byte b]) (ht : P.underlying ty = some .string) (hs : P.underlying s = some (.slice e)) (he : P.underlying e = some (.int .u8)) (hS : Sees w ad (cells en l))
    (hf : Fits N E a) (hx : evl E x = some (.slice ad l.length c)) : (execOp a.eval { dst := dst, op := .convert s ty x, type := t, pos := p, after := af, guard := gd }).run P w = .ok (.value (str l)) w := by
  have hrun : (convert s ty (.slice ad l.length c)).run P w = .ok (str l) w := by
    cases ad with
    | none =>
      have : l = [] := cells_nil_of (enc := en) (sz := 1) (fun b => by rw [hen]; rfl) (by decide) hS
      subst this
      exact run_convert_bytes_nil w s e hs he _ c ty ht
    | some ad =>
      obtain ⟨b, o, spot⟩ := ad
      obtain ⟨rfl, _, hc⟩ := hS
      have := run_convert_bytes_arg w s e hs he b o l.length c (l.map fun c => (c.toNat : Int)) (by simp) (fun i hi => by
        have hg := cells_get (enc := en) (sz := 1) (fun b => by rw [hen]; rfl) l i 0 l[i] (List.getElem?_eq_getElem hi) (by decide)
        rw [hen, Nat.mul_one, Nat.add_zero] at hg
        have := hc i (byte l[i]) (by rw [hg]; rfl)
        rw [this]
        simp [byte, List.getD, List.getElem?_eq_getElem hi]) ty ht
      rw [this]
      have hm : ∀ l : Str, (l.map fun c => (c.toNat : Int)).map (fun n => UInt8.ofNat n.toNat) = l := by
        intro l
        induction l with
        | nil => rfl
        | cons x l ih => rw [List.map_cons, List.map_cons, ih]; simp
      unfold strOfNums
      rw [hm]
  simp only [execOp]; rw [hf.ev hx]
  simp only [Sem.run_bind, hrun, Result.andThen, Sem.run_pure]

theorem run_append_str_strong (t u ty e : TypeId) (i : TypeInfo) (ht : P.underlying t = some (.slice e)) (hu : P.underlying u = some .string) (hi : P.info? e = some i) (hz : i.zero = some (.int .u8 0))
    (hsize : i.size = 1) (hby : i.bytes = 1) (v : Value) (n : Nat) (xs : List Value) (hown : w.ownsRow 0 e 1 v n xs) (s : ByteArray) (h63 : n + s.size ≤ maxLen) (hbytes : n + s.size ≤ 140737488355328) :
    ∃ ad' c' w', (Builtin.append_ #[t, u] ty #[v, .string s]).run P w = .ok (.slice ad' (n + s.size) c') w' ∧ w'.ownsRow 0 e 1 (.slice ad' (n + s.size) c') (n + s.size) (xs ++ Lib.strCells s) ∧ w.grownBy w' v.ownBlock ∧
      ((Value.slice ad' (n + s.size) c').ownBlock = v.ownBlock ∨ (Value.slice ad' (n + s.size) c').ownBlock = some w.heap.size) := by
  obtain ⟨v', w', hr, h2, h3, h4⟩ := Lib.run_append_own_string (P := P) (w := w) 0 t u ty e i ht hu hi hz hsize hby v n xs hown s h63 hbytes (Nat.zero_le _)
  have hsmall : n + s.size ≤ 9223372036854775807 := by simp only [maxLen] at h63; omega
  have key : ∃ ad' c', v' = .slice ad' (n + s.size) c' ∧ (v'.ownBlock = v.ownBlock ∨ v'.ownBlock = some w.heap.size) := by
    rcases hown.2 with ⟨rfl, rfl⟩ | ⟨g, cap, cur, rfl, hbg, hg, hnc, hcm, hcs, htake⟩
    · by_cases hm : s.size = 0
      · have := h4.2 ⟨rfl, hm⟩
        subst this
        exact ⟨none, 0, by rw [hm], .inl rfl⟩
      · have hr2 := run_append_nil_string (P := P) w t u ty e i _ ht hu hi hz s (by omega) (by omega) (by rw [hby]; omega)
        rw [hr2] at hr
        injection hr with e1 e2
        subst e1
        exact ⟨_, _, by rw [Nat.zero_add], .inr rfl⟩
    · by_cases hroom : n + s.size ≤ cap
      · have hr2 := Lib.run_append_room_string (P := P) (w := w) t u ty e i ht hu hi hsize g n cap cur hg s hroom (by rw [hcs]; omega)
        rw [hr2] at hr
        injection hr with e1 e2
        subst e1
        exact ⟨_, _, rfl, .inl rfl⟩
      · have holds : ∀ j u, xs[j]? = some u → w.cell? ((⟨g, 0, none⟩ : Addr).add j) = some u := hown.cells (g := g) rfl
        have hr2 := Lib.run_append_grow_string (P := P) (w := w) t u ty e i _ ht hu hi hz ⟨g, 0, none⟩ n cap xs (by rw [hsize]; exact hown.1) holds s (by omega) (by omega) (by rw [hby]; exact growslice_fits (by omega) (by omega))
        rw [hr2] at hr
        injection hr with e1 e2
        subst e1
        exact ⟨_, _, rfl, .inr rfl⟩
  obtain ⟨ad', c', rfl, hk⟩ := key
  exact ⟨ad', c', w', hr, h2, h3, hk⟩

/-- What a type's row of the table says of bytes, for append. -/
structure ElemB (P : Program) (t u e : Nat) : Prop where
  under : P.underlying t = some (.slice e)
  text : P.underlying u = some .string
  info : ∃ i, P.info? e = some i ∧ i.zero = some (.int .u8 0) ∧ i.size = 1 ∧ i.bytes = 1

theorem strCells_str {en : UInt8 → List Value} (hen : ∀ b, en b = [byte b]) (s : Str) : Lib.strCells ⟨s.toArray⟩ = cells en s := by
  unfold Lib.strCells cells
  induction s with
  | nil => rfl
  | cons x s ih => rw [List.flatMap_cons, hen, ← ih]; rfl
theorem ef_appendB {en : UInt8 → List Value} {e i c u : Nat} {ad : Option Addr} {xs s : Str} (hen : ∀ b, en b = [byte b]) (he : ElemB P t' u e)
    (hi : L[i]? = some (.row (.slice ad xs.length c) e 1 xs.length (cells en xs))) (hfit : fitsApp xs.length s.length 1 = true) (hO : Own w0 F w L)
    (hx : evl E x = some (.slice ad xs.length c)) (hy : evl E y = some (str s)) :
    ∃ ad' c' w', Own w0 F w' (L.set i (.row (.slice ad' (xs ++ s).length c') e 1 (xs ++ s).length (cells en (xs ++ s)))) ∧
      ∀ a, Fits N E a → (execOp a.eval { dst := dst, op := .call { callee := .builtin .append, args := #[x, y], argTypes := #[t', u] }, type := t, pos := p, after := af, guard := gd }).run P w = .ok (.value (.slice ad' (xs ++ s).length c')) w' := by
  obtain ⟨hu, hus, ti, hti, hz, hs1, hs2⟩ := he
  simp only [fitsApp, Bool.and_eq_true, decide_eq_true_eq] at hfit
  have hsz : (⟨s.toArray⟩ : ByteArray).size = s.length := rfl
  obtain ⟨ad', c', w', hr, h2, h3, h4⟩ := run_append_str_strong (P := P) (w := w) t' u t e ti hu hus hti hz hs1 hs2 (.slice ad xs.length c) xs.length _ (hO.get hi) ⟨s.toArray⟩ (by rw [hsz]; unfold maxLen; omega) (by rw [hsz]; omega)
  rw [hsz, strCells_str hen] at h2
  rw [hsz] at hr h4
  have hown := hO.grown hi h3 h2 h4
  rw [← List.length_append, ← cells_append] at hown
  refine ⟨ad', c', w', hown, fun a hf => ?_⟩
  have hxv := hf.ev hx
  have hyv := hf.ev hy
  simp only [execOp, resolve, invoke, builtin, Sem.run_bind, Sem.run_pure, Result.andThen_ok, List.map_toArray, List.map_cons, List.map_nil, hxv, hyv, hr]
  rw [List.length_append]
theorem op_appendB {en : UInt8 → List Value} {e i c u : Nat} {ad : Option Addr} {xs s : Str} (hen : ∀ b, en b = [byte b]) (he : ElemB P t' u e)
    (hi : L[i]? = some (.row (.slice ad xs.length c) e 1 xs.length (cells en xs))) (hfit : fitsApp xs.length s.length 1 = true)
    (hf : Fits N E a) (hd : Nat.blt d N = true) (hx : evl E x = some (.slice ad xs.length c)) (hy : evl E y = some (str s)) (hO : Own w0 F w L)
    (k : ∀ a ad c w, Fits N ((d, .slice ad (xs ++ s).length c) :: E) a → Own w0 F w (L.set i (.row (.slice ad (xs ++ s).length c) e 1 (xs ++ s).length (cells en (xs ++ s)))) → wpList P ops Q rest a w) :
    wpList P ops Q ({ dst := some d, op := .call { callee := .builtin .append, args := #[x, y], argTypes := #[t', u] }, type := t, pos := p, after := af, guard := none } :: rest) a w := by
  obtain ⟨ad', c', w', hown, hr⟩ := ef_appendB (N := N) (gd := none) (t := t) (p := p) (af := af) (dst := some d) hen he hi hfit hO hx hy
  exact op_run (v := .slice ad' (xs ++ s).length c') (w' := w') rfl (hr a hf) (k _ _ _ _ (hf.put hd _) hown)

/-- An element's place in an own row. -/
def AtRow (ad : Option Addr) (b o sz : Nat) (m : Int) : Prop := ad = some ⟨b, 0, none⟩ ∧ 0 ≤ m ∧ o = m.toNat * sz
theorem elemAtRow {α : Type} {enc : α → List Value} {sz e c i : Nat} {ad : Option Addr} {xs : List α} {m : Int} {z : α} (t : TypeId)
    (ht : P.underlying t = some (.slice e)) (hn : sizeO P e = some sz) (hpos : 0 < sz) (hsz : ∀ x, (enc x).length = sz) (hO : Own w0 F w L) (hi : L[i]? = some (.row (.slice ad xs.length c) e sz xs.length (cells enc xs))) (hr : lAt xs m = some z) :
    ∃ b o, (∀ w, (Instr.indexAt t (.slice ad xs.length c) (int m)).run P w = .ok (ptr b o) w) ∧ (∀ w, Sees w ad (cells enc xs) → Sees w (some ⟨b, o, none⟩) (enc z)) ∧ AtRow ad b o sz m := by
  have hr0 := hr
  have hown : w.ownsRow 0 e sz (.slice ad xs.length c) xs.length (cells enc xs) := hO.get hi
  unfold lAt at hr
  split at hr
  · rename_i h0
    have hlt : m.toNat < xs.length := (List.getElem?_eq_some_iff.1 hr).1
    rcases hown.2 with ⟨h, hn0⟩ | ⟨g, cap, cur, hv, _⟩
    · omega
    · injection hv with h1 h2 h3
      subst h1
      obtain ⟨b, o, h4, h5⟩ := elemAt (P := P) (enc := enc) (c := c) (xs := xs) (m := m) t ht hn hpos hsz (hO.rowSees hi) hr0
      have hadd : (⟨g, 0, none⟩ : Addr).add (m.toNat * sz) = ⟨g, m.toNat * sz, none⟩ := by
        unfold Addr.add
        split
        · rename_i h; rw [h]
        · simp
      have h6 := run_indexAt (w := w) (c := c) (ad := ⟨g, 0, none⟩) ht hn h0 (show m < (xs.length : Int) by omega)
      rw [h4 w, hadd] at h6
      injection h6 with h7
      injection h7 with h8
      injection h8 with h9
      injection h9 with h10 h11
      subst h10 h11
      exact ⟨_, _, h4, h5, rfl, h0, rfl⟩
  · cases hr
/-- A slice that is looked at, compared with nil. -/
theorem ex_eql_sn {e n c : Nat} {ad : Option Addr} (ht : P.underlying t' = some (.slice e)) (hf : Fits N E a) (hx : evl E x = some (.slice ad n c)) (hy : evl E y = some (.slice none 0 0)) : (execOp a.eval { dst := dst, op := .binOp .eql t' x y ty, type := t, pos := p, after := af, guard := gd }).run P w = .ok (.value (.bool ad.isNone)) w := by
  simp only [execOp]; rw [hf.ev hx, hf.ev hy]; simp [eqGuard, binOp, run_equal_slice_nil w t' e ad n c ht, Result.andThen]
theorem nil_cells {α : Type} {enc : α → List Value} {sz : Nat} (hsz : ∀ x, (enc x).length = sz) (hpos : 0 < sz) {xs : List α} {ad : Option Addr} (h : Sees w ad (cells enc xs)) (ha : ad.isNone = true) : xs = [] := by
  cases ad with
  | some x => cases ha
  | none =>
    have h0 : cells enc xs = [] := h
    have hl := cells_length hsz xs
    rw [h0] at hl
    cases xs with
    | nil => rfl
    | cons x l =>
      exfalso
      have : 1 * sz ≤ (x :: l).length * sz := Nat.mul_le_mul_right _ (by simp)
      simp only [List.length_nil] at hl
      omega
end Go.Dk
