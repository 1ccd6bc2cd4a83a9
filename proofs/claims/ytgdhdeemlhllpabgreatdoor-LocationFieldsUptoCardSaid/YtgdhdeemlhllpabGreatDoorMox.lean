/-
  More operations on memory: bytes made a text, a text appended to bytes, a store into an element of an own row. Over any program.
-/
import Derived.Test.YtgdhdeemlhllpabGreatDoorObj
import Derived.Laws.BytesArg
import Derived.Lib.AppendStr
import Derived.Laws.Append
namespace Go.Dk
open Go.RowKit Go.Dm
variable {P : Program} {N : Nat} {E : Env} {a : Act} {w w0 : World} {F : List Nat} {L : List Res} {ops : Array Oper} {rest : List Oper} {Q : Exit → Act → World → Prop} {t' t ty d : Nat} {p : String} {af : Array Edge} {gd : Option (Nat × Bool)} {dst : Option Nat} {x y : Operand}

/-- An element's place in an own row. -/
def AtRow (ad : Option Addr) (b o sz : Nat) (m : Int) : Prop := ad = some ⟨b, 0, none⟩ ∧ 0 ≤ m ∧ o = m.toNat * sz
theorem elemAtRow {α : Type} {enc : α → List Value} {sz e c i : Nat} {ad : Option Addr} {xs : List α} {m : Int} {z : α} (t : TypeId)
    (ht : P.underlying t = some (.slice e)) (hn : sizeO P e = some sz) (hpos : 0 < sz) (hsz : ∀ x, (enc x).length = sz) (hO : Own w0 F w L) (hi : L[i]? = some (.row (.slice ad xs.length c) e sz xs.length (cells enc xs))) (hr : lAt xs m = some z) :
    ∃ b o, (∀ w, (Instr.indexAt t (.slice ad xs.length c) (int m)).run P w = .ok (ptr b o) w) ∧ (∀ w, Sees w ad (cells enc xs) → Sees w (some ⟨b, o, none⟩) (enc z)) ∧ AtRow ad b o sz m := by
  have hr0 := hr
  have hown : w.ownsRow 0 e sz (.slice ad xs.length c) xs.length (cells enc xs) := hO.get hi
  unfold lAt at hr
  split at hr
  · rename_i h0
    have hlt : m.toNat < xs.length := (List.getElem?_eq_some_iff.1 hr).1
    rcases hown.2 with ⟨h, hn0⟩ | ⟨g, cap, cur, hv, _⟩
    · omega
    · injection hv with h1 h2 h3
      subst h1
      obtain ⟨b, o, h4, h5⟩ := elemAt (P := P) (enc := enc) (c := c) (xs := xs) (m := m) t ht hn hpos hsz (hO.rowSees hi) hr0
      have hadd : (⟨g, 0, none⟩ : Addr).add (m.toNat * sz) = ⟨g, m.toNat * sz, none⟩ := by
        unfold Addr.add
        split
        · rename_i h; rw [h]
        · simp
      have h6 := run_indexAt (w := w) (c := c) (ad := ⟨g, 0, none⟩) ht hn h0 (show m < (xs.length : Int) by omega)
      rw [h4 w, hadd] at h6
      injection h6 with h7
      injection h7 with h8
      injection h8 with h9
      injection h9 with h10 h11
      subst h10 h11
      exact ⟨_, _, h4, h5, rfl, h0, rfl⟩
  · cases hr
theorem cells_set {α : Type} {enc : α → List Value} {sz rel : Nat} (hsz : ∀ x, (enc x).length = sz) (hrel : rel < sz) {v : Value} : ∀ (xs : List α) (k : Nat) (z z' : α), xs[k]? = some z → enc z' = (enc z).set rel v → (cells enc xs).set (k * sz + rel) v = cells enc (xs.set k z')
  | [], k, z, z', h, _ => by simp at h
  | x :: xs, 0, z, z', h, he => by
    simp at h; subst h
    show (enc x ++ cells enc xs).set _ _ = enc z' ++ cells enc xs
    rw [Nat.zero_mul, Nat.zero_add, List.set_append, if_pos (by rw [hsz]; exact hrel), he]
  | x :: xs, k + 1, z, z', h, he => by
    show (enc x ++ cells enc xs).set _ _ = enc x ++ cells enc (xs.set k z')
    have : (k + 1) * sz = k * sz + sz := Nat.succ_mul k sz
    rw [List.set_append, if_neg (by rw [hsz]; omega), hsz, show (k + 1) * sz + rel - sz = k * sz + rel by omega, cells_set hsz hrel xs k z z' (by simpa using h) he]
theorem op_storeRow {α : Type} {enc : α → List Value} {i b o e sz c rel : Nat} {ad : Option Addr} {m : Int} {xs ys : List α} {z z' : α} {v : Value} (ht : sizeO P t' = some 1) (hsz : ∀ x, (enc x).length = sz)
    (hi : L[i]? = some (.row (.slice ad xs.length c) e sz xs.length (cells enc xs))) (hA : AtRow ad b o sz m) (hz : lAt xs m = some z) (hy' : lSet xs m z' = some ys) (hez : enc z' = (enc z).set rel v) (hrel : rel < sz) (hv : v.oneCell' = true) (hvc : v.cells = #[v])
    (hf : Fits N E a) (hx : evl E x = some (ptr b (o + rel))) (hy : evl E y = some v) (hO : Own w0 F w L)
    (k : ∀ w, ys.length = xs.length → Own w0 F w (L.set i (.row (.slice ad ys.length c) e sz ys.length (cells enc ys))) → wpList P ops Q rest a w) :
    wpList P ops Q ({ dst := none, op := .store t' x y, type := t, pos := p, after := af, guard := none } :: rest) a w := by
  obtain ⟨rfl, h0, rfl⟩ := hA
  unfold lAt at hz
  rw [if_pos h0] at hz
  unfold lSet at hy'
  have hlt : m.toNat < xs.length := (List.getElem?_eq_some_iff.1 hz).1
  rw [if_pos ⟨h0, by omega⟩] at hy'
  obtain rfl := Option.some.inj hy'
  have hlen : (xs.set m.toNat z').length = xs.length := List.length_set
  have hown : w.ownsRow 0 e sz (.slice (some ⟨b, 0, none⟩) xs.length c) xs.length (cells enc xs) := hO.get hi
  rcases hown.2 with ⟨h, _⟩ | ⟨g, cap, cur, hsl, hbg, hg, hnc, hcm, hcs, htake⟩
  · cases h
  injection hsl with h1 h2 h3
  injection h1 with h1
  injection h1 with h1
  subst h1 h3
  have hidx : m.toNat * sz + rel < xs.length * sz := by
    have : (m.toNat + 1) * sz ≤ xs.length * sz := Nat.mul_le_mul_right _ hlt
    rw [Nat.succ_mul] at this; omega
  have hcl := cells_length hsz xs
  have hcur : m.toNat * sz + rel < cur.size := by
    rw [hcs]
    have : xs.length * sz ≤ c * sz := Nat.mul_le_mul_right _ hnc
    omega
  unfold wpList
  rw [if_pos (by simp [Region.wanted])]
  left
  unfold Oper.wp
  have hc : w.cell? ⟨b, m.toNat * sz + rel, none⟩ = some cur[m.toNat * sz + rel] := by simp [World.cell?, hg, hcur]
  have hfz : w.frozen? ⟨b, m.toNat * sz + rel, none⟩ = false := by simp [World.frozen?, hg]
  have hrun : (execOp a.eval { dst := none, op := .store t' x y, type := t, pos := p, after := af, guard := none }).run P w = .ok .skip (w.setCell ⟨b, m.toNat * sz + rel, none⟩ v) := by
    simp only [execOp]; rw [hf.ev hx, hf.ev hy]
    have := run_store P w ⟨b, m.toNat * sz + rel, none⟩ v .plain hv
    simp only [hc, hfz, Bool.false_eq_true, if_false] at this
    simp [this, Instr.storeAt, Instr.sureAddr, storeVar, run_sizeO ht, hvc, storeCells, Result.andThen, Addr.add]
  rw [hrun]
  have hnew : (w.setCell ⟨b, m.toNat * sz + rel, none⟩ v).heap[b]? = some (.cells (cur.set (m.toNat * sz + rel) v) e (0, 0)) := by
    simp [World.setCell, Array.getElem?_modify, hg, Array.setIfInBounds, hcur]
  refine k _ hlen (hO.turn (b := b) hi rfl rfl rfl rfl rfl rfl rfl (by simp [World.setCell]) (fun k hk => Below.heap_setCell _ _ _ _ hk) ?_)
  show World.ownsRow _ 0 e sz _ _ _
  rw [hlen]
  refine ⟨by rw [cells_length hsz, hlen], .inr ⟨b, c, _, rfl, Nat.zero_le _, hnew, hnc, hcm, by rw [Array.size_set]; exact hcs, ?_⟩⟩
  rw [Array.toList_set, List.take_set, htake, cells_set hsz hrel xs m.toNat z z' hz hez]
/-- A field of a struct's value. -/
theorem ex_fieldv {xv v : Value} {i : Nat} (hf : Fits N E a) (hx : evl E x = some xv) (hb : (Instr.field t' xv i).run P w = .ok v w) :
    (execOp a.eval { dst := dst, op := .field t' x i, type := t, pos := p, after := af, guard := gd }).run P w = .ok (.value v) w := by
  simp only [execOp]; rw [hf.ev hx]; simp only [Sem.run_bind, hb, Result.andThen, Sem.run_pure]
theorem elemArr {e n b : Nat} {xs : List Str} {m : Int} {z : Str} (t : TypeId) (ht : P.underlying t = some (.array n e)) (hn : sizeO P e = some 1) (hl : xs.length = n) (hr : lAt xs m = some z) :
    (∀ w, (Instr.indexAt t (ptr b 0) (int m)).run P w = .ok (ptr b m.toNat) w) ∧ ∀ w, Sees w (some ⟨b, 0, none⟩) (xs.map str) → Sees w (some ⟨b, m.toNat, none⟩) [str z] := by
  unfold lAt at hr
  split at hr
  · rename_i h0
    have hlt : m.toNat < xs.length := (List.getElem?_eq_some_iff.1 hr).1
    have h : 0 ≤ m ∧ m < (n : Int) := ⟨h0, by omega⟩
    have hadd : (⟨b, 0, none⟩ : Addr).add (m.toNat * 1) = ⟨b, m.toNat, none⟩ := by
      unfold Addr.add
      split
      · rename_i h; rw [Nat.mul_one] at h; rw [h]
      · simp
    refine ⟨fun w => ?_, fun w hs => ?_⟩
    · simp [Instr.indexAt, asIntOf, run_underlying ht, h, run_sizeO hn, Result.andThen, Instr.sureAddr]
      rw [Nat.mul_one] at hadd
      exact hadd
    · obtain ⟨_, hlt', hc⟩ := hs
      refine ⟨rfl, hlt', fun j v hv => ?_⟩
      cases j with
      | succ j => simp at hv
      | zero =>
        simp at hv
        subst hv
        have := hc m.toNat (str z) (by rw [List.getElem?_map, hr]; rfl)
        simpa using this
  · cases hr
theorem ex_indexAddrA {b o : Nat} {m : Int} (hi : ∀ w, (Instr.indexAt t' (ptr b 0) (int m)).run P w = .ok (ptr b o) w) (hf : Fits N E a) (hx : evl E x = some (ptr b 0)) (hy : evl E y = some (int m)) :
    (execOp a.eval { dst := dst, op := .indexAddr t' x y, type := t, pos := p, after := af, guard := gd }).run P w = .ok (.value (ptr b o)) w := by
  simp only [execOp]
  rw [hf.ev hx, hf.ev hy]
  simp only [Sem.run_bind, hi, Result.andThen, Sem.run_pure]
theorem ef_storeArr {xs ys : List Str} {i b bty : Nat} {m : Int} {v : Str} (ht : sizeO P t' = some 1) (hi : L[i]? = some (.blk b (xs.map str) bty)) (hy' : lSet xs m v = some ys) (hO : Own w0 F w L)
    (hx : evl E x = some (ptr b m.toNat)) (hy : evl E y = some (str v)) :
    ∃ w', Own w0 F w' (L.set i (.blk b (ys.map str) bty)) ∧ ∀ a, Fits N E a → (execOp a.eval { dst := dst, op := .store t' x y, type := t, pos := p, after := af, guard := gd }).run P w = .ok .skip w' := by
  unfold lSet at hy'
  split at hy'
  · rename_i h
    cases hy'
    have := ef_store1 (N := N) (P := P) (w := w) (t := t) (p := p) (af := af) (dst := dst) (gd := gd) (x := x) (y := y) (E := E) (o := m.toNat) (v := str v) ht hi (by simp [Nat.blt_eq]; omega) rfl rfl hO hx hy
    rw [List.map_set]
    exact this
  · cases hy'
end Go.Dk
