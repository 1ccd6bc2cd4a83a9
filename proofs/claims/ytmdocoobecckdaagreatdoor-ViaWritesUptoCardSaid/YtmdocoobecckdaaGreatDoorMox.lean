/-
  More operations on memory: bytes made a text, a text appended to bytes, a store into an element of an own row. Over any program.
-/
import Derived.Test.YtmdocoobecckdaaGreatDoorObj
import Derived.Laws.BytesArg
import Derived.Lib.AppendStr
import Derived.Laws.Append
namespace Go.Dk
open Go.RowKit Go.Dm
variable {P : Program} {N : Nat} {E : Env} {a : Act} {w w0 : World} {F : List Nat} {L : List Res} {ops : Array Oper} {rest : List Oper} {Q : Exit → Act → World → Prop} {t' t ty d : Nat} {p : String} {af : Array Edge} {gd : Option (Nat × Bool)} {dst : Option Nat} {x y : Operand}

/-- Bytes made a text. -/
theorem ex_conv_bs {en : UInt8 → List Value} {l : Str} {ad : Option Addr} {c s e : Nat} (hen : ∀ b, en b = [byte b]) (ht : P.underlying ty = some .string) (hs : P.underlying s = some (.slice e)) (he : P.underlying e = some (.int .u8)) (hS : Sees w ad (cells en l))
    (hf : Fits N E a) (hx : evl E x = some (.slice ad l.length c)) : (execOp a.eval { dst := dst, op := .convert s ty x, type := t, pos := p, after := af, guard := gd }).run P w = .ok (.value (str l)) w := by
  have hrun : (convert s ty (.slice ad l.length c)).run P w = .ok (str l) w := by
    cases ad with
    | none =>
      have : l = [] := cells_nil_of (enc := en) (sz := 1) (fun b => by rw [hen]; rfl) (by decide) hS
      subst this
      exact run_convert_bytes_nil w s e hs he _ c ty ht
    | some ad =>
      obtain ⟨b, o, spot⟩ := ad
      obtain ⟨rfl, _, hc⟩ := hS
      have := run_convert_bytes_arg w s e hs he b o l.length c (l.map fun c => (c.toNat : Int)) (by simp) (fun i hi => by
        have hg := cells_get (enc := en) (sz := 1) (fun b => by rw [hen]; rfl) l i 0 l[i] (List.getElem?_eq_getElem hi) (by decide)
        rw [hen, Nat.mul_one, Nat.add_zero] at hg
        have := hc i (byte l[i]) (by rw [hg]; rfl)
        rw [this]
        simp [byte, List.getD, List.getElem?_eq_getElem hi]) ty ht
      rw [this]
      have hm : ∀ l : Str, (l.map fun c => (c.toNat : Int)).map (fun n => UInt8.ofNat n.toNat) = l := by
        intro l
        induction l with
        | nil => rfl
        | cons x l ih => rw [List.map_cons, List.map_cons, ih]; simp
      unfold strOfNums
      rw [hm]
  simp only [execOp]; rw [hf.ev hx]
  simp only [Sem.run_bind, hrun, Result.andThen, Sem.run_pure]

/-- An element's place in an own row. -/
def AtRow (ad : Option Addr) (b o sz : Nat) (m : Int) : Prop := ad = some ⟨b, 0, none⟩ ∧ 0 ≤ m ∧ o = m.toNat * sz
theorem elemAtRow {α : Type} {enc : α → List Value} {sz e c i : Nat} {ad : Option Addr} {xs : List α} {m : Int} {z : α} (t : TypeId)
    (ht : P.underlying t = some (.slice e)) (hn : sizeO P e = some sz) (hpos : 0 < sz) (hsz : ∀ x, (enc x).length = sz) (hO : Own w0 F w L) (hi : L[i]? = some (.row (.slice ad xs.length c) e sz xs.length (cells enc xs))) (hr : lAt xs m = some z) :
    ∃ b o, (∀ w, (Instr.indexAt t (.slice ad xs.length c) (int m)).run P w = .ok (ptr b o) w) ∧ (∀ w, Sees w ad (cells enc xs) → Sees w (some ⟨b, o, none⟩) (enc z)) ∧ AtRow ad b o sz m := by
  have hr0 := hr
  have hown : w.ownsRow 0 e sz (.slice ad xs.length c) xs.length (cells enc xs) := hO.get hi
  unfold lAt at hr
  split at hr
  · rename_i h0
    have hlt : m.toNat < xs.length := (List.getElem?_eq_some_iff.1 hr).1
    rcases hown.2 with ⟨h, hn0⟩ | ⟨g, cap, cur, hv, _⟩
    · omega
    · injection hv with h1 h2 h3
      subst h1
      obtain ⟨b, o, h4, h5⟩ := elemAt (P := P) (enc := enc) (c := c) (xs := xs) (m := m) t ht hn hpos hsz (hO.rowSees hi) hr0
      have hadd : (⟨g, 0, none⟩ : Addr).add (m.toNat * sz) = ⟨g, m.toNat * sz, none⟩ := by
        unfold Addr.add
        split
        · rename_i h; rw [h]
        · simp
      have h6 := run_indexAt (w := w) (c := c) (ad := ⟨g, 0, none⟩) ht hn h0 (show m < (xs.length : Int) by omega)
      rw [h4 w, hadd] at h6
      injection h6 with h7
      injection h7 with h8
      injection h8 with h9
      injection h9 with h10 h11
      subst h10 h11
      exact ⟨_, _, h4, h5, rfl, h0, rfl⟩
  · cases hr
theorem elemArr {e n b : Nat} {xs : List Str} {m : Int} {z : Str} (t : TypeId) (ht : P.underlying t = some (.array n e)) (hn : sizeO P e = some 1) (hl : xs.length = n) (hr : lAt xs m = some z) :
    (∀ w, (Instr.indexAt t (ptr b 0) (int m)).run P w = .ok (ptr b m.toNat) w) ∧ ∀ w, Sees w (some ⟨b, 0, none⟩) (xs.map str) → Sees w (some ⟨b, m.toNat, none⟩) [str z] := by
  unfold lAt at hr
  split at hr
  · rename_i h0
    have hlt : m.toNat < xs.length := (List.getElem?_eq_some_iff.1 hr).1
    have h : 0 ≤ m ∧ m < (n : Int) := ⟨h0, by omega⟩
    have hadd : (⟨b, 0, none⟩ : Addr).add (m.toNat * 1) = ⟨b, m.toNat, none⟩ := by
      unfold Addr.add
      split
      · rename_i h; rw [Nat.mul_one] at h; rw [h]
      · simp
    refine ⟨fun w => ?_, fun w hs => ?_⟩
    · simp [Instr.indexAt, asIntOf, run_underlying ht, h, run_sizeO hn, Result.andThen, Instr.sureAddr]
      rw [Nat.mul_one] at hadd
      exact hadd
    · obtain ⟨_, hlt', hc⟩ := hs
      refine ⟨rfl, hlt', fun j v hv => ?_⟩
      cases j with
      | succ j => simp at hv
      | zero =>
        simp at hv
        subst hv
        have := hc m.toNat (str z) (by rw [List.getElem?_map, hr]; rfl)
        simpa using this
  · cases hr
theorem ex_indexAddrA {b o : Nat} {m : Int} (hi : ∀ w, (Instr.indexAt t' (ptr b 0) (int m)).run P w = .ok (ptr b o) w) (hf : Fits N E a) (hx : evl E x = some (ptr b 0)) (hy : evl E y = some (int m)) :
    (execOp a.eval { dst := dst, op := .indexAddr t' x y, type := t, pos := p, after := af, guard := gd }).run P w = .ok (.value (ptr b o)) w := by
  simp only [execOp]
  rw [hf.ev hx, hf.ev hy]
  simp only [Sem.run_bind, hi, Result.andThen, Sem.run_pure]
theorem ef_storeArr {xs ys : List Str} {i b bty : Nat} {m : Int} {v : Str} (ht : sizeO P t' = some 1) (hi : L[i]? = some (.blk b (xs.map str) bty)) (hy' : lSet xs m v = some ys) (hO : Own w0 F w L)
    (hx : evl E x = some (ptr b m.toNat)) (hy : evl E y = some (str v)) :
    ∃ w', Own w0 F w' (L.set i (.blk b (ys.map str) bty)) ∧ ∀ a, Fits N E a → (execOp a.eval { dst := dst, op := .store t' x y, type := t, pos := p, after := af, guard := gd }).run P w = .ok .skip w' := by
  unfold lSet at hy'
  split at hy'
  · rename_i h
    cases hy'
    have := ef_store1 (N := N) (P := P) (w := w) (t := t) (p := p) (af := af) (dst := dst) (gd := gd) (x := x) (y := y) (E := E) (o := m.toNat) (v := str v) ht hi (by simp [Nat.blt_eq]; omega) rfl rfl hO hx hy
    rw [List.map_set]
    exact this
  · cases hy'
end Go.Dk
