/-
  The library functions that the walks call. Over this translation.
  Data of walks that run by evaluation: types by codes, abstract values, what memory holds of them. Over any program.
  What a walk by evaluation owns, and what it knows of memory. Over any program.
  Walks by evaluation: what a function's code makes of abstract values. Over any program.
  Walks by evaluation: operations that turn nothing. Over any program.
  Walks by evaluation: each operation that turns nothing yields what its evaluation says. Over any program.
  Walks by evaluation: data taken out of what is owned, and take
-/
import Derived.Test.YtplennfgaknlkaaGreatDoorSeat
import Derived.Test.YtplennfgaknlkaaGreatDoorTSplit
import Derived.Shelf.Strings.SlTrimAscii
import Derived.Lib.AppendIntMem
section
namespace Go.Proofs
open Go.Dk Go.Dm Go.RowKit
theorem w_strings_IndexByte (s : Str) (c : UInt8) (R : Int) (w0 : World) (hG : Glob w0) (hm : strings_IndexByte s c = some R) :
    Calls Tryz.prog 240 #[str s, byte c] w0 fun e w' => e = .returned (int R) ∧ Below w0.heap.size w0 w' := by
  refine (Tryz.strings_IndexByte ⟨s.toArray⟩ c.toNat w0).mono fun e w' ⟨he, hw⟩ => ?_
  subst he hw
  refine ⟨?_, Below.refl _ _⟩
  unfold strings_IndexByte at hm
  rw [idxByte_eqL] at hm
  cases hm
  simp
theorem w_strings_Index (s t : Str) (R : Int) (w0 : World) (hG : Glob w0) (hm : strings_Index s t = some R) :
    Calls Tryz.prog 265 #[str s, str t] w0 fun e w' => e = .returned (int R) ∧ Below w0.heap.size w0 w' := by
  unfold strings_Index at hm
  split at hm
  · rename_i hs
    obtain ⟨m, hg⟩ := hG.max
    refine (Tryz.strings_Index ⟨s.toArray⟩ ⟨t.toArray⟩ m w0 hs hg).mono fun e w' ⟨he, hw⟩ => ?_
    subst he hw
    rw [idxStr_eqL] at hm
    cases hm
    exact ⟨rfl, Below.refl _ _⟩
  · cases hm
theorem w_strings_Cut (s t : Str) (R : Str × Str × Bool) (w0 : World) (hG : Glob w0) (hm : strings_Cut s t = some R) :
    Calls Tryz.prog 174 #[str s, str t] w0 fun e w' => e = .returned (.tuple #[str R.1, str R.2.1, .bool R.2.2]) ∧ Below w0.heap.size w0 w' := by
  unfold strings_Cut at hm
  split at hm
  · rename_i hs
    obtain ⟨m, hg⟩ := hG.max
    refine (Tryz.strings_Cut ⟨s.toArray⟩ ⟨t.toArray⟩ m w0 hs hg).mono fun e w' ⟨he, n, hw⟩ => ?_
    subst he hw
    cases hm
    exact ⟨rfl, ⟨rfl, rfl, rfl, Nat.le_refl _, fun _ _ => rfl⟩⟩
  · cases hm
theorem w_strings_Contains (s t : Str) (R : Bool) (w0 : World) (hG : Glob w0) (hm : strings_Contains s t = some R) :
    Calls Tryz.prog 248 #[str s, str t] w0 fun e w' => e = .returned (.bool R) ∧ Below w0.heap.size w0 w' := by
  unfold strings_Contains at hm
  split at hm
  · rename_i hs
    obtain ⟨m, hg⟩ := hG.max
    refine (Tryz.strings_Contains ⟨s.toArray⟩ ⟨t.toArray⟩ m w0 hs hg).mono fun e w' ⟨he, hw⟩ => ?_
    subst he hw
    rw [idxStr_eqL] at hm
    cases hm
    exact ⟨rfl, Below.refl _ _⟩
  · cases hm
theorem w_strings_IndexAny (s cs : Str) (R : Int) (w0 : World) (hG : Glob w0) (hm : strings_IndexAny s cs = some R) :
    Calls Tryz.prog 134 #[str s, str cs] w0 fun e w' => e = .returned (int R) ∧ Below w0.heap.size w0 w' := by
  unfold strings_IndexAny at hm
  split at hm
  · rename_i hs
    refine (indexAny_all Tryz.lays153 (by kernel_rfl) ⟨s.toArray⟩ ⟨cs.toArray⟩ w0 hs.1 hs.2.1 (fun j b hb => ?_)).mono fun e w' ⟨he, hw⟩ => ?_
    · have := List.all_eq_true.1 hs.2.2 b (List.mem_of_getElem? hb)
      simpa using this
    · subst he
      rw [idxAny_eqL] at hm
      cases hm
      exact ⟨rfl, hw⟩
  · cases hm
theorem w_strconv_FormatInt (n b : Int) (R : Str) (w0 : World) (hG : GlobT w0) (hm : strconv_FormatInt n b = some R) :
    Calls Tryz.prog 238 #[int n, int b] w0 fun e w' => e = .returned (str R) ∧ Below w0.heap.size w0 w' := by
  unfold strconv_FormatInt at hm
  split at hm
  · rename_i h
    obtain ⟨h1, rfl⟩ := h
    obtain ⟨h2, h3⟩ := inI_iff.1 h1
    cases hm
    refine (Tryz.strconv_FormatInt_10 n h2 h3 w0 hG.2).mono fun e w' ⟨he, k, os, hw⟩ => ?_
    subst he hw
    exact ⟨rfl, Lib.below_grow _ _ (Nat.le_refl _) _ _⟩
  · cases hm
theorem w_strings_Split (s sep : Str) (R : List Str) (w0 : World) (hG : Glob w0) (hm : strings_Split s sep = some R) :
    Calls Tryz.prog 233 #[str s, str sep] w0 fun e w' => ∃ (p0 : Option Addr) (c0 : Nat), e = .returned (.slice p0 R.length c0) ∧ Own w0 [] w' [.row (.slice p0 R.length c0) 9 1 R.length (cells enc_str R)] := by
  unfold strings_Split at hm
  split at hm
  · rename_i hs
    obtain ⟨m, hg⟩ := hG.max
    refine (Tryz.strings_Split ⟨s.toArray⟩ ⟨sep.toArray⟩ m w0 hs.1 hg hs.2).mono fun e w' ⟨he, hw⟩ => ?_
    subst he hw
    have hlen := Go.Lib.splitB_all ⟨sep.toArray⟩ hs.2 0 _ ⟨s.toArray⟩ rfl
    have hdat := Go.Lib.splitB_data ⟨sep.toArray⟩ 0 (Go.Lib.countB ⟨s.toArray⟩ ⟨sep.toArray⟩) ⟨s.toArray⟩
    have hR : R = (Go.Lib.splitB ⟨sep.toArray⟩ 0 (Go.Lib.countB ⟨s.toArray⟩ ⟨sep.toArray⟩) ⟨s.toArray⟩).map (·.data.toList) := by
      rw [hdat]; exact (Option.some.inj hm).symm
    have hRl : R.length = Go.Lib.countB ⟨s.toArray⟩ ⟨sep.toArray⟩ + 1 := by rw [hR, List.length_map, hlen]
    have hcells : (Go.Lib.splitB ⟨sep.toArray⟩ 0 (Go.Lib.countB ⟨s.toArray⟩ ⟨sep.toArray⟩) ⟨s.toArray⟩).map Value.string = cells enc_str R := by
      rw [hR]
      generalize Go.Lib.splitB _ _ _ _ = l
      induction l with
      | nil => rfl
      | cons x l ih => obtain ⟨⟨x⟩⟩ := x; rw [List.map_cons, List.map_cons, ih]; rfl
    have hle := Go.Lib.countB_le ⟨sep.toArray⟩ hs.2 _ ⟨s.toArray⟩ (Nat.le_refl _)
    have hsz : (⟨s.toArray⟩ : ByteArray).size = s.length := rfl
    have hO := (Own.refl w0).newRow (cells enc_str R) 9 1 R.length (cells_length (enc := enc_str) (sz := 1) (fun _ => rfl) R) (by unfold maxLen; omega)
    rw [hcells, ← hRl]
    exact ⟨_, _, rfl, hO⟩
  · cases hm
theorem w_strings_Trim (s cs : Str) (R : Str) (w0 : World) (hG : Glob w0) (hm : strings_Trim s cs = some R) :
    Calls Tryz.prog 191 #[str s, str cs] w0 fun e w' => e = .returned (str R) ∧ Below w0.heap.size w0 w' := by
  unfold strings_Trim at hm
  split at hm
  · rename_i hs
    refine (Any.strings_Trim_laid Tryz.lays160 (by kernel_rfl) ⟨s.toArray⟩ ⟨cs.toArray⟩ w0 (Nat.le_trans (Nat.le_of_lt hs.1) (by decide)) hs.2.1 (fun j b hb => ?_)).mono fun e w' ⟨he, hw⟩ => ?_
    · have := List.all_eq_true.1 hs.2.2 b (List.mem_of_getElem? hb)
      simpa using this
    · subst he
      cases hm
      exact ⟨rfl, hw⟩
  · cases hm
theorem w_strings_TrimRight (s cs : Str) (R : Str) (w0 : World) (hG : Glob w0) (hm : strings_TrimRight s cs = some R) :
    Calls Tryz.prog 404 #[str s, str cs] w0 fun e w' => e = .returned (str R) ∧ Below w0.heap.size w0 w' := by
  unfold strings_TrimRight at hm
  split at hm
  · rename_i hs
    refine (Any.strings_TrimRight_laid Tryz.lays162 (by kernel_rfl) ⟨s.toArray⟩ ⟨cs.toArray⟩ w0 (Nat.le_trans (Nat.le_of_lt hs.1) (by decide)) hs.2.1 (fun j b hb => ?_)).mono fun e w' ⟨he, hw⟩ => ?_
    · have := List.all_eq_true.1 hs.2.2 b (List.mem_of_getElem? hb)
      simpa using this
    · subst he
      cases hm
      exact ⟨rfl, hw⟩
  · cases hm
theorem w_strings_Join (l : List Str) (sep : Str) (R : Str) (w0 : World) (hG : Glob w0) {x_p : Option Addr} {x_c : Nat} (hs0 : Sees w0 x_p (cells enc_str l)) (hc0 : l.length ≤ x_c) (hm : strings_Join l sep = some R) :
    Calls Tryz.prog 121 #[.slice x_p l.length x_c, str sep] w0 fun e w' => e = .returned (str R) ∧ Below w0.heap.size w0 w' := by
  unfold strings_Join at hm
  split at hm
  · rename_i hb
    cases hm
    have hmap : (l.map fun x => (⟨x.toArray⟩ : ByteArray)).map (·.data.toList) = l := by
      rw [List.map_map]; exact List.map_id' l
    by_cases hl : l = []
    · subst hl
      exact (Tryz.strings_Join_none x_p x_c ⟨sep.toArray⟩ w0).mono fun e w' h => by
        obtain ⟨he, hw⟩ := h
        subst he hw
        exact ⟨rfl, Below.refl _ _⟩
    have hne : cells enc_str l ≠ [] := fun h => hl (by
      cases l with
      | nil => rfl
      | cons x l => simp [cells, enc_str] at h)
    cases x_p with
    | none => exact absurd (show cells enc_str l = [] from hs0) hne
    | some a =>
      obtain ⟨bk, o, spot⟩ := a
      obtain ⟨h1, h2, h3⟩ := hs0.hard hne
      simp only at h1; subst h1
      have := Tryz.strings_Join bk o x_c (l.map fun x => (⟨x.toArray⟩ : ByteArray)) ⟨sep.toArray⟩ w0 (fun j x hx => ?_) h2 (by simpa using hb.1) (by simpa using hc0) (by rw [hmap]; exact hb.2)
      · rw [hmap, List.length_map] at this
        exact this
      · rw [List.getElem?_map] at hx
        obtain ⟨y, hy, rfl⟩ := Option.map_eq_some_iff.1 hx
        refine h3 j _ ?_
        have := cells_get (enc := enc_str) (sz := 1) (fun _ => rfl) l j 0 y hy (by omega)
        rw [Nat.mul_one, Nat.add_zero] at this
        exact this
  · cases hm
end Go.Proofs
end
section
namespace Go.Rk
open Go.RowKit Go.Dm Go.Dk

inductive Ty where
  | bool | int | u8 | u16 | str
  /-- a slice of what is frozen; one that is owned -/
  | sl (e : Ty) | so (te : TypeId) (e : Ty)
  /-- a struct, by its number -/
  | st (n : Nat)
  /-- a pointer to a struct that is frozen; to one that is owned; the same, or nil -/
  | pt (n : Nat) | po (n : Nat) | pn (n : Nat)
  /-- a function of a byte; nothing; this function -/
  | fn | nil | fc (f : Nat)
  /-- this function, with one datum that it holds -/
  | cl (f : Nat) (t : Ty)
  /-- two data (of what is known besides) -/
  | pr (a b : Ty)
deriving DecidableEq
def Ty.den (τ : Nat → Type) : Ty → Type
  | .bool => Bool
  | .int => Int
  | .u8 => UInt8
  | .u16 => UInt16
  | .str => Str
  | .sl e => List (e.den τ)
  | .so _ e => List (e.den τ)
  | .st n => τ n
  | .pt n => τ n
  | .po n => τ n
  | .pn n => Option (τ n)
  | .fn => UInt8 → Option Bool
  | .nil => Unit
  | .fc _ => Unit
  | .cl _ t => t.den τ
  | .pr a b => a.den τ × b.den τ
def DP (τ : Nat → Type) : List Ty → Type
  | [] => Unit
  | [t] => t.den τ
  | t :: u :: ts => t.den τ × DP τ (u :: ts)
variable {τ : Nat → Type}
def DP.hd {t : Ty} : {ts : List Ty} → DP τ (t :: ts) → t.den τ
  | [], p => p
  | _ :: _, p => p.1
def DP.tl {t : Ty} : {ts : List Ty} → DP τ (t :: ts) → DP τ ts
  | [], _ => ()
  | _ :: _, p => p.2
def DP.mk {t : Ty} : {ts : List Ty} → t.den τ → DP τ ts → DP τ (t :: ts)
  | [], x, _ => x
  | _ :: _, x, p => (x, p)
theorem DP.hd_mk {t : Ty} {ts : List Ty} (x : t.den τ) (p : DP τ ts) : (DP.mk x p).hd = x := by cases ts <;> rfl
theorem DP.tl_mk {t : Ty} {ts : List Ty} (x : t.den τ) (p : DP τ ts) : (DP.mk x p).tl = p := by cases ts <;> rfl
abbrev Fz := Nat → Option Obj
def Fz.le (h h' : Fz) : Prop := ∀ b o, h b = some o → h' b = some o
structure Sig (τ : Nat → Type) where
  fs : Nat → List Ty
  ti : Nat → TypeId
  ctor : ∀ n, DP τ (fs n) → τ n
  dtor : ∀ n, τ n → DP τ (fs n)
  cd : ∀ n x, ctor n (dtor n x) = x
  dc : ∀ n p, dtor n (ctor n p) = p
  eq : ∀ n, τ n → τ n → Bool
  /-- functions that may be handed over; package variables -/
  fp : List (FuncId × (UInt8 → Option Bool))
  gl : List (Nat × (t : Ty) × t.den τ)
  /-- what else is known of what is frozen -/
  ax : Fz → Prop := fun _ => True
  axm : ∀ {h h'}, Fz.le h h' → ax h → ax h' := by exact fun _ h => h
inductive CV (τ : Nat → Type) where
  | b (x : Bool)
  /-- a bool that is known -/
  | k (x : Bool)
  | i (x : Int)
  | u8 (x : UInt8)
  | u16 (x : UInt16)
  | s (x : Str)
  /-- a slice of what is frozen; no slice; nil -/
  | sl (e : Ty) (xs : List (e.den τ))
  | n0
  | nl
  /-- a row that a resource holds -/
  | os (id : Nat)
  /-- an address within a resource's block -/
  | pt (id : Nat) (o : Nat)
  /-- an address within what is frozen -/
  | ea (t : Ty) (z : t.den τ) (o : Nat)
  /-- a pointer to what is frozen, or nil -/
  | ep (n : Nat) (x : Option (τ n))
  /-- .. within an element of a row that a resource holds: the row's state, its place, what it was then -/
  | oe (id k : Nat) (m : Int) (t : Ty) (z : t.den τ) (o : Nat)
  | fn (f : FuncId)
  | fm (m : UInt8 → Option Bool)
  /-- a function with a datum that it holds -/
  | cl (f : FuncId) (t : Ty) (x : t.den τ)
  /-- a function with what it holds: a resource -/
  | cf (id : Nat)
  /-- no function -/
  | nf
  | bad
inductive XV (τ : Nat → Type) where
  | c (x : CV τ)
  | g (l : List (CV τ))
  | t (l : List (Bool × List (CV τ)))
  | un
  /-- what is known besides -/
  | gv (t : Ty) (x : t.den τ)
inductive AR (τ : Nat → Type) where
  | gone
  | blk (t : TypeId) (cs : List (CV τ))
  | row (t : TypeId) (e : Ty) (xs : List (e.den τ)) (k : Nat)
  | fz (e : Ty) (xs : List (e.den τ))
  | tree (n : Nat) (x : Option (τ n))
  | nilp
  /-- a function with what it holds (ahead of its arguments, behind them); a part of a row, at a state of it; a block as a row of cells -/
  | clo (f : FuncId) (bs cs : List (CV τ))
  | sb (id n : Nat)
  | vw (id k : Nat) (e : Ty) (lo : Nat) (xs : List (e.den τ))
def Ty.av : (t : Ty) → t.den τ → CV τ
  | .bool, x => .b x
  | .int, x => .i x
  | .u8, x => .u8 x
  | .u16, x => .u16 x
  | .str, x => .s x
  | .sl e, x => .sl e x
  | .so _ e, x => .sl e x
  | .st n, x => .ea (.st n) x 0
  | .pt n, x => .ea (.st n) x 0
  | .po n, x => .ea (.st n) x 0
  | .pn n, x => .ep n x
  | .fn, x => .fm x
  | .nil, _ => .nl
  | .fc f, _ => .fn f
  | .cl f t, x => .cl f t x
  | .pr _ _, _ => .bad
def avs : (ts : List Ty) → DP τ ts → List (CV τ)
  | [], _ => []
  | t :: ts, p => t.av p.hd :: avs ts p.tl
def ets (G : Sig τ) : Ty → List Ty
  | .st n => G.fs n
  | t => [t]
def edt (G : Sig τ) : (t : Ty) → t.den τ → DP τ (ets G t)
  | .st n, x => G.dtor n x
  | .bool, x => x
  | .int, x => x
  | .u8, x => x
  | .u16, x => x
  | .str, x => x
  | .sl _, x => x
  | .so _ _, x => x
  | .pt _, x => x
  | .po _, x => x
  | .pn _, x => x
  | .fn, x => x
  | .nil, x => x
  | .fc _, x => x
  | .cl _ _, x => x
  | .pr _ _, x => x
def ect (G : Sig τ) : (t : Ty) → DP τ (ets G t) → t.den τ
  | .st n, x => G.ctor n x
  | .bool, x => x
  | .int, x => x
  | .u8, x => x
  | .u16, x => x
  | .str, x => x
  | .sl _, x => x
  | .so _ _, x => x
  | .pt _, x => x
  | .po _, x => x
  | .pn _, x => x
  | .fn, x => x
  | .nil, x => x
  | .fc _, x => x
  | .cl _ _, x => x
  | .pr _ _, x => x
theorem edt_ect (G : Sig τ) (t : Ty) (p : DP τ (ets G t)) : edt G t (ect G t p) = p := by
  cases t <;> first | rfl | exact G.dc _ _
def cellsT (G : Sig τ) (t : Ty) (x : t.den τ) : List (CV τ) := avs (ets G t) (edt G t x)
def prT : List Ty → Ty
  | [] => .nil
  | [t] => t
  | t :: u :: ts => .pr t (prT (u :: ts))
def DP.pr : (ts : List Ty) → DP τ ts → (prT ts).den τ
  | [], _ => ()
  | [_], x => x
  | _ :: u :: ts, p => (p.1, DP.pr (u :: ts) p.2)
def castT {t t' : Ty} (x : t.den τ) : Option (t'.den τ) := if h : t = t' then some (h ▸ x) else none
def castL {t t' : Ty} (x : List (t.den τ)) : Option (List (t'.den τ)) := if h : t = t' then some (h ▸ x) else none
def castO {n m : Nat} (x : Option (τ n)) : Option (Option (τ m)) := if h : n = m then some (h ▸ x) else none
def castN {n m : Nat} (x : τ n) : Option (τ m) := if h : n = m then some (h ▸ x) else none
theorem castT_eq {t t' : Ty} {x : t.den τ} {y : t'.den τ} (h : castT x = some y) : ∃ e : t = t', e ▸ x = y := by
  unfold castT at h
  split at h
  · exact ⟨‹_›, Option.some.inj h⟩
  · cases h
theorem castL_eq {t t' : Ty} {x : List (t.den τ)} {y : List (t'.den τ)} (h : castL x = some y) : ∃ e : t = t', e ▸ x = y := by
  unfold castL at h
  split at h
  · exact ⟨‹_›, Option.some.inj h⟩
  · cases h
theorem castO_eq {n m : Nat} {x : Option (τ n)} {y : Option (τ m)} (h : castO x = some y) : ∃ e : n = m, e ▸ x = y := by
  unfold castO at h
  split at h
  · exact ⟨‹_›, Option.some.inj h⟩
  · cases h
theorem castN_eq {n m : Nat} {x : τ n} {y : τ m} (h : castN x = some y) : ∃ e : n = m, e ▸ x = y := by
  unfold castN at h
  split at h
  · exact ⟨‹_›, Option.some.inj h⟩
  · cases h

def Fz.on (h : Fz) (w : World) : Prop := ∀ b o, h b = some o → w.heap[b]? = some o
def SeesF (h : Fz) (a : Option Addr) (vs : List Value) : Prop :=
  vs = [] ∨ ∃ b o c e z, a = some ⟨b, o, none⟩ ∧ h b = some (.cells c e z) ∧ ∀ (k : Nat) v, vs[k]? = some v → c[o + k]? = some v
theorem SeesF.le {h h' : Fz} {a : Option Addr} {vs : List Value} (hl : h.le h') : SeesF h a vs → SeesF h' a vs
  | .inl e => .inl e
  | .inr ⟨b, o, c, e, z, h1, h2, h3⟩ => .inr ⟨b, o, c, e, z, h1, hl _ _ h2, h3⟩
theorem SeesF.sees {h : Fz} {w : World} {a : Option Addr} {vs : List Value} (hw : h.on w) (hs : SeesF h a vs) : Sees w a vs := by
  rcases hs with rfl | ⟨b, o, c, e, z, rfl, h2, h3⟩
  · cases a with
    | none => rfl
    | some x => exact .inl rfl
  · have := hw _ _ h2
    exact .inr ⟨rfl, (Array.getElem?_eq_some_iff.1 this).1, fun i v hv => by simp [World.cell?, this, h3 i v hv]⟩
def FnOk (P : Program) (m : UInt8 → Option Bool) (f : FuncId) : Prop := Callable P f ∧ ∀ c r w, m c = some r → Calls P f #[byte c] w fun e w' => e = .returned (.bool r) ∧ Below w.heap.size w w'

mutual
inductive Rp (P : Program) (G : Sig τ) (h : Fz) : (t : Ty) → t.den τ → Value → Prop
  | bool (x : Bool) : Rp P G h .bool x (.bool x)
  | int (x : Int) : Rp P G h .int x (.int .i64 x)
  | u8 (x : UInt8) : Rp P G h .u8 x (.int .u8 x.toNat)
  | u16 (x : UInt16) : Rp P G h .u16 x (.int .u16 x.toNat)
  | str (x : Str) : Rp P G h .str x (str x)
  | sl (e : Ty) (xs : List (e.den τ)) (a : Option Addr) (c : Nat) (vs : List Value) (hc : xs.length ≤ c) (hs : SeesF h a vs) (hr : RpR P G h e xs vs) : Rp P G h (.sl e) xs (.slice a xs.length c)
  | so (te : TypeId) (e : Ty) (xs : List (e.den τ)) (v : Value) (hr : Rp P G h (.sl e) xs v) : Rp P G h (.so te e) xs v
  | pt (n : Nat) (x : τ n) (b k : Nat) (vs : List Value) (hs : SeesF h (some ⟨b, k, none⟩) vs) (hr : RpL P G h (G.fs n) (G.dtor n x) vs) : Rp P G h (.pt n) x (ptr b k)
  | po (n : Nat) (x : τ n) (v : Value) (hr : Rp P G h (.pt n) x v) : Rp P G h (.po n) x v
  | pn0 (n : Nat) : Rp P G h (.pn n) none (.pointer none)
  | pn1 (n : Nat) (x : τ n) (v : Value) (hr : Rp P G h (.pt n) x v) : Rp P G h (.pn n) (some x) v
  | fn (m : UInt8 → Option Bool) (f : FuncId) (hf : FnOk P m f) : Rp P G h .fn m (.func (.func f) #[] #[])
  | nil : Rp P G h .nil () (.pointer none)
  | fc (f : Nat) : Rp P G h (.fc f) () (.func (.func f) #[] #[])
  | cl (f : Nat) (t : Ty) (x : t.den τ) (u : Value) (hr : Rp P G h t x u) : Rp P G h (.cl f t) x (.func (.func f) #[] #[u])
inductive RpL (P : Program) (G : Sig τ) (h : Fz) : (ts : List Ty) → DP τ ts → List Value → Prop
  | nil : RpL P G h [] () []
  | cons (t : Ty) (ts : List Ty) (p : DP τ (t :: ts)) (v : Value) (vs : List Value) (h1 : Rp P G h t p.hd v) (h2 : RpL P G h ts p.tl vs) : RpL P G h (t :: ts) p (v :: vs)
inductive RpR (P : Program) (G : Sig τ) (h : Fz) : (e : Ty) → List (e.den τ) → List Value → Prop
  | nil (e : Ty) : RpR P G h e [] []
  | cons (e : Ty) (x : e.den τ) (xs : List (e.den τ)) (vs ws : List Value) (h1 : RpL P G h (ets G e) (edt G e x) vs) (h2 : RpR P G h e xs ws) : RpR P G h e (x :: xs) (vs ++ ws)
end
section
variable {P : Program} {G : Sig τ} {h h' : Fz}
mutual
theorem Rp.le (hl : h.le h') : ∀ {t : Ty} {x : t.den τ} {v : Value}, Rp P G h t x v → Rp P G h' t x v
  | _, _, _, .bool x => .bool x
  | _, _, _, .int x => .int x
  | _, _, _, .u8 x => .u8 x
  | _, _, _, .u16 x => .u16 x
  | _, _, _, .str x => .str x
  | _, _, _, .sl e xs a c vs hc hs hr => .sl e xs a c vs hc (hs.le hl) (hr.le hl)
  | _, _, _, .so te e xs v hr => .so te e xs v (hr.le hl)
  | _, _, _, .pt n x b k vs hs hr => .pt n x b k vs (hs.le hl) (hr.le hl)
  | _, _, _, .po n x v hr => .po n x v (hr.le hl)
  | _, _, _, .pn0 n => .pn0 n
  | _, _, _, .pn1 n x v hr => .pn1 n x v (hr.le hl)
  | _, _, _, .fn m f hf => .fn m f hf
  | _, _, _, .nil => .nil
  | _, _, _, .fc f => .fc f
  | _, _, _, .cl f t x u hr => .cl f t x u (hr.le hl)
theorem RpL.le (hl : h.le h') : ∀ {ts : List Ty} {p : DP τ ts} {vs : List Value}, RpL P G h ts p vs → RpL P G h' ts p vs
  | _, _, _, .nil => .nil
  | _, _, _, .cons t ts p v vs h1 h2 => .cons t ts p v vs (h1.le hl) (h2.le hl)
theorem RpR.le (hl : h.le h') : ∀ {e : Ty} {xs : List (e.den τ)} {vs : List Value}, RpR P G h e xs vs → RpR P G h' e xs vs
  | _, _, _, .nil e => .nil e
  | _, _, _, .cons e x xs vs ws h1 h2 => .cons e x xs vs ws (h1.le hl) (h2.le hl)
end
end
end Go.Rk
end
section
namespace Go.Rk
open Go.RowKit Go.Dm Go.Dk
variable {τ : Nat → Type}

def frz : Ty → Bool
  | .so _ _ => false
  | .po _ => false
  | .pn _ => false
  | _ => true
section
variable (P : Program) (G : Sig τ) (h : Fz) (w : World)
mutual
inductive Tr : (t : Ty) → t.den τ → Value → List Nat → Prop
  | fz (t : Ty) (x : t.den τ) (v : Value) (hz : frz t = true) (hr : Rp P G h t x v) : Tr t x v []
  | so (te : TypeId) (e : Ty) (xs : List (e.den τ)) (v : Value) (vs : List Value) (ho : w.ownsRow 0 te (ets G e).length v xs.length vs) (hr : RpR P G h e xs vs) : Tr (.so te e) xs v v.ownBlock.toList
  | po (n : Nat) (x : τ n) (b : Nat) (vs : List Value) (fp : List Nat) (hb : w.heap[b]? = some (.cells vs.toArray (G.ti n) (0, 0))) (hl : TrL (G.fs n) (G.dtor n x) vs fp) (hn : b ∉ fp) : Tr (.po n) x (ptr b 0) (b :: fp)
  | pn0 (n : Nat) : Tr (.pn n) none (.pointer none) []
  | pn1 (n : Nat) (x : τ n) (v : Value) (fp : List Nat) (hp : Tr (.po n) x v fp) : Tr (.pn n) (some x) v fp
inductive TrL : (ts : List Ty) → DP τ ts → List Value → List Nat → Prop
  | nil : TrL [] () [] []
  | cons (t : Ty) (ts : List Ty) (p : DP τ (t :: ts)) (v : Value) (vs : List Value) (f f' : List Nat) (h1 : Tr t p.hd v f) (h2 : TrL ts p.tl vs f') (hd : ∀ b ∈ f, b ∉ f') : TrL (t :: ts) p (v :: vs) (f ++ f')
end
end
section
variable {P : Program} {G : Sig τ} {h h' : Fz} {w w' : World}
theorem row_lt {e n sz : Nat} {v : Value} {vs : List Value} (h : w.ownsRow 0 e sz v n vs) {b : Nat} (hb : b ∈ v.ownBlock.toList) : b < w.heap.size := own_lt h (by simpa using hb)
mutual
theorem Tr.of (hl : h.le h') : ∀ {t : Ty} {x : t.den τ} {v : Value} {fp : List Nat}, Tr P G h w t x v fp → (∀ b ∈ fp, w'.heap[b]? = w.heap[b]?) → Tr P G h' w' t x v fp
  | _, _, _, _, .fz t x v hz hr, _ => .fz t x v hz (hr.le hl)
  | _, _, _, _, .so te e xs v vs ho hr, hb => .so te e xs v vs (own_of ho fun b e => hb b (by simp [e])) (hr.le hl)
  | _, _, _, _, .po n x b vs fp h1 h2 hn, hb => .po n x b vs fp ((hb b (List.mem_cons_self ..)).trans h1) (h2.of hl fun c hc => hb c (List.mem_cons_of_mem _ hc)) hn
  | _, _, _, _, .pn0 n, _ => .pn0 n
  | _, _, _, _, .pn1 n x v fp hp, hb => .pn1 n x v fp (hp.of hl hb)
theorem TrL.of (hl : h.le h') : ∀ {ts : List Ty} {p : DP τ ts} {vs : List Value} {fp : List Nat}, TrL P G h w ts p vs fp → (∀ b ∈ fp, w'.heap[b]? = w.heap[b]?) → TrL P G h' w' ts p vs fp
  | _, _, _, _, .nil, _ => .nil
  | _, _, _, _, .cons t ts p v vs f f' h1 h2 hd, hb => .cons t ts p v vs f f' (h1.of hl fun b hf => hb b (List.mem_append_left _ hf)) (h2.of hl fun b hf => hb b (List.mem_append_right _ hf)) hd
end
mutual
theorem Tr.lt : ∀ {t : Ty} {x : t.den τ} {v : Value} {fp : List Nat}, Tr P G h w t x v fp → ∀ b ∈ fp, b < w.heap.size
  | _, _, _, _, .fz t x v hz hr, b, hb => by cases hb
  | _, _, _, _, .so te e xs v vs ho hr, b, hb => row_lt ho hb
  | _, _, _, _, .po n x c vs fp h1 h2 hn, b, hb => by
    rcases List.mem_cons.1 hb with rfl | hb
    · exact (Array.getElem?_eq_some_iff.1 h1).1
    · exact h2.lt b hb
  | _, _, _, _, .pn0 n, b, hb => by cases hb
  | _, _, _, _, .pn1 n x v fp hp, b, hb => hp.lt b hb
theorem TrL.lt : ∀ {ts : List Ty} {p : DP τ ts} {vs : List Value} {fp : List Nat}, TrL P G h w ts p vs fp → ∀ b ∈ fp, b < w.heap.size
  | _, _, _, _, .nil, b, hb => by cases hb
  | _, _, _, _, .cons t ts p v vs f f' h1 h2 hd, b, hb => by
    rcases List.mem_append.1 hb with hb | hb
    · exact h1.lt b hb
    · exact h2.lt b hb
end
end

abbrev Vn (τ : Nat → Type) := Nat → Option (Value × Option ((e : Ty) × List (e.den τ)))
def Vn.le (ν ν' : Vn τ) : Prop := ∀ i x, ν i = some x → ν' i = some x
def shiftV (v : Value) (o : Nat) : Value := match v with
  | .pointer (some a) => .pointer (some ⟨a.block, a.off + o, a.spot⟩)
  | v => v
section
variable (P : Program) (G : Sig τ) (h : Fz) (ν : Vn τ)
def CVOk : CV τ → Value → Prop
  | .b x, v => v = .bool x
  | .k x, v => v = .bool x
  | .i x, v => v = .int .i64 x
  | .u8 x, v => v = .int .u8 x.toNat
  | .u16 x, v => v = .int .u16 x.toNat
  | .s x, v => v = str x
  | .sl e xs, v => Rp P G h (.sl e) xs v
  | .n0, v => v = .slice none 0 0
  | .nl, v => v = .pointer none
  | .os i, v => ∃ a n c q, ν i = some (.slice a n c, q) ∧ v = .slice a n c
  | .pt i o, v => ∃ u q, ν i = some (.pointer u, q) ∧ v = shiftV (.pointer u) o ∧ (o ≠ 0 → ∃ b, u = some ⟨b, 0, none⟩)
  | .ea t z o, v => ∃ b k vs, v = ptr b (k + o) ∧ SeesF h (some ⟨b, k, none⟩) vs ∧ RpL P G h (ets G t) (edt G t z) vs
  | .ep n x, v => Rp P G h (.pn n) x v
  | .oe i k m t z o, v => ∃ b n c q xs u, ν i = some (.slice (some ⟨b, 0, none⟩) n c, q) ∧ ν k = some (u, some ⟨t, xs⟩) ∧ lAt xs m = some z ∧ v = ptr b (m.toNat * (ets G t).length + o)
  | .fn f, v => v = .func (.func f) #[] #[]
  | .fm m, v => Rp P G h .fn m v
  | .cl f t x, v => Rp P G h (.cl f t) x v
  | .cf i, v => ∃ f us vs q, ν i = some (.func (.func f) ⟨us⟩ ⟨vs⟩, q) ∧ v = .func (.func f) ⟨us⟩ ⟨vs⟩
  | .nf, v => v = .nilFunc
  | .bad, _ => False
def CVs : List (CV τ) → List Value → Prop
  | [], vs => vs = []
  | c :: cs, vs => ∃ v us, vs = v :: us ∧ CVOk P G h ν c v ∧ CVs cs us
def TVs : List (Bool × List (CV τ)) → List Value → Prop
  | [], vs => vs = []
  | (false, [c]) :: cs, vs => ∃ v us, vs = v :: us ∧ CVOk P G h ν c v ∧ TVs cs us
  | (true, l) :: cs, vs => ∃ ws us, vs = .agg ⟨ws⟩ :: us ∧ CVs P G h ν l ws ∧ TVs cs us
  | _, _ => False
def XOk : XV τ → Value → Prop
  | .c c, v => CVOk P G h ν c v
  | .g l, v => ∃ vs, v = .agg ⟨vs⟩ ∧ CVs P G h ν l vs
  | .t l, v => ∃ vs, v = .tuple ⟨vs⟩ ∧ TVs P G h ν l vs
  | .un, v => v = undef
  | .gv _ _, _ => True
def ResOk (w : World) : AR τ → Option (Value × Option ((e : Ty) × List (e.den τ))) → List Nat → Prop
  | .gone, _, fp => fp = []
  | .blk t cs, x, fp => ∃ b q vs, x = some (ptr b 0, q) ∧ fp = [b] ∧ w.heap[b]? = some (.cells vs.toArray t (0, 0)) ∧ CVs P G h ν cs vs
  | .row te e xs k, x, fp => ∃ v q vs u, x = some (v, q) ∧ fp = v.ownBlock.toList ∧ w.ownsRow 0 te (ets G e).length v xs.length vs ∧ RpR P G h e xs vs ∧ ν k = some (u, some ⟨e, xs⟩)
  | .fz e xs, x, fp => ∃ v q, x = some (v, q) ∧ fp = [] ∧ Rp P G h (.sl e) xs v
  | .tree n t, x, fp => ∃ v q, x = some (v, q) ∧ Tr P G h w (.pn n) t v fp
  | .nilp, x, fp => ∃ q, x = some (.pointer none, q) ∧ fp = []
  | .clo f bs cs, x, fp => ∃ us vs q, x = some (.func (.func f) ⟨us⟩ ⟨vs⟩, q) ∧ fp = [] ∧ CVs P G h ν bs us ∧ CVs P G h ν cs vs
  | .sb i n, x, fp => ∃ b q q', ν i = some (ptr b 0, q') ∧ x = some (.slice (some ⟨b, 0, none⟩) n n, q) ∧ fp = []
  | .vw i k e lo xs, x, fp => ∃ a n c q q' u ys a' c', ν i = some (.slice a n c, q) ∧ ν k = some (u, some ⟨e, ys⟩) ∧ lo + xs.length ≤ ys.length ∧ xs = (ys.take (lo + xs.length)).drop lo ∧ x = some (.slice a' xs.length c', q') ∧ xs.length ≤ c' ∧ (xs ≠ [] → a' = a.map (·.add (lo * (ets G e).length))) ∧ fp = []
end
section
variable {P : Program} {G : Sig τ} {h h' : Fz} {ν ν' : Vn τ} {w w' : World}
theorem CVOk.le (hh : h.le h') (hν : ν.le ν') : ∀ {c : CV τ} {v : Value}, CVOk P G h ν c v → CVOk P G h' ν' c v
  | .b _, _, e => e
  | .k _, _, e => e
  | .i _, _, e => e
  | .u8 _, _, e => e
  | .u16 _, _, e => e
  | .s _, _, e => e
  | .sl _ _, _, e => Rp.le hh e
  | .n0, _, e => e
  | .nl, _, e => e
  | .os _, _, ⟨a, n, c, q, e, r⟩ => ⟨a, n, c, q, hν _ _ e, r⟩
  | .pt _ _, _, ⟨u, q, e, r⟩ => ⟨u, q, hν _ _ e, r⟩
  | .ea _ _ _, _, ⟨b, k, vs, e, hs, hr⟩ => ⟨b, k, vs, e, hs.le hh, hr.le hh⟩
  | .ep _ _, _, e => Rp.le hh e
  | .oe _ _ _ _ _ _, _, ⟨b, n, c, q, xs, u, h1, h2, r⟩ => ⟨b, n, c, q, xs, u, hν _ _ h1, hν _ _ h2, r⟩
  | .fn _, _, e => e
  | .fm _, _, e => Rp.le hh e
  | .cl _ _ _, _, e => Rp.le hh e
  | .cf _, _, ⟨f, us, vs, q, e, r⟩ => ⟨f, us, vs, q, hν _ _ e, r⟩
  | .nf, _, e => e
  | .bad, _, e => e.elim
theorem CVs.le (hh : h.le h') (hν : ν.le ν') : ∀ {cs : List (CV τ)} {vs : List Value}, CVs P G h ν cs vs → CVs P G h' ν' cs vs
  | [], _, e => e
  | _ :: _, _, ⟨v, us, e, h1, h2⟩ => ⟨v, us, e, h1.le hh hν, h2.le hh hν⟩
theorem TVs.le (hh : h.le h') (hν : ν.le ν') : ∀ {cs : List (Bool × List (CV τ))} {vs : List Value}, TVs P G h ν cs vs → TVs P G h' ν' cs vs
  | [], _, e => e
  | (false, [_]) :: _, _, ⟨v, us, e, h1, h2⟩ => ⟨v, us, e, h1.le hh hν, TVs.le hh hν h2⟩
  | (true, _) :: _, _, ⟨v, us, e, h1, h2⟩ => ⟨v, us, e, h1.le hh hν, TVs.le hh hν h2⟩
  | (false, []) :: _, _, e => e.elim
  | (false, _ :: _ :: _) :: _, _, e => e.elim
theorem XOk.le (hh : h.le h') (hν : ν.le ν') : ∀ {x : XV τ} {v : Value}, XOk P G h ν x v → XOk P G h' ν' x v
  | .c _, _, e => CVOk.le hh hν e
  | .g _, _, ⟨vs, e, r⟩ => ⟨vs, e, r.le hh hν⟩
  | .t _, _, ⟨vs, e, r⟩ => ⟨vs, e, r.le hh hν⟩
  | .un, _, e => e
  | .gv _ _, _, _ => trivial
theorem ResOk.of (hh : h.le h') (hν : ν.le ν') : ∀ {r : AR τ} {i : Nat} {fp : List Nat}, ResOk P G h ν w r (ν i) fp → (∀ b ∈ fp, w'.heap[b]? = w.heap[b]?) → ResOk P G h' ν' w' r (ν' i) fp
  | .gone, _, _, e, _ => e
  | .blk _ _, _, _, ⟨b, q, vs, e, rfl, h1, h2⟩, hb => ⟨b, q, vs, hν _ _ e, rfl, (hb b (List.mem_singleton.2 rfl)).trans h1, h2.le hh hν⟩
  | .row _ _ _ _, _, _, ⟨v, q, vs, u, e, rfl, h1, h2, h3⟩, hb => ⟨v, q, vs, u, hν _ _ e, rfl, own_of h1 fun b e => hb b (by simp [e]), h2.le hh, hν _ _ h3⟩
  | .fz _ _, _, _, ⟨v, q, e, rfl, h1⟩, _ => ⟨v, q, hν _ _ e, rfl, h1.le hh⟩
  | .tree _ _, _, _, ⟨v, q, e, h1⟩, hb => ⟨v, q, hν _ _ e, h1.of hh hb⟩
  | .nilp, _, _, ⟨q, e, rfl⟩, _ => ⟨q, hν _ _ e, rfl⟩
  | .clo _ _ _, _, _, ⟨us, vs, q, e, rfl, h1, h2⟩, _ => ⟨us, vs, q, hν _ _ e, rfl, h1.le hh hν, h2.le hh hν⟩
  | .sb _ _, _, _, ⟨b, q, q', h1, h2, rfl⟩, _ => ⟨b, q, q', hν _ _ h1, hν _ _ h2, rfl⟩
  | .vw _ _ _ _ _, _, _, ⟨a, n, c, q, q', u, ys, a', c', h1, h2, h3, h4, h5, h6, h7, rfl⟩, _ => ⟨a, n, c, q, q', u, ys, a', c', hν _ _ h1, hν _ _ h2, h3, h4, hν _ _ h5, h6, h7, rfl⟩
theorem ResOk.lt : ∀ {r : AR τ} {x : Option (Value × Option ((e : Ty) × List (e.den τ)))} {fp : List Nat}, ResOk P G h ν w r x fp → ∀ b ∈ fp, b < w.heap.size
  | .gone, _, _, e, b, hb => by subst e; cases hb
  | .blk _ _, _, _, ⟨b, q, vs, e, rfl, h1, h2⟩, c, hc => by cases List.mem_singleton.1 hc; exact (Array.getElem?_eq_some_iff.1 h1).1
  | .row _ _ _ _, _, _, ⟨v, q, vs, u, e, rfl, h1, h2, h3⟩, c, hc => row_lt h1 hc
  | .fz _ _, _, _, ⟨v, q, e, rfl, h1⟩, c, hc => by cases hc
  | .tree _ _, _, _, ⟨v, q, e, h1⟩, c, hc => h1.lt c hc
  | .nilp, _, _, ⟨q, e, rfl⟩, c, hc => by cases hc
end

abbrev Hp (τ : Nat → Type) := List (Nat × AR τ)
noncomputable def lk (L : Hp τ) (t : Nat) : AR τ := List.rec (motive := fun _ => AR τ) .gone (fun p _ ih => Prod.rec (motive := fun _ => AR τ) (fun k v => Bool.rec (motive := fun _ => AR τ) ih v (Nat.beq k t)) p) L
theorem lk_nil (t : Nat) : lk ([] : Hp τ) t = .gone := rfl
theorem lk_cons (k : Nat) (v : AR τ) (L : Hp τ) (t : Nat) : lk ((k, v) :: L) t = bif Nat.beq k t then v else lk L t := by
  show Bool.rec (motive := fun _ => AR τ) (lk L t) v (Nat.beq k t) = _
  cases Nat.beq k t <;> rfl
def kys (U : Hp τ) : List Nat := U.map (·.1)
theorem lk_app_in : ∀ {U : Hp τ} (L : Hp τ) {i : Nat}, i ∈ kys U → lk (U ++ L) i = lk U i
  | [], _, i, hi => by cases hi
  | (k, v) :: U, L, i, hi => by
    simp only [List.cons_append, lk_nil, lk_cons]
    by_cases e : Nat.beq k i = true
    · simp [e]
    · have hne : ¬ k = i := fun e' => e (by simp [e'])
      simp only [Bool.not_eq_true] at e
      rw [e]
      exact lk_app_in L (by
        rcases List.mem_cons.1 hi with h | h
        · exact absurd h.symm hne
        · exact h)
theorem lk_app_out : ∀ {U : Hp τ} (L : Hp τ) {i : Nat}, i ∉ kys U → lk (U ++ L) i = lk L i
  | [], _, i, _ => rfl
  | (k, v) :: U, L, i, hi => by
    have h1 : ¬ k = i := fun e => hi (by simp [kys, e])
    have h2 : i ∉ kys U := fun e => hi (List.mem_cons_of_mem _ e)
    have e : Nat.beq k i = false := nbeq_false.2 h1
    simp only [List.cons_append, lk_nil, lk_cons, e, cond_false]
    exact lk_app_out L h2
def GlOk (P : Program) (G : Sig τ) (h : Fz) : Prop := (∀ p ∈ G.gl, ∃ vs, SeesF h (some ⟨p.1, 0, none⟩) vs ∧ RpL P G h (ets G p.2.1) (edt G p.2.1 p.2.2) vs) ∧ G.ax h
theorem GlOk.le {P : Program} {G : Sig τ} {h h' : Fz} (hh : h.le h') (g : GlOk P G h) : GlOk P G h' := ⟨fun p hp => let ⟨vs, a, b⟩ := g.1 p hp; ⟨vs, a.le hh, b.le hh⟩, G.axm hh g.2⟩
def FpOk (P : Program) (G : Sig τ) : Prop := ∀ p ∈ G.fp, FnOk P p.2 p.1
structure Mem (P : Program) (G : Sig τ) (w0 : World) (h0 : Fz) (F : List Nat) (L : Hp τ) (w : World) (ν : Vn τ) (h : Fz) (φ : Nat → List Nat) : Prop where
  os : w.os = w0.os
  tape : w.tape = w0.tape
  output : w.output = w0.output
  size : w0.heap.size ≤ w.heap.size
  frame : ∀ b, b < w0.heap.size → b ∉ F → w.heap[b]? = w0.heap[b]?
  le : h0.le h
  on : h.on w
  new : ∀ b, h b ≠ none → h0 b ≠ none ∨ b ∈ F ∨ w0.heap.size ≤ b
  res : ∀ i, ResOk P G h ν w (lk L i) (ν i) (φ i)
  dis : ∀ i j b, b ∈ φ i → b ∈ φ j → i = j
  out : ∀ i b, b ∈ φ i → h b = none ∧ (b ∈ F ∨ w0.heap.size ≤ b)
  gl : GlOk P G h
  fp : FpOk P G
def fps (φ : Nat → List Nat) (I : List Nat) : List Nat := I.flatMap φ
theorem mem_fps {φ : Nat → List Nat} {I : List Nat} {b : Nat} : b ∈ fps φ I ↔ ∃ i ∈ I, b ∈ φ i := by simp [fps]
section
variable {P : Program} {G : Sig τ} {w0 w w' : World} {h0 h h' : Fz} {F : List Nat} {L L' : Hp τ} {ν ν' : Vn τ} {φ φ' : Nat → List Nat}
theorem Mem.lt (M : Mem P G w0 h0 F L w ν h φ) {i b : Nat} (hb : b ∈ φ i) : b < w.heap.size := (M.res i).lt b hb
theorem Mem.in_lt (M : Mem P G w0 h0 F L w ν h φ) {b : Nat} (hb : h b ≠ none) : b < w.heap.size := by
  cases e : h b with
  | none => exact absurd e hb
  | some o => exact (Array.getElem?_eq_some_iff.1 (M.on b o e)).1
theorem Mem.upd (M : Mem P G w0 h0 F L w ν h φ) (I : List Nat) (hL : ∀ i, i ∉ I → lk L' i = lk L i) (hφ : ∀ i, i ∉ I → φ' i = φ i) (hν : ν.le ν') (hh : h.le h')
    (hos : w'.os = w.os) (htape : w'.tape = w.tape) (hout : w'.output = w.output) (hsz : w.heap.size ≤ w'.heap.size) (hblk : ∀ b, b < w.heap.size → b ∉ fps φ I → w'.heap[b]? = w.heap[b]?)
    (hon : ∀ b o, h b = none → h' b = some o → w'.heap[b]? = some o) (hnew : ∀ b, h b = none → h' b ≠ none → b ∈ fps φ I ∨ w.heap.size ≤ b)
    (hres : ∀ i ∈ I, ResOk P G h' ν' w' (lk L' i) (ν' i) (φ' i)) (hfp : ∀ i ∈ I, ∀ b ∈ φ' i, h' b = none ∧ (b ∈ fps φ I ∨ w.heap.size ≤ b))
    (hdis : ∀ i ∈ I, ∀ j ∈ I, ∀ b, b ∈ φ' i → b ∈ φ' j → i = j) : Mem P G w0 h0 F L' w' ν' h' φ' := by
  have hF : ∀ b, b ∈ fps φ I ∨ w.heap.size ≤ b → b ∈ F ∨ w0.heap.size ≤ b := by
    intro b hb
    rcases hb with hb | hb
    · obtain ⟨j, _, hj⟩ := mem_fps.1 hb
      exact (M.out j b hj).2
    · exact .inr (Nat.le_trans M.size hb)
  have hne : ∀ i, i ∉ I → ∀ b ∈ φ i, b ∉ fps φ I := by
    intro i hi b hb hc
    obtain ⟨j, hj, hbj⟩ := mem_fps.1 hc
    exact hi (M.dis i j b hb hbj ▸ hj)
  have hcase : ∀ i, i ∉ I → ∀ j ∈ I, ∀ b, b ∈ φ' i → b ∈ φ' j → False := by
    intro i hi j hj b h1 h2
    rw [hφ i hi] at h1
    rcases (hfp j hj b h2).2 with h3 | h3
    · exact hne i hi b h1 h3
    · have := M.lt h1
      omega
  refine ⟨hos.trans M.os, htape.trans M.tape, hout.trans M.output, Nat.le_trans M.size hsz, ?_, fun b o e => hh _ _ (M.le _ _ e), ?_, ?_, ?_, ?_, ?_, M.gl.le hh, M.fp⟩
  · intro b h1 h2
    refine (hblk b (Nat.lt_of_lt_of_le h1 M.size) fun hc => ?_).trans (M.frame b h1 h2)
    rcases hF b (.inl hc) with h3 | h3
    · exact h2 h3
    · omega
  · intro b o e
    cases e1 : h b with
    | none => exact hon b o e1 e
    | some o' =>
      have := hh _ _ e1
      rw [e] at this
      cases this
      refine (hblk b (M.in_lt (by rw [e1]; simp)) fun hc => ?_).trans (M.on _ _ e1)
      obtain ⟨j, _, hj⟩ := mem_fps.1 hc
      have := (M.out j b hj).1
      rw [e1] at this
      cases this
  · intro b hb
    cases e1 : h b with
    | some o' => exact M.new b (by rw [e1]; simp)
    | none => exact .inr (hF b (hnew b e1 hb))
  · intro i
    by_cases hi : i ∈ I
    · exact hres i hi
    · rw [hL i hi, hφ i hi]
      exact (M.res i).of hh hν fun b hb => hblk b (M.lt hb) (hne i hi b hb)
  · intro i j b h1 h2
    by_cases hi : i ∈ I
    · by_cases hj : j ∈ I
      · exact hdis i hi j hj b h1 h2
      · exact (hcase j hj i hi b h2 h1).elim
    · by_cases hj : j ∈ I
      · exact (hcase i hi j hj b h1 h2).elim
      · rw [hφ i hi] at h1
        rw [hφ j hj] at h2
        exact M.dis i j b h1 h2
  · intro i b hb
    by_cases hi : i ∈ I
    · exact ⟨(hfp i hi b hb).1, hF b (hfp i hi b hb).2⟩
    · rw [hφ i hi] at hb
      refine ⟨?_, (M.out i b hb).2⟩
      cases e : h' b with
      | none => rfl
      | some o =>
        exfalso
        rcases hnew b (M.out i b hb).1 (by rw [e]; simp) with h3 | h3
        · exact hne i hi b hb h3
        · have := M.lt hb
          omega
end
end Go.Rk
end
section
namespace Go.Rk
open Go.RowKit Go.Dm Go.Dk

def y0 : Unit := ()
def y1 := y0
def y2 := y1
def y3 := y2
def y4 := y3
def y5 := y4
def y6 := y5
def y7 := y6
def y8 := y7
def y9 := y8
def y10 := y9
def y11 := y10
def y12 := y11
def y13 := y12
def y14 := y13
def y15 := y14
def y16 := y15
def y17 := y16
def y18 := y17
def y19 := y18
def y20 := y19
def y21 := y20
def y22 := y21
def y23 := y22
def y24 := y23
def y25 := y24
def y26 := y25
def y27 := y26
def y28 := y27
def y29 := y28
def y30 := y29
def y31 := y30
def y32 := y31
def y33 := y32
def y34 := y33
def y35 := y34
def y36 := y35
def y37 := y36
def y38 := y37
def y39 := y38
def y40 := y39
def y41 := y40
def y42 := y41
def y43 := y42
def y44 := y43
def y45 := y44
def y46 := y45
def y47 := y46
def y48 := y47
def y49 := y48
def y50 := y49
def y51 := y50
def y52 := y51
def y53 := y52
def y54 := y53
def y55 := y54
def y56 := y55
def y57 := y56
def y58 := y57
def y59 := y58
def y60 := y59
def y61 := y60
def y62 := y61
def y63 := y62
def y64 := y63
def y65 := y64
def y66 := y65
def y67 := y66
def y68 := y67
def y69 := y68
def y70 := y69
def y71 := y70
def y72 := y71
def y73 := y72
def y74 := y73
def y75 := y74
def y76 := y75
def y77 := y76
def y78 := y77
def y79 := y78
def y80 := y79
def y81 := y80
def y82 := y81
def y83 := y82
def y84 := y83
def y85 := y84
def y86 := y85
def y87 := y86
def y88 := y87
def y89 := y88
def y90 := y89
def y91 := y90
def y92 := y91
def y93 := y92
def y94 := y93
def y95 := y94
def y96 := y95
def y97 := y96
def y98 := y97
def y99 := y98
def y100 := y99
def y101 := y100
def y102 := y101
def y103 := y102
def y104 := y103
def y105 := y104
def y106 := y105
def y107 := y106
def y108 := y107
def y109 := y108
def y110 := y109
def y111 := y110
def y112 := y111
def y113 := y112
def y114 := y113
def y115 := y114
def y116 := y115
def y117 := y116
def y118 := y117
def y119 := y118
def y120 := y119
def y121 := y120
def y122 := y121
def y123 := y122
def y124 := y123
def y125 := y124
def y126 := y125
def y127 := y126
def y128 := y127
def y129 := y128
def y130 := y129
def y131 := y130
def y132 := y131
def y133 := y132
def y134 := y133
def y135 := y134
def y136 := y135
def y137 := y136
def y138 := y137
def y139 := y138
def y140 := y139
def y141 := y140
def y142 := y141
def y143 := y142
def y144 := y143
def y145 := y144
def y146 := y145
def y147 := y146
def y148 := y147
def y149 := y148
def y150 := y149
abbrev bc {α : Sort _} (b : Bool) (x y : α) : α := match b with | true => x | false => y
def hi {α : Sort _} (x : α) : α := (fun _ => x) y150
structure Con (τ : Nat → Type) where
  ps : List Ty
  rs : List Ty
  nr : Nat
  bk : List Nat
  m : DP τ ps → Option (DP τ rs)
abbrev Cons (τ : Nat → Type) := List (FuncId × Con τ)
structure Cx (τ : Nat → Type) where
  P : Program
  G : Sig τ
  ty : List (TypeId × Ty)
  cs : Cons τ
  n : Nat
  fx : Nat → Value
def Cx.w {τ : Nat → Type} (X : Cx τ) (fx : Nat → Value) : Cx τ := ⟨X.P, X.G, X.ty, X.cs, X.n, fx⟩
variable {τ : Nat → Type} {ρ : Type}
abbrev EnvX (τ : Nat → Type) := List (Nat × XV τ)
noncomputable section
def asc {α : Type} (l : List (Nat × α)) (t : Nat) : Option α := List.rec (motive := fun _ => Option α) none (fun p _ ih => Prod.rec (motive := fun _ => Option α) (fun k v => Bool.rec (motive := fun _ => Option α) ih (some v) (Nat.beq k t)) p) l
theorem asc_nil {α : Type} (t : Nat) : asc ([] : List (Nat × α)) t = none := rfl
theorem asc_cons {α : Type} (k : Nat) (v : α) (l : List (Nat × α)) (t : Nat) : asc ((k, v) :: l) t = bif Nat.beq k t then some v else asc l t := by
  show Bool.rec (motive := fun _ => Option α) (asc l t) (some v) (Nat.beq k t) = _
  cases Nat.beq k t <;> rfl
def anyR {α : Type} (l : List α) (f : α → Bool) : Bool := List.rec (motive := fun _ => Bool) false (fun x _ ih => Bool.rec (motive := fun _ => Bool) ih true (f x)) l
theorem anyR_eq {α : Type} (l : List α) (f : α → Bool) : anyR l f = l.any f := by
  induction l with
  | nil => rfl
  | cons x l ih =>
    show Bool.rec (motive := fun _ => Bool) (anyR l f) true (f x) = (f x || l.any f)
    rw [ih]
    cases f x <;> rfl
def allR {α : Type} (l : List α) (f : α → Bool) : Bool := List.rec (motive := fun _ => Bool) true (fun x _ ih => Bool.rec (motive := fun _ => Bool) false ih (f x)) l
theorem allR_eq {α : Type} (l : List α) (f : α → Bool) : allR l f = l.all f := by
  induction l with
  | nil => rfl
  | cons x l ih =>
    show Bool.rec (motive := fun _ => Bool) false (allR l f) (f x) = (f x && l.all f)
    rw [ih]
    cases f x <;> rfl
def mem (l : List Nat) (i : Nat) : Bool := List.rec (motive := fun _ => Bool) false (fun x _ ih => Bool.rec (motive := fun _ => Bool) ih true (Nat.beq i x)) l
theorem mem_def (l : List Nat) (i : Nat) : mem l i = l.any (Nat.beq i) := anyR_eq l (Nat.beq i)
theorem mem_cons (l : List Nat) (i j : Nat) : mem (j :: l) i = (Nat.beq i j || mem l i) := by rw [mem_def, mem_def]; rfl
def nod : List Nat → Bool
  | [] => true
  | i :: l => !mem l i && nod l
def disj (l m : List Nat) : Bool := allR l fun i => !mem m i
theorem disj_def (l m : List Nat) : disj l m = l.all fun i => !mem m i := allR_eq _ _

def cvV : Value → Option (CV τ)
  | .bool b => some (.k b)
  | .int .i64 n => some (.i n)
  | .int .u8 (.ofNat n) => bif Nat.blt n 256 then some (.u8 (UInt8.ofNat n)) else none
  | .int .u16 (.ofNat n) => bif Nat.blt n 65536 then some (.u16 (UInt16.ofNat n)) else none
  | .string ⟨⟨l⟩⟩ => some (.s l)
  | .slice none 0 0 => some .n0
  | .pointer none => some .nl
  | .nilFunc => some .nf
  | _ => none
def cvVs : List Value → Option (List (CV τ))
  | [] => some []
  | v :: vs => match cvV v with
    | some c => match cvVs vs with
      | some cs => some (c :: cs)
      | none => none
    | none => none
def gh : Nat := 9000
def gb : Nat := 40000
def glE (l : List (Nat × (t : Ty) × t.den τ)) : EnvX τ := l.map fun p => (gb + p.1, .c (.ea p.2.1 p.2.2 0))
def evX (E : EnvX τ) : Operand → Option (XV τ)
  | .tmp t => bif Nat.blt t gh then asc E t else none
  | .const v => match cvV v with
    | some c => some (.c c)
    | none => none
  | .func f => some (.c (.fn f))
  | .global g => asc E (gb + g)
def evC (E : EnvX τ) (x : Operand) : Option (CV τ) := match evX E x with
  | some (.c c) => some c
  | _ => none
def boolC : CV τ → Option Bool
  | .b x => some x
  | .k x => some x
  | _ => none
def evXs (E : EnvX τ) : List Operand → Option (List (XV τ))
  | [] => some []
  | x :: xs => match evX E x with
    | some v => match evXs E xs with
      | some vs => some (v :: vs)
      | none => none
    | none => none

def nthL {α : Type} : List α → Nat → Option α
  | [], _ => none
  | x :: _, 0 => some x
  | _ :: l, n + 1 => nthL l n
def cutL {α : Type} (l : List α) : Nat → Nat → Option (List α)
  | _, 0 => some []
  | o, n + 1 => match nthL l o with
    | some v => match cutL l (o + 1) n with
      | some r => some (v :: r)
      | none => none
    | none => none
abbrev Rs (α : Type) := Option (α × List Nat × List Nat)
def resL (f : (t : Ty) → CV τ → Rs (t.den τ)) : (ts : List Ty) → List (CV τ) → Rs (DP τ ts)
  | [], [] => some ((), [], [])
  | t :: ts, c :: cs => match f t c with
    | some (x, l, m) => match resL f ts cs with
      | some (p, l', m') => some (.mk x p, l ++ l', m ++ m')
      | none => none
    | none => none
  | _, _ => none
def lokL (f : (t : Ty) → CV τ → Option (t.den τ × List Nat)) : (ts : List Ty) → List (CV τ) → Option (DP τ ts × List Nat)
  | [], [] => some ((), [])
  | t :: ts, c :: cs => match f t c with
    | some (x, m) => match lokL f ts cs with
      | some (p, m') => some (.mk x p, m ++ m')
      | none => none
    | none => none
  | _, _ => none
def lokS (L : Hp τ) (e : Ty) : CV τ → Option (List (e.den τ) × List Nat)
  | .sl _ xs => match castL (t' := e) xs with
    | some x => some (x, [])
    | none => none
  | .n0 => some ([], [])
  | .os id => match lk L id with
    | .row _ _ xs _ => match castL (t' := e) xs with
      | some x => some (x, [id])
      | none => none
    | .fz _ xs => match castL (t' := e) xs with
      | some x => some (x, [id])
      | none => none
    | .vw i k _ _ xs => match lk L i with
      | .row _ _ _ k' => bif Nat.beq k k' then (match castL (t' := e) xs with
        | some x => some (x, [id, i])
        | none => none) else none
      | _ => none
    | _ => none
  | _ => none
def eaO (n o : Nat) : (t : Ty) → t.den τ → Option (τ n)
  | .st _, z => bif Nat.beq o 0 then castN z else none
  | _, _ => none
def lokP (f : (t : Ty) → CV τ → Option (t.den τ × List Nat)) (G : Sig τ) (L : Hp τ) (n : Nat) : CV τ → Option (τ n × List Nat)
  | .ea t z o => match eaO n o t z with
    | some x => some (x, [])
    | none => match cutL (cellsT G t z) o (G.fs n).length with
      | some cs => match lokL f (G.fs n) cs with
        | some (p, m) => some (G.ctor n p, m)
        | none => none
      | none => none
  | .pt id o => match lk L id with
    | .blk _ cs => match cutL cs o (G.fs n).length with
      | some cs => match lokL f (G.fs n) cs with
        | some (p, m) => some (G.ctor n p, id :: m)
        | none => none
      | none => none
    | _ => none
  | _ => none
def lokT (L : Hp τ) (n : Nat) : CV τ → Option (Option (τ n) × List Nat)
  | .pt id 0 => match lk L id with
    | .tree _ y => match castO (m := n) y with
      | some x => some (x, [id])
      | none => none
    | .nilp => some (none, [id])
    | _ => none
  | _ => none
def lok (G : Sig τ) (L : Hp τ) : Nat → (t : Ty) → CV τ → Option (t.den τ × List Nat)
  | 0, _, _ => none
  | d + 1, t, c => match t with
    | .bool => match c with
      | .b x => some (x, [])
      | .k x => some (x, [])
      | _ => none
    | .int => match c with
      | .i x => some (x, [])
      | _ => none
    | .u8 => match c with
      | .u8 x => some (x, [])
      | _ => none
    | .u16 => match c with
      | .u16 x => some (x, [])
      | _ => none
    | .str => match c with
      | .s x => some (x, [])
      | _ => none
    | .fn => match c with
      | .fm x => some (x, [])
      | .fn f => match asc G.fp f with
        | some m => some (m, [])
        | none => none
      | _ => none
    | .nil => match c with
      | .nl => some ((), [])
      | _ => none
    | .fc f => match c with
      | .fn g => bif Nat.beq g f then some ((), []) else none
      | _ => none
    | .cl f t' => match c with
      | .cl g _ y => bif Nat.beq g f then (match castT (t' := t') y with
        | some x => some (x, [])
        | none => none) else none
      | .cf id => match lk L id with
        | .clo g [] [c'] => bif Nat.beq g f then (match lok G L d t' c' with
          | some (x, m) => some (x, id :: m)
          | none => none) else none
        | _ => none
      | _ => none
    | .sl e => lokS L e c
    | .so _ e => lokS L e c
    | .pt n => lokP (lok G L d) G L n c
    | .po n => lokP (lok G L d) G L n c
    | .pn n => match c with
      | .nl => some (none, [])
      | .ep _ x => match castO (m := n) x with
        | some x => some (x, [])
        | none => none
      | c => match lokT L n c with
        | some r => some r
        | none => match lokP (lok G L d) G L n c with
          | some (x, m) => some (some x, m)
          | none => none
    | _ => none
def resP (f : (t : Ty) → CV τ → Rs (t.den τ)) (G : Sig τ) (L : Hp τ) (n id : Nat) : Rs (τ n) := match lk L id with
  | .blk t cs => bif Nat.beq t (G.ti n) then (match resL f (G.fs n) cs with
    | some (p, l, m) => some (G.ctor n p, id :: l, m)
    | none => none) else none
  | _ => none
def res (G : Sig τ) (L : Hp τ) : Nat → (t : Ty) → CV τ → Rs (t.den τ)
  | 0, _, _ => none
  | d + 1, t, c => match t with
    | .so te e => match c with
      | .n0 => some ([], [], [])
      | .os id => match lk L id with
        | .row te' _ xs _ => bif Nat.beq te te' then (match castL (t' := e) xs with
          | some x => some (x, [id], [])
          | none => none) else none
        | _ => none
      | _ => none
    | .po n => match c with
      | .pt id 0 => resP (res G L d) G L n id
      | _ => none
    | .pn n => match c with
      | .nl => some (none, [], [])
      | .pt id 0 => match lk L id with
        | .tree _ x => match castO (m := n) x with
          | some x => some (x, [id], [])
          | none => none
        | .nilp => some (none, [id], [])
        | _ => match resP (res G L d) G L n id with
          | some (x, l, m) => some (some x, l, m)
          | none => none
      | _ => none
    | t => match lok G L (d + 1) t c with
      | some (x, m) => some (x, [], m)
      | none => none
def depth : Nat := 8
def resX (G : Sig τ) (L : Hp τ) : (t : Ty) → XV τ → Rs (t.den τ)
  | .st n, .g cs => match resL (res G L depth) (G.fs n) cs with
    | some (p, l, m) => some (G.ctor n p, l, m)
    | none => none
  | t, .c c => res G L depth t c
  | .pr a b, .gv _ x => match castT (t' := .pr a b) x with
    | some x => some (x, [], [])
    | none => none
  | _, _ => none
def resXs (G : Sig τ) (L : Hp τ) : (ts : List Ty) → List (XV τ) → Rs (DP τ ts)
  | [], [] => some ((), [], [])
  | t :: ts, c :: cs => match resX G L t c with
    | some (x, l, m) => match resXs G L ts cs with
      | some (p, l', m') => some (.mk x p, l ++ l', m ++ m')
      | none => none
    | none => none
  | _, _ => none
def expL (f : (t : Ty) → t.den τ → Nat → CV τ × Hp τ × Nat) : (ts : List Ty) → DP τ ts → Nat → List (CV τ) × Hp τ × Nat
  | [], _, nid => ([], [], nid)
  | t :: ts, p, nid => match f t p.hd nid with
    | (c, U, nid) => match expL f ts p.tl nid with
      | (cs, U', nid) => (c :: cs, U ++ U', nid)
def expC (G : Sig τ) : Nat → (t : Ty) → t.den τ → Nat → CV τ × Hp τ × Nat
  | d + 1, .po n, x, nid => match expL (expC G d) (G.fs n) (G.dtor n x) (nid + 1) with
    | (cs, U, nid') => (.pt nid 0, (nid, .blk (G.ti n) cs) :: U, nid')
  | 0, .po n, x, nid => (.pt nid 0, [(nid, .tree n (some x))], nid + 1)
  | _, .so te e, x, nid => (.os nid, [(nid, .row te e x nid)], nid + 1)
  | _, .pn n, x, nid => (.pt nid 0, [(nid, .tree n x)], nid + 1)
  | _, t, x, nid => (t.av x, [], nid)
def expAt (G : Sig τ) (i n : Nat) (x : τ n) (nid : Nat) : Hp τ × Nat := match expL (expC G depth) (G.fs n) (G.dtor n x) nid with
  | (cs, U, nid') => ((i, .blk (G.ti n) cs) :: U, nid')
def expO (G : Sig τ) (t : Ty) (x : t.den τ) (nid : Nat) : XV τ × Hp τ × Nat := match expC G depth t x nid with
  | (c, U, nid) => (.c c, U, nid)
def expS (G : Sig τ) (n : Nat) (x : τ n) (nid : Nat) : XV τ × Hp τ × Nat := match expL (expC G depth) (G.fs n) (G.dtor n x) nid with
  | (cs, U, nid) => (.g cs, U, nid)
def expX (G : Sig τ) : (t : Ty) → t.den τ → Nat → XV τ × Hp τ × Nat
  | .st n, x, nid => expS G n x nid
  | .pr a b, x, nid => (.gv (.pr a b) x, [], nid)
  | t, x, nid => expO G t x nid
def freeze (L : Hp τ) : List Nat → Option (Hp τ)
  | [] => some []
  | i :: is => match freeze L is with
    | some U => match lk L i with
      | .row _ e xs _ => some ((i, .fz e xs) :: U)
      | .fz e xs => some ((i, .fz e xs) :: U)
      | _ => none
    | none => none

def putL {α : Type} : List α → Nat → List α → Option (List α)
  | cs, 0, vs => go cs vs
  | c :: cs, o + 1, vs => match putL cs o vs with
    | some r => some (c :: r)
    | none => none
  | [], _ + 1, _ => none
where go : List α → List α → Option (List α)
  | cs, [] => some cs
  | _ :: cs, v :: vs => match go cs vs with
    | some r => some (v :: r)
    | none => none
  | [], _ :: _ => none
def isA (P : Program) (t : TypeId) : Option Bool := match P.underlying t with
  | some (.struct _) => some true
  | some (.array _ _) => some true
  | some _ => some false
  | none => none
def szO (P : Program) (t : TypeId) : Option Nat := match P.info? t with
  | some i => some i.size
  | none => none
def elO (P : Program) (t : TypeId) : Option TypeId := match P.underlying t with
  | some (.slice e) => some e
  | _ => none
def fldO (P : Program) (t : TypeId) (i : Nat) : Option (Nat × TypeId) := match P.underlying t with
  | some (.struct ⟨fs⟩) => match nthL fs i with
    | some f => match szO P f.type with
      | some (_ + 1) => some (f.offset, f.type)
      | _ => none
    | none => none
  | _ => none
def zeroO (P : Program) (t : TypeId) : Option (List (CV τ)) := match P.info? t with
  | some i => match i.zero with
    | some v => cvVs v.cells.toList
    | none => none
  | none => none
def cellsX : XV τ → Option (List (CV τ))
  | .c c => some [c]
  | .g l => some l
  | _ => none
def cmpI (o : BinOp) (m n : Int) : Option Bool := match o with
  | .eql => some (m == n)
  | .neq => some (!(m == n))
  | .lss => some (decide (m < n))
  | .leq => some (decide (m ≤ n))
  | .gtr => some (decide (n < m))
  | .geq => some (decide (n ≤ m))
  | _ => none
def cmpB (o : BinOp) (m n : UInt8) : Option Bool := match o with
  | .eql => some (m == n)
  | .neq => some (!(m == n))
  | .lss => some (decide (m < n))
  | .leq => some (decide (m ≤ n))
  | .gtr => some (decide (n < m))
  | .geq => some (decide (n ≤ m))
  | _ => none
def cmpS (o : BinOp) (l m : Str) : Option Bool := match o with
  | .eql => some (l == m)
  | .neq => some (!(l == m))
  | .lss => some (sLess l m)
  | .leq => some (sLess l m || l == m)
  | .gtr => some (!(sLess l m || l == m))
  | .geq => some (!(sLess l m))
  | _ => none
def eqO (o : BinOp) (b : Bool) : Option Bool := match o with
  | .eql => some b
  | .neq => some (!b)
  | _ => none
def adC : CV τ → Bool
  | .ea _ _ _ => true
  | .oe _ _ _ _ _ _ => true
  | _ => false
def obX : Option Bool → Option (XV τ)
  | some x => some (.c (.b x))
  | none => none
def okX : Option Bool → Option (XV τ)
  | some x => some (.c (.k x))
  | none => none
def scal : Ty → Bool
  | .bool => true
  | .int => true
  | .u8 => true
  | .u16 => true
  | .str => true
  | _ => false
def binX (X : Cx τ) (o : BinOp) (t : TypeId) : XV τ → XV τ → Option (XV τ)
  | .c (.i m), .c (.i n) => obX (cmpI o m n)
  | .c (.u8 m), .c (.u8 n) => match o with
    | .add => some (.c (.u8 (m + n)))
    | .sub => some (.c (.u8 (m - n)))
    | _ => obX (cmpB o m n)
  | .c (.u16 m), .c (.u16 n) => match o with
    | .eql => some (.c (.b (m == n)))
    | .neq => some (.c (.b (!(m == n))))
    | _ => none
  | .c (.s l), .c (.s m) => obX (cmpS o l m)
  | .c .nl, .c .nl => match X.P.underlying t with
    | some (.pointer _) => okX (eqO o true)
    | _ => none
  | .c c, .c .nl => match X.P.underlying t with
    | some (.pointer _) => bif adC c then okX (eqO o false) else none
    | _ => none
  | .c c, .c d => match boolC c with
    | some x => match boolC d with
      | some y => match X.P.underlying t with
        | some .bool => obX (eqO o (x == y))
        | _ => none
      | none => none
    | none => none
  | .g l, .g m => match asc X.ty t with
    | some (.st n) => bif (X.G.fs n).all scal then match lokL (lok X.G [] depth) (X.G.fs n) l with
      | some (p, []) => match lokL (lok X.G [] depth) (X.G.fs n) m with
        | some (q, []) => obX (eqO o (X.G.eq n (X.G.ctor n p) (X.G.ctor n q)))
        | _ => none
      | _ => none
      else none
    | _ => none
  | _, _ => none
def convX (P : Program) (s d : TypeId) : CV τ → Option (XV τ)
  | .u8 x => match P.underlying d with
    | some (.int .i64) => match P.underlying s with
      | some (.int .u8) => some (.c (.i (x.toNat : Int)))
      | _ => none
    | _ => none
  | .u16 x => match P.underlying d with
    | some (.int .i64) => match P.underlying s with
      | some (.int .u16) => some (.c (.i (x.toNat : Int)))
      | _ => none
    | _ => none
  | .i x => match P.underlying d with
    | some (.int .u8) => match P.underlying s with
      | some (.int .i64) => some (.c (.u8 (iByte x)))
      | _ => none
    | _ => none
  | .s l => match P.underlying d with
    | some .string => match P.underlying s with
      | some .string => some (.c (.s l))
      | _ => none
    | _ => none
  | .sl .u8 l => match P.underlying d with
    | some .string => match P.underlying s with
      | some (.slice e) => match P.underlying e with
        | some (.int .u8) => some (.c (.s l))
        | _ => none
      | _ => none
    | _ => none
  | _ => none
def placesO (P : Program) : List Field → Option (List (Nat × Nat))
  | [] => some []
  | f :: fs => match szO P f.type with
    | some s => match placesO P fs with
      | some r => some ((f.offset, s) :: r)
      | none => none
    | none => none
def placeX (P : Program) (t : TypeId) : Option (Nat → Option (Nat × Nat)) := match P.underlying t with
  | some (.array _ e) => match szO P e with
    | some s => some fun i => some (i * s, s)
    | none => none
  | some (.struct ⟨fs⟩) => match placesO P fs with
    | some l => some (nthL l)
    | none => none
  | _ => none
def buildX (pl : Nat → Option (Nat × Nat)) (E : EnvX τ) : List (Nat × Operand) → List (CV τ) → Option (List (CV τ))
  | [], cs => some cs
  | (i, x) :: ps, cs => match pl i with
    | some (o, s) => match evX E x with
      | some v => match cellsX v with
        | some vs => bif Nat.beq vs.length s then (match putL cs o vs with
            | some cs => buildX pl E ps cs
            | none => none) else none
        | none => none
      | none => none
    | none => none
def opP (X : Cx τ) (E : EnvX τ) : Op → Option (XV τ)
  | .move x => evX E x
  | .assign x => evX E x
  | .pick c x y => match evC E c with
    | some (.k true) => evX E x
    | some (.k false) => evX E y
    | _ => none
  | .unOp .not _ x => match evC E x with
    | some (.b z) => some (.c (.b (!z)))
    | some (.k z) => some (.c (.k (!z)))
    | _ => none
  | .extract x i => match evX E x with
    | some (.t l) => match nthL l i with
      | some (false, [c]) => some (.c c)
      | some (true, cs) => some (.g cs)
      | _ => none
    | _ => none
  | .nilCheck x => match evC E x with
    | some c => bif adC c then some (.c c) else none
    | none => none
  | .fieldAddr t x i => match fldO X.P t i with
    | some (f, _) => match evC E x with
      | some (.ea t z o) => some (.c (.ea t z (o + f)))
      | some (.oe id k m t z o) => some (.c (.oe id k m t z (o + f)))
      | _ => none
    | none => none
  | .field t x i => match fldO X.P t i with
    | some (f, ft) => match evX E x with
      | some (.g cs) => match isA X.P ft with
        | some true => match szO X.P ft with
          | some s => match cutL cs f s with
            | some l => some (.g l)
            | none => none
          | none => none
        | some false => match nthL cs f with
          | some c => some (.c c)
          | none => none
        | none => none
      | _ => none
    | none => none
  | .binOp o t x y _ => match evX E x with
    | some a => match evX E y with
      | some b => binX X o t a b
      | none => none
    | none => none
  | .convert s d x => match evC E x with
    | some c => convX X.P s d c
    | none => none
  | .build t ⟨ps⟩ => match zeroO X.P t with
    | some z => match placeX X.P t with
      | some pl => match buildX pl E ps z with
        | some cs => some (.g cs)
        | none => none
      | none => none
    | none => none
  | .call ⟨.builtin .len, ⟨[x]⟩, ⟨[t]⟩⟩ => match evC E x with
    | some (.s l) => match X.P.underlying t with
      | some .string => some (.c (.i (l.length : Int)))
      | _ => none
    | some (.sl _ l) => match X.P.underlying t with
      | some (.slice _) => some (.c (.i (l.length : Int)))
      | _ => none
    | some .n0 => match X.P.underlying t with
      | some (.slice _) => some (.c (.i 0))
      | _ => none
    | _ => none
  | .call ⟨.builtin .min, ⟨[x, y]⟩, ⟨[_, _]⟩⟩ => match evC E x with
    | some (.i m) => match evC E y with
      | some (.i n) => some (.c (.i (min m n)))
      | _ => none
    | _ => none
  | .call ⟨.builtin .max, ⟨[x, y]⟩, ⟨[_, _]⟩⟩ => match evC E x with
    | some (.i m) => match evC E y with
      | some (.i n) => some (.c (.i (max m n)))
      | _ => none
    | _ => none
  | _ => none

abbrev Nx (τ : Nat → Type) (ρ : Type) := XV τ → List (XV τ) → Hp τ → List Nat → Nat → Option ρ
def fitO (P : Program) (n m : Nat) (e : TypeId) : Bool := match P.info? e with
  | some i => fitsApp n m i.bytes
  | none => false
def bytO (P : Program) (e : TypeId) : Bool := match P.info? e with
  | some i => match i.zero with
    | some (.int .u8 (.ofNat 0)) => Nat.beq i.size 1 && Nat.beq i.bytes 1
    | _ => false
  | none => false
def rowO (L : Hp τ) (e : Ty) : CV τ → Option (List (e.den τ) × List Nat)
  | .sl _ xs => match castL (t' := e) xs with
    | some x => some (x, [])
    | none => none
  | .n0 => some ([], [])
  | .os id => match lk L id with
    | .row _ _ xs _ => match castL (t' := e) xs with
      | some x => some (x, [id])
      | none => none
    | .fz _ xs => match castL (t' := e) xs with
      | some x => some (x, [id])
      | none => none
    | .vw i k _ _ xs => match lk L i with
      | .row _ _ _ k' => bif Nat.beq k k' then (match castL (t' := e) xs with
        | some x => some (x, [id, i])
        | none => none) else none
      | _ => none
    | _ => none
  | _ => none
def sliO (L : Hp τ) : CV τ → Option ((e : Ty) × List (e.den τ) × Hp τ × List Nat)
  | .sl e xs => some ⟨e, xs, [], []⟩
  | .os id => match lk L id with
    | .row _ e xs _ => some ⟨e, xs, [(id, .fz e xs)], [id]⟩
    | .fz e xs => some ⟨e, xs, [], [id]⟩
    | _ => none
  | _ => none
def opI (nid : Nat) (K : Nx τ ρ) (o : BinOp) (a b : XV τ) : Option ρ := hi <| match o, a, b with
  | .add, .c (.i m), .c (.i n) => (iAdd m n).bind fun r => K (.c (.i r)) [] [] [] nid
  | .sub, .c (.i m), .c (.i n) => (iSub m n).bind fun r => K (.c (.i r)) [] [] [] nid
  | .mul, .c (.i m), .c (.i n) => (iMul m n).bind fun r => K (.c (.i r)) [] [] [] nid
  | .quo, .c (.i m), .c (.i n) => (iDiv m n).bind fun r => K (.c (.i r)) [] [] [] nid
  | .rem, .c (.i m), .c (.i n) => (iMod m n).bind fun r => K (.c (.i r)) [] [] [] nid
  | .add, .c (.s l), .c (.s m) => (sCat l m).bind fun r => K (.c (.s r)) [] [] [] nid
  | _, _, _ => none
def rowA (L : Hp τ) (te : TypeId) (e : Ty) : CV τ → Option (List (e.den τ) × Hp τ × List Nat)
  | .n0 => some ([], [], [])
  | .os id => match lk L id with
    | .row te' _ xs _ => bif Nat.beq te te' then (match castL (t' := e) xs with
      | some xs => some (xs, [(id, .gone)], [id])
      | none => none) else none
    | _ => none
  | _ => none
def oneO (P : Program) (t : TypeId) : Option (List (CV τ)) → Option (XV τ)
  | some l => match isA P t with
    | some true => some (.g l)
    | some false => match l with
      | [c] => some (.c c)
      | _ => none
    | none => none
  | none => none
def lokX (G : Sig τ) (L : Hp τ) : (t : Ty) → XV τ → Option (t.den τ × List Nat)
  | .st n, .g cs => match lokL (lok G L depth) (G.fs n) cs with
    | some (p, m) => some (G.ctor n p, m)
    | none => none
  | t, .c c => lok G L depth t c
  | _, _ => none
def eltsX (X : Cx τ) (L : Hp τ) (E : EnvX τ) (e : Ty) : Nat → List (Nat × Operand) → Option (List (e.den τ) × List Nat)
  | _, [] => some ([], [])
  | k, (i, x) :: ps => bif Nat.beq i k then (match evX E x with
    | some v => match lokX X.G L e v with
      | some (x, m) => match eltsX X L E e (k + 1) ps with
        | some (xs, m') => some (x :: xs, m ++ m')
        | none => none
      | none => none
    | none => none) else none
def shows (G : Sig τ) : Nat → Ty → Bool
  | d + 1, t => match t with
    | .bool => false
    | .int => false
    | .u8 => false
    | .u16 => false
    | .str => false
    | .nil => false
    | .fc _ => false
    | .fn => false
    | .so _ e => !((ets G e).all scal)
    | .st n => (G.fs n).any (shows G d)
    | .po n => (G.fs n).any (shows G d)
    | .pn n => (G.fs n).any (shows G d)
    | _ => true
  | _, _ => true
abbrev optK {α : Type} {β : Sort _} (o : Option α) (k0 : β) (k1 : α → β) : β := match o with | none => k0 | some x => k1 x
def resH (G : Sig τ) : Option (Option Nat) → (t : Ty) → t.den τ → Nat → (Option (XV τ) → Hp τ → Nat → Option ρ) → Option ρ
  | some (some i), .po n, x, nid, k => match expAt G i n x nid with
    | (U, nid) => k none U nid
  | some (some i), .pn n, x, nid, k => k none [(i, .tree n x)] nid
  | some (some i), .so te e, x, nid, k => k none [(i, .row te e x nid)] (nid + 1)
  | some none, .pn _, _, nid, k => k none [] nid
  | some none, .nil, _, nid, k => k none [] nid
  | none, .pn n, x, nid, k => optK (α := τ n) x (k (some (.c .nl)) [] nid) fun x => match expAt G nid n x (nid + 1) with
    | (U, nid') => k (some (.c (.pt nid 0))) U nid'
  | none, t, x, nid, k => match expX G t x nid with
    | (v, U, nid) => k (some v) U nid
  | _, _, _, _, _ => hi none
def consO (v : Option (XV τ)) (l : List (XV τ)) : List (XV τ) := match v with
  | some v => v :: l
  | none => l
def resK (G : Sig τ) : List (Option (Option Nat)) → (ts : List Ty) → DP τ ts → Nat → (List (XV τ) → Hp τ → Nat → Option ρ) → Option ρ
  | _, [], _, nid, K => hi <| K [] [] nid
  | a :: rs, t :: ts, p, nid, K => resH G a t p.hd nid fun v U nid => resK G rs ts p.tl nid fun l U' nid => K (consO v l) (U ++ U') nid
  | [], _ :: _, _, _, _ => none
def tupX : List (XV τ) → Option (XV τ)
  | [v] => some v
  | [] => some (.t [])
  | vs => match go vs with
    | some l => some (.t l)
    | none => none
where go : List (XV τ) → Option (List (Bool × List (CV τ)))
  | [] => some []
  | .c c :: vs => match go vs with
    | some l => some ((false, [c]) :: l)
    | none => none
  | .g cs :: vs => match go vs with
    | some l => some ((true, cs) :: l)
    | none => none
  | _ :: _ => none
def rootX (v : XV τ) : Nat → Option (CV τ)
  | 0 => match v with
    | .c c => some c
    | _ => none
  | i + 1 => match v with
    | .g cs => nthL cs i
    | _ => none
def roots (avs : List (XV τ)) : List Nat → Option (List (Option (Option Nat)))
  | [] => some []
  | j :: js => match roots avs js with
    | some rs => match nthL avs (j % 32) with
      | some v => match rootX v (j / 32) with
        | some (.pt id 0) => some (some (some id) :: rs)
        | some (.os id) => some (some (some id) :: rs)
        | some .nl => some (some none :: rs)
        | _ => none
      | none => none
    | none => none
def nones : Nat → List (Option (Option Nat)) → List (Option (Option Nat))
  | 0, rs => rs
  | n + 1, rs => none :: nones n rs
def rids : List (Option (Option Nat)) → List Nat
  | [] => []
  | some (some i) :: rs => i :: rids rs
  | _ :: rs => rids rs
def gones (l : List Nat) : Hp τ := l.map fun i => (i, .gone)
def callX (X : Cx τ) (L : Hp τ) (nid : Nat) (K : Nx τ ρ) (f : FuncId) (avs : List (XV τ)) : Cons τ → Option ρ
  | [] => hi none
  | (g, k) :: cs => bc (Nat.beq g f) (match resXs X.G L k.ps avs with
  | some (p, l, m) => bc (nod l && disj l m)
      (match (bif k.rs.any (shows X.G depth) then freeze L m else some []) with
      | some Z => match roots avs k.bk with
        | some rs => bc (nod (rids rs) && (rids rs).all (mem l)) ((k.m p).bind fun r => resK X.G (nones k.nr rs) k.rs r nid fun vs U nid' => match tupX vs with
          | some v => K v [.gv (prT k.rs) (DP.pr k.rs r)] (U ++ (gones l ++ Z)) (l ++ m) nid'
          | none => none) none
        | none => none
      | none => none)
      (callX X L nid K f avs cs)
  | none => callX X L nid K f avs cs) (callX X L nid K f avs cs)
def ptK (X : Cx τ) (L : Hp τ) (nid i : Nat) (k : Hp τ → List Nat → Nat → Option ρ) : Option ρ := match lk L i with
  | .blk _ _ => k [] [i] nid
  | .tree n y => (show Option (τ n) from y).bind fun y => match expAt X.G i n y nid with
    | (U, nid) => k U [i] nid
  | _ => hi none
def nlK (X : Cx τ) (L : Hp τ) (nid i : Nat) (k : Bool → Hp τ → List Nat → Nat → Option ρ) : Option ρ := match lk L i with
  | .blk _ _ => k false [] [i] nid
  | .tree n y => optK (α := τ n) y (k true [(i, .nilp)] [i] nid) fun y => match expAt X.G i n y nid with
    | (U, nid) => k false U [i] nid
  | .nilp => k true [] [i] nid
  | _ => hi none
def loadX (X : Cx τ) (L : Hp τ) (nid : Nat) (K : Nx τ ρ) (t : TypeId) : CV τ → Option ρ
  | .pt id o => match lk L id with
    | .blk _ cs => match szO X.P t with
      | some n => match oneO X.P t (cutL cs o n) with
        | some (.c (.pt j 0)) => bc (Nat.beq j id) none (nlK X L nid j fun b U l nid => bc b (K (.c .nl) [] U (id :: l) nid) (K (.c (.pt j 0)) [] U (id :: l) nid))
        | some v => K v [] [] [id] nid
        | none => none
      | none => none
    | _ => none
  | .ea ty z o => match szO X.P t with
    | some n => match oneO X.P t (cutL (cellsT X.G ty z) o n) with
      | some (.c (.ep n x)) => optK (α := τ n) x (K (.c .nl) [] [] [] nid) fun x => K (.c (.ea (.st n) x 0)) [] [] [] nid
      | some v => K v [] [] [] nid
      | none => none
    | none => none
  | .oe id k _ ty z o => match lk L id with
    | .row _ _ _ k' => bc (Nat.beq k k') (match szO X.P t with
      | some n => match oneO X.P t (cutL (cellsT X.G ty z) o n) with
        | some v => K v [] [] [id] nid
        | none => none
      | none => none) none
    | _ => none
  | _ => hi none
def storeX (X : Cx τ) (L : Hp τ) (nid : Nat) (K : Nx τ ρ) (t : TypeId) (vs : List (CV τ)) : CV τ → Option ρ
  | .pt id o => match lk L id with
    | .blk bt cs => match putL cs o vs with
      | some cs => K .un [] [(id, .blk bt cs)] [id] nid
      | none => none
    | _ => none
  | .oe id k m ty z o => match lk L id with
    | .row te e xs k' => bc (Nat.beq k k') (match putL (cellsT X.G ty z) o vs with
      | some cs => match lokL (lok X.G L depth) (ets X.G ty) cs with
        | some (p, ids) => match castT (t' := e) (ect X.G ty p) with
          | some z => match freeze L ids with
            | some U => bc (mem ids id) none ((lSet xs m z).bind fun l => K .un [] ((id, .row te e l nid) :: U) (id :: ids) (nid + 1))
            | none => none
          | none => none
        | _ => none
      | none => none) none
    | _ => none
  | _ => hi none
def partZ (E : EnvX τ) (e : Ty) (xs : List (e.den τ)) : Option Operand → Option Operand → Option (Nat × List (e.den τ))
  | some y, some z => match evC E y with
    | some (.i i) => match evC E z with
      | some (.i j) => match lSub xs i j with
        | some s => some (i.toNat, s)
        | none => none
      | _ => none
    | _ => none
  | some y, none => match evC E y with
    | some (.i i) => match lFrom xs i with
      | some s => some (i.toNat, s)
      | none => none
    | _ => none
  | none, some z => match evC E z with
    | some (.i j) => match lTo xs j with
      | some s => some (0, s)
      | none => none
    | _ => none
  | none, none => none
def vwO (L : Hp τ) : CV τ → Option (Nat × Nat × Str)
  | .os id => match lk L id with
    | .row _ _ xs k => match castL (t' := .u8) xs with
      | some l => some (id, k, l)
      | none => none
    | _ => none
  | _ => none
def vwX (E : EnvX τ) (nid : Nat) (K : Nx τ ρ) (id k : Nat) (l : Str) (lo hi' : Option Operand) : Option ρ := hi <| match lo, hi' with
  | some y, some z => match evC E y with
    | some (.i i) => match evC E z with
      | some (.i j) => (lSub l i j).bind fun s => K (.c (.os nid)) [] [(nid, .vw id k .u8 i.toNat s)] [id] (nid + 1)
      | _ => none
    | _ => none
  | some y, none => match evC E y with
    | some (.i i) => (lFrom l i).bind fun s => K (.c (.os nid)) [] [(nid, .vw id k .u8 i.toNat s)] [id] (nid + 1)
    | _ => none
  | none, some z => match evC E z with
    | some (.i j) => (lTo l j).bind fun s => K (.c (.os nid)) [] [(nid, .vw id k .u8 0 s)] [id] (nid + 1)
    | _ => none
  | none, none => none
def szE (X : Cx τ) (te : TypeId) (e : Ty) : Bool := match szO X.P te with
  | some n => Nat.beq n (ets X.G e).length && Nat.blt 0 n
  | none => false
def arO (P : Program) (t : TypeId) : Option (Nat × Nat) := match P.underlying t with
  | some (.array n e) => bif Nat.ble n 8 then match szO P e with
    | some s => some (n, s)
    | none => none
    else none
  | _ => none
def isN (m : Int) (k : Nat) : Bool := m == (k : Int)
def arK (m : Int) : Nat → Nat → (Nat → Option ρ) → Option ρ
  | 0, _, _ => hi none
  | n + 1, k, K => if isN m k = true then K k else arK m n (k + 1) K
def opX (X : Cx τ) (E : EnvX τ) (L : Hp τ) (nid : Nat) (K : Nx τ ρ) (o : Op) : Option ρ := match opP X E o with
  | some v => K v [] [] [] nid
  | none => match o with
    | .binOp o t x y _ => match evX E x with
      | some a => match evX E y with
        | some b => match a, b with
          | .c (.pt i 0), .c .nl => match X.P.underlying t with
            | some (.pointer _) => nlK X L nid i fun z U l nid => match okX (eqO o z) with
              | some v => K v [] U l nid
              | none => none
            | _ => none
          | _, _ => opI nid K o a b
        | none => none
      | none => none
    | .nilCheck x => match evC E x with
      | some (.pt i o) => ptK X L nid i fun U l nid => K (.c (.pt i o)) [] U l nid
      | _ => none
    | .fieldAddr t x i => match fldO X.P t i with
      | some (f, _) => match evC E x with
        | some (.pt id o) => ptK X L nid id fun U l nid => K (.c (.pt id (o + f))) [] U l nid
        | _ => none
      | none => none
    | .index t x y => match X.P.underlying t with
      | some .string => match evC E x with
        | some (.s l) => match evC E y with
          | some (.i i) => (sAt l i).bind fun r => K (.c (.u8 r)) [] [] [] nid
          | _ => none
        | _ => none
      | _ => none
    | .slice t x lo hi none => match X.P.underlying t with
      | some .string => match evC E x with
        | some (.s l) => match lo, hi with
          | some y, some z => match evC E y with
            | some (.i i) => match evC E z with
              | some (.i j) => (sSub l i j).bind fun r => K (.c (.s r)) [] [] [] nid
              | _ => none
            | _ => none
          | some y, none => match evC E y with
            | some (.i i) => (sFrom l i).bind fun r => K (.c (.s r)) [] [] [] nid
            | _ => none
          | none, some z => match evC E z with
            | some (.i j) => (sTo l j).bind fun r => K (.c (.s r)) [] [] [] nid
            | _ => none
          | none, none => K (.c (.s l)) [] [] [] nid
        | _ => none
      | some (.slice te) => match evC E x with
        | some c => match vwO L c with
          | some (id, k, l) => bc (szE X te .u8) (vwX E nid K id k l lo hi) none
          | none => match sliO L c with
          | some ⟨e, l, U, ids⟩ => bc (szE X te e) (match lo, hi with
            | some y, some z => match evC E y with
              | some (.i i) => match evC E z with
                | some (.i j) => (lSub l i j).bind fun r => K (.c (.sl e r)) [] U ids nid
                | _ => none
              | _ => none
            | some y, none => match evC E y with
              | some (.i i) => (lFrom l i).bind fun r => K (.c (.sl e r)) [] U ids nid
              | _ => none
            | none, some z => match evC E z with
              | some (.i j) => (lTo l j).bind fun r => K (.c (.sl e r)) [] U ids nid
              | _ => none
            | none, none => none) none
          | none => none
        | none => none
      | _ => none
    | .convert s d x => match evC E x with
      | some (.i n) => match X.P.underlying s with
        | some (.int .i64) => match X.P.underlying d with
          | some (.int .i64) => (iConv n).bind fun r => K (.c (.i r)) [] [] [] nid
          | _ => none
        | _ => none
      | some (.s l) => match X.P.underlying s with
        | some .string => match X.P.underlying d with
          | some (.slice e) => match X.P.underlying e with
            | some (.int .u8) => K (.c (.sl .u8 l)) [] [] [] nid
            | _ => none
          | _ => none
        | _ => none
      | some c => match X.P.underlying d with
        | some .string => match X.P.underlying s with
          | some (.slice e) => match X.P.underlying e with
            | some (.int .u8) => match rowO L .u8 c with
              | some (l, ids) => K (.c (.s l)) [] [] ids nid
              | none => none
            | _ => none
          | _ => none
        | _ => none
      | none => none
    | .alloc t => match zeroO X.P t with
      | some cs => K (.c (.pt nid 0)) [] [(nid, .blk t cs)] [] (nid + 1)
      | none => none
    | .box t x => match evX E x with
      | some v => match cellsX v with
        | some cs => K (.c (.pt nid 0)) [] [(nid, .blk t cs)] [] (nid + 1)
        | none => none
      | none => none
    | .load t x => match evC E x with
      | some c => loadX X L nid K t c
      | none => none
    | .store t x y => match evX E y with
      | some v => match cellsX v with
        | some vs => match szO X.P t with
          | some n => bc (Nat.beq vs.length n) (match evC E x with
            | some c => storeX X L nid K t vs c
            | none => none) none
          | none => none
        | none => none
      | none => none
    | .indexAddr t x y => match arO X.P t with
      | some (n, s) => match evC E y with
        | some (.i m) => match evC E x with
          | some (.pt id 0) => match lk L id with
            | .blk _ _ => arK m n 0 fun j => K (.c (.pt id (j * s))) [] [] [id] nid
            | _ => none
          | _ => none
        | _ => none
      | none => match elO X.P t with
      | some te => match evC E y with
        | some (.i m) => match evC E x with
          | some (.sl e xs) => bc (szE X te e) ((lAt xs m).bind fun z => K (.c (.ea e z 0)) [] [] [] nid) none
          | some (.os id) => match lk L id with
            | .row _ e xs k => bc (szE X te e) ((lAt xs m).bind fun z => K (.c (.oe id k m e z 0)) [] [] [id] nid) none
            | .fz e xs => bc (szE X te e) ((lAt xs m).bind fun z => K (.c (.ea e z 0)) [] [] [id] nid) none
            | _ => none
          | _ => none
        | _ => none
      | none => none
    | .buildSlice t n ⟨ps⟩ => match elO X.P t with
      | some te => match asc X.ty te with
        | some e => match eltsX X L E e 0 ps with
          | some (xs, ids) => bc (Nat.beq xs.length n && Nat.ble (n * (ets X.G e).length) 65536) (match freeze L ids with
            | some U => K (.c (.os nid)) [] ((nid, .row te e xs nid) :: U) ids (nid + 1)
            | none => none) none
          | _ => none
        | none => none
      | none => none
    | .call ⟨.builtin .len, ⟨[x]⟩, ⟨[t]⟩⟩ => match evC E x with
      | some (.os id) => match elO X.P t with
        | some _ => match lk L id with
          | .row _ _ xs _ => K (.c (.i (xs.length : Int))) [] [] [id] nid
          | .fz _ xs => K (.c (.i (xs.length : Int))) [] [] [id] nid
          | .vw _ _ _ _ xs => K (.c (.i (xs.length : Int))) [] [] [id] nid
          | _ => none
        | none => none
      | _ => none
    | .call ⟨.builtin .append, ⟨[x, y]⟩, ⟨[t, u]⟩⟩ => match elO X.P t with
      | some te => match asc X.ty te with
        | some e => match evC E x with
          | some a => match rowA L te e a with
            | some (xs, U, ids) => match evC E y with
              | some (.s l) => match X.P.underlying u with
                | some .string => match castL (t := .u8) (t' := e) l with
                  | some l => bc (bytO X.P te) (if fitsApp xs.length l.length 1 then K (.c (.os nid)) [] ((nid, .row te e (xs ++ l) nid) :: U) ids (nid + 1) else none) none
                  | none => none
                | _ => none
              | some .n0 => bc (Nat.beq t u) (K (.c (.os nid)) [] ((nid, .row te e xs nid) :: U) ids (nid + 1)) none
              | some b => match rowO L e b with
                | some (ys, ids') => bc (disj ids ids' && Nat.beq t u) (if fitO X.P xs.length ys.length te then K (.c (.os nid)) [] ((nid, .row te e (xs ++ ys) nid) :: U) (ids ++ ids') (nid + 1) else none) none
                | none => none
              | none => none
            | none => none
          | none => none
        | none => none
      | none => none
    | .call ⟨.value f, ⟨args⟩, _⟩ => match evC E f with
      | some (.fn f) => match evXs E args with
        | some avs => callX X L nid K f avs X.cs
        | none => none
      | some (.cl f t x) => match evXs E args with
        | some avs => callX X L nid K f (avs ++ [.c (t.av x)]) X.cs
        | none => none
      | some (.fm m) => match args with
        | [x] => match evC E x with
          | some (.u8 c) => (m c).bind fun r => K (.c (.b r)) [] [] [] nid
          | _ => none
        | _ => none
      | _ => none
    | .makeFunc (.func f) ⟨[]⟩ ⟨[x]⟩ => match evC E x with
      | some c => K (.c (.cf nid)) [] [(nid, .clo f [] [c])] [] (nid + 1)
      | none => none
    | _ => none

def unT (E : EnvX τ) : Option Nat → EnvX τ
  | some d => (d, .un) :: E
  | none => E
def putT (v : XV τ) (E : EnvX τ) : Option Nat → EnvX τ
  | some d => (d, v) :: E
  | none => E
def ghost (g : List (XV τ)) (l : List Oper) (d : Option Nat) (E : EnvX τ) : EnvX τ := match g with
  | [x] => match d with
    | some d => (20000 + d, x) :: E
    | none => (30000 + l.length % 10000, x) :: E
  | _ => E
def dstO (all : List Oper) (j : Nat) : Option Nat := match nthL all j with
  | some o => o.dst
  | none => none
def guardX (all : List Oper) (E : EnvX τ) (g : Option (Nat × Bool)) (run pass : EnvX τ → Option ρ) : Option ρ := hi <| match g with
  | none => run E
  | some (j, w) => match dstO all j with
    | some s => bc (Nat.blt s gh) (match asc E s with
      | some .un => pass E
      | some (.c (.k b)) => bc (b == w) (run E) (pass E)
      | some (.c (.b b)) => if b = true
        then bc w (run ((s, .c (.k true)) :: E)) (pass ((s, .c (.k true)) :: E))
        else bc w (pass ((s, .c (.k false)) :: E)) (run ((s, .c (.k false)) :: E))
      | _ => none) none
    | none => none
def nextE (l : List Oper) (d : Option Nat) (v : XV τ) (g : List (XV τ)) (E : EnvX τ) : EnvX τ := putT v (ghost g l d E) d
def dOk (n : Nat) : Option Nat → Bool
  | some d => Nat.blt d n
  | none => true
def opsX (X : Cx τ) (all : List Oper) : List Oper → EnvX τ → Hp τ → Nat → (EnvX τ → Hp τ → Nat → Option ρ) → Option ρ
  | [], E, L, nid, K => K E L nid
  | o :: l, E, L, nid, K => bc (dOk X.n o.dst) (guardX all E o.guard
      (fun E => opX X E L nid (fun v g U _ nid => opsX X all l (nextE l o.dst v g E) (U ++ L) nid K) o.op)
      fun E => opsX X all l (unT E o.dst) L nid K) none
structure Dr where
  i : Nat
  d : Option Nat
  r : List Nat
  t : List Nat
  u : List Nat
def tmpO : Operand → List Nat
  | .tmp t => bif Nat.blt t gh then [t] else []
  | .global g => [gb + g]
  | _ => []
def rdO (o : Op) : List Nat := o.operands.toList.flatMap tmpO
def gdR (all : List Oper) : Option (Nat × Bool) → List Nat
  | some (j, _) => match dstO all j with
    | some s => bif Nat.blt s gh then [s] else []
    | none => []
  | none => []
def readsO (all : List Oper) (o : Oper) : List Nat := rdO o.op ++ gdR all o.guard
def aheadO (P : List (List Nat)) (o : Oper) : List Nat := (o.after.toList.filter (Region.binds .any)).flatMap fun e => e.on :: (match nthL P e.on with
  | some l => l
  | none => [])
def aheads : List (List Nat) → List Oper → List (List Nat)
  | P, [] => P
  | P, o :: l => aheads (P ++ [aheadO P o]) l
def tied (P : List (List Nat)) (i j : Nat) : Bool := (match nthL P i with
  | some l => mem l j
  | none => false) || (match nthL P j with
  | some l => mem l i
  | none => false)
def meets (l m : List Nat) : Bool := match m with
  | [] => false
  | m => anyR l fun i => mem m i
def clash (a b : Dr) : Bool := meets b.u a.t || (match b.d with
  | some d => mem a.r d || (match a.d with
    | some e => Nat.beq d e
    | none => false)
  | none => false)
def drawOk (all : List Oper) (R : List Dr) : Bool := (fun P => (allR R fun a => allR R fun b => Nat.beq a.i b.i || (match b.u with
  | [] => !(clash a b) || tied P a.i b.i
  | _ => tied P a.i b.i || !(clash a b))) && (allR R fun a => match nthL P a.i with
  | some l => l.all fun j => Nat.blt j a.i
  | none => false)) (aheads [] all)
def dopsX (X : Cx τ) (all : List Oper) : Nat → List Oper → List Dr → EnvX τ → Hp τ → Nat → (EnvX τ → Hp τ → Nat → Option ρ) → Option ρ
  | _, [], R, E, L, nid, K => hi <| bc (drawOk all R) (K E L nid) none
  | i, o :: l, R, E, L, nid, K => bc (dOk X.n o.dst) (guardX all E o.guard
      (fun E => opX X E L nid (fun v g U tch nid => dopsX X all (i + 1) l (⟨i, o.dst, readsO all o, tch ++ kys U, kys U⟩ :: R) (nextE l o.dst v g E) (U ++ L) nid K) o.op)
      fun E => dopsX X all (i + 1) l (⟨i, o.dst, readsO all o, [], []⟩ :: R) (unT E o.dst) L nid K) none

inductive Ex where
  | no
  | ex (id : Nat)
  | rt
abbrev Kx (τ : Nat → Type) (ρ : Type) := Ex → EnvX τ → Hp τ → Nat → Option ρ
abbrev Pl := List (Nat × Ty)
abbrev Pl.ts (l : Pl) : List Ty := l.map (·.2)
inductive Hn (τ : Nat → Type) (ρ : Type) where
  | e
  | q (a b : Hn τ ρ)
  | n (k : Nat) (a : Hn τ ρ)
  | j (c : Pl) (al : List (Nat × Nat)) (f : DP τ c.ts → Option ρ) (a b : Hn τ ρ)
  | w (c : Pl) (al : List (Nat × Nat)) (f : Nat → DP τ c.ts → Option ρ) (a : Nat → Hn τ ρ)
def Hn.fst : Hn τ ρ → Hn τ ρ
  | .q a _ => a
  | _ => .e
def Hn.snd : Hn τ ρ → Hn τ ρ
  | .q _ b => b
  | .n 1 a => a
  | .n (k + 2) a => .n (k + 1) a
  | _ => .e
def Hn.sn2 : Hn τ ρ → Hn τ ρ
  | .q _ b => b
  | _ => .e
def leaf (G : Sig τ) (E : EnvX τ) (L : Hp τ) : (l : Pl) → Rs (DP τ l.ts)
  | [] => some ((), [], [])
  | (t, ty) :: l => match asc E t with
    | some v => match resX G L ty v with
      | some (x, a, m) => match leaf G E L l with
        | some (p, a', m') => some (.mk x p, a ++ a', m ++ m')
        | none => none
      | none => none
    | none => none
def sameX : Option (XV τ) → Option (XV τ) → Bool
  | some (.c (.pt i 0)), some (.c (.pt j 0)) => Nat.beq i j
  | some (.c (.os i)), some (.c (.os j)) => Nat.beq i j
  | _, _ => false
def alV (E : EnvX τ) (L : Hp τ) (t : Nat) : Option (XV τ) := match t / 100000 with
  | 0 => asc E t
  | o + 1 => match asc E (t % 100000) with
    | some (.c (.pt i 0)) => match lk L i with
      | .blk _ cs => match nthL cs o with
        | some c => some (.c c)
        | none => none
      | _ => none
    | _ => none
def alike (E : EnvX τ) (L : Hp τ) (al : List (Nat × Nat)) : Bool := al.all fun p => Nat.blt (p.2 % 100000) 20000 && sameX (asc E p.1) (alV E L p.2)
def alias (E : EnvX τ) (L : Hp τ) : List (Nat × Nat) → EnvX τ
  | [] => E
  | (s, t) :: al => match alV E L t with
    | some v => (s, v) :: alias E L al
    | none => alias E L al
def cutK (G : Sig τ) (l : Pl) (al : List (Nat × Nat)) (f : DP τ l.ts → Option ρ) (E : EnvX τ) (L : Hp τ) : Option ρ := hi <| match leaf G E L l with
  | some (p, a, m) => bc (nod a && disj a m && alike E L al) (f p) none
  | none => none
def packE (G : Sig τ) : (l : Pl) → DP τ l.ts → Nat → EnvX τ × Hp τ × Nat
  | [], _, nid => ([], [], nid)
  | (t, ty) :: l, p, nid => match expX G ty p.hd nid with
    | (v, U, nid) => match packE G l p.tl nid with
      | (E, L, nid) => ((t, v) :: E, U ++ L, nid)
def fromE {σ : Type} (G : Sig τ) (l : Pl) (al : List (Nat × Nat)) (p : DP τ l.ts) (K : EnvX τ → Hp τ → Nat → σ) : σ := hi <| match packE G l p 0 with
  | (E, L, nid) => K (alias E L al ++ glE G.gl) L nid
def exX (X : Cx τ) : Code → Hn τ ρ → EnvX τ → Hp τ → Nat → Kx τ ρ → Option ρ
  | .skip, _, E, L, nid, K => K .no E L nid
  | .region _ ⟨l⟩ d, _, E, L, nid, K => bc d (dopsX X l 0 l [] E L nid (K .no)) (opsX X l l E L nid (K .no))
  | .seq x y, h, E, L, nid, K => match h with
    | .j l al f a _ => exX X x a E L nid fun e E L nid => match e with
      | .no => cutK X.G l al f E L
      | e => K e E L nid
    | h => exX X x h.fst E L nid fun e E L nid => match e with
      | .no => exX X y h.snd E L nid K
      | e => K e E L nid
  | .cond c x y, h, E, L, nid, K => match evC E c with
    | some (.k b) => bc b (exX X x h.fst E L nid K) (exX X y h.sn2 E L nid K)
    | some (.b b) => match c with
      | .tmp s => if b = true then exX X x h.fst ((s, .c (.k true)) :: E) L nid K else exX X y h.sn2 ((s, .c (.k false)) :: E) L nid K
      | _ => none
    | _ => none
  | .block id c, h, E, L, nid, K => exX X c h E L nid fun e E L nid => match e with
    | .ex i => bc (Nat.beq i id) (K .no E L nid) (K (.ex i) E L nid)
    | e => K e E L nid
  | .loop _, h, E, L, _, _ => match h with
    | .w l al f _ => cutK X.G l al (f fuel) E L
    | _ => none
  | .exit id, _, E, L, nid, K => K (.ex id) E L nid
  | .ret, _, E, L, nid, K => K .rt E L nid
  | _, _, _, _, _, _ => none

def Hn.ty : Hn τ ρ → Type
  | .e => Unit
  | .q a b => a.ty × b.ty
  | .n _ a => a.ty
  | .j c _ _ a b => (DP τ c.ts → Option ρ) × a.ty × b.ty
  | .w c _ _ a => (Nat → DP τ c.ts → Option ρ) × (DP τ c.ts → Option ρ) × (∀ n, (a n).ty)
def Hn.giv : (h : Hn τ ρ) → h.ty
  | .e => ()
  | .q a b => (a.giv, b.giv)
  | .n _ a => a.giv
  | .j _ _ f a b => (f, a.giv, b.giv)
  | .w _ _ f a => (fun n t => f (n + 1) t, fun t => f 0 t, fun n => (a n).giv)
def thenK (X : Cx τ) (y : Code) (h : Hn τ ρ) (K : Kx τ ρ) : Kx τ ρ := fun e E L nid => match e with
  | .no => exX X y h E L nid K
  | e => K e E L nid
def cutT (X : Cx τ) (l : Pl) (al : List (Nat × Nat)) (f : DP τ l.ts → Option ρ) (K : Kx τ ρ) : Kx τ ρ := fun e E L nid => match e with
  | .no => cutK X.G l al f E L
  | e => K e E L nid
def blkK (id : Nat) (K : Kx τ ρ) : Kx τ ρ := fun e E L nid => match e with
  | .ex i => bc (Nat.beq i id) (K .no E L nid) (K (.ex i) E L nid)
  | e => K e E L nid
def runs (X : Cx τ) : Code → (h : Hn τ ρ) → Kx τ ρ → h.ty
  | .seq x y, .q a b, K => (runs X x a (thenK X y b K), runs X y b K)
  | .seq x y, .n k a, K => match k with
    | 0 => a.giv
    | 1 => runs X y a K
    | k + 2 => runs X y (.n (k + 1) a) K
  | .seq x y, .j l al f a b, K => (fun t => fromE X.G l al t fun E L nid => exX X y b E L nid K, runs X x a (cutT X l al f K), runs X y b K)
  | .cond _ x y, .q a b, K => (runs X x a K, runs X y b K)
  | .block id c, h, K => runs X c h (blkK id K)
  | .loop c, .w l al f a, K => (fun n t => fromE X.G l al t fun E L nid => exX X c (a n) E L nid (cutT X l al (f n) K), fun _ => none, fun n => runs X c (a n) (cutT X l al (f n) K))
  | _, h, _ => h.giv

def outX (X : Cx τ) (E : EnvX τ) (L : Hp τ) : List ResultVar → Option (List (XV τ))
  | [] => some []
  | .tmp t :: rs => bc (Nat.blt t gh) (match asc E t with
    | some v => match outX X E L rs with
      | some vs => some (v :: vs)
      | none => none
    | none => none) none
  | .cell t ty :: rs => bc (Nat.blt t gh) (match asc E t with
    | some (.c (.pt id 0)) => match lk L id with
      | .blk _ cs => match szO X.P ty with
        | some n => match oneO X.P ty (cutL cs 0 n) with
          | some v => match outX X E L rs with
            | some vs => some (v :: vs)
            | none => none
          | none => none
        | none => none
      | _ => none
    | _ => none) none
def backs (E : EnvX τ) : List Nat → Option (List (XV τ))
  | [] => some []
  | j :: js => bc (Nat.blt j gh) (match asc E (gh + j) with
    | some v => match backs E js with
      | some vs => some (v :: vs)
      | none => none
    | none => none) none
def retK (X : Cx τ) (k : Con τ) (rv : List ResultVar) : Kx τ (DP τ k.rs) := fun e E L _ => hi <| match e with
  | .ex _ => none
  | _ => match outX X E L rv with
    | some vs => match backs E k.bk with
      | some ws => match resXs X.G L k.rs (vs ++ ws) with
        | some (p, l, m) => bc (Nat.beq vs.length k.nr && (nod l && disj l m)) (some p) none
        | none => none
      | none => none
    | none => none
def gho (E : EnvX τ) : List Nat → EnvX τ
  | [] => []
  | j :: js => match asc E (j % 32) with
    | some v => match rootX v (j / 32) with
      | some c => bif Nat.blt j gh then (gh + j, .c c) :: gho E js else gho E js
      | none => gho E js
    | none => gho E js
def packP (G : Sig τ) : (i : Nat) → (ts : List Ty) → DP τ ts → Nat → EnvX τ × Hp τ × Nat
  | _, [], _, nid => ([], [], nid)
  | i, t :: ts, p, nid => match expX G t p.hd nid with
    | (v, U, nid) => match packP G (i + 1) ts p.tl nid with
      | (E, L, nid) => ((i, v) :: E, U ++ L, nid)
def entX (X : Cx τ) (k : Con τ) (c : Code) (rv : List ResultVar) (h : Hn τ (DP τ k.rs)) (p : DP τ k.ps) : Option (DP τ k.rs) := match packP X.G 0 k.ps p 0 with
  | (E, L, nid) => exX X c h ((gho E k.bk ++ E) ++ glE X.G.gl) L nid (retK X k rv)
def Fact (X : Cx τ) (k : Con τ) (c : Code) (rv : List ResultVar) (h : Hn τ (DP τ k.rs)) : Prop := ∀ fx, (k.m, h.giv) = (entX (X.w fx) k c rv h, runs (X.w fx) c h (retK (X.w fx) k rv))
end
end Go.Rk
end
section
namespace Go.Rk
open Go.RowKit Go.Dm Go.Dk
variable {τ : Nat → Type}

def isGv : XV τ → Bool
  | .gv _ _ => true
  | _ => false
section
variable (X : Cx τ) (h : Fz) (ν : Vn τ) (a : Act)
def SlotOk (t : Nat) (x : XV τ) : Prop := ∃ v, XOk X.P X.G h ν x v ∧ (Nat.blt t gh = true → isGv x = false → a.tmps[t]? = some v) ∧ (gb ≤ t → v = ptr (t - gb) 0) ∧ (gh ≤ t → t < 20000 → v = X.fx (t - gh))
def EnvOn (r : List Nat) (E : EnvX τ) : Prop := ∀ t ∈ r, ∀ x, asc E t = some x → SlotOk X h ν a t x
end
structure TyOk (X : Cx τ) : Prop where
  el : ∀ p ∈ X.ty, ∃ i z, X.P.info? p.1 = some i ∧ i.zero = some z ∧ i.size = (ets X.G p.2).length ∧ z.cells.size = i.size ∧ 0 < i.size
  eq : ∀ t n, asc X.ty t = some (.st n) → (X.G.fs n).all scal = true → ∀ (p q : DP τ (X.G.fs n)) (h : Fz) (xs ys : List Value), RpL X.P X.G h (X.G.fs n) p xs → RpL X.P X.G h (X.G.fs n) q ys →
    X.P.eqGuardType X.P.depth t = false ∧ ∀ w, (Op.equalIn 10000 t (.agg ⟨xs⟩) (.agg ⟨ys⟩)).run X.P w = .ok (X.G.eq n (X.G.ctor n p) (X.G.ctor n q)) w
theorem asc_mem {α : Type} : ∀ {l : List (Nat × α)} {t : Nat} {v : α}, asc l t = some v → (t, v) ∈ l
  | [], _, _, h => by cases h
  | (k, u) :: l, t, v, h => by
    simp only [asc_nil, asc_cons] at h
    by_cases e : Nat.beq k t = true
    · simp only [e, cond_true, Option.some.injEq] at h
      have : k = t := by simpa using e
      subst this; subst h
      exact List.mem_cons_self ..
    · simp only [e] at h
      exact List.mem_cons_of_mem _ (asc_mem h)
theorem nthL_eq {α : Type} : ∀ (l : List α) (n : Nat), nthL l n = l[n]?
  | [], _ => by simp [nthL]
  | _ :: _, 0 => by simp [nthL]
  | _ :: l, n + 1 => by simp [nthL, nthL_eq l n]
theorem envA (a : Act) (hd : a.defers = []) : ∃ E, Fits a.tmps.size E a ∧ ∀ t, Dk.look E t = a.tmps[t]? := by
  have key : ∀ (l : List Value) (k t : Nat), Dk.look (params k l) t = if k ≤ t then l[t - k]? else none := by
    intro l
    induction l with
    | nil => intro k t; simp [params, Dk.look]
    | cons v l ih =>
      intro k t
      simp only [params, Dk.look]
      by_cases e : k = t
      · subst e; simp
      · rw [nbeq_false.2 e, cond_false, ih]
        by_cases h : k ≤ t
        · rw [if_pos (by omega), if_pos h, show t - k = (t - (k + 1)) + 1 by omega, List.getElem?_cons_succ]
        · rw [if_neg (by omega), if_neg h]
  have hl : ∀ t, Dk.look (params 0 a.tmps.toList) t = a.tmps[t]? := by intro t; rw [key]; simp
  exact ⟨_, ⟨hd, rfl, fun t v h => by rw [← hl]; exact h⟩, hl⟩

section
variable {X : Cx τ} {h : Fz} {ν : Vn τ} {a : Act} {E : EnvX τ} {w : World}
theorem EnvOn.op {o : Op} (hE : EnvOn X h ν a (rdO o) E) {x : Operand} (hx : x ∈ o.operands.toList) : EnvOn X h ν a (tmpO x) E :=
  fun t ht => hE t (List.mem_flatMap.2 ⟨x, hx, ht⟩)
theorem cvV_ok {v : Value} {c : CV τ} (e : cvV v = some c) : CVOk X.P X.G h ν c v := by
  unfold cvV at e
  split at e
  · cases e; rfl
  · cases e; rfl
  · rename_i n
    by_cases hn : Nat.blt n 256 = true
    · rw [hn] at e; cases e
      have : n < 256 := by simpa using hn
      show _ = Value.int .u8 _
      simp [UInt8.toNat_ofNat', Nat.mod_eq_of_lt this]
    · simp only [Bool.not_eq_true] at hn; rw [hn] at e; cases e
  · rename_i n
    by_cases hn : Nat.blt n 65536 = true
    · rw [hn] at e; cases e
      have : n < 65536 := by simpa using hn
      show _ = Value.int .u16 _
      simp [UInt16.toNat_ofNat', Nat.mod_eq_of_lt this]
    · simp only [Bool.not_eq_true] at hn; rw [hn] at e; cases e
  · cases e; rfl
  · cases e; rfl
  · cases e; rfl
  · cases e; rfl
  · cases e
theorem cvVs_ok : ∀ {vs : List Value} {cs : List (CV τ)}, cvVs vs = some cs → CVs X.P X.G h ν cs vs
  | [], cs, e => by cases e; rfl
  | v :: vs, cs, e => by
    unfold cvVs at e
    split at e
    · rename_i c hc
      split at e
      · rename_i cs' hcs
        cases e
        exact ⟨v, vs, rfl, cvV_ok hc, cvVs_ok hcs⟩
      · cases e
    · cases e
theorem evl_of {Ea : Env} (hl : ∀ t, Dk.look Ea t = a.tmps[t]?) {x : Operand} {xv : XV τ} (hE : EnvOn X h ν a (tmpO x) E) (e : evX E x = some xv) (hg : isGv xv = false) : ∃ v, evl Ea x = some v ∧ XOk X.P X.G h ν xv v := by
  unfold evX at e
  split at e
  · rename_i t
    by_cases ht : Nat.blt t gh = true
    · rw [ht] at e
      obtain ⟨v, h1, h2, _⟩ := hE t (by simp [tmpO, ht]) xv e
      exact ⟨v, (hl t).trans (h2 ht hg), h1⟩
    · simp only [Bool.not_eq_true] at ht; rw [ht] at e; cases e
  · rename_i v
    split at e
    · rename_i c hc
      cases e
      exact ⟨v, rfl, cvV_ok hc⟩
    · cases e
  · cases e
    exact ⟨_, rfl, rfl⟩
  · rename_i g
    obtain ⟨v, h1, _, h2, _⟩ := hE (gb + g) (List.mem_singleton.2 rfl) xv e
    rw [h2 (Nat.le_add_right ..), Nat.add_sub_cancel_left] at h1
    exact ⟨_, rfl, h1⟩
theorem ev_ok (hd : a.defers = []) {x : Operand} {xv : XV τ} (hE : EnvOn X h ν a (tmpO x) E) (e : evX E x = some xv) : XOk X.P X.G h ν xv (a.eval x) := by
  cases hg : isGv xv with
  | true =>
    cases xv with
    | gv t y => trivial
    | _ => cases hg
  | false =>
    obtain ⟨Ea, hf, hl⟩ := envA a hd
    obtain ⟨v, h1, h2⟩ := evl_of hl hE e hg
    rw [hf.ev h1]
    exact h2
theorem evC_of {Ea : Env} (hl : ∀ t, Dk.look Ea t = a.tmps[t]?) {x : Operand} {c : CV τ} (hE : EnvOn X h ν a (tmpO x) E) (e : evC E x = some c) : ∃ v, evl Ea x = some v ∧ CVOk X.P X.G h ν c v := by
  unfold evC at e
  split at e
  · rename_i c' hc
    cases e
    exact evl_of hl hE hc rfl
  · cases e
theorem CVs.len : ∀ {cs : List (CV τ)} {vs : List Value}, CVs X.P X.G h ν cs vs → vs.length = cs.length
  | [], vs, e => by cases e; rfl
  | _ :: _, _, ⟨v, us, rfl, _, h2⟩ => by simp [CVs.len h2]
theorem CVs.get : ∀ {cs : List (CV τ)} {vs : List Value} {i : Nat} {c : CV τ}, CVs X.P X.G h ν cs vs → cs[i]? = some c → ∃ v, vs[i]? = some v ∧ CVOk X.P X.G h ν c v
  | [], _, _, _, _, hc => by simp at hc
  | _ :: _, _, 0, _, ⟨v, us, rfl, h1, _⟩, hc => by simp at hc; subst hc; exact ⟨v, by simp, h1⟩
  | _ :: _, _, i + 1, _, ⟨v, us, rfl, _, h2⟩, hc => by
    simp at hc
    obtain ⟨u, h3, h4⟩ := CVs.get h2 hc
    exact ⟨u, by simpa using h3, h4⟩
theorem TVs.get : ∀ {cs : List (Bool × List (CV τ))} {vs : List Value} {i : Nat} {b : Bool} {l : List (CV τ)}, TVs X.P X.G h ν cs vs → cs[i]? = some (b, l) →
    ∃ v, vs[i]? = some v ∧ ((b = true ∧ ∃ ws, v = .agg ⟨ws⟩ ∧ CVs X.P X.G h ν l ws) ∨ (b = false ∧ ∃ c, l = [c] ∧ CVOk X.P X.G h ν c v))
  | [], _, _, _, _, _, hc => by simp at hc
  | (false, [c]) :: _, _, 0, _, _, ⟨v, us, rfl, h1, _⟩, hc => by simp at hc; obtain ⟨rfl, rfl⟩ := hc; exact ⟨v, by simp, .inr ⟨rfl, c, rfl, h1⟩⟩
  | (true, l) :: _, _, 0, _, _, ⟨ws, us, rfl, h1, _⟩, hc => by simp at hc; obtain ⟨rfl, rfl⟩ := hc; exact ⟨.agg ⟨ws⟩, by simp, .inl ⟨rfl, ws, rfl, h1⟩⟩
  | (false, [_]) :: _, _, i + 1, _, _, ⟨v, us, rfl, _, h2⟩, hc => by
    simp at hc
    obtain ⟨u, h3, h4⟩ := TVs.get h2 hc
    exact ⟨u, by simpa using h3, h4⟩
  | (true, _) :: _, _, i + 1, _, _, ⟨ws, us, rfl, _, h2⟩, hc => by
    simp at hc
    obtain ⟨u, h3, h4⟩ := TVs.get h2 hc
    exact ⟨u, by simpa using h3, h4⟩
  | (false, []) :: _, _, _, _, _, e, _ => e.elim
  | (false, _ :: _ :: _) :: _, _, _, _, _, e, _ => e.elim
theorem CVs.cut : ∀ {n o : Nat} {cs l : List (CV τ)} {vs : List Value}, CVs X.P X.G h ν cs vs → cutL cs o n = some l → CVs X.P X.G h ν l ((vs.drop o).take n) ∧ o + n ≤ vs.length + (if n = 0 then o else 0)
  | 0, o, cs, l, vs, hv, e => by cases e; exact ⟨by simp [CVs], by simp⟩
  | n + 1, o, cs, l, vs, hv, e => by
    unfold cutL at e
    split at e
    · rename_i c hc
      split at e
      · rename_i r hr
        cases e
        rw [nthL_eq] at hc
        obtain ⟨v, h1, h2⟩ := hv.get hc
        obtain ⟨h3, h4⟩ := CVs.cut hv hr
        have hlt : o < vs.length := (List.getElem?_eq_some_iff.1 h1).1
        refine ⟨⟨v, _, ?_, h2, h3⟩, ?_⟩
        · rw [List.drop_eq_getElem_cons hlt, List.take_succ_cons, (List.getElem?_eq_some_iff.1 h1).2]
        · split at h4
          · omega
          · rw [if_neg (by omega)]; omega
      · cases e
    · cases e
theorem szO_ok {P : Program} {t : TypeId} {n : Nat} (e : szO P t = some n) : sizeO P t = some n := by
  unfold szO at e
  unfold sizeO
  split at e
  · rename_i i hi; rw [hi]; exact e
  · cases e
theorem fldO_ok {P : Program} {t i f ft : Nat} (e : fldO P t i = some (f, ft)) : ∃ fs fd, P.underlying t = some (.struct fs) ∧ fs[i]? = some fd ∧ fd.offset = f ∧ fd.type = ft ∧ ∃ n, sizeO P ft = some (n + 1) := by
  unfold fldO at e
  split at e
  · rename_i fs hu
    split at e
    · rename_i fd hn
      split at e
      · rename_i n hs
        cases e
        rw [nthL_eq] at hn
        exact ⟨⟨fs⟩, fd, hu, by simpa using hn, rfl, rfl, n, szO_ok hs⟩
      · cases e
    · cases e
  · cases e
theorem putL_ok : ∀ {o : Nat} {cs ws cs' : List (CV τ)} {us vs : List Value}, CVs X.P X.G h ν cs us → CVs X.P X.G h ν ws vs → putL cs o ws = some cs' →
    o + vs.length ≤ us.length ∧ CVs X.P X.G h ν cs' (us.take o ++ vs ++ us.drop (o + vs.length))
  | 0, cs, ws, cs', us, vs, hc, hw, e => by
    unfold putL at e
    have := go hc hw e
    simpa using this
  | o + 1, c :: cs, ws, cs', _, vs, ⟨u, us, rfl, h1, h2⟩, hw, e => by
    unfold putL at e
    split at e
    · rename_i r hr
      cases e
      obtain ⟨h3, h4⟩ := putL_ok h2 hw hr
      refine ⟨by simp; omega, u, _, ?_, h1, h4⟩
      rw [show o + 1 + vs.length = (o + vs.length) + 1 by omega]
      simp
    · cases e
  | o + 1, [], ws, cs', us, vs, hc, hw, e => by simp [putL] at e
where
  go : ∀ {cs ws cs' : List (CV τ)} {us vs : List Value}, CVs X.P X.G h ν cs us → CVs X.P X.G h ν ws vs → putL.go cs ws = some cs' → vs.length ≤ us.length ∧ CVs X.P X.G h ν cs' (vs ++ us.drop vs.length)
  | cs, [], cs', us, vs, hc, hw, e => by
    obtain rfl : vs = [] := hw
    simp [putL.go] at e
    subst e
    exact ⟨by simp, by simpa using hc⟩
  | c :: cs, w :: ws, cs', _, _, ⟨u, us, rfl, h1, h2⟩, ⟨v, vs, rfl, h3, h4⟩, e => by
    simp only [putL.go] at e
    split at e
    · rename_i r hr
      cases e
      obtain ⟨h5, h6⟩ := go h2 h4 hr
      exact ⟨by simp; omega, v, _, by simp, h3, h6⟩
    · cases e
  | [], w :: ws, cs', us, vs, hc, hw, e => by simp [putL.go] at e
theorem isA_ok {P : Program} {t : TypeId} {b : Bool} (e : isA P t = some b) : aggO P t = some b := by
  unfold isA at e
  unfold aggO
  split at e <;> first | (cases e; done) | (rename_i hu; rw [hu]; simpa using e)
end
end Go.Rk
end
section
namespace Go.Rk
open Go.RowKit Go.Dm Go.Dk
variable {τ : Nat → Type}
section
variable {X : Cx τ} {h : Fz} {ν : Vn τ} {a : Act} {E : EnvX τ} {Ea : Env} {N : Nat} {w : World} {x y : Operand} {dst : Option Nat} {t t' ty : Nat} {p : String} {af : Array Edge} {gd : Option (Nat × Bool)}
theorem lok0 : ∀ {d : Nat} {t : Ty} {c : CV τ} {x : t.den τ} {v : Value} {m : List Nat}, scal t = true → lok X.G [] d t c = some (x, m) → CVOk X.P X.G h ν c v → Rp X.P X.G h t x v := by
  intro d t c x v m hs e hv
  cases d with
  | zero => cases e
  | succ d =>
    unfold lok at e
    cases t <;> first | (cases hs; done) | (dsimp only at e; split at e <;> first | (cases e; done) | (cases e; cases hv; constructor))
theorem lokL0 {d : Nat} : ∀ {ts : List Ty} {cs : List (CV τ)} {q : DP τ ts} {vs : List Value} {m : List Nat}, ts.all scal = true → lokL (lok X.G [] d) ts cs = some (q, m) → CVs X.P X.G h ν cs vs → RpL X.P X.G h ts q vs
  | [], [], q, vs, _, _, e, hv => by cases e; cases hv; exact .nil
  | t :: ts, c :: cs, q, _, _, hs, e, ⟨v, us, rfl, h1, h2⟩ => by
    simp only [List.all_cons, Bool.and_eq_true] at hs
    unfold lokL at e
    split at e
    · rename_i x m hx
      split at e
      · rename_i q' m' hq
        cases e
        refine .cons t ts _ v us ?_ ?_
        · rw [DP.hd_mk]; exact lok0 hs.1 hx h1
        · rw [DP.tl_mk]; exact lokL0 hs.2 hq h2
      · cases e
    · cases e
  | [], _ :: _, _, _, _, _, e, _ => by cases e
  | _ :: _, [], _, _, _, _, e, _ => by cases e
theorem obX_ok {o : Option Bool} {v : XV τ} (e : obX o = some v) : ∃ b, o = some b ∧ v = .c (.b b) := by
  cases o with
  | none => cases e
  | some b => cases e; exact ⟨b, rfl, rfl⟩
theorem okX_ok {o : Option Bool} {v : XV τ} (e : okX o = some v) : ∃ b, o = some b ∧ v = .c (.k b) := by
  cases o with
  | none => cases e
  | some b => cases e; exact ⟨b, rfl, rfl⟩
theorem adC_ok {c : CV τ} {v : Value} (e : adC c = true) (hc : CVOk X.P X.G h ν c v) : ∃ ad, v = .pointer (some ad) := by
  cases c with
  | ea t z o => obtain ⟨b, k, vs, rfl, _⟩ := hc; exact ⟨_, rfl⟩
  | oe i k m t z o => obtain ⟨b, n, c, q, xs, u, _, _, _, rfl⟩ := hc; exact ⟨_, rfl⟩
  | _ => cases e
theorem boolC_ok {c : CV τ} {b : Bool} {v : Value} (e : boolC c = some b) (hc : CVOk X.P X.G h ν c v) : v = .bool b := by
  cases c with
  | b x => cases e; exact hc
  | k x => cases e; exact hc
  | _ => cases e
theorem binX_ok (hT : TyOk X) (hf : Fits N Ea a) {o : BinOp} {A B v : XV τ} {vx vy : Value} (hx : evl Ea x = some vx) (hy : evl Ea y = some vy) (ca : XOk X.P X.G h ν A vx) (cb : XOk X.P X.G h ν B vy)
    (e : binX X o t' A B = some v) : ∃ u, (∀ w, (execOp a.eval ⟨dst, .binOp o t' x y ty, t, p, af, gd⟩).run X.P w = .ok (.value u) w) ∧ XOk X.P X.G h ν v u := by
  unfold binX at e
  split at e
  · obtain rfl : vx = _ := ca
    obtain rfl : vy = _ := cb
    obtain ⟨b, h1, rfl⟩ := obX_ok e
    cases o <;> first | (cases h1; done) | skip
    all_goals cases h1
    · exact ⟨_, fun w => ex_eql hf hx hy, rfl⟩
    · exact ⟨_, fun w => ex_neq hf hx hy, rfl⟩
    · exact ⟨_, fun w => ex_lss hf hx hy, rfl⟩
    · exact ⟨_, fun w => ex_leq hf hx hy, rfl⟩
    · exact ⟨_, fun w => ex_gtr hf hx hy, rfl⟩
    · exact ⟨_, fun w => ex_geq hf hx hy, rfl⟩
  · obtain rfl : vx = _ := ca
    obtain rfl : vy = _ := cb
    split at e
    · cases e; exact ⟨_, fun w => ex_add_b hf hx hy, rfl⟩
    · cases e; exact ⟨_, fun w => ex_sub_b hf hx hy, rfl⟩
    · obtain ⟨b, h1, rfl⟩ := obX_ok e
      cases o <;> first | (cases h1; done) | skip
      all_goals cases h1
      · exact ⟨_, fun w => ex_eql_b hf hx hy, rfl⟩
      · exact ⟨_, fun w => ex_neq_b hf hx hy, rfl⟩
      · exact ⟨_, fun w => ex_lss_b hf hx hy, rfl⟩
      · exact ⟨_, fun w => ex_leq_b hf hx hy, rfl⟩
      · exact ⟨_, fun w => ex_gtr_b hf hx hy, rfl⟩
      · exact ⟨_, fun w => ex_geq_b hf hx hy, rfl⟩
  · obtain rfl : vx = _ := ca
    obtain rfl : vy = _ := cb
    split at e
    · cases e; exact ⟨_, fun w => ex_eql_w hf hx hy, rfl⟩
    · cases e
      rename_i m n _
      refine ⟨_, fun w => ex_neq hf hx hy, ?_⟩
      show Value.bool _ = .bool _
      have : ((m.toNat : Int) == (n.toNat : Int)) = (m == n) := by
        rw [Bool.eq_iff_iff]
        simp only [beq_iff_eq]
        exact ⟨fun e => UInt16.toNat_inj.1 (by omega), fun e => by rw [e]⟩
      rw [this]
    · cases e
  · obtain rfl : vx = _ := ca
    obtain rfl : vy = _ := cb
    obtain ⟨b, h1, rfl⟩ := obX_ok e
    cases o <;> first | (cases h1; done) | skip
    all_goals cases h1
    · exact ⟨_, fun w => ex_eql_s hf hx hy, rfl⟩
    · exact ⟨_, fun w => ex_neq_s hf hx hy, rfl⟩
    · exact ⟨_, fun w => ex_lss_s hf hx hy, rfl⟩
    · exact ⟨_, fun w => ex_leq_s hf hx hy, rfl⟩
    · exact ⟨_, fun w => ex_gtr_s hf hx hy, rfl⟩
    · exact ⟨_, fun w => ex_geq_s hf hx hy, rfl⟩
  · obtain rfl : vx = _ := ca
    obtain rfl : vy = _ := cb
    split at e
    · rename_i hu
      obtain ⟨b, h1, rfl⟩ := okX_ok e
      cases o <;> first | (cases h1; done) | skip
      all_goals cases h1
      · exact ⟨_, fun w => ex_eql_nn hu hf hx hy, rfl⟩
      · exact ⟨_, fun w => ex_neq_nn hu hf hx hy, rfl⟩
    · cases e
  · obtain rfl : vy = _ := cb
    split at e
    · rename_i hu
      cases ha : adC (τ := τ) ‹_› with
      | false => rw [ha] at e; cases e
      | true =>
        rw [ha] at e
        obtain ⟨ad, rfl⟩ := adC_ok ha ca
        obtain ⟨b, h1, rfl⟩ := okX_ok e
        cases o <;> first | (cases h1; done) | skip
        all_goals cases h1
        · exact ⟨_, fun w => ex_eql_pn hu hf hx hy, rfl⟩
        · exact ⟨_, fun w => ex_neq_pn hu hf hx hy, rfl⟩
    · cases e
  · split at e
    · rename_i hb
      split at e
      · rename_i hb'
        split at e
        · rename_i hu
          obtain rfl := boolC_ok hb ca
          obtain rfl := boolC_ok hb' cb
          obtain ⟨b, h1, rfl⟩ := obX_ok e
          cases o <;> first | (cases h1; done) | skip
          all_goals cases h1
          · exact ⟨_, fun w => ex_eql_o hu hf hx hy, rfl⟩
          · exact ⟨_, fun w => ex_neq_o hu hf hx hy, rfl⟩
        · cases e
      · cases e
    · cases e
  · split at e
    · rename_i n hn
      cases hs : (X.G.fs n).all scal with
      | false => rw [hs] at e; cases e
      | true =>
        rw [hs] at e
        dsimp only [cond_true] at e
        split at e
        · rename_i q hq
          split at e
          · rename_i q' hq'
            obtain ⟨xs, rfl, ha⟩ := ca
            obtain ⟨ys, rfl, hb⟩ := cb
            obtain ⟨h1, h2⟩ := hT.eq t' n hn hs q q' h xs ys (lokL0 hs hq ha) (lokL0 hs hq' hb)
            obtain ⟨b, h3, rfl⟩ := obX_ok e
            cases o <;> first | (cases h3; done) | skip
            all_goals cases h3
            · exact ⟨_, fun w => ex_eql_t h1 h2 hf hx hy, rfl⟩
            · exact ⟨_, fun w => ex_neq_t h1 h2 hf hx hy, rfl⟩
          · cases e
        · cases e
    · cases e
  · cases e
theorem binX_gv {o : BinOp} {A B v : XV τ} (e : binX X o t A B = some v) : isGv A = false ∧ isGv B = false := by
  unfold binX at e
  split at e <;> first | exact ⟨rfl, rfl⟩ | cases e
theorem convX_ok (hf : Fits N Ea a) {c : CV τ} {v : XV τ} {vx : Value} (hx : evl Ea x = some vx) (ca : CVOk X.P X.G h ν c vx) {s : Nat} (hw : h.on w)
    (e : convX X.P s t' c = some v) : ∃ u, (execOp a.eval ⟨dst, .convert s t' x, t, p, af, gd⟩).run X.P w = .ok (.value u) w ∧ XOk X.P X.G h ν v u := by
  unfold convX at e
  split at e
  · obtain rfl : vx = _ := ca
    split at e
    · rename_i hd
      split at e
      · rename_i hs
        cases e
        exact ⟨_, ex_conv_i hd hs (byte_inI _) hf hx, rfl⟩
      · cases e
    · cases e
  · obtain rfl : vx = _ := ca
    split at e
    · rename_i hd
      split at e
      · rename_i hs
        cases e
        exact ⟨_, ex_conv_i hd hs (w16_inI _) hf hx, rfl⟩
      · cases e
    · cases e
  · obtain rfl : vx = _ := ca
    split at e
    · rename_i hd
      split at e
      · rename_i hs
        cases e
        exact ⟨_, ex_conv_b hd hs hf hx, rfl⟩
      · cases e
    · cases e
  · obtain rfl : vx = _ := ca
    split at e
    · rename_i hd
      split at e
      · rename_i hs
        cases e
        exact ⟨_, ex_conv_s hd hs hf hx, rfl⟩
      · cases e
    · cases e
  · split at e
    · rename_i hd
      split at e
      · rename_i e' hs
        split at e
        · rename_i he
          cases e
          obtain ⟨ad, k, vs, hvx, hsees, hc⟩ := slU8 ca
          subst hvx
          exact ⟨_, ex_conv_bs (en := fun b => [byte b]) (fun _ => rfl) hd hs he (hsees.sees hw) hf hx, rfl⟩
        · cases e
      · cases e
    · cases e
  · cases e
where
  slU8 {l : List UInt8} {v : Value} (hv : Rp X.P X.G h (.sl .u8) l v) : ∃ ad k vs, v = .slice ad l.length k ∧ SeesF h ad (cells (fun b => [byte b]) l) ∧ vs = () := by
    cases hv with
    | sl e xs ad c vs hc hs hr =>
      refine ⟨ad, c, (), rfl, ?_, rfl⟩
      suffices vs = cells (fun b => [byte b]) l by rw [← this]; exact hs
      clear hs hc
      induction l generalizing vs with
      | nil => cases hr; rfl
      | cons b l ih =>
        cases hr with
        | cons _ _ _ us ws h1 h2 =>
          have h3 := ih _ h2
          cases h1 with
          | cons _ _ _ v vs h4 h5 =>
            cases h5
            cases h4
            subst h3
            rfl
theorem CVOk.one {c : CV τ} {v : Value} (hv : CVOk X.P X.G h ν c v) : v.oneCell' = true ∧ v.cells = #[v] := by
  cases c with
  | sl e xs => cases hv; exact ⟨rfl, rfl⟩
  | os i => obtain ⟨ad, n, c, q, _, rfl⟩ := hv; exact ⟨rfl, rfl⟩
  | pt i o => obtain ⟨u, q, _, rfl, _⟩ := hv; cases u <;> exact ⟨rfl, rfl⟩
  | ea t z o => obtain ⟨b, k, vs, rfl, _⟩ := hv; exact ⟨rfl, rfl⟩
  | oe i k m t z o => obtain ⟨b, n, c, q, xs, u', _, _, _, rfl⟩ := hv; exact ⟨rfl, rfl⟩
  | fm m => cases hv; exact ⟨rfl, rfl⟩
  | cf i => obtain ⟨f, us, vs, q, _, rfl⟩ := hv; exact ⟨rfl, rfl⟩
  | ep n x =>
    cases hv with
    | pn0 => exact ⟨rfl, rfl⟩
    | pn1 _ x v hr => cases hr; exact ⟨rfl, rfl⟩
  | bad => exact hv.elim
  | _ => cases hv; exact ⟨rfl, rfl⟩
theorem CVs.one : ∀ {cs : List (CV τ)} {vs : List Value}, CVs X.P X.G h ν cs vs → ∀ v ∈ vs, v.oneCell' = true
  | [], vs, e, v, hv => by cases e; cases hv
  | c :: cs, _, ⟨u, us, rfl, h1, h2⟩, v, hv => by
    rcases List.mem_cons.1 hv with rfl | hv
    · exact h1.one.1
    · exact CVs.one h2 v hv
theorem cellsX_ok {v : XV τ} {cs : List (CV τ)} {u : Value} (e : cellsX v = some cs) (hv : XOk X.P X.G h ν v u) : ∃ us, u.cells = ⟨us⟩ ∧ CVs X.P X.G h ν cs us ∧ isGv v = false := by
  unfold cellsX at e
  split at e
  · rename_i c
    cases e
    have hv : CVOk X.P X.G h ν c u := hv
    exact ⟨[u], hv.one.2, ⟨u, [], rfl, hv, rfl⟩, rfl⟩
  · rename_i l
    cases e
    obtain ⟨vs, rfl, hc⟩ := hv
    exact ⟨vs, rfl, hc, rfl⟩
  · cases e
theorem zipIdx_fill : ∀ (vs us : List Value) (o k : Nat), o + k + vs.length ≤ us.length → ((vs.zipIdx k).foldl (fun cs (q : Value × Nat) => cs.setIfInBounds (o + q.2) q.1) us.toArray) = (us.take (o + k) ++ vs ++ us.drop (o + k + vs.length)).toArray
  | [], us, o, k, _ => by simp
  | v :: vs, us, o, k, hl => by
    simp only [List.zipIdx_cons, List.foldl_cons, List.length_cons] at hl ⊢
    have h1 : us.toArray.setIfInBounds (o + k) v = (us.set (o + k) v).toArray := by simp
    rw [h1, zipIdx_fill vs (us.set (o + k) v) o (k + 1) (by simp; omega)]
    have hA : (us.take (o + k)).length = o + k := by rw [List.length_take]; omega
    have h2 : us.set (o + k) v = (us.take (o + k) ++ [v]) ++ us.drop (o + k + 1) := by rw [List.set_eq_take_append_cons_drop, if_pos (by omega)]; simp
    have h3 : (us.take (o + k) ++ [v]).length = o + (k + 1) := by simp [hA]; omega
    rw [h2, List.take_append_of_le_length (by omega), List.take_of_length_le (by omega), List.drop_append, List.drop_eq_nil_of_le (by omega), h3, List.drop_drop]
    simp only [List.append_assoc, List.nil_append, List.cons_append]
    rw [show o + k + 1 + (o + (k + 1) + vs.length - (o + (k + 1))) = o + k + (vs.length + 1) by omega]
theorem buildX_ok {pl : Nat → Option (Nat × Nat)} (hd : a.defers = []) : ∀ {ps : List (Nat × Operand)} {cs cs' : List (CV τ)} {us : List Value}, buildX pl E ps cs = some cs' → (∀ q ∈ ps, EnvOn X h ν a (tmpO q.2) E) → CVs X.P X.G h ν cs us →
    ∃ us', Instr.fill pl us.toArray (ps.map fun q => (q.1, a.eval q.2)) = some us'.toArray ∧ CVs X.P X.G h ν cs' us'
  | [], cs, cs', us, e, _, hc => by cases e; exact ⟨us, rfl, hc⟩
  | (i, x) :: ps, cs, cs', us, e, hE, hc => by
    unfold buildX at e
    split at e
    · rename_i o s hpl
      split at e
      · rename_i v hv
        split at e
        · rename_i vs hvs
          cases hb : Nat.beq vs.length s with
          | false => rw [hb] at e; cases e
          | true =>
            rw [hb] at e
            dsimp only [cond_true] at e
            split at e
            · rename_i cs2 hp
              obtain ⟨ws, h1, h2, _⟩ := cellsX_ok hvs (ev_ok hd (hE _ (List.mem_cons_self ..)) hv)
              obtain ⟨h3, h4⟩ := putL_ok hc h2 hp
              obtain ⟨us', h5, h6⟩ := buildX_ok hd e (fun q hq => hE q (List.mem_cons_of_mem _ hq)) h4
              refine ⟨us', ?_, h6⟩
              have hs : vs.length = s := by simpa using hb
              have hl := h2.len
              have h7 := zipIdx_fill ws us o 0 (by omega)
              simp only [Nat.add_zero] at h7
              simp only [List.map_cons, Instr.fill, hpl, h1]
              rw [if_neg (by simp; omega)]
              have h8 : (Array.zipIdx ⟨ws⟩).foldl (fun cs (q : Value × Nat) => cs.setIfInBounds (o + q.2) q.1) us.toArray = (ws.zipIdx).foldl (fun cs (q : Value × Nat) => cs.setIfInBounds (o + q.2) q.1) us.toArray := by
                rw [← Array.foldl_toList]; simp
              refine Eq.trans (congrArg (fun z => Instr.fill pl z _) (h8.trans h7)) h5
            · cases e
        · cases e
      · cases e
    · cases e
theorem placesO_ok {P : Program} : ∀ {fs : List Field} {l : List (Nat × Nat)}, placesO P fs = some l → fs.mapM (fun f => (P.info? f.type).map fun i => (f.offset, i.size)) = some l
  | [], l, e => by cases e; rfl
  | f :: fs, l, e => by
    unfold placesO at e
    split at e
    · rename_i s hs
      split at e
      · rename_i r hr
        cases e
        have h1 := szO_ok hs
        unfold sizeO at h1
        cases hi : P.info? f.type with
        | none => rw [hi] at h1; cases h1
        | some i =>
          rw [hi] at h1
          cases h1
          simp [List.mapM_cons, hi, placesO_ok hr]
      · cases e
    · cases e
theorem zeroO_ok {P : Program} {t : TypeId} {cs : List (CV τ)} (e : zeroO P t = some cs) : ∃ it z, P.info? t = some it ∧ it.zero = some z ∧ cvVs z.cells.toList = some cs := by
  unfold zeroO at e
  split at e
  · rename_i it hi
    split at e
    · rename_i z hz
      exact ⟨it, z, hi, hz, e⟩
    · cases e
  · cases e
theorem build_ok (hd : a.defers = []) {z cs : List (CV τ)} {pl : Nat → Option (Nat × Nat)} {ps : List (Nat × Operand)} (hz : zeroO X.P t' = some z) (hp : placeX X.P t' = some pl) (e : buildX pl E ps z = some cs)
    (hE : ∀ q ∈ ps, EnvOn X h ν a (tmpO q.2) E) : ∃ u, (∀ w, (execOp a.eval ⟨dst, .build t' ⟨ps⟩, t, p, af, gd⟩).run X.P w = .ok (.value u) w) ∧ XOk X.P X.G h ν (.g cs) u := by
  obtain ⟨it, z0, hi, hz0, hc⟩ := zeroO_ok hz
  obtain ⟨us, h1, h2⟩ := buildX_ok hd e hE (cvVs_ok hc)
  have h3 : z0.cells.toList.toArray = z0.cells := by simp
  rw [h3] at h1
  refine ⟨.agg ⟨us⟩, fun w => ?_, us, rfl, h2⟩
  have hb : X.P.built t' ((ps.map fun q => (q.1, a.eval q.2)).toArray).toList = some us.toArray := by
    unfold placeX at hp
    split at hp
    · rename_i n e' hu
      split at hp
      · rename_i s hs
        cases hp
        have h4 := szO_ok hs
        unfold sizeO at h4
        cases hie : X.P.info? e' with
        | none => rw [hie] at h4; cases h4
        | some ie =>
          rw [hie] at h4
          cases h4
          simpa [Program.built, hi, hu, hz0, hie] using h1
      · cases hp
    · rename_i fs hu
      split at hp
      · rename_i l hl
        cases hp
        have h5 : (l.toArray[·]?) = nthL l := funext fun i => by rw [nthL_eq]; simp
        simp only [Program.built, hi, hu, hz0, placesO_ok hl]
        rw [h5]
        exact h1
      · cases hp
    · cases hp
  have := run_build w t' _ _ hb
  simp only [execOp]
  have h6 : (Array.map (fun (q : Nat × Operand) => (q.1, a.eval q.2)) ⟨ps⟩) = (ps.map fun q => (q.1, a.eval q.2)).toArray := by simp
  have h7 : (Array.map (fun x => match x with | (i, x) => (i, a.eval x)) (⟨ps⟩ : Array (Nat × Operand))) = (ps.map fun q => (q.1, a.eval q.2)).toArray := h6
  first
  | (rw [h7]; simp only [Sem.run_bind, this, Result.andThen, Sem.run_pure])
  | (simp only [Sem.run_bind, this, Result.andThen, Sem.run_pure])
theorem run_fieldAt {P : Program} {i f ft b o : Nat} (e : fldO P t i = some (f, ft)) : (Instr.fieldAt t (ptr b o) i).run P w = .ok (ptr b (o + f)) w := by
  obtain ⟨fs, fd, hu, hf, rfl, rfl, n, hs⟩ := fldO_ok e
  have hadd : (⟨b, o, none⟩ : Addr).add fd.offset = ⟨b, o + fd.offset, none⟩ := by unfold Addr.add; split <;> simp_all
  simp [Instr.fieldAt, run_underlying hu, hf, Instr.sureAddr, fieldPlace, run_sizeO hs, hadd, Result.andThen]
theorem field_ok {i f ft : Nat} {cs : List (CV τ)} {vx : Value} {v : XV τ} (hx : XOk X.P X.G h ν (.g cs) vx) (e : fldO X.P t i = some (f, ft))
    (hv : (match isA X.P ft with
        | some true => match szO X.P ft with
          | some s => match cutL cs f s with
            | some l => some (XV.g l)
            | none => none
          | none => none
        | some false => match nthL cs f with
          | some c => some (.c c)
          | none => none
        | none => none) = some v) : ∃ u, (∀ w, (Instr.field t vx i).run X.P w = .ok u w) ∧ XOk X.P X.G h ν v u := by
  obtain ⟨fs, fd, hu, hf, rfl, rfl, n, hs⟩ := fldO_ok e
  obtain ⟨us, rfl, hc⟩ := hx
  split at hv
  · rename_i ha
    split at hv
    · rename_i s hs'
      split at hv
      · rename_i l hl
        cases hv
        obtain ⟨h1, h2⟩ := hc.cut hl
        refine ⟨.agg ⟨_⟩, fun w => ?_, _, rfl, h1⟩
        simp [Instr.field, run_underlying hu, hf, asAgg, part, run_isAgg (isA_ok ha), run_sizeO (szO_ok hs'), Result.andThen, List.extract_eq_take_drop]
      · cases hv
    · cases hv
  · rename_i ha
    split at hv
    · rename_i c hn
      cases hv
      rw [nthL_eq] at hn
      obtain ⟨u, h1, h2⟩ := hc.get hn
      refine ⟨u, fun w => ?_, h2⟩
      simp [Instr.field, run_underlying hu, hf, asAgg, part, run_isAgg (isA_ok ha), h1, Result.andThen]
    · cases hv
  · cases hv
theorem addr_ok {c : CV τ} {vx : Value} (ha : adC c = true) (hc : CVOk X.P X.G h ν c vx) {f : Nat} : (∃ b o, vx = ptr b o) ∧ (∀ b o, vx = ptr b o → ∀ c', (match c with
      | .ea t z o => some (.ea t z (o + f))
      | .oe id k m t z o => some (.oe id k m t z (o + f))
      | _ => none) = some c' → CVOk X.P X.G h ν c' (ptr b (o + f))) := by
  cases c with
  | ea t z o =>
    obtain ⟨b, k, vs, rfl, h1, h2⟩ := hc
    refine ⟨⟨b, k + o, rfl⟩, fun b' o' e c' e' => ?_⟩
    cases e; cases e'
    exact ⟨b, k, vs, by rw [Nat.add_assoc], h1, h2⟩
  | oe i k m t z o =>
    obtain ⟨b, n, c, q, xs, u, h1, h2, h3, rfl⟩ := hc
    refine ⟨⟨b, _, rfl⟩, fun b' o' e c' e' => ?_⟩
    cases e; cases e'
    exact ⟨b, n, c, q, xs, u, h1, h2, h3, by rw [Nat.add_assoc]⟩
  | _ => cases ha
theorem opP_ok (hT : TyOk X) {o : Oper} (hd : a.defers = []) (hw : h.on w) (hE : EnvOn X h ν a (rdO o.op) E) {v : XV τ} (e : opP X E o.op = some v) :
    ∃ u, (execOp a.eval o).run X.P w = .ok (.value u) w ∧ XOk X.P X.G h ν v u := by
  obtain ⟨Ea, hf, hl⟩ := envA a hd
  obtain ⟨dst, op, t, p, af, gd⟩ := o
  dsimp only at e hE
  unfold opP at e
  split at e
  · exact ⟨_, by simp [execOp], ev_ok hd (hE.op (by simp [Op.operands])) e⟩
  · exact ⟨_, by simp [execOp], ev_ok hd (hE.op (by simp [Op.operands])) e⟩
  · split at e
    · rename_i hc
      obtain ⟨u, h1, h2⟩ := evC_of hl (hE.op (by simp [Op.operands])) hc
      refine ⟨_, ?_, ev_ok hd (hE.op (by simp [Op.operands])) e⟩
      simp only [execOp]; rw [hf.ev h1, show u = _ from h2]; simp [asBool]
    · rename_i hc
      obtain ⟨u, h1, h2⟩ := evC_of hl (hE.op (by simp [Op.operands])) hc
      refine ⟨_, ?_, ev_ok hd (hE.op (by simp [Op.operands])) e⟩
      simp only [execOp]; rw [hf.ev h1, show u = _ from h2]; simp [asBool]
    · cases e
  · split at e
    · rename_i hc
      obtain ⟨u, h1, h2⟩ := evC_of hl (hE.op (by simp [Op.operands])) hc
      obtain rfl : u = _ := h2
      cases e
      exact ⟨_, ex_not hf h1, rfl⟩
    · rename_i hc
      obtain ⟨u, h1, h2⟩ := evC_of hl (hE.op (by simp [Op.operands])) hc
      obtain rfl : u = _ := h2
      cases e
      exact ⟨_, ex_not hf h1, rfl⟩
    · cases e
  · split at e
    · rename_i l hx
      obtain ⟨u, h1, h2⟩ := evl_of hl (hE.op (by simp [Op.operands])) hx rfl
      obtain ⟨vs, rfl, h3⟩ := h2
      split at e
      · rename_i c hc
        cases e
        rw [nthL_eq] at hc
        obtain ⟨v, h4, ⟨h5, _⟩ | ⟨_, c', e', h5⟩⟩ := h3.get hc
        · cases h5
        · cases e'
          exact ⟨v, ex_extract hf h1 (by simpa using h4), h5⟩
      · rename_i cs hc
        cases e
        rw [nthL_eq] at hc
        obtain ⟨v, h4, ⟨_, ws, rfl, h5⟩ | ⟨h5, _⟩⟩ := h3.get hc
        · exact ⟨_, ex_extract hf h1 (by simpa using h4), ws, rfl, h5⟩
        · cases h5
      · cases e
    · cases e
  · split at e
    · rename_i c hc
      cases ha : adC c with
      | false => rw [ha] at e; cases e
      | true =>
        rw [ha] at e
        cases e
        obtain ⟨u, h1, h2⟩ := evC_of hl (hE.op (by simp [Op.operands])) hc
        obtain ⟨ad, rfl⟩ := adC_ok ha h2
        exact ⟨_, ex_nilCheck hf h1, h2⟩
    · cases e
  · split at e
    · rename_i f ft hfl
      split at e
      · rename_i t z o hc
        cases e
        obtain ⟨u, h1, h2⟩ := evC_of hl (hE.op (by simp [Op.operands])) hc
        obtain ⟨⟨b, k, rfl⟩, h3⟩ := addr_ok (f := f) rfl h2
        refine ⟨ptr b (k + f), ?_, h3 _ _ rfl _ rfl⟩
        simp only [execOp]; rw [hf.ev h1]; simp [run_fieldAt hfl, Result.andThen]
      · rename_i hc
        cases e
        obtain ⟨u, h1, h2⟩ := evC_of hl (hE.op (by simp [Op.operands])) hc
        obtain ⟨⟨b, k, rfl⟩, h3⟩ := addr_ok (f := f) rfl h2
        refine ⟨ptr b (k + f), ?_, h3 _ _ rfl _ rfl⟩
        simp only [execOp]; rw [hf.ev h1]; simp [run_fieldAt hfl, Result.andThen]
      · cases e
    · cases e
  · split at e
    · rename_i f ft hfl
      split at e
      · rename_i cs hx
        obtain ⟨u, h1, h2⟩ := evl_of hl (hE.op (by simp [Op.operands])) hx rfl
        obtain ⟨r, h3, h4⟩ := field_ok h2 hfl e
        exact ⟨r, ex_fieldv hf h1 (h3 w), h4⟩
      · cases e
    · cases e
  · split at e
    · rename_i A hA
      split at e
      · rename_i B hB
        obtain ⟨hgA, hgB⟩ := binX_gv e
        obtain ⟨vx, h1, h2⟩ := evl_of hl (hE.op (by simp [Op.operands])) hA hgA
        obtain ⟨vy, h3, h4⟩ := evl_of hl (hE.op (by simp [Op.operands])) hB hgB
        obtain ⟨u, h5, h6⟩ := binX_ok hT hf h1 h3 h2 h4 e
        exact ⟨u, h5 w, h6⟩
      · cases e
    · cases e
  · split at e
    · rename_i c hc
      obtain ⟨vx, h1, h2⟩ := evC_of hl (hE.op (by simp [Op.operands])) hc
      exact convX_ok hf h1 h2 hw e
    · cases e
  · split at e
    · rename_i z hz
      split at e
      · rename_i pl hp
        split at e
        · rename_i cs hc
          cases e
          obtain ⟨u, h1, h2⟩ := build_ok (dst := dst) (t := t) (p := p) (af := af) (gd := gd) hd hz hp hc fun q hq => hE.op (by simp only [Op.operands, List.toList_toArray, List.mem_map]; exact ⟨q, hq, rfl⟩)
          exact ⟨u, h1 w, h2⟩
        · cases e
      · cases e
    · cases e
  · split at e
    · rename_i hc
      obtain ⟨vx, h1, h2⟩ := evC_of hl (hE.op (by simp [Op.operands, Call.operands])) hc
      obtain rfl : vx = _ := h2
      split at e
      · rename_i hu
        cases e
        exact ⟨_, ex_len_s hu hf h1, rfl⟩
      · cases e
    · rename_i hc
      obtain ⟨vx, h1, h2⟩ := evC_of hl (hE.op (by simp [Op.operands, Call.operands])) hc
      split at e
      · rename_i hu
        cases e
        cases h2
        exact ⟨_, ex_len_l hu hf h1, rfl⟩
      · cases e
    · rename_i hc
      obtain ⟨vx, h1, h2⟩ := evC_of hl (hE.op (by simp [Op.operands, Call.operands])) hc
      obtain rfl : vx = _ := h2
      split at e
      · rename_i hu
        cases e
        exact ⟨_, ex_len_l hu hf h1, rfl⟩
      · cases e
    · cases e
  · split at e
    · rename_i hc
      obtain ⟨vx, h1, h2⟩ := evC_of hl (hE.op (by simp [Op.operands, Call.operands])) hc
      obtain rfl : vx = _ := h2
      split at e
      · rename_i hc'
        obtain ⟨vy, h3, h4⟩ := evC_of hl (hE.op (by simp [Op.operands, Call.operands])) hc'
        obtain rfl : vy = _ := h4
        cases e
        exact ⟨_, ex_min hf h1 h3, rfl⟩
      · cases e
    · cases e
  · split at e
    · rename_i hc
      obtain ⟨vx, h1, h2⟩ := evC_of hl (hE.op (by simp [Op.operands, Call.operands])) hc
      obtain rfl : vx = _ := h2
      split at e
      · rename_i hc'
        obtain ⟨vy, h3, h4⟩ := evC_of hl (hE.op (by simp [Op.operands, Call.operands])) hc'
        obtain rfl : vy = _ := h4
        cases e
        exact ⟨_, ex_max hf h1 h3, rfl⟩
      · cases e
    · cases e
  · cases e
end
end Go.Rk
end
section
namespace Go.Rk
open Go.RowKit Go.Dm Go.Dk
variable {τ : Nat → Type}

open Classical in
noncomputable def lend (h : Fz) (w : World) (bs : List Nat) : Fz := fun b => if b ∈ bs then w.heap[b]? else h b
section
variable {P : Program} {G : Sig τ} {w0 w w' : World} {h0 h h' H : Fz} {F : List Nat} {L L' L2 : Hp τ} {ν ν' : Vn τ} {φ φ' : Nat → List Nat}
theorem Fz.le.refl (h : Fz) : h.le h := fun _ _ e => e
theorem Fz.le.trans {h h' h'' : Fz} (a : h.le h') (b : h'.le h'') : h.le h'' := fun _ _ e => b _ _ (a _ _ e)
theorem Vn.le.refl (ν : Vn τ) : ν.le ν := fun _ _ e => e
theorem Vn.le.trans {ν ν' ν'' : Vn τ} (a : ν.le ν') (b : ν'.le ν'') : ν.le ν'' := fun _ _ e => b _ _ (a _ _ e)
theorem lend_in {bs : List Nat} {b : Nat} (hb : b ∈ bs) : lend h w bs b = w.heap[b]? := by simp [lend, hb]
theorem lend_out {bs : List Nat} {b : Nat} (hb : b ∉ bs) : lend h w bs b = h b := by simp [lend, hb]
theorem lend_on {bs : List Nat} (hw : h.on w) : (lend h w bs).on w := by
  intro b o e
  by_cases hb : b ∈ bs
  · rwa [lend_in hb] at e
  · rw [lend_out hb] at e; exact hw _ _ e
theorem Mem.lend_le (M : Mem P G w0 h0 F L w ν h φ) (ids : List Nat) : h.le (lend h w (fps φ ids)) := by
  intro b o e
  by_cases hb : b ∈ fps φ ids
  · obtain ⟨i, _, hi⟩ := mem_fps.1 hb
    rw [(M.out i b hi).1] at e; cases e
  · rw [lend_out hb]; exact e
theorem fps_append (φ : Nat → List Nat) (l m : List Nat) : fps φ (l ++ m) = fps φ l ++ fps φ m := by simp [fps]
theorem fps_cons (φ : Nat → List Nat) (i : Nat) (m : List Nat) : fps φ (i :: m) = φ i ++ fps φ m := by simp [fps]

theorem row_rp {te : TypeId} {e : Ty} {xs : List (e.den τ)} {v : Value} {vs : List Value} (hH : h.le H) (ho : w.ownsRow 0 te (ets G e).length v xs.length vs) (hr : RpR P G h e xs vs) (hb : ∀ b ∈ v.ownBlock.toList, H b = w.heap[b]?) : Rp P G H (.sl e) xs v := by
  obtain ⟨hl, ⟨rfl, hn⟩ | ⟨g, cap, cur, rfl, _, hg, hc, _, hs, ht⟩⟩ := ho
  · rw [hn] at hl
    have : vs = [] := List.eq_nil_of_length_eq_zero (by simpa using hl)
    have hxs : xs = [] := List.eq_nil_of_length_eq_zero hn
    subst this; subst hxs
    exact .sl e [] none 0 [] (Nat.le_refl _) (.inl rfl) (.nil _)
  · refine .sl e xs _ cap vs hc (.inr ⟨g, 0, cur, te, (0, 0), rfl, ?_, ?_⟩) (hr.le hH)
    · rw [hb g (by simp [Value.ownBlock])]; exact hg
    · intro k v hk
      rw [← ht, List.getElem?_take] at hk
      split at hk
      · simpa using hk
      · cases hk

theorem RpL.len : ∀ {ts : List Ty} {q : DP τ ts} {vs : List Value}, RpL P G h ts q vs → vs.length = ts.length
  | _, _, _, .nil => rfl
  | _, _, _, .cons _ _ _ _ _ _ h2 => by simp [RpL.len h2]
theorem RpR.len : ∀ {e : Ty} {xs : List (e.den τ)} {vs : List Value}, RpR P G h e xs vs → vs.length = xs.length * (ets G e).length
  | _, _, _, .nil _ => by simp
  | _, _, _, .cons e x xs vs ws h1 h2 => by simp [RpR.len h2, h1.len, Nat.add_mul]; omega
theorem RpR.drop : ∀ {e : Ty} {xs : List (e.den τ)} {vs : List Value}, RpR P G h e xs vs → ∀ (i : Nat), RpR P G h e (xs.drop i) (vs.drop (i * (ets G e).length))
  | _, _, _, .nil e, i => by simp; exact .nil e
  | _, _, _, .cons e x xs vs ws h1 h2, 0 => by simp; exact .cons e x xs vs ws h1 h2
  | _, _, _, .cons e x xs vs ws h1 h2, i + 1 => by
    have hl := h1.len
    have e1 : vs.drop (i * (ets G e).length + (ets G e).length) = [] := List.drop_eq_nil_of_le (by omega)
    rw [List.drop_succ_cons, Nat.add_mul, Nat.one_mul, List.drop_append, e1, List.nil_append, hl, Nat.add_sub_cancel]
    exact h2.drop i
theorem RpR.take : ∀ {e : Ty} {xs : List (e.den τ)} {vs : List Value}, RpR P G h e xs vs → ∀ (i : Nat), RpR P G h e (xs.take i) (vs.take (i * (ets G e).length))
  | _, _, _, .nil e, i => by simp; exact .nil e
  | _, _, _, .cons e x xs vs ws h1 h2, 0 => by simp; exact .nil e
  | _, _, _, .cons e x xs vs ws h1 h2, i + 1 => by
    have hl := h1.len
    have e1 : vs.take (i * (ets G e).length + (ets G e).length) = vs := List.take_of_length_le (by omega)
    rw [List.take_succ_cons, Nat.add_mul, Nat.one_mul, List.take_append, e1, hl, Nat.add_sub_cancel]
    exact .cons e x _ vs _ h1 (h2.take i)
theorem SeesF.part {ad : Option Addr} {vs us : List Value} {k : Nat} (hs : SeesF h ad vs) (hu : ∀ j v, us[j]? = some v → vs[k + j]? = some v) : SeesF h (ad.map (·.add k)) us := by
  rcases hs with rfl | ⟨b, o, c, e, z, rfl, h1, h2⟩
  · left
    apply List.eq_nil_iff_forall_not_mem.2
    intro v hv
    obtain ⟨j, hj⟩ := List.mem_iff_getElem?.1 hv
    have := hu j v hj
    simp at this
  · have hadd : (⟨b, o, none⟩ : Addr).add k = ⟨b, o + k, none⟩ := by unfold Addr.add; split <;> simp_all
    refine .inr ⟨b, o + k, c, e, z, by simp [hadd], h1, fun j v hj => ?_⟩
    rw [Nat.add_assoc]; exact h2 _ _ (hu j v hj)
theorem sub_rp {e : Ty} {xs : List (e.den τ)} {ad : Option Addr} {n c i j : Nat} (hr : Rp P G h (.sl e) xs (.slice ad n c)) (hij : i ≤ j) (hj : j ≤ xs.length) : n = xs.length ∧ xs.length ≤ c ∧
    Rp P G h (.sl e) ((xs.take j).drop i) (.slice (if c = i then ad else ad.map (·.add (i * (ets G e).length))) (j - i) (c - i)) := by
  cases hr with
  | sl _ _ _ _ vs hc hs hrr =>
    refine ⟨rfl, hc, ?_⟩
    have hlen : ((xs.take j).drop i).length = j - i := by rw [List.length_drop, List.length_take]; omega
    rw [← hlen]
    have hcell : ∀ k v, ((vs.take (j * (ets G e).length)).drop (i * (ets G e).length))[k]? = some v → vs[i * (ets G e).length + k]? = some v := by
      intro k v hk
      rw [List.getElem?_drop, List.getElem?_take] at hk
      split at hk
      · exact hk
      · cases hk
    refine .sl e _ _ _ ((vs.take (j * (ets G e).length)).drop (i * (ets G e).length)) (by rw [hlen]; omega) ?_ ((hrr.take j).drop i)
    by_cases hci : c = i
    · rw [if_pos hci]
      left
      have h1 := ((hrr.take j).drop i).len
      rw [hlen, show j - i = 0 by omega, Nat.zero_mul] at h1
      exact List.eq_nil_of_length_eq_zero h1
    · rw [if_neg hci]; exact hs.part hcell
theorem vw_rp {e : Ty} {xs ys : List (e.den τ)} {a a' : Option Addr} {n c c' lo : Nat} (hr : Rp P G H (.sl e) ys (.slice a n c)) (h1 : lo + xs.length ≤ ys.length) (h2 : xs = (ys.take (lo + xs.length)).drop lo) (h3 : xs.length ≤ c') (h4 : xs ≠ [] → a' = a.map (·.add (lo * (ets G e).length))) : Rp P G H (.sl e) xs (.slice a' xs.length c') := by
  by_cases hx : xs = []
  · subst hx; exact .sl e [] a' c' [] h3 (.inl rfl) (.nil _)
  · obtain ⟨_, hc, hs⟩ := sub_rp hr (i := lo) (j := lo + xs.length) (by omega) h1
    have hl : 0 < xs.length := List.length_pos_iff.2 hx
    rw [← h2, if_neg (by omega), ← h4 hx] at hs
    rw [show lo + xs.length - lo = xs.length by omega] at hs
    cases hs with
    | sl _ _ _ _ vs _ hs hrr => exact .sl e xs a' c' vs h3 hs hrr
theorem Sees.part {ad : Option Addr} {vs us : List Value} {k : Nat} (hs : Sees w ad vs) (hu : ∀ (j : Nat) v, us[j]? = some v → vs[k + j]? = some v) : Sees w (ad.map (·.add k)) us := by
  by_cases hne : us = []
  · subst hne
    cases ad with
    | none => rfl
    | some x => exact .inl rfl
  · have hv : vs ≠ [] := by
      rintro rfl
      apply hne
      apply List.eq_nil_iff_forall_not_mem.2
      intro v hv
      obtain ⟨j, hj⟩ := List.mem_iff_getElem?.1 hv
      have := hu j v hj
      simp at this
    cases ad with
    | none => exact (hv hs).elim
    | some x =>
      obtain ⟨h1, h2, h3⟩ := hs.hard hv
      obtain ⟨b, o, sp⟩ := x
      simp only at h1 h2 h3
      subst h1
      have hadd : (⟨b, o, none⟩ : Addr).add k = ⟨b, o + k, none⟩ := by unfold Addr.add; split <;> simp_all
      simp only [Option.map_some, hadd]
      refine .inr ⟨rfl, h2, fun i v hv => ?_⟩
      have := h3 _ _ (hu i v hv)
      simpa [Nat.add_assoc] using this
mutual
theorem Tr.rp (hH : h.le H) : ∀ {t : Ty} {x : t.den τ} {v : Value} {fp : List Nat}, Tr P G h w t x v fp → (∀ b ∈ fp, H b = w.heap[b]?) → Rp P G H t x v
  | _, _, _, _, .fz t x v hz hr, _ => hr.le hH
  | _, _, _, _, .so te e xs v vs ho hr, hb => .so te e xs v (row_rp hH ho hr hb)
  | _, _, _, _, .po n x b vs fp h1 h2 hn, hb => .po n x _ (.pt n x b 0 vs (.inr ⟨b, 0, vs.toArray, G.ti n, (0, 0), rfl, (hb b (List.mem_cons_self ..)).trans h1, fun k v hk => by simpa using hk⟩) (h2.rp hH fun c hc => hb c (List.mem_cons_of_mem _ hc)))
  | _, _, _, _, .pn0 n, _ => .pn0 n
  | _, _, _, _, .pn1 n x v fp hp, hb => .pn1 n x v (match hp.rp hH hb with | .po _ _ _ hr => hr)
theorem TrL.rp (hH : h.le H) : ∀ {ts : List Ty} {p : DP τ ts} {vs : List Value} {fp : List Nat}, TrL P G h w ts p vs fp → (∀ b ∈ fp, H b = w.heap[b]?) → RpL P G H ts p vs
  | _, _, _, _, .nil, _ => .nil
  | _, _, _, _, .cons t ts p v vs f f' h1 h2 hd, hb => .cons t ts p v vs (h1.rp hH fun b hf => hb b (List.mem_append_left _ hf)) (h2.rp hH fun b hf => hb b (List.mem_append_right _ hf))
end
theorem lokS_ok (M : Mem P G w0 h0 F L2 w ν h φ) (hH : h.le H) {e : Ty} {c : CV τ} {xs : List (e.den τ)} {m : List Nat} {v : Value} (k : lokS L e c = some (xs, m)) (hL : ∀ i ∈ m, lk L2 i = lk L i) (hb : ∀ b ∈ fps φ m, H b = w.heap[b]?)
    (hv : CVOk P G h ν c v) : Rp P G H (.sl e) xs v := by
  unfold lokS at k
  split at k
  · split at k
    · rename_i hx
      obtain ⟨rfl, rfl⟩ := castL_eq hx
      cases k
      exact Rp.le hH hv
    · cases k
  · cases k; cases hv
    exact .sl e [] none 0 [] (Nat.le_refl _) (.inl rfl) (.nil _)
  · rename_i id
    obtain ⟨ad, n, cp, q, hν, rfl⟩ := hv
    split at k
    · rename_i te e' xs' kk hlk
      split at k
      · rename_i hx
        obtain ⟨rfl, rfl⟩ := castL_eq hx
        cases k
        have hr := M.res id
        rw [hL id (List.mem_singleton.2 rfl), hlk] at hr
        obtain ⟨v', q', vs, u, h1, h2, h3, h4, _⟩ := hr
        rw [hν] at h1
        cases h1
        exact row_rp hH h3 h4 fun b hbb => hb b (by rw [fps_cons, h2]; exact List.mem_append_left _ hbb)
      · cases k
    · rename_i e' xs' hlk
      split at k
      · rename_i hx
        obtain ⟨rfl, rfl⟩ := castL_eq hx
        cases k
        have hr := M.res id
        rw [hL id (List.mem_singleton.2 rfl), hlk] at hr
        obtain ⟨v', q', h1, _, h3⟩ := hr
        rw [hν] at h1
        cases h1
        exact h3.le hH
      · cases k
    · rename_i i kk e' lo xs' hlk
      split at k
      · rename_i te e2 ys k' hlk2
        cases hkk : Nat.beq kk k' with
        | false => rw [hkk] at k; cases k
        | true =>
          rw [hkk] at k
          have : kk = k' := by simpa using hkk
          subst this
          dsimp only [cond_true] at k
          split at k
          · rename_i hx
            obtain ⟨rfl, rfl⟩ := castL_eq hx
            cases k
            have hr := M.res id
            rw [hL id (List.mem_cons_self ..), hlk] at hr
            obtain ⟨a1, n1, c1, q1, q2, u1, ys1, a2, c2, g1, g2, g3, g4, g5, g6, g7, _⟩ := hr
            have hr2 := M.res i
            rw [hL i (List.mem_cons_of_mem _ (List.mem_cons_self ..)), hlk2] at hr2
            obtain ⟨v', q', vs, u, h1, h2, h3, h4, h5⟩ := hr2
            rw [g1] at h1
            cases h1
            rw [g2] at h5
            injection h5 with h5
            injection h5 with _ h5
            injection h5 with h5
            cases h5
            rw [hν] at g5
            cases g5
            exact vw_rp (row_rp hH h3 h4 fun b hbb => hb b (by rw [fps_cons, fps_cons, h2]; exact List.mem_append_right _ (List.mem_append_left _ hbb))) g3 g4 g6 g7
          · cases k
      · cases k
    · cases k
  · cases k
theorem lokL_ok {f : (t : Ty) → CV τ → Option (t.den τ × List Nat)} {A : List Nat → Prop} (hA : ∀ l m, A (l ++ m) → A l ∧ A m)
    (hf : ∀ t c x m v, f t c = some (x, m) → A m → CVOk P G h ν c v → Rp P G H t x v) : ∀ {ts : List Ty} {cs : List (CV τ)} {q : DP τ ts} {vs : List Value} {m : List Nat}, lokL f ts cs = some (q, m) → A m → CVs P G h ν cs vs → RpL P G H ts q vs
  | [], [], q, vs, _, e, _, hv => by cases e; cases hv; exact .nil
  | t :: ts, c :: cs, q, _, _, e, ha, ⟨v, us, rfl, h1, h2⟩ => by
    unfold lokL at e
    split at e
    · rename_i x m hx
      split at e
      · rename_i q' m' hq
        cases e
        refine .cons t ts _ v us ?_ ?_
        · rw [DP.hd_mk]; exact hf _ _ _ _ _ hx (hA _ _ ha).1 h1
        · rw [DP.tl_mk]; exact lokL_ok hA hf hq (hA _ _ ha).2 h2
      · cases e
    · cases e
  | [], _ :: _, _, _, _, e, _, _ => by cases e
  | _ :: _, [], _, _, _, e, _, _ => by cases e
theorem av_ok {t : Ty} {x : t.den τ} {v : Value} (hr : Rp P G h t x v) : CVOk P G h ν (t.av x) v := by
  cases hr with
  | sl e xs a c vs hc hs hr => exact .sl e xs a c vs hc hs hr
  | so te e xs v hr => exact hr
  | pt n x b k vs hs hr => exact ⟨b, k, vs, rfl, hs, hr⟩
  | po n x v hr => cases hr with | pt n x b k vs hs hr => exact ⟨b, k, vs, rfl, hs, hr⟩
  | pn0 n => exact .pn0 n
  | pn1 n x v hr => exact .pn1 n x v hr
  | fn m f hf => exact .fn m f hf
  | cl f t x u hr => exact .cl f t x u hr
  | _ => rfl
theorem avs_ok : ∀ {ts : List Ty} {q : DP τ ts} {vs : List Value}, RpL P G h ts q vs → CVs P G h ν (avs ts q) vs
  | _, _, _, .nil => rfl
  | _, _, _, .cons t ts q v vs h1 h2 => ⟨v, vs, rfl, av_ok h1, avs_ok h2⟩
def LookAt (L2 L : Hp τ) (φ : Nat → List Nat) (H : Fz) (w : World) (m : List Nat) : Prop := (∀ i ∈ m, lk L2 i = lk L i) ∧ ∀ b ∈ fps φ m, H b = w.heap[b]?
theorem LookAt.app {l m : List Nat} (a : LookAt L2 L φ H w (l ++ m)) : LookAt L2 L φ H w l ∧ LookAt L2 L φ H w m :=
  ⟨⟨fun i hi => a.1 i (List.mem_append_left _ hi), fun b hb => a.2 b (by rw [fps_append]; exact List.mem_append_left _ hb)⟩,
   ⟨fun i hi => a.1 i (List.mem_append_right _ hi), fun b hb => a.2 b (by rw [fps_append]; exact List.mem_append_right _ hb)⟩⟩
theorem lokP_ok (M : Mem P G w0 h0 F L2 w ν h φ) (hH : h.le H) {f : (t : Ty) → CV τ → Option (t.den τ × List Nat)} (hf : ∀ t c x m v, f t c = some (x, m) → LookAt L2 L φ H w m → CVOk P G h ν c v → Rp P G H t x v)
    {n : Nat} {c : CV τ} {x : τ n} {m : List Nat} {v : Value} (k : lokP f G L n c = some (x, m)) (ha : LookAt L2 L φ H w m) (hv : CVOk P G h ν c v) : Rp P G H (.pt n) x v := by
  unfold lokP at k
  split at k
  · rename_i t z o
    obtain ⟨b, q, vs, rfl, h1, h2⟩ := hv
    split at k
    · rename_i x' hx
      cases k
      unfold eaO at hx
      split at hx
      · rename_i n' z
        cases ho : Nat.beq o 0
        · rw [ho] at hx; cases hx
        · rw [ho] at hx
          replace ho := Nat.eq_of_beq_eq_true ho
          subst ho
          obtain ⟨rfl, rfl⟩ := castN_eq hx
          exact .pt _ _ b _ vs (h1.le hH) (h2.le hH)
      · cases hx
    · split at k
      · rename_i cs hcut
        split at k
        · rename_i p m' hq
          cases k
          have hc := (CVs.cut (X := ⟨P, G, [], [], 0, fun _ => .bool false⟩) (avs_ok (ν := ν) h2) hcut).1
          refine .pt n _ b (q + o) ((vs.drop o).take (G.fs n).length) ?_ ?_
          · rcases h1 with rfl | ⟨b', o', c, e, z', h3, h4, h5⟩
            · exact .inl (by simp)
            · cases h3
              refine .inr ⟨b, q + o, c, e, z', rfl, hH _ _ h4, fun k v hk => ?_⟩
              rw [List.getElem?_take] at hk
              split at hk
              · rw [List.getElem?_drop] at hk
                rw [Nat.add_assoc]
                exact h5 _ _ hk
              · cases hk
          · rw [G.dc]; exact lokL_ok (A := LookAt L2 L φ H w) (fun _ _ => LookAt.app) hf hq ha hc
        · cases k
      · cases k
  · rename_i id o
    split at k
    · rename_i t cs hlk
      split at k
      · rename_i cs' hcut
        split at k
        · rename_i p m' hq
          cases k
          have ha' := LookAt.app (l := [id]) ha
          have hr := M.res id
          rw [ha.1 id (List.mem_cons_self ..), hlk] at hr
          obtain ⟨b, q, vs, h1, h2, h3, h4⟩ := hr
          obtain ⟨u, q', h5, rfl, _⟩ := hv
          rw [h1] at h5
          cases h5
          have hc := (CVs.cut (X := ⟨P, G, [], [], 0, fun _ => .bool false⟩) h4 hcut).1
          refine .pt n _ b (0 + o) ((vs.drop o).take (G.fs n).length) (.inr ⟨b, 0 + o, vs.toArray, t, (0, 0), rfl, ?_, fun k v hk => ?_⟩) ?_
          · rw [ha.2 b (by rw [fps_cons, h2]; simp)]; exact h3
          · rw [List.getElem?_take] at hk
            split at hk
            · rw [List.getElem?_drop] at hk
              simpa using hk
            · cases hk
          · rw [G.dc]; exact lokL_ok (A := LookAt L2 L φ H w) (fun _ _ => LookAt.app) hf hq ha'.2 hc
        · cases k
      · cases k
    · cases k
  · cases k
theorem lokT_ok (M : Mem P G w0 h0 F L2 w ν h φ) (hH : h.le H) {n : Nat} {c : CV τ} {x : Option (τ n)} {m : List Nat} {v : Value} (k : lokT L n c = some (x, m)) (ha : LookAt L2 L φ H w m) (hv : CVOk P G h ν c v) : Rp P G H (.pn n) x v := by
  unfold lokT at k
  split at k
  · rename_i id
    obtain ⟨u, q', h5, rfl, _⟩ := hv
    have e0 : shiftV (.pointer u) 0 = .pointer u := by cases u <;> rfl
    rw [e0]
    split at k
    · rename_i n' y hlk
      split at k
      · rename_i hx
        obtain ⟨rfl, rfl⟩ := castO_eq hx
        cases k
        have hr := M.res id
        rw [ha.1 id (List.mem_singleton.2 rfl), hlk] at hr
        obtain ⟨v', q, h1, h2⟩ := hr
        rw [h1] at h5; cases h5
        exact h2.rp hH fun b hb => ha.2 b (by rw [fps_cons]; exact List.mem_append_left _ hb)
      · cases k
    · rename_i hlk
      cases k
      have hr := M.res id
      rw [ha.1 id (List.mem_singleton.2 rfl), hlk] at hr
      obtain ⟨q, h1, h2⟩ := hr
      rw [h1] at h5; cases h5
      exact .pn0 n
    · cases k
  · cases k
theorem lok_ok (M : Mem P G w0 h0 F L2 w ν h φ) (hH : h.le H) : ∀ (d : Nat) (t : Ty) (c : CV τ) (x : t.den τ) (m : List Nat) (v : Value), lok G L d t c = some (x, m) → LookAt L2 L φ H w m → CVOk P G h ν c v → Rp P G H t x v
  | 0, t, c, x, m, v, k, _, _ => by cases k
  | d + 1, t, c, x, m, v, k, ha, hv => by
    have ih := lok_ok M hH d
    unfold lok at k
    cases t <;> dsimp only at k
    case sl e => exact lokS_ok M hH k ha.1 ha.2 hv
    case so te e => exact .so te e x v (lokS_ok M hH k ha.1 ha.2 hv)
    case pt n => exact lokP_ok M hH ih k ha hv
    case po n => exact .po n x v (lokP_ok M hH ih k ha hv)
    case pn n =>
      split at k
      · cases k; cases hv; exact .pn0 n
      · split at k
        · rename_i hx
          obtain ⟨rfl, rfl⟩ := castO_eq hx
          cases k
          exact Rp.le hH hv
        · cases k
      · split at k
        · rename_i hy
          cases k
          exact lokT_ok M hH hy ha hv
        · split at k
          · rename_i y m' hy
            cases k
            exact .pn1 n y v (lokP_ok M hH ih hy ha hv)
          · cases k
    case fn =>
      split at k
      · cases k; exact Rp.le hH hv
      · split at k
        · rename_i f m hm
          cases k; cases hv
          exact .fn _ _ (M.fp _ (asc_mem hm))
        · cases k
      · cases k
    case fc f =>
      split at k
      · rename_i g
        cases hb : Nat.beq g f with
        | false => rw [hb] at k; cases k
        | true =>
          rw [hb] at k
          cases k
          have : g = f := by simpa using hb
          subst this
          cases hv
          exact .fc g
      · cases k
    case cl f t' =>
      split at k
      · rename_i g t2 y
        cases hb : Nat.beq g f with
        | false => rw [hb] at k; cases k
        | true =>
          rw [hb] at k
          dsimp only [cond_true] at k
          have : g = f := by simpa using hb
          subst this
          split at k
          · rename_i hx
            obtain ⟨rfl, rfl⟩ := castT_eq hx
            cases k
            exact Rp.le hH hv
          · cases k
      · rename_i id
        split at k
        · rename_i g c' hl
          cases hb : Nat.beq g f with
          | false => rw [hb] at k; cases k
          | true =>
            rw [hb] at k
            dsimp only [cond_true] at k
            have : g = f := by simpa using hb
            subst this
            split at k
            · rename_i x' m' hx
              cases k
              obtain ⟨f', us, vs, q, hν, rfl⟩ := hv
              have hr := M.res id
              rw [ha.1 id (List.mem_cons_self ..), hl] at hr
              obtain ⟨us', vs', q', h1, _, h2, h3⟩ := hr
              rw [hν] at h1
              cases h1
              obtain rfl : us = [] := h2
              obtain ⟨v', _, rfl, h4, rfl⟩ := h3
              exact .cl _ _ _ _ (ih _ _ _ _ _ hx (LookAt.app (l := [id]) ha).2 h4)
            · cases k
        · cases k
      · cases k
    all_goals first | (cases k; done) | (split at k <;> first | (cases k; done) | (cases k; cases hv; constructor))

theorem mem_any {l : List Nat} {i : Nat} : mem l i = true ↔ i ∈ l := by simp [mem_def, List.any_eq_true]
theorem nod_app : ∀ {l m : List Nat}, nod (l ++ m) = true → nod l = true ∧ nod m = true ∧ ∀ i ∈ l, i ∉ m
  | [], m, h => ⟨rfl, h, fun i hi => by cases hi⟩
  | a :: l, m, h => by
    simp only [List.cons_append, nod, Bool.and_eq_true, Bool.not_eq_true'] at h
    obtain ⟨h1, h2⟩ := h
    obtain ⟨h3, h4, h5⟩ := nod_app h2
    have hn : a ∉ l ++ m := fun e => by rw [mem_any.2 e] at h1; cases h1
    refine ⟨?_, h4, fun i hi => ?_⟩
    · simp only [nod, Bool.and_eq_true, Bool.not_eq_true']
      exact ⟨Bool.eq_false_iff.2 fun e => hn (List.mem_append_left _ (mem_any.1 e)), h3⟩
    · rcases List.mem_cons.1 hi with rfl | hi
      · exact fun e => hn (List.mem_append_right _ e)
      · exact h5 i hi
theorem disj_spec {l m : List Nat} (h : disj l m = true) : ∀ i ∈ l, i ∉ m := by
  intro i hi e
  have := List.all_eq_true.1 (disj_def l m ▸ h) i hi
  rw [mem_any.2 e] at this
  cases this
theorem Mem.fps_dis (M : Mem P G w0 h0 F L2 w ν h φ) {l m : List Nat} (h : ∀ i ∈ l, i ∉ m) : ∀ b ∈ fps φ l, b ∉ fps φ m := by
  intro b h1 h2
  obtain ⟨i, hi, hb⟩ := mem_fps.1 h1
  obtain ⟨j, hj, hb'⟩ := mem_fps.1 h2
  exact h i hi (M.dis i j b hb hb' ▸ hj)
theorem resL_ok (M : Mem P G w0 h0 F L2 w ν h φ) {f : (t : Ty) → CV τ → Rs (t.den τ)}
    (hf : ∀ t c x l m v, f t c = some (x, l, m) → (∀ i ∈ l, lk L2 i = lk L i) → LookAt L2 L φ H w m → nod l = true → CVOk P G h ν c v → Tr P G H w t x v (fps φ l)) :
    ∀ {ts : List Ty} {cs : List (CV τ)} {q : DP τ ts} {vs : List Value} {l m : List Nat}, resL f ts cs = some (q, l, m) → (∀ i ∈ l, lk L2 i = lk L i) → LookAt L2 L φ H w m → nod l = true → CVs P G h ν cs vs → TrL P G H w ts q vs (fps φ l)
  | [], [], q, vs, _, _, e, _, _, _, hv => by cases e; cases hv; exact .nil
  | t :: ts, c :: cs, q, _, _, _, e, ha, hm, hn, ⟨v, us, rfl, h1, h2⟩ => by
    unfold resL at e
    split at e
    · rename_i x l m hx
      split at e
      · rename_i q' l' m' hq
        cases e
        obtain ⟨n1, n2, n3⟩ := nod_app hn
        rw [fps_append]
        refine .cons t ts _ v us _ _ ?_ ?_ (M.fps_dis n3)
        · rw [DP.hd_mk]; exact hf _ _ _ _ _ _ hx (fun i hi => ha i (List.mem_append_left _ hi)) hm.app.1 n1 h1
        · rw [DP.tl_mk]; exact resL_ok M hf hq (fun i hi => ha i (List.mem_append_right _ hi)) hm.app.2 n2 h2
      · cases e
    · cases e
  | [], _ :: _, _, _, _, _, e, _, _, _, _ => by cases e
  | _ :: _, [], _, _, _, _, e, _, _, _, _ => by cases e
theorem resP_ok (M : Mem P G w0 h0 F L2 w ν h φ) {f : (t : Ty) → CV τ → Rs (t.den τ)}
    (hf : ∀ t c x l m v, f t c = some (x, l, m) → (∀ i ∈ l, lk L2 i = lk L i) → LookAt L2 L φ H w m → nod l = true → CVOk P G h ν c v → Tr P G H w t x v (fps φ l))
    {n id : Nat} {x : τ n} {l m : List Nat} {v : Value} (k : resP f G L n id = some (x, l, m)) (ha : ∀ i ∈ l, lk L2 i = lk L i) (hm : LookAt L2 L φ H w m) (hn : nod l = true) (hv : CVOk P G h ν (.pt id 0) v) : Tr P G H w (.po n) x v (fps φ l) := by
  unfold resP at k
  split at k
  · rename_i t cs hlk
    cases hb : Nat.beq t (G.ti n) with
    | false => rw [hb] at k; cases k
    | true =>
      rw [hb] at k
      dsimp only [cond_true] at k
      split at k
      · rename_i p l' m' hq
        cases k
        have ht : t = G.ti n := by simpa using hb
        have hr := M.res id
        rw [ha id (List.mem_cons_self ..), hlk] at hr
        obtain ⟨b, q, vs, h1, h2, h3, h4⟩ := hr
        obtain ⟨u, q', h5, rfl, _⟩ := hv
        rw [h1] at h5
        cases h5
        obtain ⟨n1, n2, n3⟩ := nod_app (l := [id]) hn
        have hd := M.fps_dis (l := [id]) (m := l') n3
        rw [fps_cons, h2]
        refine .po n _ b vs _ (ht ▸ h3) ?_ fun hc => hd b (by rw [fps_cons, h2]; simp) hc
        rw [G.dc]
        exact resL_ok M hf hq (fun i hi => ha i (List.mem_cons_of_mem _ hi)) hm n2 h4
      · cases k
  · cases k
theorem res_ok (M : Mem P G w0 h0 F L2 w ν h φ) (hH : h.le H) : ∀ (d : Nat) (t : Ty) (c : CV τ) (x : t.den τ) (l m : List Nat) (v : Value), res G L d t c = some (x, l, m) → (∀ i ∈ l, lk L2 i = lk L i) → LookAt L2 L φ H w m → nod l = true → CVOk P G h ν c v → Tr P G H w t x v (fps φ l)
  | 0, t, c, x, l, m, v, k, _, _, _, _ => by cases k
  | d + 1, t, c, x, l, m, v, k, ha, hm, hn, hv => by
    have ih := res_ok M hH d
    have hlok : frz t = true → (match lok G L (d + 1) t c with
      | some (x, m) => some (x, [], m)
      | none => none) = some (x, l, m) → Tr P G H w t x v (fps φ l) := by
      intro hz k
      split at k
      · rename_i x' m' hx
        cases k
        exact .fz t x v hz (lok_ok M hH _ _ _ _ _ _ hx hm hv)
      · cases k
    unfold res at k
    cases t <;> dsimp only at k
    case so te e =>
      split at k
      · cases k; cases hv
        exact .so te e [] _ [] ⟨by simp, .inl ⟨rfl, rfl⟩⟩ (.nil _)
      · rename_i id
        split at k
        · rename_i te' e' xs kk hlk
          cases hb : Nat.beq te te' with
          | false => rw [hb] at k; cases k
          | true =>
            rw [hb] at k
            dsimp only [cond_true] at k
            split at k
            · rename_i hx
              obtain ⟨rfl, rfl⟩ := castL_eq hx
              cases k
              have ht : te = te' := by simpa using hb
              subst ht
              have hr := M.res id
              rw [ha id (List.mem_singleton.2 rfl), hlk] at hr
              obtain ⟨v', q', vs, u, h1, h2, h3, h4, _⟩ := hr
              obtain ⟨ad, n, cp, q, hν, rfl⟩ := hv
              rw [hν] at h1
              cases h1
              rw [fps_cons, h2, show fps φ [] = [] from rfl, List.append_nil]
              exact .so te _ _ _ vs h3 (h4.le hH)
            · cases k
        · cases k
      · cases k
    case po n =>
      cases c <;> first | (cases k; done) | skip
      rename_i id o
      cases o with
      | zero => exact resP_ok M ih k ha hm hn hv
      | succ o => cases k
    case pn n =>
      split at k
      · cases k; cases hv; exact .pn0 n
      · rename_i id
        split at k
        · rename_i n' y hlk
          split at k
          · rename_i hx
            obtain ⟨rfl, rfl⟩ := castO_eq hx
            cases k
            have hr := M.res id
            rw [ha id (List.mem_singleton.2 rfl), hlk] at hr
            obtain ⟨v', q', h1, h2⟩ := hr
            obtain ⟨u, q, hν, rfl, _⟩ := hv
            rw [hν] at h1
            cases h1
            rw [fps_cons, show fps φ [] = [] from rfl, List.append_nil]
            cases u <;> exact h2.of hH fun _ _ => rfl
          · cases k
        · rename_i hlk
          cases k
          have hr := M.res id
          rw [ha id (List.mem_singleton.2 rfl), hlk] at hr
          obtain ⟨q', h1, h2⟩ := hr
          obtain ⟨u, q, hν, rfl, _⟩ := hv
          rw [hν] at h1
          cases h1
          rw [fps_cons, h2]
          exact .pn0 n
        · split at k
          · rename_i y l' m' hy
            cases k
            exact .pn1 n y v _ (resP_ok M ih hy ha hm hn hv)
          · cases k
      · cases k
    all_goals exact hlok rfl k

def up1 {α : Type} (f : Nat → α) (i : Nat) (x : α) : Nat → α := fun j => if j = i then x else f j
theorem up1_at {α : Type} (f : Nat → α) (i : Nat) (x : α) : up1 f i x i = x := by simp [up1]
theorem up1_ne {α : Type} (f : Nat → α) {i j : Nat} (x : α) (h : j ≠ i) : up1 f i x j = f j := by simp [up1, h]
theorem up1_le {ν : Vn τ} {i : Nat} {x : Option (Value × Option ((e : Ty) × List (e.den τ)))} (h : ν i = none) : ν.le (up1 ν i x) := by
  intro j y e
  rw [up1_ne]
  · exact e
  · rintro rfl; rw [h] at e; cases e
def Free (w0 : World) (h : Fz) (F : List Nat) (φ : Nat → List Nat) (fp : List Nat) : Prop := ∀ b ∈ fp, (∀ i, b ∉ φ i) ∧ h b = none ∧ (b ∈ F ∨ w0.heap.size ≤ b)
theorem Mem.add (M : Mem P G w0 h0 F L w ν h φ) {nid : Nat} (hn : ν nid = none) (r : AR τ) (x : Value × Option ((e : Ty) × List (e.den τ))) {fp : List Nat} (hr : ResOk P G h (up1 ν nid (some x)) w r (some x) fp) (hf : Free w0 h F φ fp) :
    Mem P G w0 h0 F ((nid, r) :: L) w (up1 ν nid (some x)) h (up1 φ nid fp) := by
  refine ⟨M.os, M.tape, M.output, M.size, M.frame, M.le, M.on, M.new, ?_, ?_, ?_, M.gl, M.fp⟩
  · intro i
    by_cases e : nid = i
    · subst e
      rw [up1_at, up1_at]
      have : lk ((nid, r) :: L) nid = r := by simp [lk_nil, lk_cons]
      rw [this]; exact hr
    · have : lk ((nid, r) :: L) i = lk L i := by simp [lk_nil, lk_cons, nbeq_false.2 e]
      have hr2 := (M.res i).of (w' := w) (Fz.le.refl _) (up1_le (x := some x) hn) fun _ _ => rfl
      rw [this, up1_ne φ fp (Ne.symm e)]
      exact hr2
  · intro i j b h1 h2
    by_cases e1 : i = nid
    · by_cases e2 : j = nid
      · rw [e1, e2]
      · subst e1
        rw [up1_at] at h1
        rw [up1_ne _ _ e2] at h2
        exact ((hf b h1).1 j h2).elim
    · rw [up1_ne _ _ e1] at h1
      by_cases e2 : j = nid
      · subst e2
        rw [up1_at] at h2
        exact ((hf b h2).1 i h1).elim
      · rw [up1_ne _ _ e2] at h2
        exact M.dis i j b h1 h2
  · intro i b hb
    by_cases e : i = nid
    · subst e
      rw [up1_at] at hb
      exact (hf b hb).2
    · rw [up1_ne _ _ e] at hb
      exact M.out i b hb
structure Grew (P : Program) (G : Sig τ) (w0 : World) (h0 : Fz) (F : List Nat) (L : Hp τ) (w : World) (ν : Vn τ) (h : Fz) (φ : Nat → List Nat) (U : Hp τ) (nid nid' : Nat) (fp : List Nat) (ν' : Vn τ) (φ' : Nat → List Nat) : Prop where
  up : nid ≤ nid'
  mem : Mem P G w0 h0 F (U ++ L) w ν' h φ'
  le : ν.le ν'
  same : ∀ i, ¬(nid ≤ i ∧ i < nid') → ν' i = ν i ∧ φ' i = φ i
  fp : ∀ i b, nid ≤ i → i < nid' → b ∈ φ' i → b ∈ fp
theorem Grew.nil (M : Mem P G w0 h0 F L w ν h φ) (nid : Nat) (fp : List Nat) : Grew P G w0 h0 F L w ν h φ [] nid nid fp ν φ :=
  ⟨Nat.le_refl _, M, Vn.le.refl _, fun _ _ => ⟨rfl, rfl⟩, fun i b h1 h2 => by omega⟩
theorem Grew.one (M : Mem P G w0 h0 F L w ν h φ) {nid : Nat} (hn : ν nid = none) (r : AR τ) (x : Value × Option ((e : Ty) × List (e.den τ))) {fp : List Nat} (hr : ResOk P G h (up1 ν nid (some x)) w r (some x) fp) (hf : Free w0 h F φ fp) :
    Grew P G w0 h0 F L w ν h φ [(nid, r)] nid (nid + 1) fp (up1 ν nid (some x)) (up1 φ nid fp) :=
  ⟨by omega, M.add hn r x hr hf, up1_le hn, fun i hi => ⟨up1_ne _ _ (by rintro rfl; exact hi ⟨by omega, by omega⟩), up1_ne _ _ (by rintro rfl; exact hi ⟨by omega, by omega⟩)⟩, fun i b h1 h2 hb => by
    have : i = nid := by omega
    subst this
    rwa [up1_at] at hb⟩
theorem Free.grew {U : Hp τ} {nid nid' : Nat} {fp fp' : List Nat} (g : Grew P G w0 h0 F L w ν h φ U nid nid' fp ν' φ') (hf : Free w0 h F φ fp') (hd : ∀ b ∈ fp', b ∉ fp) : Free w0 h F φ' fp' := by
  intro b hb
  refine ⟨fun i hi => ?_, (hf b hb).2⟩
  by_cases e : nid ≤ i ∧ i < nid'
  · exact hd b hb (g.fp i b e.1 e.2 hi)
  · rw [(g.same i e).2] at hi
    exact (hf b hb).1 i hi
theorem Free.sub {fp fp' : List Nat} (hf : Free w0 h F φ fp) (hs : ∀ b ∈ fp', b ∈ fp) : Free w0 h F φ fp' := fun b hb => hf b (hs b hb)
def ExpOk (P : Program) (G : Sig τ) (w0 : World) (h0 : Fz) (F : List Nat) (w : World) (h : Fz) (f : (t : Ty) → t.den τ → Nat → CV τ × Hp τ × Nat) : Prop :=
  ∀ (t : Ty) (x : t.den τ) (nid : Nat) (c : CV τ) (U : Hp τ) (nid' : Nat) (v : Value) (fp : List Nat) (L : Hp τ) (ν : Vn τ) (φ : Nat → List Nat), f t x nid = (c, U, nid') → Tr P G h w t x v fp → Mem P G w0 h0 F L w ν h φ →
    (∀ i, nid ≤ i → i < nid' → ν i = none) → Free w0 h F φ fp → ∃ ν' φ', Grew P G w0 h0 F L w ν h φ U nid nid' fp ν' φ' ∧ CVOk P G h ν' c v
theorem expL_le {f : (t : Ty) → t.den τ → Nat → CV τ × Hp τ × Nat} (hf : ∀ t x nid c U nid', f t x nid = (c, U, nid') → nid ≤ nid') : ∀ {ts : List Ty} {q : DP τ ts} {nid : Nat} {cs : List (CV τ)} {U : Hp τ} {nid' : Nat}, expL f ts q nid = (cs, U, nid') → nid ≤ nid'
  | [], q, nid, cs, U, nid', e => by cases e; exact Nat.le_refl _
  | t :: ts, q, nid, cs, U, nid', e => by
    unfold expL at e
    split at e
    rename_i c U1 n1 h1
    split at e
    rename_i cs2 U2 n2 h2
    cases e
    exact Nat.le_trans (hf _ _ _ _ _ _ h1) (expL_le hf h2)
theorem expC_le (G : Sig τ) : ∀ (d : Nat) (t : Ty) (x : t.den τ) (nid : Nat) (c : CV τ) (U : Hp τ) (nid' : Nat), expC G d t x nid = (c, U, nid') → nid ≤ nid' := by
  intro d
  induction d with
  | zero => intro t x nid c U nid' e; cases t <;> simp only [expC, Prod.mk.injEq] at e <;> omega
  | succ d ih =>
    intro t x nid c U nid' e
    cases t
    case po n =>
      unfold expC at e
      split at e
      rename_i cs U1 n1 h1
      cases e
      exact Nat.le_trans (Nat.le_succ _) (expL_le ih h1)
    all_goals (simp only [expC, Prod.mk.injEq] at e; omega)
theorem expL_ok {f : (t : Ty) → t.den τ → Nat → CV τ × Hp τ × Nat} (hle : ∀ t x nid c U nid', f t x nid = (c, U, nid') → nid ≤ nid') (hf : ExpOk P G w0 h0 F w h f) :
    ∀ {ts : List Ty} {q : DP τ ts} {nid : Nat} {cs : List (CV τ)} {U : Hp τ} {nid' : Nat} {vs : List Value} {fp : List Nat} {L : Hp τ} {ν : Vn τ} {φ : Nat → List Nat}, expL f ts q nid = (cs, U, nid') → TrL P G h w ts q vs fp → Mem P G w0 h0 F L w ν h φ →
      (∀ i, nid ≤ i → i < nid' → ν i = none) → Free w0 h F φ fp → ∃ ν' φ', Grew P G w0 h0 F L w ν h φ U nid nid' fp ν' φ' ∧ CVs P G h ν' cs vs
  | [], q, nid, cs, U, nid', vs, fp, L, ν, φ, e, ht, M, hn, hfr => by
    cases e; cases ht
    exact ⟨ν, φ, Grew.nil M _ _, rfl⟩
  | t :: ts, q, nid, cs, U, nid', vs, fp, L, ν, φ, e, ht, M, hn, hfr => by
    unfold expL at e
    split at e
    rename_i c U1 n1 h1
    split at e
    rename_i cs2 U2 n2 h2
    cases e
    cases ht with
    | cons _ _ _ v us f1 f2 t1 t2 hd =>
      have l1 := hle _ _ _ _ _ _ h1
      have l2 := expL_le hle h2
      obtain ⟨ν1, φ1, g1, c1⟩ := expL_ok hle hf h2 t2 M (fun i a b => hn i (by omega) b) (hfr.sub fun b hb => List.mem_append_right _ hb)
      obtain ⟨ν2, φ2, g2, c2⟩ := hf _ _ _ _ _ _ _ _ _ _ _ h1 t1 g1.mem (fun i a b => by rw [(g1.same i (by omega)).1]; exact hn i a (by omega))
        (Free.grew g1 (hfr.sub fun b hb => List.mem_append_left _ hb) hd)
      refine ⟨ν2, φ2, ⟨by omega, by rw [List.append_assoc]; exact g2.mem, g1.le.trans g2.le, fun i hi => ?_, fun i b a a' hb => ?_⟩, v, us, rfl, c2, c1.le (Fz.le.refl _) g2.le⟩
      · obtain ⟨a1, a2⟩ := g1.same i (by omega)
        obtain ⟨b1, b2⟩ := g2.same i (by omega)
        exact ⟨b1.trans a1, b2.trans a2⟩
      · by_cases hi : i < n1
        · exact List.mem_append_left _ (g2.fp i b a hi hb)
        · rw [(g2.same i (by omega)).2] at hb
          exact List.mem_append_right _ (g1.fp i b (by omega) a' hb)
theorem so_res {te : TypeId} {e : Ty} {xs : List (e.den τ)} {v : Value} {fp : List Nat} (ht : Tr P G h w (.so te e) xs v fp) : fp = v.ownBlock.toList ∧ (∃ a n c, v = .slice a n c) ∧ ∃ vs, w.ownsRow 0 te (ets G e).length v xs.length vs ∧ RpR P G h e xs vs := by
  cases ht with
  | fz _ _ _ hz _ => cases hz
  | so _ _ _ _ vs ho hr =>
    refine ⟨rfl, ?_, vs, ho, hr⟩
    obtain ⟨_, ⟨rfl, _⟩ | ⟨g, cap, cur, rfl, _⟩⟩ := ho
    · exact ⟨_, _, _, rfl⟩
    · exact ⟨_, _, _, rfl⟩
theorem pn_ptr {n : Nat} {x : Option (τ n)} {v : Value} {fp : List Nat} (ht : Tr P G h w (.pn n) x v fp) : ∃ u, v = .pointer u := by
  cases ht with
  | fz _ _ _ hz _ => cases hz
  | pn0 _ => exact ⟨_, rfl⟩
  | pn1 _ _ _ _ hp =>
    cases hp with
    | fz _ _ _ hz _ => cases hz
    | po _ _ b vs fp hb hl hn => exact ⟨_, rfl⟩
theorem expC_ok (d : Nat) : ExpOk P G w0 h0 F w h (expC G d) := by
  induction d with
  | zero =>
    intro t x nid c U nid' v fp L ν φ e ht M hn hfr
    exact base t x nid c U nid' v fp L ν φ (by cases t <;> exact e) ht M hn hfr
  | succ d ih =>
    intro t x nid c U nid' v fp L ν φ e ht M hn hfr
    by_cases hp : ∃ n, t = .po n
    · obtain ⟨n, rfl⟩ := hp
      unfold expC at e
      split at e
      rename_i cs U1 n1 h1
      cases e
      have l1 := expL_le (expC_le G d) h1
      cases ht with
      | fz _ _ _ hz _ => cases hz
      | po _ _ b vs fp hb hl hnb =>
        obtain ⟨ν1, φ1, g1, c1⟩ := expL_ok (expC_le G d) ih h1 hl M (fun i a b => hn i (by omega) b) (hfr.sub fun b hb => List.mem_cons_of_mem _ hb)
        have hν1 : ν1 nid = none := by rw [(g1.same nid (by omega)).1]; exact hn nid (Nat.le_refl _) (by omega)
        have hf1 := Free.grew g1 (hfr.sub (fp' := [b]) fun b' hb' => by rw [List.mem_singleton.1 hb']; exact List.mem_cons_self ..) fun b' hb' => by rw [List.mem_singleton.1 hb']; exact hnb
        have M2 := g1.mem.add hν1 (.blk (G.ti n) cs) (ptr b 0, none) (fp := [b]) ⟨b, none, vs, rfl, rfl, hb, c1.le (Fz.le.refl _) (up1_le hν1)⟩ hf1
        refine ⟨_, _, ⟨by omega, M2, g1.le.trans (up1_le hν1), fun i hi => ?_, fun i b' a a' hb' => ?_⟩, ⟨some ⟨b, 0, none⟩, none, up1_at _ _ _, rfl, fun e => (e rfl).elim⟩⟩
        · have hne : i ≠ nid := by rintro rfl; exact hi ⟨Nat.le_refl _, by omega⟩
          rw [up1_ne _ _ hne, up1_ne _ _ hne]
          exact g1.same i (by omega)
        · by_cases e : i = nid
          · subst e
            rw [up1_at] at hb'
            rw [List.mem_singleton.1 hb']; exact List.mem_cons_self ..
          · rw [up1_ne _ _ e] at hb'
            exact List.mem_cons_of_mem _ (g1.fp i b' (by omega) a' hb')
    · exact base t x nid c U nid' v fp L ν φ (by cases t <;> first | exact e | exact absurd ⟨_, rfl⟩ hp) ht M hn hfr
where
  base (t : Ty) (x : t.den τ) (nid : Nat) (c : CV τ) (U : Hp τ) (nid' : Nat) (v : Value) (fp : List Nat) (L : Hp τ) (ν : Vn τ) (φ : Nat → List Nat) (e : expC G 0 t x nid = (c, U, nid')) (ht : Tr P G h w t x v fp) (M : Mem P G w0 h0 F L w ν h φ)
    (hn : ∀ i, nid ≤ i → i < nid' → ν i = none) (hfr : Free w0 h F φ fp) : ∃ ν' φ', Grew P G w0 h0 F L w ν h φ U nid nid' fp ν' φ' ∧ CVOk P G h ν' c v := by
    have flat : frz t = true → expC G 0 t x nid = (t.av x, [], nid) → ∃ ν' φ', Grew P G w0 h0 F L w ν h φ U nid nid' fp ν' φ' ∧ CVOk P G h ν' c v := by
      intro hz e2
      rw [e] at e2
      cases e2
      cases ht with
      | fz _ _ _ _ hr => exact ⟨ν, φ, Grew.nil M _ _, av_ok hr⟩
      | _ => cases hz
    cases t
    case so te e' =>
      cases e
      obtain ⟨rfl, ⟨a, n, c, rfl⟩, vs, ho, hr⟩ := so_res ht
      have hn' := hn nid (Nat.le_refl _) (Nat.lt_succ_self _)
      exact ⟨_, _, Grew.one M hn' (.row te e' x nid) (.slice a n c, some ⟨e', x⟩) ⟨_, _, vs, _, rfl, rfl, ho, hr, up1_at _ _ _⟩ hfr, a, n, c, _, up1_at _ _ _, rfl⟩
    case po n =>
      cases e
      have hn' := hn nid (Nat.le_refl _) (Nat.lt_succ_self _)
      have ht' := Tr.pn1 n x v fp ht
      obtain ⟨u, rfl⟩ := pn_ptr ht'
      exact ⟨_, _, Grew.one M hn' (.tree n (some x)) (.pointer u, none) ⟨_, _, rfl, ht'⟩ hfr, u, none, up1_at _ _ _, by cases u <;> rfl, fun e => (e rfl).elim⟩
    case pn n =>
      cases e
      have hn' := hn nid (Nat.le_refl _) (Nat.lt_succ_self _)
      obtain ⟨u, rfl⟩ := pn_ptr ht
      exact ⟨_, _, Grew.one M hn' (.tree n x) (.pointer u, none) ⟨_, _, rfl, ht⟩ hfr, u, none, up1_at _ _ _, by cases u <;> rfl, fun e => (e rfl).elim⟩
    all_goals exact flat rfl rfl
end
end Go.Rk
end
section
namespace Go.Rk
open Go.RowKit Go.Dm Go.Dk
variable {τ : Nat → Type}
section
variable {P : Program} {G : Sig τ} {w0 w w' : World} {h0 h h' H : Fz} {F : List Nat} {L L' L2 : Hp τ} {ν ν' : Vn τ} {φ φ' : Nat → List Nat}
theorem Mem.congr (M : Mem P G w0 h0 F L w ν h φ) (hL : ∀ i, lk L' i = lk L i) : Mem P G w0 h0 F L' w ν h φ :=
  ⟨M.os, M.tape, M.output, M.size, M.frame, M.le, M.on, M.new, fun i => by rw [hL]; exact M.res i, M.dis, M.out, M.gl, M.fp⟩
theorem Mem.ext (M : Mem P G w0 h0 F L w ν h φ) (hν : ν.le ν') : Mem P G w0 h0 F L w ν' h φ :=
  ⟨M.os, M.tape, M.output, M.size, M.frame, M.le, M.on, M.new, fun i => (M.res i).of (Fz.le.refl _) hν fun _ _ => rfl, M.dis, M.out, M.gl, M.fp⟩
theorem lk_cons_self (i : Nat) (r : AR τ) (L : Hp τ) : lk ((i, r) :: L) i = r := by simp [lk_nil, lk_cons]
theorem lk_cons_ne {i j : Nat} (r : AR τ) (L : Hp τ) (h : j ≠ i) : lk ((i, r) :: L) j = lk L j := by simp [lk_nil, lk_cons, nbeq_false.2 (Ne.symm h)]
theorem Mem.put (M : Mem P G w0 h0 F L w ν h φ) {i : Nat} (hg : lk L i = .gone) (r : AR τ) {fp : List Nat} (hr : ResOk P G h ν w r (ν i) fp) (hf : Free w0 h F φ fp) : Mem P G w0 h0 F ((i, r) :: L) w ν h (up1 φ i fp) := by
  refine ⟨M.os, M.tape, M.output, M.size, M.frame, M.le, M.on, M.new, ?_, ?_, ?_, M.gl, M.fp⟩
  · intro j
    by_cases e : j = i
    · subst e; rw [lk_cons_self, up1_at]; exact hr
    · rw [lk_cons_ne r L e, up1_ne φ fp e]; exact M.res j
  · intro j k b h1 h2
    by_cases e1 : j = i
    · by_cases e2 : k = i
      · rw [e1, e2]
      · subst e1
        rw [up1_at] at h1; rw [up1_ne φ fp e2] at h2
        exact ((hf b h1).1 k h2).elim
    · rw [up1_ne φ fp e1] at h1
      by_cases e2 : k = i
      · subst e2
        rw [up1_at] at h2
        exact ((hf b h2).1 j h1).elim
      · rw [up1_ne φ fp e2] at h2; exact M.dis j k b h1 h2
  · intro j b hb
    by_cases e : j = i
    · subst e; rw [up1_at] at hb; exact (hf b hb).2
    · rw [up1_ne φ fp e] at hb; exact M.out j b hb
theorem Mem.drop (M : Mem P G w0 h0 F L w ν h φ) (i : Nat) : Mem P G w0 h0 F ((i, .gone) :: L) w ν h (up1 φ i []) ∧ Free w0 h F (up1 φ i []) (φ i) := by
  refine ⟨⟨M.os, M.tape, M.output, M.size, M.frame, M.le, M.on, M.new, ?_, ?_, ?_, M.gl, M.fp⟩, ?_⟩
  · intro j
    by_cases e : j = i
    · subst e; rw [lk_cons_self, up1_at]; rfl
    · rw [lk_cons_ne _ L e, up1_ne φ [] e]; exact M.res j
  · intro j k b h1 h2
    by_cases e1 : j = i
    · subst e1; rw [up1_at] at h1; cases h1
    · by_cases e2 : k = i
      · subst e2; rw [up1_at] at h2; cases h2
      · rw [up1_ne φ [] e1] at h1; rw [up1_ne φ [] e2] at h2; exact M.dis j k b h1 h2
  · intro j b hb
    by_cases e : j = i
    · subst e; rw [up1_at] at hb; cases hb
    · rw [up1_ne φ [] e] at hb; exact M.out j b hb
  · intro b hb
    refine ⟨fun j hj => ?_, M.out i b hb⟩
    by_cases e : j = i
    · subst e; rw [up1_at] at hj; cases hj
    · rw [up1_ne φ [] e] at hj; exact e (M.dis j i b hj hb)
def Fresh (ν ν' : Vn τ) (nid nid' : Nat) : Prop := ∀ i, ν i = none → ν' i ≠ none → nid ≤ i ∧ i < nid'
theorem Fresh.refl (ν : Vn τ) (nid nid' : Nat) : Fresh ν ν nid nid' := fun i h1 h2 => (h2 h1).elim
theorem Grew.fresh {U : Hp τ} {nid nid' : Nat} {fp : List Nat} (g : Grew P G w0 h0 F L w ν h φ U nid nid' fp ν' φ') : Fresh ν ν' nid nid' := by
  intro i h1 h2
  by_cases e : nid ≤ i ∧ i < nid'
  · exact e
  · rw [(g.same i e).1] at h2; exact (h2 h1).elim
theorem expL_ky {f : (t : Ty) → t.den τ → Nat → CV τ × Hp τ × Nat} (hle : ∀ t x nid c U nid', f t x nid = (c, U, nid') → nid ≤ nid') (hf : ∀ t x nid c U nid', f t x nid = (c, U, nid') → ∀ i ∈ kys U, nid ≤ i ∧ i < nid') :
    ∀ {ts : List Ty} {q : DP τ ts} {nid : Nat} {cs : List (CV τ)} {U : Hp τ} {nid' : Nat}, expL f ts q nid = (cs, U, nid') → ∀ i ∈ kys U, nid ≤ i ∧ i < nid'
  | [], q, nid, cs, U, nid', e, i, hi => by cases e; cases hi
  | t :: ts, q, nid, cs, U, nid', e, i, hi => by
    unfold expL at e
    split at e
    rename_i c U1 n1 h1
    split at e
    rename_i cs2 U2 n2 h2
    cases e
    have l1 := hle _ _ _ _ _ _ h1
    have l2 := expL_le hle h2
    simp only [kys, List.map_append] at hi
    rcases List.mem_append.1 hi with hi | hi
    · have := hf _ _ _ _ _ _ h1 i hi; omega
    · have := expL_ky hle hf h2 i hi; omega
theorem expC_ky (G : Sig τ) : ∀ (d : Nat) (t : Ty) (x : t.den τ) (nid : Nat) (c : CV τ) (U : Hp τ) (nid' : Nat), expC G d t x nid = (c, U, nid') → ∀ i ∈ kys U, nid ≤ i ∧ i < nid' := by
  intro d
  induction d with
  | zero => intro t x nid c U nid' e; cases t <;> simp only [expC, Prod.mk.injEq] at e <;> obtain ⟨_, rfl, rfl⟩ := e <;> simp [kys]
  | succ d ih =>
    intro t x nid c U nid' e
    cases t
    case po n =>
      unfold expC at e
      split at e
      rename_i cs U1 n1 h1
      cases e
      have l1 := expL_le (expC_le G d) h1
      intro i hi
      rcases List.mem_cons.1 hi with rfl | hi
      · omega
      · have := expL_ky (expC_le G d) ih h1 i hi; omega
    all_goals (simp only [expC, Prod.mk.injEq] at e; obtain ⟨_, rfl, rfl⟩ := e; simp [kys])
theorem expAt_ok (M : Mem P G w0 h0 F L w ν h φ) {i n nid nid' : Nat} {x : τ n} {U : Hp τ} {v : Value} {q : Option ((e : Ty) × List (e.den τ))} {fp : List Nat} (e : expAt G i n x nid = (U, nid')) (hg : lk L i = .gone) (hi : ν i = some (v, q)) (ht : Tr P G h w (.po n) x v fp) (hf : Free w0 h F φ fp)
    (hn : ∀ i, nid ≤ i → i < nid' → ν i = none) : nid ≤ nid' ∧ ∃ ν' φ' t cs b, Mem P G w0 h0 F (U ++ L) w ν' h φ' ∧ ν.le ν' ∧ Fresh ν ν' nid nid' ∧ v = ptr b 0 ∧ lk U i = .blk t cs ∧ (∀ j, ¬(nid ≤ j ∧ j < nid') → j ≠ i → φ' j = φ j) ∧ ∀ j b, (j = i ∨ nid ≤ j ∧ j < nid') → b ∈ φ' j → b ∈ fp := by
  unfold expAt at e
  split at e
  rename_i cs U1 n1 h1
  cases e
  have l1 := expL_le (expC_le G depth) h1
  cases ht with
  | fz _ _ _ hz _ => cases hz
  | po _ _ b vs fp hb hl hnb =>
    obtain ⟨ν1, φ1, g1, c1⟩ := expL_ok (expC_le G depth) (expC_ok depth) h1 hl M hn (hf.sub fun b hb => List.mem_cons_of_mem _ hb)
    have hni : ¬(nid ≤ i ∧ i < nid') := fun a => by rw [hn i a.1 a.2] at hi; cases hi
    have hiU : i ∉ kys U1 := fun hk => hni (expL_ky (expC_le G depth) (expC_ky G depth) h1 i hk)
    have hf1 := Free.grew g1 (hf.sub (fp' := [b]) fun b' hb' => by rw [List.mem_singleton.1 hb']; exact List.mem_cons_self ..) fun b' hb' => by rw [List.mem_singleton.1 hb']; exact hnb
    have M2 := g1.mem.put (i := i) (by rw [lk_app_out L hiU]; exact hg) (.blk (G.ti n) cs) (fp := [b]) ⟨b, q, vs, (g1.le _ _ hi), rfl, hb, c1⟩ hf1
    refine ⟨l1, ν1, _, G.ti n, cs, b, M2, g1.le, g1.fresh, rfl, lk_cons_self .., fun j hj hne => ?_, fun j b' hj hb' => ?_⟩
    · rw [up1_ne _ _ hne]; exact (g1.same j hj).2
    · by_cases e : j = i
      · subst e; rw [up1_at] at hb'; rw [List.mem_singleton.1 hb']; exact List.mem_cons_self ..
      · rw [up1_ne _ _ e] at hb'
        exact List.mem_cons_of_mem _ (g1.fp j b' (by rcases hj with hj | hj; exact absurd hj e; exact hj.1) (by rcases hj with hj | hj; exact absurd hj e; exact hj.2) hb')
theorem expAt_ky {i n nid nid' : Nat} {x : τ n} {U : Hp τ} (e : expAt G i n x nid = (U, nid')) : ∀ j ∈ kys U, j = i ∨ nid ≤ j ∧ j < nid' := by
  unfold expAt at e
  split at e
  rename_i cs U1 n1 h1
  cases e
  intro j hj
  rcases List.mem_cons.1 hj with rfl | hj
  · exact .inl rfl
  · exact .inr (expL_ky (expC_le G depth) (expC_ky G depth) h1 j hj)
theorem Tr.pn_some {n : Nat} {x : τ n} {v : Value} {fp : List Nat} (h : Tr P G H w (.pn n) (some x) v fp) : Tr P G H w (.po n) x v fp := by
  cases h with
  | fz _ _ _ hz _ => cases hz
  | pn1 _ _ _ _ hp => exact hp
theorem Tr.pn_none {n : Nat} {v : Value} {fp : List Nat} (h : Tr P G H w (.pn n) none v fp) : v = .pointer none ∧ fp = [] := by
  cases h with
  | fz _ _ _ hz _ => cases hz
  | pn0 _ => exact ⟨rfl, rfl⟩
theorem tree_ok (M : Mem P G w0 h0 F L2 w ν h φ) {i n nid nid' : Nat} {x : τ n} {U : Hp τ} (e : expAt G i n x nid = (U, nid')) (hl : lk L2 i = .tree n (some x)) (hn : ∀ i, nid ≤ i → i < nid' → ν i = none) :
    nid ≤ nid' ∧ ∃ ν' φ' b q, Mem P G w0 h0 F (U ++ L2) w ν' h φ' ∧ ν.le ν' ∧ Fresh ν ν' nid nid' ∧ ν i = some (ptr b 0, q) := by
  have hr := M.res i
  rw [hl] at hr
  obtain ⟨v, q, hv, ht⟩ := hr
  obtain ⟨M1, hf⟩ := M.drop i
  obtain ⟨h1, ν', φ', t, cs, b, M2, h2, h3, rfl, h5, _⟩ := expAt_ok M1 e (lk_cons_self ..) hv (Tr.pn_some ht) hf hn
  refine ⟨h1, ν', φ', b, q, M2.congr fun j => ?_, h2, h3, hv⟩
  by_cases hj : j ∈ kys U
  · rw [lk_app_in _ hj, lk_app_in _ hj]
  · rw [lk_app_out _ hj, lk_app_out _ hj, lk_cons_ne]
    rintro rfl
    apply hj
    unfold expAt at e
    split at e
    cases e
    exact List.mem_cons_self ..
end

section
variable {ρ : Type} (X : Cx τ) (w0 : World) (h0 : Fz) (F : List Nat)
def Ok1 (o : Oper) (E : EnvX τ) (L : Hp τ) (nid : Nat) (v : XV τ) (U : Hp τ) (tch : List Nat) (nid' : Nat) : Prop :=
  ∀ (L2 : Hp τ) (ν : Vn τ) (h : Fz) (φ : Nat → List Nat) (a : Act) (w : World) (next : Act → World → Prop) (Q : Exit → Act → World → Prop), a.defers = [] → Mem X.P X.G w0 h0 F L2 w ν h φ → EnvOn X h ν a (rdO o.op) E →
    (∀ i ∈ tch, lk L2 i = lk L i) → (∀ i, nid ≤ i → i < nid' → ν i = none) →
    (∀ ν' h' φ' w' u, Mem X.P X.G w0 h0 F (U ++ L2) w' ν' h' φ' → ν.le ν' → h.le h' → Fresh ν ν' nid nid' → XOk X.P X.G h' ν' v u → next (a.put o.dst u) w') → o.wp X.P a w next Q
def Does (o : Oper) (E : EnvX τ) (L : Hp τ) (nid : Nat) (K : Nx τ ρ) (r : ρ) : Prop :=
  ∃ v g U tch nid', K v g U tch nid' = some r ∧ nid ≤ nid' ∧ (∀ x ∈ g, isGv x = true) ∧ Ok1 X w0 h0 F o E L nid v U tch nid'
end
section
variable {ρ : Type} {X : Cx τ} {w0 w w' : World} {h0 : Fz} {F : List Nat} {o : Oper} {E : EnvX τ} {L : Hp τ} {nid nid' : Nat} {K : Nx τ ρ} {r : ρ} {v : XV τ} {U : Hp τ} {tch : List Nat} {g : List (XV τ)}
theorem wp_val {a : Act} {u : Value} {next : Act → World → Prop} {Q : Exit → Act → World → Prop} (hx : (execOp a.eval o).run X.P w = .ok (.value u) w') (k : next (a.put o.dst u) w') : o.wp X.P a w next Q := by
  unfold Oper.wp; rw [hx]; exact k
theorem wp_skp {a : Act} {next : Act → World → Prop} {Q : Exit → Act → World → Prop} (hx : (execOp a.eval o).run X.P w = .ok .skip w') (k : next (a.put o.dst undef) w') : o.wp X.P a w next Q := by
  unfold Oper.wp; rw [hx]; exact k
theorem does_pure (e : K v [] [] tch nid = some r) (hx : ∀ (L2 : Hp τ) ν h φ (a : Act) (w : World), a.defers = [] → Mem X.P X.G w0 h0 F L2 w ν h φ → EnvOn X h ν a (rdO o.op) E → (∀ i ∈ tch, lk L2 i = lk L i) → ∃ u, (execOp a.eval o).run X.P w = .ok (.value u) w ∧ XOk X.P X.G h ν v u) :
    Does X w0 h0 F o E L nid K r :=
  ⟨v, [], [], tch, nid, e, Nat.le_refl _, (fun _ h => by cases h), fun L2 ν h φ a w next Q hd M hE ha hn k => by
    obtain ⟨u, h1, h2⟩ := hx L2 ν h φ a w hd M hE ha
    exact wp_val h1 (k ν h φ w u M (Vn.le.refl _) (Fz.le.refl _) (Fresh.refl _ _ _) h2)⟩
theorem opI_ok {b : BinOp} {t' ty t : Nat} {x y : Operand} {A B : XV τ} (hA : evX E x = some A) (hB : evX E y = some B) {dst : Option Nat} {p : String} {af : Array Edge} {gd : Option (Nat × Bool)}
    (e : opI nid K b A B = some r) : Does X w0 h0 F ⟨dst, .binOp b t' x y ty, t, p, af, gd⟩ E L nid K r := by
  unfold opI hi at e
  split at e
  all_goals first
  | (cases e; done)
  | (obtain ⟨z, hz, e⟩ := ob e
     refine does_pure e fun L2 ν h φ a w hd M hE ha => ?_
     obtain ⟨Ea, hf, hl⟩ := envA a hd
     obtain ⟨u, h1, h2⟩ := evl_of hl (hE.op (by simp [Op.operands])) hA rfl
     obtain ⟨u', h3, h4⟩ := evl_of hl (hE.op (by simp [Op.operands])) hB rfl
     obtain rfl : u = _ := h2
     obtain rfl : u' = _ := h4
     first
     | exact ⟨_, ex_add hf h1 h3 hz, rfl⟩
     | exact ⟨_, ex_sub hf h1 h3 hz, rfl⟩
     | exact ⟨_, ex_mul hf h1 h3 hz, rfl⟩
     | exact ⟨_, ex_quo hf h1 h3 hz, rfl⟩
     | exact ⟨_, ex_rem hf h1 h3 hz, rfl⟩
     | exact ⟨_, ex_cat hf h1 h3 hz, rfl⟩)
end
end Go.Rk
end
section
namespace Go.Rk
open Go.RowKit Go.Dm Go.Dk
variable {τ : Nat → Type}
section
variable {ρ : Type} {X : Cx τ} {w0 w w' : World} {h0 h H : Fz} {F : List Nat} {o : Oper} {E : EnvX τ} {L L2 : Hp τ} {ν ν' : Vn τ} {φ φ' : Nat → List Nat} {nid nid' : Nat} {K : Nx τ ρ} {r : ρ} {v : XV τ} {U : Hp τ} {tch : List Nat} {g : List (XV τ)}
theorem nlK_ok {i : Nat} {k : Bool → Hp τ → List Nat → Nat → Option ρ} (e : nlK X L nid i k = some r) : ∃ b U nid', k b U [i] nid' = some r ∧ nid ≤ nid' ∧
    ∀ (L2 : Hp τ) ν h φ (w : World), Mem X.P X.G w0 h0 F L2 w ν h φ → lk L2 i = lk L i → (∀ i, nid ≤ i → i < nid' → ν i = none) →
      ∃ ν' φ' u q, Mem X.P X.G w0 h0 F (U ++ L2) w ν' h φ' ∧ ν.le ν' ∧ Fresh ν ν' nid nid' ∧ ν i = some (.pointer u, q) ∧ (b = true → u = none) ∧ (b = false → ∃ bb, u = some ⟨bb, 0, none⟩) := by
  unfold nlK at e
  split at e
  · rename_i t cs hl
    refine ⟨false, [], nid, e, Nat.le_refl _, fun L2 ν h φ w M ha _ => ?_⟩
    have hr := M.res i
    rw [ha, hl] at hr
    obtain ⟨b, q, vs, h1, _⟩ := hr
    exact ⟨ν, φ, _, q, M, Vn.le.refl _, Fresh.refl _ _ _, h1, (by simp), fun _ => ⟨b, rfl⟩⟩
  · rename_i n y hl
    cases y with
    | none =>
      refine ⟨true, _, nid, e, Nat.le_refl _, fun L2 ν h φ w M ha _ => ?_⟩
      have hr := M.res i
      rw [ha, hl] at hr
      obtain ⟨v, q, h1, h2⟩ := hr
      obtain ⟨rfl, h3⟩ := Tr.pn_none h2
      obtain ⟨M1, hf⟩ := M.drop i
      have M2 := M1.put (i := i) (lk_cons_self ..) .nilp (fp := []) ⟨q, h1, rfl⟩ (fun b hb => by cases hb)
      refine ⟨ν, _, none, q, M2.congr fun j => ?_, Vn.le.refl _, Fresh.refl _ _ _, h1, fun _ => rfl, by simp⟩
      by_cases hj : j = i
      · subst hj; exact (lk_cons_self ..).trans (lk_cons_self ..).symm
      · show lk ((i, .nilp) :: L2) j = _
        rw [lk_cons_ne _ _ hj, lk_cons_ne _ _ hj, lk_cons_ne _ _ hj]
    | some y =>
      obtain ⟨U, n1, h1⟩ : ∃ U n1, expAt X.G i n y nid = (U, n1) := ⟨_, _, rfl⟩
      simp only [optK, h1] at e
      refine ⟨false, U, n1, e, ?_, fun L2 ν h φ w M ha hn => ?_⟩
      · unfold expAt at h1
        split at h1
        rename_i h2
        cases h1
        exact expL_le (expC_le X.G depth) h2
      · obtain ⟨_, ν', φ', b, q, h2, h3, h4, h5⟩ := tree_ok M h1 (ha.trans hl) hn
        exact ⟨ν', φ', _, q, h2, h3, h4, h5, by simp, fun _ => ⟨b, rfl⟩⟩
  · rename_i hl
    refine ⟨true, [], nid, e, Nat.le_refl _, fun L2 ν h φ w M ha _ => ?_⟩
    have hr := M.res i
    rw [ha, hl] at hr
    obtain ⟨q, h1, _⟩ := hr
    exact ⟨ν, φ, none, q, M, Vn.le.refl _, Fresh.refl _ _ _, h1, fun _ => rfl, by simp⟩
  · cases e
theorem ptK_ok {i : Nat} {k : Hp τ → List Nat → Nat → Option ρ} (e : ptK X L nid i k = some r) : ∃ U nid', k U [i] nid' = some r ∧ nid ≤ nid' ∧
    ∀ (L2 : Hp τ) ν h φ (w : World), Mem X.P X.G w0 h0 F L2 w ν h φ → lk L2 i = lk L i → (∀ i, nid ≤ i → i < nid' → ν i = none) →
      ∃ ν' φ' b q, Mem X.P X.G w0 h0 F (U ++ L2) w ν' h φ' ∧ ν.le ν' ∧ Fresh ν ν' nid nid' ∧ ν i = some (ptr b 0, q) := by
  unfold ptK at e
  split at e
  · rename_i t cs hl
    refine ⟨[], nid, e, Nat.le_refl _, fun L2 ν h φ w M ha _ => ?_⟩
    have hr := M.res i
    rw [ha, hl] at hr
    obtain ⟨b, q, vs, h1, _⟩ := hr
    exact ⟨ν, φ, b, q, M, Vn.le.refl _, Fresh.refl _ _ _, h1⟩
  · rename_i n y hl
    cases y with
    | none => cases e
    | some y =>
      obtain ⟨U, n1, h1⟩ : ∃ U n1, expAt X.G i n y nid = (U, n1) := ⟨_, _, rfl⟩
      simp only [Option.bind_some, h1] at e
      refine ⟨U, n1, e, ?_, fun L2 ν h φ w M ha hn => ?_⟩
      · unfold expAt at h1
        split at h1
        rename_i h2
        cases h1
        exact expL_le (expC_le X.G depth) h2
      · obtain ⟨_, ν', φ', b, q, h2, h3, h4, h5⟩ := tree_ok M h1 (ha.trans hl) hn
        exact ⟨ν', φ', b, q, h2, h3, h4, h5⟩
  · cases e

theorem cutL_len {α : Type} : ∀ {n o : Nat} {cs l : List α}, cutL cs o n = some l → l.length = n
  | 0, o, cs, l, e => by cases e; rfl
  | n + 1, o, cs, l, e => by
    unfold cutL at e
    split at e
    · split at e
      · rename_i h
        cases e
        simp [cutL_len h]
      · cases e
    · cases e
theorem ld_ok {a : Act} {Ea : Env} {N : Nat} {x : Operand} {t' t b ob k n : Nat} {dst : Option Nat} {p : String} {af : Array Edge} {gd : Option (Nat × Bool)} (hf : Fits N Ea a) (hx : evl Ea x = some (ptr b (ob + k))) {cs : List (CV τ)} {vs : List Value}
    (hs : Sees w (some ⟨b, ob, none⟩) vs) (hc : CVs X.P X.G h ν cs vs) (hn : szO X.P t' = some n) (e : oneO X.P t' (cutL cs k n) = some v) : ∃ u, (execOp a.eval ⟨dst, .load t' x, t, p, af, gd⟩).run X.P w = .ok (.value u) w ∧ XOk X.P X.G h ν v u := by
  unfold oneO at e
  split at e
  · rename_i l hl
    obtain ⟨h1, h2⟩ := hc.cut hl
    have hlen := cutL_len hl
    split at e
    · rename_i ha
      cases e
      have h3 := h1.len
      exact ⟨_, ex_loadN (isA_ok ha) (szO_ok hn) hs rfl (by rw [h3, hlen]) hf hx, _, rfl, h1⟩
    · rename_i ha
      split at e
      · rename_i c
        cases e
        obtain ⟨u, us, h3, h4, h5⟩ := h1
        refine ⟨u, ex_load1 (isA_ok ha) hs ?_ hf hx, h4⟩
        have : ((vs.drop k).take n)[0]? = some u := by rw [h3]; rfl
        rw [List.getElem?_take] at this
        split at this
        · simpa using this
        · cases this
      · cases e
    · cases e
  · cases e
theorem RpR.get {P : Program} {G : Sig τ} : ∀ {e : Ty} {xs : List (e.den τ)} {vs : List Value}, RpR P G h e xs vs → ∀ {i : Nat} {z : e.den τ}, xs[i]? = some z →
    RpL P G h (ets G e) (edt G e z) ((vs.drop (i * (ets G e).length)).take (ets G e).length) ∧ i * (ets G e).length + (ets G e).length ≤ vs.length
  | _, _, _, .nil _, _, _, hz => by simp at hz
  | _, _, _, .cons e x xs vs ws h1 h2, 0, _, hz => by
    simp at hz
    subst hz
    have := h1.len
    refine ⟨?_, by simp [this]⟩
    rw [Nat.zero_mul, List.drop_zero, List.take_append_of_le_length (by omega), List.take_of_length_le (by omega)]
    exact h1
  | _, _, _, .cons e x xs vs ws h1 h2, i + 1, z, hz => by
    simp at hz
    obtain ⟨h3, h4⟩ := RpR.get h2 hz
    have := h1.len
    refine ⟨?_, by simp [Nat.add_mul, this]; omega⟩
    rw [Nat.add_mul, Nat.one_mul, List.drop_append, List.drop_eq_nil_of_le (by omega), List.nil_append, this, Nat.add_sub_cancel]
    exact h3
theorem lAt_some {α : Type} {xs : List α} {m : Int} {z : α} (e : lAt xs m = some z) : xs[m.toNat]? = some z ∧ 0 ≤ m := by
  unfold lAt at e
  split at e
  · exact ⟨e, ‹_›⟩
  · cases e
theorem oe_sees (M : Mem X.P X.G w0 h0 F L2 w ν h φ) {i k : Nat} {m : Int} {t e : Ty} {z : t.den τ} {o : Nat} {v : Value} {te : TypeId} {xs : List (e.den τ)} (hv : CVOk X.P X.G h ν (.oe i k m t z o) v) (hl : lk L2 i = .row te e xs k) :
    ∃ b vs, v = ptr b (m.toNat * (ets X.G t).length + o) ∧ Sees w (some ⟨b, m.toNat * (ets X.G t).length, none⟩) vs ∧ RpL X.P X.G h (ets X.G t) (edt X.G t z) vs := by
  obtain ⟨b, n, c, q, xs', u, h1, h2, h3, rfl⟩ := hv
  have hr := M.res i
  rw [hl] at hr
  obtain ⟨v', q', vs, u', h4, h5, h6, h7, h8⟩ := hr
  rw [h1] at h4
  cases h4
  rw [h2] at h8
  injection h8 with h8
  injection h8 with _ h8
  injection h8 with h8
  cases h8
  obtain ⟨hz, h0⟩ := lAt_some h3
  obtain ⟨h9, h10⟩ := h7.get hz
  refine ⟨b, _, rfl, ?_, h9⟩
  have hn : n = xs'.length := by
    obtain ⟨_, ⟨e, _⟩ | ⟨g, cap, cur, e, _⟩⟩ := h6
    · cases e
    · cases e; rfl
  subst hn
  have hs := ownsRow_seesH h6
  obtain ⟨_, hlt, hc⟩ := hs
  refine .inr ⟨rfl, hlt, fun j u hj => ?_⟩
  rw [List.getElem?_take] at hj
  split at hj
  · rw [List.getElem?_drop] at hj
    have := hc _ _ hj
    simpa using this
  · cases hj
theorem pt_blk (M : Mem X.P X.G w0 h0 F L2 w ν h φ) {i k : Nat} {t : TypeId} {cs : List (CV τ)} {v : Value} (hv : CVOk X.P X.G h ν (.pt i k) v) (hl : lk L2 i = .blk t cs) :
    ∃ b q vs, ν i = some (ptr b 0, q) ∧ v = ptr b k ∧ φ i = [b] ∧ w.heap[b]? = some (.cells vs.toArray t (0, 0)) ∧ CVs X.P X.G h ν cs vs ∧ Sees w (some ⟨b, 0, none⟩) vs := by
  have hr := M.res i
  rw [hl] at hr
  obtain ⟨b, q, vs, h1, h2, h3, h4⟩ := hr
  obtain ⟨u, q', h5, rfl, _⟩ := hv
  rw [h1] at h5
  cases h5
  refine ⟨b, q, vs, h1, by simp [shiftV], h2, h3, h4, .inr ⟨rfl, (Array.getElem?_eq_some_iff.1 h3).1, fun j v hj => by simp [World.cell?, h3, hj]⟩⟩
theorem ep_none {n : Nat} {u : Value} (hu : CVOk X.P X.G h ν (.ep n none) u) : CVOk X.P X.G h ν .nl u := by cases hu; rfl
theorem ep_some {n : Nat} {y : τ n} {u : Value} (hu : CVOk X.P X.G h ν (.ep n (some y)) u) : CVOk X.P X.G h ν (.ea (.st n) y 0) u := by
  cases hu with
  | pn1 _ _ _ hr => cases hr; rename_i b k vs hs hr; exact ⟨b, k, vs, rfl, hs, hr⟩
theorem loadX_ok {x : Operand} {t' t : Nat} {dst : Option Nat} {p : String} {af : Array Edge} {gd : Option (Nat × Bool)} {c : CV τ} (hx : evC E x = some c) (e : loadX X L nid K t' c = some r) : Does X w0 h0 F ⟨dst, .load t' x, t, p, af, gd⟩ E L nid K r := by
  unfold loadX at e
  split at e
  · rename_i id o
    split at e
    · rename_i bt cs hl
      split at e
      · rename_i n hn
        split at e
        · rename_i j hv
          cases hb : Nat.beq j id with
          | true => rw [hb] at e; cases e
          | false =>
            rw [hb] at e
            obtain ⟨b, U, nid', h1, h2, h3⟩ := nlK_ok (w0 := w0) (h0 := h0) (F := F) e
            refine ⟨if b = true then .c .nl else .c (.pt j 0), [], U, [id, j], nid', ?_, h2, fun _ h => by (cases h), fun L2 ν h φ a w next Q hd M hE ha hfr k => ?_⟩
            · cases b <;> exact h1
            · obtain ⟨Ea, hf, hl'⟩ := envA a hd
              obtain ⟨u, h4, h5⟩ := evC_of hl' (hE.op (by simp [Op.operands])) hx
              obtain ⟨bb, q, vs, hν, rfl, _, hh, hc, hs⟩ := pt_blk M h5 ((ha id (by simp)).trans hl)
              obtain ⟨u, h6, h7⟩ := ld_ok (ob := 0) (dst := dst) (t := t) (p := p) (af := af) (gd := gd) hf (by rw [Nat.zero_add]; exact h4) hs hc hn hv
              obtain ⟨ν', φ', uj, q', M', hle, hfre, hνj, hb1, hb0⟩ := h3 L2 ν h φ w M (ha j (by simp)) hfr
              obtain ⟨uj', q'', h8, h9, _⟩ := h7
              rw [hνj] at h8
              cases h8
              refine wp_val h6 (k ν' h φ' w u M' hle (Fz.le.refl _) hfre ?_)
              cases b with
              | true =>
                rw [hb1 rfl] at h9
                subst h9
                rfl
              | false => exact ⟨uj, q', hle _ _ hνj, h9, fun e => (e rfl).elim⟩
        · rename_i v _ hv
          refine does_pure e fun L2 ν h φ a w hd M hE ha => ?_
          obtain ⟨Ea, hf, hl'⟩ := envA a hd
          obtain ⟨u, h4, h5⟩ := evC_of hl' (hE.op (by simp [Op.operands])) hx
          obtain ⟨bb, q, vs, hν, rfl, _, hh, hc, hs⟩ := pt_blk M h5 ((ha id (by simp)).trans hl)
          exact ld_ok (ob := 0) hf (by rw [Nat.zero_add]; exact h4) hs hc hn hv
        · cases e
      · cases e
    · cases e
  · rename_i ty z o
    split at e
    · rename_i n hn
      have key : ∀ {v}, oneO X.P t' (cutL (cellsT X.G ty z) o n) = some v → ∀ (L2 : Hp τ) ν h φ (a : Act) (w : World), a.defers = [] → Mem X.P X.G w0 h0 F L2 w ν h φ → EnvOn X h ν a (rdO (.load t' x)) E → ∃ u, (execOp a.eval ⟨dst, .load t' x, t, p, af, gd⟩).run X.P w = .ok (.value u) w ∧ XOk X.P X.G h ν v u := by
        intro v hv L2 ν h φ a w hd M hE
        obtain ⟨Ea, hf, hl'⟩ := envA a hd
        obtain ⟨u, h4, h5⟩ := evC_of hl' (hE.op (by simp [Op.operands])) hx
        obtain ⟨b, k, vs, rfl, hs, hr⟩ := h5
        exact ld_ok hf h4 (hs.sees M.on) (avs_ok hr) hn hv
      split at e
      · rename_i n' y hv
        have fin : ∀ {c' : CV τ}, K (.c c') [] [] [] nid = some r → (∀ {ν h u}, CVOk X.P X.G h ν (.ep n' y) u → CVOk X.P X.G h ν c' u) → Does X w0 h0 F ⟨dst, .load t' x, t, p, af, gd⟩ E L nid K r := by
          intro c' e hcc
          refine does_pure e fun L2 ν h φ a w hd M hE ha => ?_
          obtain ⟨u, h1, h2⟩ := key hv L2 ν h φ a w hd M hE
          exact ⟨u, h1, hcc h2⟩
        cases y with
        | none => exact fin e ep_none
        | some y => exact fin e ep_some
      · rename_i v _ hv
        exact does_pure e fun L2 ν h φ a w hd M hE ha => key hv L2 ν h φ a w hd M hE
      · cases e
    · cases e
  · rename_i id k m ty z o
    split at e
    · rename_i te e' xs k' hl
      cases hb : Nat.beq k k' with
      | false => rw [hb] at e; cases e
      | true =>
        rw [hb] at e
        have hkk : k = k' := by simpa using hb
        subst hkk
        split at e
        · rename_i n hn
          split at e
          · rename_i v hv
            refine does_pure e fun L2 ν h φ a w hd M hE ha => ?_
            obtain ⟨Ea, hf, hl'⟩ := envA a hd
            obtain ⟨u, h4, h5⟩ := evC_of hl' (hE.op (by simp [Op.operands])) hx
            obtain ⟨b, vs, rfl, hs, hr⟩ := oe_sees M h5 ((ha id (by simp)).trans hl)
            exact ld_ok hf h4 hs (avs_ok hr) hn hv
          · cases e
        · cases e
    · cases e
  · cases e
end
end Go.Rk
end
section
namespace Go.Rk
open Go.RowKit Go.Dm Go.Dk
variable {τ : Nat → Type}
section
variable {P : Program} {G : Sig τ} {w0 w w' : World} {h0 h h' H : Fz} {F : List Nat} {L L' L2 : Hp τ} {ν ν' : Vn τ} {φ φ' : Nat → List Nat}
theorem Mem.grow (M : Mem P G w0 h0 F L w ν h φ) (hb : Below w.heap.size w w') : Mem P G w0 h0 F L w' ν h φ :=
  M.upd [] (fun _ _ => rfl) (fun _ _ => rfl) (Vn.le.refl _) (Fz.le.refl _) hb.os hb.tape hb.output hb.size (fun b hb' _ => hb.block b hb') (fun b o h1 h2 => by rw [h1] at h2; cases h2) (fun b h1 h2 => (h2 h1).elim)
    (fun i hi => by cases hi) (fun i hi => by cases hi) (fun i hi => by cases hi)
theorem Mem.alloc (M : Mem P G w0 h0 F L w ν h φ) {nid : Nat} (hn : ν nid = none) (o : Obj) (r : AR τ) (x : Value × Option ((e : Ty) × List (e.den τ))) (hr : ResOk P G h (up1 ν nid (some x)) (w.alloc o) r (some x) [w.heap.size]) :
    Mem P G w0 h0 F ((nid, r) :: L) (w.alloc o) (up1 ν nid (some x)) h (up1 φ nid [w.heap.size]) :=
  (M.grow (below_alloc w o)).add hn r x hr fun b hb => by
    rw [List.mem_singleton.1 hb]
    refine ⟨fun i hi => Nat.lt_irrefl _ (M.lt hi), ?_, .inr M.size⟩
    cases e : h w.heap.size with
    | none => rfl
    | some o' => exact (Nat.lt_irrefl _ (M.in_lt (b := w.heap.size) (by rw [e]; simp))).elim
theorem fresh_one {nid : Nat} {x : Value × Option ((e : Ty) × List (e.den τ))} : Fresh ν (up1 ν nid (some x)) nid (nid + 1) := by
  intro i h1 h2
  by_cases e : i = nid
  · omega
  · rw [up1_ne _ _ e] at h2; exact (h2 h1).elim
theorem Fresh.trans {ν'' : Vn τ} {a b c : Nat} (h1 : Fresh ν ν' a b) (h2 : Fresh ν' ν'' b c) (hab : a ≤ b) (hbc : b ≤ c) : Fresh ν ν'' a c := by
  intro i e1 e2
  by_cases e : ν' i = none
  · have := h2 i e e2; omega
  · have := h1 i e1 e; omega
theorem Mem.turn (M : Mem P G w0 h0 F L w ν h φ) {i b : Nat} (r : AR τ) (hφ : φ i = [b]) (hν : ν.le ν') (hos : w'.os = w.os) (htape : w'.tape = w.tape) (hout : w'.output = w.output) (hsz : w'.heap.size = w.heap.size) (hblk : ∀ k, k ≠ b → w'.heap[k]? = w.heap[k]?)
    (hr : ResOk P G h ν' w' r (ν' i) [b]) : Mem P G w0 h0 F ((i, r) :: L) w' ν' h φ := by
  refine M.upd [i] (fun j hj => lk_cons_ne _ _ (by simpa using hj)) (fun _ _ => rfl) hν (Fz.le.refl _) hos htape hout (by omega) (fun k _ hk => hblk k ?_) (fun b o h1 h2 => by rw [h1] at h2; cases h2) (fun b h1 h2 => (h2 h1).elim) ?_ ?_ ?_
  · rintro rfl
    apply hk
    rw [fps_cons, hφ]; simp
  · intro j hj
    rw [List.mem_singleton.1 hj, lk_cons_self, hφ]; exact hr
  · intro j hj k hk
    rw [List.mem_singleton.1 hj] at hk
    refine ⟨(M.out i k hk).1, .inl ?_⟩
    rw [fps_cons]; exact List.mem_append_left _ hk
  · intro j hj k hk b _ _
    rw [List.mem_singleton.1 hj, List.mem_singleton.1 hk]
theorem freeze_lk : ∀ {ids : List Nat} {U : Hp τ}, freeze L ids = some U → kys U = ids ∧ ∀ i ∈ ids, ∃ e xs, lk U i = .fz e xs ∧ ((∃ te k, lk L i = .row te e xs k) ∨ lk L i = .fz e xs)
  | [], U, e => by cases e; exact ⟨rfl, fun i hi => by cases hi⟩
  | i :: ids, U, e => by
    unfold freeze at e
    split at e
    · rename_i U1 h1
      obtain ⟨h2, h3⟩ := freeze_lk h1
      split at e
      · rename_i te e' xs k hl
        cases e
        refine ⟨by simp [kys] at h2 ⊢; exact h2, fun j hj => ?_⟩
        by_cases hji : j = i
        · subst hji; exact ⟨e', xs, lk_cons_self .., .inl ⟨te, k, hl⟩⟩
        · rw [lk_cons_ne _ _ hji]
          exact h3 j ((List.mem_cons.1 hj).resolve_left hji)
      · rename_i e' xs hl
        cases e
        refine ⟨by simp [kys] at h2 ⊢; exact h2, fun j hj => ?_⟩
        by_cases hji : j = i
        · subst hji; exact ⟨e', xs, lk_cons_self .., .inr hl⟩
        · rw [lk_cons_ne _ _ hji]
          exact h3 j ((List.mem_cons.1 hj).resolve_left hji)
      · cases e
    · cases e
open Classical in
noncomputable def offs1 (φ : Nat → List Nat) (ids : List Nat) : Nat → List Nat := fun i => if i ∈ ids then [] else φ i
theorem offs1_in {ids : List Nat} {i : Nat} (h : i ∈ ids) : offs1 φ ids i = [] := by simp [offs1, h]
theorem offs1_out {ids : List Nat} {i : Nat} (h : i ∉ ids) : offs1 φ ids i = φ i := by simp [offs1, h]
theorem Mem.freeze (M : Mem P G w0 h0 F L2 w ν h φ) {ids : List Nat} {U : Hp τ} (e : Rk.freeze L ids = some U) (ag : ∀ i ∈ ids, lk L2 i = lk L i) : Mem P G w0 h0 F (U ++ L2) w ν (lend h w (fps φ ids)) (offs1 φ ids) := by
  obtain ⟨hk, hl⟩ := freeze_lk e
  have hle := M.lend_le ids
  refine M.upd ids (fun i hi => lk_app_out _ (by rw [hk]; exact hi)) (fun i hi => offs1_out hi) (Vn.le.refl _) hle rfl rfl rfl (Nat.le_refl _) (fun _ _ _ => rfl) ?_ ?_ ?_ ?_ ?_
  · intro b o _ h2
    exact lend_on M.on b o h2
  · intro b h1 h2
    by_cases hb : b ∈ fps φ ids
    · exact .inl hb
    · rw [lend_out hb] at h2; exact (h2 h1).elim
  · intro i hi
    obtain ⟨e', xs, h1, h2⟩ := hl i hi
    rw [lk_app_in _ (by rw [hk]; exact hi), h1, offs1_in hi]
    have hr := M.res i
    rw [ag i hi] at hr
    rcases h2 with ⟨te, k, h2⟩ | h2
    · rw [h2] at hr
      obtain ⟨v, q, vs, u, h3, h4, h5, h6, _⟩ := hr
      exact ⟨v, q, h3, rfl, row_rp hle h5 h6 fun b hb => lend_in (mem_fps.2 ⟨i, hi, by rw [h4]; exact hb⟩)⟩
    · rw [h2] at hr
      obtain ⟨v, q, h3, _, h4⟩ := hr
      exact ⟨v, q, h3, rfl, h4.le hle⟩
  · intro i hi b hb; rw [offs1_in hi] at hb; cases hb
  · intro i hi j _ b hb; rw [offs1_in hi] at hb; cases hb
theorem Mem.look (M : Mem P G w0 h0 F L2 w ν h φ) {ids : List Nat} (ag : ∀ i ∈ ids, lk L2 i = lk L i) : LookAt L2 L φ (lend h w (fps φ ids)) w ids := ⟨ag, fun _ hb => lend_in hb⟩
end

section
variable {ρ : Type} {X : Cx τ} {w0 w w' : World} {h0 h H : Fz} {F : List Nat} {o : Oper} {E : EnvX τ} {L L2 : Hp τ} {ν ν' : Vn τ} {φ φ' : Nat → List Nat} {nid nid' : Nat} {K : Nx τ ρ} {r : ρ} {v : XV τ} {U : Hp τ} {tch : List Nat} {g : List (XV τ)}
variable {x y : Operand} {t' t ty : Nat} {dst : Option Nat} {p : String} {af : Array Edge} {gd : Option (Nat × Bool)}
theorem alloc_ok {cs : List (CV τ)} (hz : zeroO X.P t' = some cs) (e : K (.c (.pt nid 0)) [] [(nid, .blk t' cs)] [] (nid + 1) = some r) : Does X w0 h0 F ⟨dst, .alloc t', t, p, af, gd⟩ E L nid K r := by
  obtain ⟨it, z, hi, hz0, hc⟩ := zeroO_ok hz
  refine ⟨_, _, _, _, _, e, Nat.le_succ _, (fun _ h => by cases h), fun L2 ν h φ a w next Q hd M hE ha hn k => ?_⟩
  have hn' := hn nid (Nat.le_refl _) (Nat.lt_succ_self _)
  have hx : (execOp a.eval ⟨dst, .alloc t', t, p, af, gd⟩).run X.P w = .ok (.value (ptr w.heap.size 0)) (w.alloc (.cells z.cells t')) := by
    simp [execOp, Instr.alloc, zeroValue, typeInfo, hi, hz0, newVar, newRow, go_sem, Result.andThen]
  have hzl : z.cells = z.cells.toList.toArray := by simp
  refine wp_val hx (k _ h _ _ _ (M.alloc hn' _ (.blk t' cs) (ptr w.heap.size 0, none) ⟨_, none, z.cells.toList, rfl, rfl, ?_, cvVs_ok hc⟩) (up1_le hn') (Fz.le.refl _) fresh_one ⟨_, none, up1_at _ _ _, rfl, fun e => (e rfl).elim⟩)
  rw [← hzl]; exact heap_new _
theorem box_ok {A : XV τ} {cs : List (CV τ)} (hA : evX E x = some A) (hc : cellsX A = some cs) (e : K (.c (.pt nid 0)) [] [(nid, .blk t' cs)] [] (nid + 1) = some r) : Does X w0 h0 F ⟨dst, .box t' x, t, p, af, gd⟩ E L nid K r := by
  refine ⟨_, _, _, _, _, e, Nat.le_succ _, (fun _ h => by cases h), fun L2 ν h φ a w next Q hd M hE ha hn k => ?_⟩
  have hn' := hn nid (Nat.le_refl _) (Nat.lt_succ_self _)
  obtain ⟨us, h1, h2, _⟩ := cellsX_ok hc (ev_ok hd (hE.op (by simp [Op.operands])) hA)
  have hx : (execOp a.eval ⟨dst, .box t' x, t, p, af, gd⟩).run X.P w = .ok (.value (ptr w.heap.size 0)) (w.alloc (.cells us.toArray t')) := by
    simp only [execOp]; unfold Instr.box newVar; rw [h1]; simp [newRow, go_sem]
  exact wp_val hx (k _ h _ _ _ (M.alloc hn' _ (.blk t' cs) (ptr w.heap.size 0, none) ⟨_, none, us, rfl, rfl, heap_new _, h2.le (Fz.le.refl _) (up1_le hn')⟩) (up1_le hn') (Fz.le.refl _) fresh_one ⟨_, none, up1_at _ _ _, rfl, fun e => (e rfl).elim⟩)
theorem run_storeV {a : Act} {b o n : Nat} {bty : TypeId} {cur : Array Value} {vs : List Value} (hx : a.eval x = ptr b o) (hy : (a.eval y).cells = ⟨vs⟩) (ht : sizeO X.P t' = some n) (hn : vs.length = n) (hb : w.heap[b]? = some (.cells cur bty (0, 0))) (hl : o + vs.length ≤ cur.size) (hv : ∀ v ∈ vs, v.oneCell' = true) :
    (execOp a.eval ⟨dst, .store t' x y, t, p, af, gd⟩).run X.P w = .ok .skip (w.setRow b (cur.toList.take o ++ vs ++ cur.toList.drop (o + vs.length)).toArray) := by
  have hst := run_storeCells_at X.P b o bty vs 0 cur w hb (by simpa using hl) hv
  simp only [Nat.add_zero] at hst
  simp only [execOp]; rw [hx]
  have h2 : (a.eval y).cells.size = n := by rw [hy]; simpa using hn
  have h3 : (a.eval y).cells.toList = vs := by rw [hy]
  simp [Instr.storeAt, Instr.sureAddr, storeVar, run_sizeO ht, h2, h3, hst, Result.andThen]
theorem storeB_ok {A : XV τ} {vs : List (CV τ)} {n id o bt : Nat} {cs cs' : List (CV τ)} (hA : evX E y = some A) (hc : cellsX A = some vs) (ht : szO X.P t' = some n) (hn : vs.length = n) (hx : evC E x = some (.pt id o)) (hl : lk L id = .blk bt cs) (hp : putL cs o vs = some cs')
    (e : K .un [] [(id, .blk bt cs')] [id] nid = some r) : Does X w0 h0 F ⟨dst, .store t' x y, t, p, af, gd⟩ E L nid K r := by
  refine ⟨_, _, _, _, _, e, Nat.le_refl _, (fun _ h => by cases h), fun L2 ν h φ a w next Q hd M hE ha hfr k => ?_⟩
  obtain ⟨Ea, hf, hl'⟩ := envA a hd
  obtain ⟨u, h1, h2⟩ := evC_of hl' (hE.op (by simp [Op.operands])) hx
  obtain ⟨b, q, us, hν, rfl, hφ, hh, hcs, _⟩ := pt_blk M h2 ((ha id (by simp)).trans hl)
  obtain ⟨ws, h3, h4, _⟩ := cellsX_ok hc (ev_ok hd (hE.op (by simp [Op.operands])) hA)
  obtain ⟨h5, h6⟩ := putL_ok hcs h4 hp
  have hrun := run_storeV (X := X) (dst := dst) (t := t) (p := p) (af := af) (gd := gd) (hf.ev h1) h3 (szO_ok ht) (by rw [h4.len, hn]) hh (by simpa using h5) h4.one
  refine wp_skp hrun (k ν h φ _ undef (M.turn (.blk bt cs') hφ (Vn.le.refl _) rfl rfl rfl (by simp [World.setRow]) (fun j hj => setRow_other w b j _ hj) ⟨b, q, _, hν, rfl, setRow_heap w b us.toArray _ bt (0, 0) hh, ?_⟩) (Vn.le.refl _) (Fz.le.refl _) (Fresh.refl _ _ _) rfl)
  simpa using h6
end
end Go.Rk
end
section
namespace Go.Rk
open Go.RowKit Go.Dm Go.Dk
variable {τ : Nat → Type}
section
variable {P : Program} {G : Sig τ} {w0 w w' : World} {h0 h h' H : Fz} {F : List Nat} {L L' L2 : Hp τ} {ν ν' : Vn τ} {φ φ' : Nat → List Nat}
theorem Mem.growBy (M : Mem P G w0 h0 F L w ν h φ) {row : Option Nat} (hg : w.grownBy w' row) (hf : Free w0 h F φ row.toList) : Mem P G w0 h0 F L w' ν h φ := by
  have hne : ∀ b, b < w.heap.size → b ∉ row.toList → w'.heap[b]? = w.heap[b]? := fun b hb hr => hg.block b hb fun e => hr (by rw [← e]; simp)
  refine ⟨hg.os.trans M.os, hg.tape.trans M.tape, hg.output.trans M.output, Nat.le_trans M.size hg.size, fun b h1 h2 => ?_, M.le, fun b o e => ?_, M.new, fun i => ?_, M.dis, M.out, M.gl, M.fp⟩
  · refine (hne b (Nat.lt_of_lt_of_le h1 M.size) fun hr => ?_).trans (M.frame b h1 h2)
    rcases (hf b hr).2.2 with h3 | h3
    · exact h2 h3
    · omega
  · refine (hne b (M.in_lt (by rw [e]; simp)) fun hr => ?_).trans (M.on b o e)
    rw [(hf b hr).2.1] at e; cases e
  · exact (M.res i).of (Fz.le.refl _) (Vn.le.refl _) fun b hb => hne b (M.lt hb) fun hr => (hf b hr).1 i hb
theorem append_fin (M : Mem P G w0 h0 F L w ν h φ) {v v' : Value} {te nid : Nat} {e : Ty} {xs : List (e.den τ)} {cs : List Value} (hf : Free w0 h F φ v.ownBlock.toList) (hn : ν nid = none) (hg : w.grownBy w' v.ownBlock) (ho : w'.ownsRow 0 te (ets G e).length v' xs.length cs)
    (hr : RpR P G h e xs cs) (hv : v'.ownBlock = v.ownBlock ∨ v'.ownBlock = some w.heap.size) : Mem P G w0 h0 F ((nid, .row te e xs nid) :: L) w' (up1 ν nid (some (v', some ⟨e, xs⟩))) h (up1 φ nid v'.ownBlock.toList) := by
  refine (M.growBy hg hf).add hn _ _ ⟨v', _, cs, v', rfl, rfl, ho, hr, up1_at _ _ _⟩ fun b hb => ?_
  rcases hv with hv | hv
  · rw [hv] at hb; exact hf b hb
  · rw [hv] at hb
    obtain rfl : b = w.heap.size := by simpa using hb
    refine ⟨fun i hi => Nat.lt_irrefl _ (M.lt hi), ?_, .inr M.size⟩
    cases e : h w.heap.size with
    | none => rfl
    | some o' => exact (Nat.lt_irrefl _ (M.in_lt (b := w.heap.size) (by rw [e]; simp))).elim
theorem RpL.one : ∀ {ts : List Ty} {q : DP τ ts} {vs : List Value}, RpL P G h ts q vs → ∀ v ∈ vs, v.oneCell' = true
  | _, _, _, .nil, v, hv => by cases hv
  | _, _, _, .cons t ts q u us h1 h2, v, hv => by
    rcases List.mem_cons.1 hv with rfl | hv
    · exact (CVOk.one (X := ⟨P, G, [], [], 0, fun _ => undef⟩) (ν := fun _ => none) (av_ok h1)).1
    · exact h2.one v hv
theorem RpR.one : ∀ {e : Ty} {xs : List (e.den τ)} {vs : List Value}, RpR P G h e xs vs → ∀ v ∈ vs, v.oneCell' = true
  | _, _, _, .nil e, v, hv => by cases hv
  | _, _, _, .cons e x xs vs ws h1 h2, v, hv => by
    rcases List.mem_append.1 hv with hv | hv
    · exact h1.one v hv
    · exact h2.one v hv
theorem RpR.app : ∀ {e : Ty} {xs ys : List (e.den τ)} {vs ws : List Value}, RpR P G h e xs vs → RpR P G h e ys ws → RpR P G h e (xs ++ ys) (vs ++ ws)
  | _, _, _, _, _, .nil _, h2 => h2
  | _, _, _, _, _, .cons e x xs vs ws h1 h2, h3 => by rw [List.append_assoc]; exact .cons e x _ vs _ h1 (h2.app h3)
theorem RpR.set : ∀ {e : Ty} {xs : List (e.den τ)} {vs : List Value}, RpR P G h e xs vs → ∀ {i : Nat} {z : e.den τ} {us : List Value}, i < xs.length → RpL P G h (ets G e) (edt G e z) us →
    RpR P G h e (xs.set i z) (vs.take (i * (ets G e).length) ++ us ++ vs.drop (i * (ets G e).length + (ets G e).length))
  | _, _, _, .nil _, i, z, us, hi, hz => by simp at hi
  | _, _, _, .cons e x xs vs ws h1 h2, 0, z, us, hi, hz => by
    have := h1.len
    simp only [Nat.zero_mul, List.take_zero, List.nil_append, Nat.zero_add, List.set_cons_zero]
    rw [List.drop_append, List.drop_eq_nil_of_le (by omega), List.nil_append, this, Nat.sub_self, List.drop_zero]
    exact .cons e z xs us ws hz h2
  | _, _, _, .cons e x xs vs ws h1 h2, i + 1, z, us, hi, hz => by
    have hl := h1.len
    have := RpR.set h2 (i := i) (by simpa using hi) hz
    rw [List.set_cons_succ]
    have e1 : (vs ++ ws).take ((i + 1) * (ets G e).length) = vs ++ ws.take (i * (ets G e).length) := by
      rw [List.take_append, List.take_of_length_le (by rw [hl, Nat.add_mul]; omega), hl, Nat.add_mul, Nat.one_mul, Nat.add_sub_cancel]
    have e2 : (vs ++ ws).drop ((i + 1) * (ets G e).length + (ets G e).length) = ws.drop (i * (ets G e).length + (ets G e).length) := by
      rw [List.drop_append, List.drop_eq_nil_of_le (by rw [hl, Nat.add_mul]; omega), hl, List.nil_append, Nat.add_mul, Nat.one_mul]
      congr 1; omega
    rw [e1, e2, List.append_assoc, List.append_assoc]
    rw [List.append_assoc] at this
    exact .cons e x _ vs _ h1 this
theorem rowO_ok (M : Mem P G w0 h0 F L2 w ν h φ) {e : Ty} {c : CV τ} {xs : List (e.den τ)} {m : List Nat} {v : Value} (k : rowO L e c = some (xs, m)) (ha : ∀ i ∈ m, lk L2 i = lk L i) (hv : CVOk P G h ν c v) :
    ∃ ad cp cs, v = .slice ad xs.length cp ∧ xs.length ≤ cp ∧ Sees w ad cs ∧ RpR P G h e xs cs ∧ ∀ b, b ∈ (ad.map (·.block)).toList → cs ≠ [] → b ∈ fps φ m ∨ h b ≠ none := by
  have rp : ∀ {v : Value} {xs : List (e.den τ)}, Rp P G h (.sl e) xs v → ∃ ad cp cs, v = .slice ad xs.length cp ∧ xs.length ≤ cp ∧ Sees w ad cs ∧ RpR P G h e xs cs ∧ ∀ b, b ∈ (ad.map (·.block)).toList → cs ≠ [] → b ∈ fps φ m ∨ h b ≠ none := by
    intro v xs hr
    cases hr with
    | sl _ _ a c vs hc hs hr =>
      refine ⟨a, c, vs, rfl, hc, hs.sees M.on, hr, fun b hb hne => .inr ?_⟩
      rcases hs with rfl | ⟨b', o, cc, e', zz, rfl, h2, _⟩
      · exact (hne rfl).elim
      · simp at hb; subst hb; rw [h2]; simp
  unfold rowO at k
  split at k
  · split at k
    · rename_i hx
      obtain ⟨rfl, rfl⟩ := castL_eq hx
      cases k
      exact rp hv
    · cases k
  · cases k
    obtain rfl : v = _ := hv
    exact ⟨none, 0, [], rfl, Nat.le_refl _, rfl, .nil e, fun b hb => by cases hb⟩
  · rename_i id
    obtain ⟨ad, n, cp, q, hν, rfl⟩ := hv
    split at k
    · rename_i te e' xs' kk hlk
      split at k
      · rename_i hx
        obtain ⟨rfl, rfl⟩ := castL_eq hx
        cases k
        have hr := M.res id
        rw [ha id (List.mem_singleton.2 rfl), hlk] at hr
        obtain ⟨v', q', vs, u, h1, h2, h3, h4, _⟩ := hr
        rw [hν] at h1
        cases h1
        have hn : n = xs'.length ∧ n ≤ cp := by
          obtain ⟨_, ⟨e, hz⟩ | ⟨g, cap, cur, e, _, _, hc, _⟩⟩ := h3
          · cases e; exact ⟨hz.symm, Nat.le_refl _⟩
          · cases e; exact ⟨rfl, hc⟩
        obtain ⟨rfl, hc⟩ := hn
        refine ⟨ad, cp, vs, rfl, hc, (ownsRow_seesH h3).sees, h4, fun b hb _ => .inl ?_⟩
        rw [fps_cons, h2]
        refine List.mem_append_left _ ?_
        cases ad with
        | none => simp at hb
        | some a => simpa [Value.ownBlock] using hb
      · cases k
    · rename_i e' xs' hlk
      split at k
      · rename_i hx
        obtain ⟨rfl, rfl⟩ := castL_eq hx
        cases k
        have hr := M.res id
        rw [ha id (List.mem_singleton.2 rfl), hlk] at hr
        obtain ⟨v', q', h1, _, h3⟩ := hr
        rw [hν] at h1
        cases h1
        exact rp h3
      · cases k
    · rename_i i kk e' lo xs' hlk
      split at k
      · rename_i te e2 ys k' hlk2
        cases hkk : Nat.beq kk k' with
        | false => rw [hkk] at k; cases k
        | true =>
          rw [hkk] at k
          have : kk = k' := by simpa using hkk
          subst this
          dsimp only [cond_true] at k
          split at k
          · rename_i hx
            obtain ⟨rfl, rfl⟩ := castL_eq hx
            cases k
            have hr := M.res id
            rw [ha id (List.mem_cons_self ..), hlk] at hr
            obtain ⟨a1, n1, c1, q1, q2, u1, ys1, a2, c2, g1, g2, g3, g4, g5, g6, g7, _⟩ := hr
            have hr2 := M.res i
            rw [ha i (List.mem_cons_of_mem _ (List.mem_cons_self ..)), hlk2] at hr2
            obtain ⟨v', q', vs, u, h1, h2, h3, h4, h5⟩ := hr2
            rw [g1] at h1
            cases h1
            rw [g2] at h5
            injection h5 with h5
            injection h5 with _ h5
            injection h5 with h5
            cases h5
            rw [hν] at g5
            cases g5
            by_cases hx0 : xs' = []
            · subst hx0
              refine ⟨ad, cp, [], rfl, g6, ?_, .nil _, fun b _ hne => (hne rfl).elim⟩
              cases ad with
              | none => rfl
              | some x => exact .inl rfl
            · have hn : n1 = ys1.length := by
                obtain ⟨_, ⟨e, hz⟩ | ⟨g, cap, cur, e, _⟩⟩ := h3
                · cases e; exact hz.symm
                · cases e; rfl
              subst hn
              have hsee := (ownsRow_seesH h3).sees
              have hcell : ∀ (j : Nat) v, ((vs.take ((lo + xs'.length) * (ets G e').length)).drop (lo * (ets G e').length))[j]? = some v → vs[lo * (ets G e').length + j]? = some v := by
                intro j v hj
                rw [List.getElem?_drop, List.getElem?_take] at hj
                split at hj
                · exact hj
                · cases hj
              have hrr := (h4.take (lo + xs'.length)).drop lo
              rw [← g4] at hrr
              have had := g7 hx0
              refine ⟨ad, cp, _, rfl, g6, by rw [had]; exact Sees.part hsee hcell, hrr, fun b hb _ => .inl ?_⟩
              rw [fps_cons, fps_cons, h2]
              refine List.mem_append_right _ (List.mem_append_left _ ?_)
              rw [had] at hb
              cases a1 with
              | none => simp at hb
              | some a =>
                have e : (a.add (lo * (ets G e').length)).block = a.block := by unfold Addr.add; split <;> rfl
                simp [e] at hb
                simpa [Value.ownBlock] using hb
          · cases k
      · cases k
    · cases k
  · cases k
end
section
variable {ρ : Type} {X : Cx τ} {w0 w w' : World} {h0 h H : Fz} {F : List Nat} {o : Oper} {E : EnvX τ} {L L2 : Hp τ} {ν ν' : Vn τ} {φ φ' : Nat → List Nat} {nid nid' : Nat} {K : Nx τ ρ} {r : ρ} {v : XV τ} {U : Hp τ} {tch : List Nat} {g : List (XV τ)}
variable {x y : Operand} {t' t ty u' : Nat} {dst : Option Nat} {p : String} {af : Array Edge} {gd : Option (Nat × Bool)}
theorem rowA_ok (M : Mem X.P X.G w0 h0 F L2 w ν h φ) {te : Nat} {e : Ty} {c : CV τ} {xs : List (e.den τ)} {m : List Nat} {v : Value} (k : rowA L te e c = some (xs, U, m)) (ha : ∀ i ∈ m, lk L2 i = lk L i) (hv : CVOk X.P X.G h ν c v) :
    ∃ φ1 cs, Mem X.P X.G w0 h0 F (U ++ L2) w ν h φ1 ∧ Free w0 h F φ1 v.ownBlock.toList ∧ w.ownsRow 0 te (ets X.G e).length v xs.length cs ∧ RpR X.P X.G h e xs cs ∧ (∃ a n c, v = .slice a n c) ∧ ∀ i b, b ∈ φ1 i → b ∈ φ i ∧ i ∉ m := by
  unfold rowA at k
  split at k
  · cases k; cases hv
    exact ⟨φ, [], M, fun b hb => by simp [Value.ownBlock] at hb, World.ownsRow_nil .., .nil _, ⟨_, _, _, rfl⟩, fun i b hb => ⟨hb, by simp⟩⟩
  · rename_i id
    split at k
    · rename_i te' e' xs' kk hlk
      cases hb : Nat.beq te te' with
      | false => rw [hb] at k; cases k
      | true =>
        rw [hb] at k
        dsimp only [cond_true] at k
        have ht : te = te' := by simpa using hb
        subst ht
        split at k
        · rename_i hx
          obtain ⟨rfl, rfl⟩ := castL_eq hx
          cases k
          have hr := M.res id
          rw [ha id (List.mem_singleton.2 rfl), hlk] at hr
          obtain ⟨v', q', vs, u, h1, h2, h3, h4, _⟩ := hr
          obtain ⟨ad, n, cp, q, hν, rfl⟩ := hv
          rw [hν] at h1
          cases h1
          obtain ⟨M1, hf⟩ := M.drop id
          rw [h2] at hf
          refine ⟨_, vs, M1, hf, h3, h4, ⟨_, _, _, rfl⟩, fun i b hbb => ?_⟩
          by_cases hi : i = id
          · subst hi; rw [up1_at] at hbb; cases hbb
          · rw [up1_ne _ _ hi] at hbb; exact ⟨hbb, by simpa using hi⟩
        · cases k
    · cases k
  · cases k
theorem u8_cells : ∀ {l : List UInt8} {vs : List Value}, vs = cells (fun b => [byte b]) l → RpR X.P X.G h .u8 l vs
  | [], vs, e => by subst e; exact .nil _
  | b :: l, vs, e => by subst e; exact .cons .u8 b l [byte b] _ (.cons .u8 [] b _ [] (.u8 b) .nil) (u8_cells rfl)
theorem elO_ok {P : Program} {t e : TypeId} (h : elO P t = some e) : P.underlying t = some (.slice e) := by
  unfold elO at h
  split at h
  · rename_i hu; cases h; exact hu
  · cases h
theorem bytO_ok {P : Program} {e : TypeId} (h : bytO P e = true) : ∃ i, P.info? e = some i ∧ i.zero = some (.int .u8 0) ∧ i.size = 1 ∧ i.bytes = 1 := by
  unfold bytO at h
  split at h
  · rename_i i hi
    split at h
    · rename_i hz
      simp only [Bool.and_eq_true, Nat.beq_eq] at h
      exact ⟨i, hi, hz, h.1, h.2⟩
    · cases h
  · cases h
theorem appendS_ok {te : Nat} {e : Ty} {a0 : CV τ} {xs : List (e.den τ)} {l0 : Str} {l : List (e.den τ)} (hel : elO X.P t' = some te) (hx : evC E x = some a0) (hA : rowA L te e a0 = some (xs, U, tch)) (hy : evC E y = some (.s l0)) (hu : X.P.underlying u' = some .string)
    (hl : castL (t := .u8) (t' := e) l0 = some l) (hb : bytO X.P te = true) (hfit : fitsApp xs.length l.length 1 = true) (k : K (.c (.os nid)) [] ((nid, .row te e (xs ++ l) nid) :: U) tch (nid + 1) = some r) :
    Does X w0 h0 F ⟨dst, .call ⟨.builtin .append, ⟨[x, y]⟩, ⟨[t', u']⟩⟩, t, p, af, gd⟩ E L nid K r := by
  refine ⟨_, _, _, _, _, k, Nat.le_succ _, (fun _ h => by cases h), fun L2 ν h φ a w next Q hd M hE ha hn k => ?_⟩
  have hn' := hn nid (Nat.le_refl _) (Nat.lt_succ_self _)
  obtain ⟨Ea, hf, hl'⟩ := envA a hd
  obtain ⟨vx, h1, h2⟩ := evC_of hl' (hE.op (by simp [Op.operands, Call.operands])) hx
  obtain ⟨vy, h3, h4⟩ := evC_of hl' (hE.op (by simp [Op.operands, Call.operands])) hy
  obtain rfl : vy = _ := h4
  obtain ⟨φ1, cs, M1, hfr, ho, hr, ⟨ad, n, cp, rfl⟩, _⟩ := rowA_ok M hA ha h2
  obtain ⟨rfl, rfl⟩ := castL_eq hl
  obtain ⟨ti, hti, hz, hs1, hs2⟩ := bytO_ok hb
  simp only [fitsApp, Bool.and_eq_true, decide_eq_true_eq] at hfit
  have f1 : xs.length + List.length (α := UInt8) l0 ≤ 9223372036854775807 := hfit.1
  have f2 : (xs.length + List.length (α := UInt8) l0) * 1 ≤ 140737488355328 := hfit.2
  have hsz : (⟨l0.toArray⟩ : ByteArray).size = l0.length := rfl
  obtain ⟨ad', c', w', hrun, g2, g3, g4⟩ := run_append_str_strong (P := X.P) (w := w) t' u' t te ti (elO_ok hel) hu hti hz hs1 hs2 (.slice ad n cp) xs.length cs ho ⟨l0.toArray⟩ (by rw [hsz]; unfold maxLen; omega) (by rw [hsz]; omega)
  rw [hsz, strCells_str (en := fun b => [byte b]) (fun _ => rfl)] at g2
  rw [hsz] at hrun g4
  have hexec : (execOp a.eval ⟨dst, .call ⟨.builtin .append, ⟨[x, y]⟩, ⟨[t', u']⟩⟩, t, p, af, gd⟩).run X.P w = .ok (.value (.slice ad' (xs.length + l0.length) c')) w' := by
    simp only [execOp, resolve, invoke, builtin, Sem.run_bind, Sem.run_pure, Result.andThen_ok, List.map_toArray, List.map_cons, List.map_nil, hf.ev h1, hf.ev h3, hrun]
  refine wp_val hexec (k _ h _ _ _ (append_fin M1 hfr hn' g3 (by rw [List.length_append]; exact g2) (hr.app (u8_cells rfl)) g4) (up1_le hn') (Fz.le.refl _) fresh_one ⟨_, _, _, _, up1_at _ _ _, rfl⟩)
theorem appendR_ok (hT : TyOk X) {te : Nat} {e : Ty} {a0 b0 : CV τ} {xs ys : List (e.den τ)} {m : List Nat} (hel : elO X.P t' = some te) (hel' : elO X.P u' = some te) (hte : asc X.ty te = some e) (hx : evC E x = some a0) (hA : rowA L te e a0 = some (xs, U, tch)) (hy : evC E y = some b0) (hB : rowO L e b0 = some (ys, m)) (hdj : disj tch m = true)
    (hfit : fitO X.P xs.length ys.length te = true) (k : K (.c (.os nid)) [] ((nid, .row te e (xs ++ ys) nid) :: U) (tch ++ m) (nid + 1) = some r) (htu : t' = u') :
    Does X w0 h0 F ⟨dst, .call ⟨.builtin .append, ⟨[x, y]⟩, ⟨[t', u']⟩⟩, t, p, af, gd⟩ E L nid K r := by
  subst htu
  refine ⟨_, _, _, _, _, k, Nat.le_succ _, (fun _ h => by cases h), fun L2 ν h φ a w next Q hd M hE ha hn k => ?_⟩
  have hn' := hn nid (Nat.le_refl _) (Nat.lt_succ_self _)
  obtain ⟨Ea, hf, hl'⟩ := envA a hd
  obtain ⟨vx, h1, h2⟩ := evC_of hl' (hE.op (by simp [Op.operands, Call.operands])) hx
  obtain ⟨vy, h3, h4⟩ := evC_of hl' (hE.op (by simp [Op.operands, Call.operands])) hy
  obtain ⟨ad2, cp2, ds, rfl, hc2, hs2, hr2, _⟩ := rowO_ok M hB (fun i hi => ha i (List.mem_append_right _ hi)) h4
  obtain ⟨φ1, cs, M1, hfr, ho, hr, ⟨ad, n, cp, rfl⟩, _⟩ := rowA_ok M hA (fun i hi => ha i (List.mem_append_left _ hi)) h2
  obtain ⟨ti, z, hti, hz, hs1, hzs, hpos⟩ := hT.el _ (asc_mem hte)
  have hs1 : ti.size = (ets X.G e).length := hs1
  unfold fitO at hfit
  rw [hti] at hfit
  simp only [fitsApp, Bool.and_eq_true, decide_eq_true_eq] at hfit
  have key : ∃ ad' c' w', (Builtin.append_ #[t', t'] t #[.slice ad n cp, .slice ad2 ys.length cp2]).run X.P w = .ok (.slice ad' (xs.length + ys.length) c') w' ∧ w'.ownsRow 0 te (ets X.G e).length (.slice ad' (xs.length + ys.length) c') (xs.length + ys.length) (cs ++ ds) ∧ w.grownBy w' (Value.slice ad n cp).ownBlock ∧
      ((Value.slice ad' (xs.length + ys.length) c').ownBlock = (Value.slice ad n cp).ownBlock ∨ (Value.slice ad' (xs.length + ys.length) c').ownBlock = some w.heap.size) := by
    cases ad2 with
    | none =>
      have hds : ds = [] := hs2
      subst hds
      have hl2 := hr2.len
      have hys : ys.length = 0 := by
        rcases Nat.eq_zero_or_pos ys.length with h | h
        · exact h
        · have : 0 < ys.length * (ets X.G e).length := Nat.mul_pos h (by omega)
          simp at hl2; omega
      have hn : n = xs.length := by
        obtain ⟨_, ⟨e, hz⟩ | ⟨g, cap, cur, e, _⟩⟩ := ho
        · cases e; exact hz.symm
        · cases e; rfl
      have h5 := run_append_noneC (P := X.P) (w := w) t' t te ti _ cp2 (elO_ok hel) hti (.slice ad n cp) xs.length cs ho
      rw [hys, Nat.add_zero, List.append_nil]
      refine ⟨ad, cp, w, ?_, ?_, ⟨rfl, rfl, rfl, Nat.le_refl _, fun _ _ _ => rfl⟩, .inl (by subst hn; rfl)⟩
      · rw [h5, hn]
      · subst hn; exact ho
    | some a2 =>
      have hnews : ∀ j u, ds[j]? = some u → w.cell? (a2.add j) = some u := by
        intro j u hj
        rcases hs2 with rfl | ⟨hsp, hlt, hc⟩
        · simp at hj
        · have : a2.add j = ⟨a2.block, a2.off + j, none⟩ := by
            obtain ⟨b, o, s⟩ := a2
            simp only at hsp; subst hsp
            unfold Addr.add; split <;> simp_all
          rw [this]; exact hc j u hj
      exact run_append_strong (P := X.P) (w := w) t' t te ti z _ ti.bytes (elO_ok hel) hti hz hs1 rfl (by rw [hzs, hs1]) (by omega) _ _ _ ho a2 ys.length cp2 ds hr2.len hnews hr2.one (by unfold maxLen; omega) hfit.2
  obtain ⟨ad', c', w', hrun, g2, g3, g4⟩ := key
  have hexec : (execOp a.eval ⟨dst, .call ⟨.builtin .append, ⟨[x, y]⟩, ⟨[t', t']⟩⟩, t, p, af, gd⟩).run X.P w = .ok (.value (.slice ad' (xs.length + ys.length) c')) w' := by
    simp only [execOp, resolve, invoke, builtin, Sem.run_bind, Sem.run_pure, Result.andThen_ok, List.map_toArray, List.map_cons, List.map_nil, hf.ev h1, hf.ev h3, hrun]
  exact wp_val hexec (k _ h _ _ _ (append_fin M1 hfr hn' g3 (by rw [List.length_append]; exact g2) (hr.app hr2) g4) (up1_le hn') (Fz.le.refl _) fresh_one ⟨_, _, _, _, up1_at _ _ _, rfl⟩)
end
end Go.Rk
end
section
namespace Go.Rk
open Go.RowKit Go.Dm Go.Dk
variable {τ : Nat → Type}
section
variable {ρ : Type} {X : Cx τ} {w0 w w' : World} {h0 h H : Fz} {F : List Nat} {o : Oper} {E : EnvX τ} {L L2 : Hp τ} {ν ν' : Vn τ} {φ φ' : Nat → List Nat} {nid nid' : Nat} {K : Nx τ ρ} {r : ρ} {v : XV τ} {U : Hp τ} {tch : List Nat} {g : List (XV τ)}
variable {a : Act} {x y z : Operand} {t' t ty u' : Nat} {dst : Option Nat} {p : String} {af : Array Edge} {gd : Option (Nat × Bool)}
theorem app0_ok (hT : TyOk X) {te : Nat} {e : Ty} {a0 : CV τ} {xs : List (e.den τ)} (hel : elO X.P t' = some te) (hel' : elO X.P u' = some te) (hte : asc X.ty te = some e) (hx : evC E x = some a0) (hA : rowA L te e a0 = some (xs, U, tch)) (hy : evC E y = some .n0)
    (k : K (.c (.os nid)) [] ((nid, .row te e xs nid) :: U) tch (nid + 1) = some r) (htu : t' = u') :
    Does X w0 h0 F ⟨dst, .call ⟨.builtin .append, ⟨[x, y]⟩, ⟨[t', u']⟩⟩, t, p, af, gd⟩ E L nid K r := by
  subst htu
  refine ⟨_, _, _, _, _, k, Nat.le_succ _, (fun _ h => by cases h), fun L2 ν h φ a w next Q hd M hE ha hn k => ?_⟩
  have hn' := hn nid (Nat.le_refl _) (Nat.lt_succ_self _)
  obtain ⟨Ea, hf, hl'⟩ := envA a hd
  obtain ⟨vx, h1, h2⟩ := evC_of hl' (hE.op (by simp [Op.operands, Call.operands])) hx
  obtain ⟨vy, h3, h4⟩ := evC_of hl' (hE.op (by simp [Op.operands, Call.operands])) hy
  obtain rfl : vy = _ := h4
  obtain ⟨φ1, cs, M1, hfr, ho, hr, ⟨ad, n, cp, rfl⟩, _⟩ := rowA_ok M hA ha h2
  obtain ⟨ti, z, hti, hz, hs1, hzs, hpos⟩ := hT.el _ (asc_mem hte)
  have h5 := run_append_noneC (P := X.P) (w := w) t' t te ti _ 0 (elO_ok hel) hti (.slice ad n cp) xs.length cs ho
  have hexec : (execOp a.eval ⟨dst, .call ⟨.builtin .append, ⟨[x, y]⟩, ⟨[t', t']⟩⟩, t, p, af, gd⟩).run X.P w = .ok (.value (.slice ad n cp)) w := by
    simp only [execOp, resolve, invoke, builtin, Sem.run_bind, Sem.run_pure, Result.andThen_ok, List.map_toArray, List.map_cons, List.map_nil, hf.ev h1, hf.ev h3, h5]
  exact wp_val hexec (k _ h _ _ _ (append_fin M1 hfr hn' ⟨rfl, rfl, rfl, Nat.le_refl _, fun _ _ _ => rfl⟩ ho hr (.inl rfl)) (up1_le hn') (Fz.le.refl _) fresh_one ⟨_, _, _, _, up1_at _ _ _, rfl⟩)
theorem lokX_ok (M : Mem X.P X.G w0 h0 F L2 w ν h φ) (hH : h.le H) {t : Ty} {A : XV τ} {d : t.den τ} {m : List Nat} {u : Value} (e : lokX X.G L t A = some (d, m)) (ha : LookAt L2 L φ H w m) (hu : XOk X.P X.G h ν A u) :
    ∃ us, u.cells = ⟨us⟩ ∧ RpL X.P X.G H (ets X.G t) (edt X.G t d) us := by
  unfold lokX at e
  split at e
  · rename_i n cs
    split at e
    · rename_i q m' hq
      cases e
      obtain ⟨us, rfl, hc⟩ := hu
      refine ⟨us, rfl, ?_⟩
      show RpL _ _ _ (X.G.fs n) (X.G.dtor n (X.G.ctor n q)) us
      rw [X.G.dc]
      exact lokL_ok (A := LookAt L2 L φ H w) (fun _ _ => LookAt.app) (lok_ok M hH depth) hq ha hc
    · cases e
  · rename_i c
    have hr := lok_ok M hH _ _ _ _ _ _ e ha hu
    have hc : CVOk X.P X.G h ν c u := hu
    refine ⟨[u], hc.one.2, ?_⟩
    cases t
    case st n => cases hr
    all_goals exact .cons _ [] _ u [] hr .nil
  · cases e
theorem elts_ok (hd : a.defers = []) (M : Mem X.P X.G w0 h0 F L2 w ν h φ) (hH : h.le H) {e : Ty} : ∀ {ps : List (Nat × Operand)} {k : Nat} {xs : List (e.den τ)} {m : List Nat} {pre rest : List Value}, eltsX X L E e k ps = some (xs, m) → LookAt L2 L φ H w m → (∀ q ∈ ps, EnvOn X h ν a (tmpO q.2) E) →
    pre.length = k * (ets X.G e).length → rest.length = ps.length * (ets X.G e).length →
    ∃ cs, RpR X.P X.G H e xs cs ∧ xs.length = ps.length ∧ Instr.fill (fun i => some (i * (ets X.G e).length, (ets X.G e).length)) (pre ++ rest).toArray (ps.map fun q => (q.1, a.eval q.2)) = some (pre ++ cs).toArray
  | [], k, xs, m, pre, rest, e1, ha, hE, hp, hr => by
    cases e1
    have : rest = [] := List.eq_nil_of_length_eq_zero (by simpa using hr)
    subst this
    exact ⟨[], .nil e, rfl, rfl⟩
  | (i, x) :: ps, k, xs, m, pre, rest, e1, ha, hE, hp, hr => by
    unfold eltsX at e1
    cases hb : Nat.beq i k with
    | false => rw [hb] at e1; cases e1
    | true =>
      rw [hb] at e1
      dsimp only [cond_true] at e1
      have hik : i = k := by simpa using hb
      subst hik
      split at e1
      · rename_i A hA
        split at e1
        · rename_i d m1 hd1
          split at e1
          · rename_i xs' m2 hx2
            cases e1
            obtain ⟨us, h1, h2⟩ := lokX_ok M hH hd1 ha.app.1 (ev_ok hd (hE _ (List.mem_cons_self ..)) hA)
            have hl := h2.len
            simp only [List.length_cons, Nat.add_mul, Nat.one_mul] at hr
            have hrl : (rest.drop us.length).length = ps.length * (ets X.G e).length := by rw [List.length_drop]; omega
            obtain ⟨cs, h3, h4, h5⟩ := elts_ok hd M hH (pre := pre ++ us) (rest := rest.drop us.length) hx2 ha.app.2 (fun q hq => hE q (List.mem_cons_of_mem _ hq)) (by rw [List.length_append, hp, hl, Nat.add_mul, Nat.one_mul]) hrl
            refine ⟨us ++ cs, .cons e d xs' us cs h2 h3, by simp [h4], ?_⟩
            have h6 := zipIdx_fill us (pre ++ rest) (i * (ets X.G e).length) 0 (by rw [List.length_append]; omega)
            simp only [Nat.add_zero] at h6
            simp only [List.map_cons, Instr.fill, h1]
            rw [if_neg (by simp; omega)]
            have h8 : (Array.zipIdx ⟨us⟩).foldl (fun cs (q : Value × Nat) => cs.setIfInBounds (i * (ets X.G e).length + q.2) q.1) (pre ++ rest).toArray = (us.zipIdx).foldl (fun cs (q : Value × Nat) => cs.setIfInBounds (i * (ets X.G e).length + q.2) q.1) (pre ++ rest).toArray := by
              rw [← Array.foldl_toList]; simp
            have h9 : (pre ++ rest).take (i * (ets X.G e).length) ++ us ++ (pre ++ rest).drop (i * (ets X.G e).length + us.length) = pre ++ us ++ rest.drop us.length := by
              rw [← hp, List.take_left, List.drop_append, List.drop_eq_nil_of_le (by omega), List.nil_append, Nat.add_sub_cancel_left]
            rw [h9] at h6
            refine Eq.trans (congrArg (fun z => Instr.fill _ z _) (h8.trans h6)) ?_
            rw [h5, List.append_assoc]
          · cases e1
        · cases e1
      · cases e1
theorem run_bs {P : Program} {te n : Nat} {ti : TypeInfo} {z : Value} {parts : List (Nat × Value)} {cells : Array Value} (hu : P.underlying t' = some (.slice te)) (hi : P.info? te = some ti) (hz : ti.zero = some z) (hb : ¬(n * ti.size > 2 ^ 24))
    (hf : Instr.fill (fun i => some (i * ti.size, ti.size)) ((Array.range (n * ti.size)).map ((if n * ti.size = 0 then #[] else z.cells)[· % (if n * ti.size = 0 then #[] else z.cells).size]!)) parts = some cells) :
    (Instr.buildSlice t' n parts.toArray).run P w = .ok (.slice (some ⟨w.heap.size, 0, none⟩) n n) (w.alloc (.cells cells te)) := by
  have hsize : ∀ w, (sizeOf te).run P w = .ok ti.size w := fun w => by simp [sizeOf, typeInfo, hi]
  have hzv : ∀ w, (zeroValue te).run P w = .ok z w := fun w => by simp [zeroValue, typeInfo, hi, hz]
  unfold Instr.buildSlice
  simp only [Sem.run_bind, run_underlying hu, Result.andThen_ok, hsize]
  rw [if_neg hb]
  by_cases hzero : n * ti.size = 0
  · simp only [hzero, if_true] at hf ⊢
    simp only [Sem.run_bind, Sem.run_pure, Result.andThen_ok, hf]
    simp [newRow, go_sem, Result.andThen]
  · simp only [hzero, if_false] at hf ⊢
    simp only [Sem.run_bind, Sem.run_pure, Result.andThen_ok, hzv, hf]
    simp [newRow, go_sem, Result.andThen]
theorem bs_ok (hT : TyOk X) {te n : Nat} {e : Ty} {ps : List (Nat × Operand)} {xs : List (e.den τ)} {ids : List Nat} (hel : elO X.P t' = some te) (hte : asc X.ty te = some e) (hx : eltsX X L E e 0 ps = some (xs, ids)) (hn : xs.length = n) (hsz : n * (ets X.G e).length ≤ 65536) (hU : freeze L ids = some U)
    (k : K (.c (.os nid)) [] ((nid, .row te e xs nid) :: U) ids (nid + 1) = some r) : Does X w0 h0 F ⟨dst, .buildSlice t' n ⟨ps⟩, t, p, af, gd⟩ E L nid K r := by
  refine ⟨_, _, _, _, _, k, Nat.le_succ _, (fun _ h => by cases h), fun L2 ν h φ a w next Q hd M hE ha hnn k => ?_⟩
  have hn' := hnn nid (Nat.le_refl _) (Nat.lt_succ_self _)
  obtain ⟨ti, z, hti, hz, hs1, hzs, hpos⟩ := hT.el _ (asc_mem hte)
  have hs1 : ti.size = (ets X.G e).length := hs1
  have hti : X.P.info? te = some ti := hti
  have hM1 := M.freeze hU ha
  have hle := M.lend_le ids
  have hm0 : ps.length = n := by
    obtain ⟨cs, _, h2, _⟩ := elts_ok (pre := []) (rest := List.replicate (ps.length * (ets X.G e).length) undef) hd M hle hx (M.look ha) (fun q hq => hE.op (by simp only [Op.operands, List.toList_toArray, List.mem_map]; exact ⟨q, hq, rfl⟩)) (by simp) (by simp)
    omega
  have hrng : ∀ f : Nat → Value, (Array.range (n * ti.size)).map f = ((List.range (n * ti.size)).map f).toArray := by
    intro f; apply Array.toList_inj.1; simp
  have hlen : ∀ f : Nat → Value, ((List.range (n * ti.size)).map f).length = ps.length * (ets X.G e).length := by intro f; simp [hm0, hs1]
  have hfill : ∀ zc : Array Value, ∃ cs, RpR X.P X.G (lend h w (fps φ ids)) e xs cs ∧ Instr.fill (fun i => some (i * ti.size, ti.size)) ((Array.range (n * ti.size)).map (zc[· % zc.size]!)) (ps.map fun q => (q.1, a.eval q.2)) = some cs.toArray := by
    intro zc
    obtain ⟨cs, h1, _, h3⟩ := elts_ok (pre := []) (rest := (List.range (n * ti.size)).map (zc[· % zc.size]!)) hd M hle hx (M.look ha) (fun q hq => hE.op (by simp only [Op.operands, List.toList_toArray, List.mem_map]; exact ⟨q, hq, rfl⟩)) (by simp) (hlen _)
    refine ⟨cs, h1, ?_⟩
    rw [hrng]
    simp only [hs1] at h3 ⊢
    simpa using h3
  have hpm : (Array.map (fun x => match x with | (i, x) => (i, a.eval x)) (⟨ps⟩ : Array (Nat × Operand))) = (ps.map fun q => (q.1, a.eval q.2)).toArray := by
    have : (Array.map (fun (q : Nat × Operand) => (q.1, a.eval q.2)) ⟨ps⟩) = (ps.map fun q => (q.1, a.eval q.2)).toArray := by simp
    exact this
  have key : ∃ cs, RpR X.P X.G (lend h w (fps φ ids)) e xs cs ∧ (execOp a.eval ⟨dst, .buildSlice t' n ⟨ps⟩, t, p, af, gd⟩).run X.P w = .ok (.value (.slice (some ⟨w.heap.size, 0, none⟩) n n)) (w.alloc (.cells cs.toArray te)) := by
    have hb : ¬(n * ti.size > 2 ^ 24) := by rw [hs1]; omega
    obtain ⟨cs, h1, h2⟩ := hfill (if n * ti.size = 0 then #[] else z.cells)
    refine ⟨cs, h1, ?_⟩
    simp only [execOp]
    rw [hpm, Sem.run_bind, run_bs (elO_ok hel) hti hz hb h2]
    rfl
  obtain ⟨cs, h1, hexec⟩ := key
  have hl := h1.len
  have ho : (w.alloc (.cells cs.toArray te)).ownsRow 0 te (ets X.G e).length (.slice (some ⟨w.heap.size, 0, none⟩) n n) xs.length cs :=
    ⟨hl, .inr ⟨w.heap.size, n, cs.toArray, by rw [hn], Nat.zero_le _, heap_new _, by omega, by have : n ≤ n * (ets X.G e).length := Nat.le_mul_of_pos_right _ (by omega); unfold maxLen; omega, by simp [hl, hn], by rw [← hl]; simp⟩⟩
  refine wp_val hexec (k _ _ _ _ _ (hM1.alloc hn' _ (.row te e xs nid) (.slice (some ⟨w.heap.size, 0, none⟩) n n, some ⟨e, xs⟩) ⟨_, _, cs, _, rfl, rfl, ho, h1, up1_at _ _ _⟩) (up1_le hn') hle fresh_one ⟨_, _, _, _, up1_at _ _ _, rfl⟩)
theorem ix_ok {te : Nat} {e : Ty} {c : CV τ} {xs : List (e.den τ)} {m : Int} {d : e.den τ} (hT : TyOk X) (hel : elO X.P t' = some te) (hx : evC E x = some c) (hy : evC E y = some (.i m)) (hr : lAt xs m = some d) (hsz : szO X.P te = some (ets X.G e).length) (hpos : 0 < (ets X.G e).length)
    (k : K (.c (.ea e d 0)) [] [] tch nid = some r)
    (hs : ∀ (L2 : Hp τ) ν h φ (w : World) u, Mem X.P X.G w0 h0 F L2 w ν h φ → (∀ i ∈ tch, lk L2 i = lk L i) → CVOk X.P X.G h ν c u → Rp X.P X.G h (.sl e) xs u) : Does X w0 h0 F ⟨dst, .indexAddr t' x y, t, p, af, gd⟩ E L nid K r := by
  refine does_pure k fun L2 ν h φ a w hd M hE ha => ?_
  obtain ⟨Ea, hf, hl'⟩ := envA a hd
  obtain ⟨vx, h1, h2⟩ := evC_of hl' (hE.op (by simp [Op.operands])) hx
  obtain ⟨vy, h3, h4⟩ := evC_of hl' (hE.op (by simp [Op.operands])) hy
  obtain rfl : vy = _ := h4
  have hrp := hs L2 ν h φ w vx M ha h2
  obtain ⟨hz, hm0⟩ := lAt_some hr
  cases hrp with
  | sl _ _ ad cp vs hc hsees hrr =>
    obtain ⟨h5, h6⟩ := hrr.get hz
    have hlt : m.toNat < xs.length := (List.getElem?_eq_some_iff.1 hz).1
    rcases hsees with rfl | ⟨b, o, cc, e', zz, rfl, g1, g2⟩
    · rw [List.length_nil] at h6; omega
    · have hadd : (⟨b, o, none⟩ : Addr).add (m.toNat * (ets X.G e).length) = ⟨b, o + m.toNat * (ets X.G e).length, none⟩ := by unfold Addr.add; split <;> simp_all
      refine ⟨ptr b (o + m.toNat * (ets X.G e).length), ?_, b, o + m.toNat * (ets X.G e).length, _, rfl, .inr ⟨b, _, cc, e', zz, rfl, g1, fun j v hj => ?_⟩, h5⟩
      · refine ex_indexAddr (fun w => ?_) hf h1 h3
        rw [run_indexAt (elO_ok hel) (szO_ok hsz) hm0 (by omega), hadd]
      · rw [List.getElem?_take] at hj
        split at hj
        · rw [List.getElem?_drop] at hj
          rw [Nat.add_assoc]; exact g2 _ _ hj
        · cases hj
theorem ixo_ok {te te' id kk : Nat} {e : Ty} {xs : List (e.den τ)} {m : Int} {d : e.den τ} (hel : elO X.P t' = some te) (hx : evC E x = some (.os id)) (hy : evC E y = some (.i m)) (hlk : lk L id = .row te' e xs kk) (hr : lAt xs m = some d) (hsz : szO X.P te = some (ets X.G e).length) (hpos : 0 < (ets X.G e).length)
    (k : K (.c (.oe id kk m e d 0)) [] [] [id] nid = some r) : Does X w0 h0 F ⟨dst, .indexAddr t' x y, t, p, af, gd⟩ E L nid K r := by
  refine does_pure k fun L2 ν h φ a w hd M hE ha => ?_
  obtain ⟨Ea, hf, hl'⟩ := envA a hd
  obtain ⟨vx, h1, h2⟩ := evC_of hl' (hE.op (by simp [Op.operands])) hx
  obtain ⟨vy, h3, h4⟩ := evC_of hl' (hE.op (by simp [Op.operands])) hy
  obtain rfl : vy = _ := h4
  obtain ⟨ad, n, cp, q, hν, rfl⟩ := h2
  have hres := M.res id
  rw [ha id (List.mem_singleton.2 rfl), hlk] at hres
  obtain ⟨v', q', vs, u, g1, g2, g3, g4, g5⟩ := hres
  rw [hν] at g1
  cases g1
  obtain ⟨hz, hm0⟩ := lAt_some hr
  have hlt : m.toNat < xs.length := (List.getElem?_eq_some_iff.1 hz).1
  obtain ⟨_, ⟨e1, hz0⟩ | ⟨g, cap, cur, e1, _⟩⟩ := g3
  · omega
  · cases e1
    have hadd : (⟨g, 0, none⟩ : Addr).add (m.toNat * (ets X.G e).length) = ⟨g, m.toNat * (ets X.G e).length, none⟩ := by unfold Addr.add; split <;> simp_all
    refine ⟨ptr g (m.toNat * (ets X.G e).length), ?_, g, _, _, _, xs, u, hν, g5, hr, rfl⟩
    refine ex_indexAddr (fun w => ?_) hf h1 h3
    rw [run_indexAt (elO_ok hel) (szO_ok hsz) hm0 (by omega), hadd]
theorem run_slice3 {P : Program} {e sz n c i j : Nat} {ad : Option Addr} (ht : P.underlying t = some (.slice e)) (hn : sizeO P e = some sz) (hij : i ≤ j) (hj : j ≤ n) (hc : n ≤ c) :
    (Instr.slice t (.slice ad n c) (some (int i)) (some (int j)) none).run P w = .ok (.slice (if c = i then ad else ad.map (·.add (i * sz))) (j - i) (c - i)) w ∧
    (i = 0 → (Instr.slice t (.slice ad n c) none (some (int j)) none).run P w = .ok (.slice (if c = i then ad else ad.map (·.add (i * sz))) (j - i) (c - i)) w) ∧
    (j = n → (Instr.slice t (.slice ad n c) (some (int i)) none none).run P w = .ok (.slice (if c = i then ad else ad.map (·.add (i * sz))) (j - i) (c - i)) w) := by
  have b1 : j ≤ c := by omega
  refine ⟨?_, fun hi => ?_, fun hjn => ?_⟩
  · simp [Instr.slice, Instr.sliceBounds, Instr.sliceBound, asIntOf, run_underlying ht, run_sizeO hn, hij, b1, Result.andThen]
  · subst hi
    simp [Instr.slice, Instr.sliceBounds, Instr.sliceBound, asIntOf, run_underlying ht, run_sizeO hn, b1, Result.andThen]
  · subst hjn
    simp [Instr.slice, Instr.sliceBounds, Instr.sliceBound, asIntOf, run_underlying ht, run_sizeO hn, hij, Result.andThen]
theorem sli_ok (M : Mem X.P X.G w0 h0 F L2 w ν h φ) {c : CV τ} {e : Ty} {l : List (e.den τ)} {ids : List Nat} {u : Value} (k : sliO L c = some ⟨e, l, U, ids⟩) (ha : ∀ i ∈ ids, lk L2 i = lk L i) (hu : CVOk X.P X.G h ν c u) :
    ∃ h' φ', Mem X.P X.G w0 h0 F (U ++ L2) w ν h' φ' ∧ h.le h' ∧ Rp X.P X.G h' (.sl e) l u := by
  unfold sliO at k
  split at k
  · cases k
    exact ⟨h, φ, M, Fz.le.refl _, hu⟩
  · rename_i id
    obtain ⟨ad, n, cp, q, hν, rfl⟩ := hu
    split at k
    · rename_i te e' xs kk hlk
      cases k
      have hfz : freeze L [id] = some [(id, .fz e l)] := by simp [freeze, hlk]
      have M1 := M.freeze hfz ha
      have hr := M1.res id
      rw [lk_app_in _ (by simp [kys]), lk_cons_self] at hr
      obtain ⟨v', q', h1, _, h3⟩ := hr
      rw [hν] at h1
      cases h1
      exact ⟨_, _, M1, M.lend_le _, h3⟩
    · rename_i e' xs hlk
      cases k
      have hr := M.res id
      rw [ha id (List.mem_singleton.2 rfl), hlk] at hr
      obtain ⟨v', q', h1, _, h3⟩ := hr
      rw [hν] at h1
      cases h1
      exact ⟨h, φ, M, Fz.le.refl _, h3⟩
    · cases k
  · cases k
end
end Go.Rk
end
