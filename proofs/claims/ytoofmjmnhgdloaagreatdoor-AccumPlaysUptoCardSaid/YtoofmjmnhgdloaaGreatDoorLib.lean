/-
  Walks in short: a program's steps are taken by evaluation as far as no case parts; one rule for each thing that is left. Over any program.
  Facts on the types and functions of this translation, one by one, by evaluation. Written by a program (wip/gen).
  The library functions that the walks call. Over this translation.
-/
import Derived.Test.YtoofmjmnhgdloaaGreatDoorShelf
import Derived.Test.YtoofmjmnhgdloaaGreatDoorT14P
import Derived.Test.YtoofmjmnhgdloaaGreatDoorProg
import Derived.KernelRfl
import Derived.Laws.StructEq
import Derived.Lib.LaidTab
import Derived.Lib.ItoaNum
import Derived.Shelf.Strings.SlTrimAscii
import Derived.Lib.AppendIntMem
section
namespace Go.Dk
open Go.RowKit Go.Dm

inductive Fr where
  | sq (y : Code)
  | ct (K : Act → World → Prop)
  | bk (id : Nat)
def QS (P : Program) (Q0 : Exit → Act → World → Prop) : List Fr → Exit → Act → World → Prop
  | [] => Q0
  | .sq y :: fs => Exit.then (y.wp P (QS P Q0 fs)) (QS P Q0 fs)
  | .ct K :: fs => Exit.then K (QS P Q0 fs)
  | .bk id :: fs => Exit.inBlock id (QS P Q0 fs)
inductive Cur where
  | co (c : Code)
  | op (all : Array Oper) (rest : List Oper)
  | no
  | ex (id : Nat)
  | rt
def wpU (P : Program) (Q0 : Exit → Act → World → Prop) : Cur → List Fr → Act → World → Prop
  | .co c, fs => c.wp P (QS P Q0 fs)
  | .op all rest, fs => wpList P all (QS P Q0 fs) rest
  | .no, fs => QS P Q0 fs .normal
  | .ex id, fs => QS P Q0 fs (.exit id)
  | .rt, fs => QS P Q0 fs .ret

abbrev Kn := List (Nat × Option Bool)
def lkB : Kn → Nat → Option Bool
  | [], _ => none
  | (k, v) :: B, d => bif Nat.beq k d then v else lkB B d
def zoW (d : Nat) (k : Option Bool) (B : Kn) : Kn :=
  match k with
  | some b => (d, some b) :: B
  | none => match lkB B d with
    | some _ => (d, none) :: B
    | none => B
def Kns (B : Kn) (a : Act) : Prop := ∀ d b, lkB B d = some b → a.tmps[d]? = some (.bool b)
def kOf (B : Kn) : Operand → Option Bool
  | .tmp s => lkB B s
  | .const (.bool b) => some b
  | _ => none
def knO (B : Kn) : Op → Option Bool
  | .move x => kOf B x
  | .assign x => kOf B x
  | .pick c x y => match kOf B c with
    | some true => kOf B x
    | some false => kOf B y
    | none => none
  | .unOp .not _ x => match kOf B x with
    | some true => some false
    | some false => some true
    | none => none
  | _ => none

structure Tab where
  und : List (Nat × TypeDesc)
  fa : List (Nat × Nat × Nat)
class TabOk (P : Program) (τ : Tab) : Prop where
  und : ∀ p ∈ τ.und, P.underlying p.1 = some p.2
  fa : ∀ p ∈ τ.fa, ∀ b o w, (Instr.fieldAt p.1 (ptr b o) p.2.1).run P w = .ok (ptr b (o + p.2.2)) w
def allP {α : Type} (Q : α → Prop) : List α → Prop
  | [] => True
  | x :: l => Q x ∧ allP Q l
theorem zmD {α : Type} {Q : α → Prop} : ∀ {l : List α}, allP Q l → ∀ x ∈ l, Q x
  | [], _, x, hx => by cases hx
  | y :: l, h, x, hx => by
    rcases List.mem_cons.1 hx with rfl | hx
    · exact h.1
    · exact zmD h.2 x hx
def ass {α : Type} : List (Nat × α) → Nat → Option α
  | [], _ => none
  | (k, v) :: l, t => bif Nat.beq k t then some v else ass l t
def offs : List (Nat × Nat × Nat) → Nat → Nat → Option Nat
  | [], _, _ => none
  | (k, j, v) :: l, t, i => bif Nat.beq k t then bif Nat.beq j i then some v else offs l t i else offs l t i
theorem zit {α : Type} : ∀ {l : List (Nat × α)} {t : Nat} {v : α}, ass l t = some v → (t, v) ∈ l
  | [], _, _, h => by cases h
  | (k, u) :: l, t, v, h => by
    simp only [ass] at h
    by_cases e : Nat.beq k t = true
    · simp only [e, cond_true, Option.some.injEq] at h
      have : k = t := by simpa using e
      subst this; subst h
      exact List.mem_cons_self ..
    · simp only [e] at h
      exact List.mem_cons_of_mem _ (zit h)
theorem zmE : ∀ {l : List (Nat × Nat × Nat)} {t i v : Nat}, offs l t i = some v → (t, i, v) ∈ l
  | [], _, _, _, h => by cases h
  | (k, j, u) :: l, t, i, v, h => by
    simp only [offs] at h
    by_cases e : Nat.beq k t = true
    · by_cases e2 : Nat.beq j i = true
      · simp only [e, e2, cond_true, Option.some.injEq] at h
        have h1 : k = t := by simpa using e
        have h2 : j = i := by simpa using e2
        subst h1; subst h2; subst h
        exact List.mem_cons_self ..
      · simp only [e, e2, cond_true] at h
        exact List.mem_cons_of_mem _ (zmE h)
    · simp only [e] at h
      exact List.mem_cons_of_mem _ (zmE h)
def nth {α : Type} : List α → Nat → Option α
  | [], _ => none
  | x :: _, 0 => some x
  | _ :: l, n + 1 => nth l n
theorem zqN {α : Type} : ∀ (l : List α) (n : Nat), nth l n = l[n]?
  | [], _ => by simp [nth]
  | _ :: _, 0 => by simp [nth]
  | _ :: l, n + 1 => by simp [nth, zqN l n]

def cmpI (o : BinOp) (m n : Int) : Option Value :=
  match o with
  | .eql => some (.bool (m == n))
  | .neq => some (.bool (!(m == n)))
  | .lss => some (.bool (decide (m < n)))
  | .leq => some (.bool (decide (m ≤ n)))
  | .gtr => some (.bool (decide (n < m)))
  | .geq => some (.bool (decide (n ≤ m)))
  | _ => none
def evO (τ : Tab) (E : Env) (B : Kn) : Op → Option Value
  | .move x => evl E x
  | .assign x => evl E x
  | .pick c x y => match kOf B c with
    | some true => evl E x
    | some false => evl E y
    | none => none
  | .unOp .not _ x => match evl E x with
    | some (.bool b) => some (.bool (!b))
    | _ => none
  | .binOp o _ x y _ => match evl E x with
    | some (.int .i64 m) => match evl E y with
      | some (.int .i64 n) => cmpI o m n
      | _ => none
    | some (.string ⟨⟨l⟩⟩) => match evl E y with
      | some (.string ⟨⟨m⟩⟩) => match o with
        | .eql => some (.bool (l == m))
        | .neq => some (.bool (!(l == m)))
        | _ => none
      | _ => none
    | _ => none
  | .extract x i => match evl E x with
    | some (.tuple ⟨l⟩) => nth l i
    | _ => none
  | .nilCheck x => match evl E x with
    | some (.pointer (some ad)) => some (.pointer (some ad))
    | _ => none
  | .fieldAddr t x i => match evl E x with
    | some (.pointer (some ⟨b, o, none⟩)) => match offs τ.fa t i with
      | some f => some (.pointer (some ⟨b, o + f, none⟩))
      | none => none
    | _ => none
  | .call ⟨.builtin .len, ⟨[x]⟩, ⟨[t]⟩⟩ => match ass τ.und t with
    | some .string => match evl E x with
      | some (.string ⟨⟨l⟩⟩) => some (.int .i64 l.length)
      | _ => none
    | some (.slice _) => match evl E x with
      | some (.slice _ n _) => some (.int .i64 n)
      | _ => none
    | _ => none
  | _ => none

section
variable {P : Program} {τ : Tab} {N : Nat} {E : Env} {B : Kn} {a : Act} {w : World}

theorem zeS (hB : Kns B a) {x : Operand} {b : Bool} (h : kOf B x = some b) : a.eval x = .bool b := by
  cases x with
  | tmp s => have := hB s b h; simp [Act.eval, Array.getD_eq_getD_getElem?, this]
  | const c =>
    cases c <;> first | (simp [kOf] at h; done) | skip
    simp only [kOf, Option.some.injEq] at h
    subst h; rfl
  | global g => simp [kOf] at h
  | func f => simp [kOf] at h

theorem evO_ok [hτ : TabOk P τ] {o : Oper} {v : Value} (hf : Fits N E a) (hB : Kns B a) (h : evO τ E B o.op = some v) :
    (execOp a.eval o).run P w = .ok (.value v) w ∧ ∀ b, knO B o.op = some b → v = .bool b := by
  obtain ⟨dst, op, t, p, af, gd⟩ := o
  dsimp only at h ⊢
  unfold evO at h
  split at h
  · exact ⟨zp hf h, fun b hb => (hf.ev h).symm.trans (zeS hB hb)⟩
  · exact ⟨zaE hf h, fun b hb => (hf.ev h).symm.trans (zeS hB hb)⟩
  · rename_i c x y
    split at h
    · rename_i hc
      refine ⟨?_, fun b hb => ?_⟩
      · simp only [execOp]; rw [zeS hB hc, hf.ev h]; simp [asBool]
      · simp only [knO, hc] at hb; exact (hf.ev h).symm.trans (zeS hB hb)
    · rename_i hc
      refine ⟨?_, fun b hb => ?_⟩
      · simp only [execOp]; rw [zeS hB hc, hf.ev h]; simp [asBool]
      · simp only [knO, hc] at hb; exact (hf.ev h).symm.trans (zeS hB hb)
    · cases h
  · rename_i ti x
    split at h
    · rename_i b hx
      obtain rfl := Option.some.inj h
      refine ⟨ex_not hf hx, fun b' hb => ?_⟩
      simp only [knO] at hb
      split at hb
      · rename_i hk
        have := (hf.ev hx).symm.trans (zeS hB hk)
        cases this; cases hb; rfl
      · rename_i hk
        have := (hf.ev hx).symm.trans (zeS hB hk)
        cases this; cases hb; rfl
      · cases hb
    · cases h
  · rename_i bo ti x y ty
    refine ⟨?_, fun b hb => by simp [knO] at hb⟩
    split at h
    · rename_i m hx
      split at h
      · rename_i n hy
        cases bo <;> first | (cases h; done) | skip
        · obtain rfl := Option.some.inj h; exact zpF hf hx hy
        · obtain rfl := Option.some.inj h; exact zlN hf hx hy
        · obtain rfl := Option.some.inj h; exact ex_lss hf hx hy
        · obtain rfl := Option.some.inj h; exact ex_leq hf hx hy
        · obtain rfl := Option.some.inj h; exact ztX hf hx hy
        · obtain rfl := Option.some.inj h; exact ztY hf hx hy
      · cases h
    · rename_i l hx
      split at h
      · rename_i m hy
        split at h
        · obtain rfl := Option.some.inj h; exact zt3 hf hx hy
        · obtain rfl := Option.some.inj h; exact zt4 hf hx hy
        · cases h
      · cases h
    · cases h
  · rename_i x i
    refine ⟨?_, fun b hb => by simp [knO] at hb⟩
    split at h
    · rename_i l hx
      exact zcK hf hx (by rw [zqN] at h; simpa using h)
    · cases h
  · refine ⟨?_, fun b hb => by simp [knO] at hb⟩
    split at h
    · rename_i ad hx
      obtain rfl := Option.some.inj h
      exact zag hf hx
    · cases h
  · refine ⟨?_, fun b hb => by simp [knO] at hb⟩
    split at h
    · rename_i b o hx
      split at h
      · rename_i f ho
        obtain rfl := Option.some.inj h
        exact zao (fun b o w => hτ.fa _ (zmE ho) b o w) hf hx
      · cases h
    · cases h
  · refine ⟨?_, fun b hb => by simp [knO] at hb⟩
    split at h
    · rename_i ht
      split at h
      · rename_i l hx
        obtain rfl := Option.some.inj h
        exact zqK (hτ.und _ (zit ht)) hf hx
      · cases h
    · rename_i e ht
      split at h
      · rename_i n c hx
        obtain rfl := Option.some.inj h
        exact znR (hτ.und _ (zit ht)) hf hx
      · cases h
    · cases h
  · cases h

def gd (all : Array Oper) (E : Env) (B : Kn) : Option (Nat × Bool) → Option Bool
  | none => some true
  | some (j, b) => match nth all.toList j with
    | some ⟨some s, _, _, _, _, _⟩ => match lkB B s with
      | some b' => some (b' == b)
      | none => match look E s with
        | some (.tuple ⟨[]⟩) => some false
        | _ => none
    | _ => none
theorem zsF {all : Array Oper} {o : Oper} {m : Bool} (hf : Fits N E a) (hB : Kns B a) (h : gd all E B o.guard = some m) : Region.wanted o (yielded all a.tmps) = m := by
  unfold gd at h
  split at h
  · rename_i hg
    obtain rfl := Option.some.inj h
    simp [Region.wanted, hg]
  · rename_i j b hg
    split at h
    · rename_i s _ _ _ _ _ hs
      rw [zqN] at hs
      have hs' : (all[j]?).bind (·.dst) = some s := by rw [← Array.getElem?_toList, hs]; rfl
      split at h
      · rename_i b' hb'
        obtain rfl := Option.some.inj h
        have hy : yielded all a.tmps j = some b' := by simp [yielded, hs', hB s _ hb']
        cases b <;> cases b' <;> simp [Region.wanted, hg, hy]
      · split at h
        · rename_i hu
          obtain rfl := Option.some.inj h
          have hy : yielded all a.tmps j = none := by simp [yielded, hs', hf.has s _ hu]
          simp [Region.wanted, hg, hy]
        · cases h
    · cases h

abbrev Cfg := Cur × List Fr × Env × Kn
def zqO (τ : Tab) (N : Nat) (all : Array Oper) (o : Oper) (rest : List Oper) (fs : List Fr) (E : Env) (B : Kn) : Option Cfg :=
  match gd all E B o.guard with
  | some true => match evO τ E B o.op with
    | some v => match o.dst with
      | some d => match Nat.blt d N with
        | true => match zoW d (knO B o.op) B with
          | [] => some (.op all rest, fs, (d, v) :: E, [])
          | k :: B' => some (.op all rest, fs, (d, v) :: E, k :: B')
        | false => none
      | none => some (.op all rest, fs, E, B)
    | none => none
  | some false => match o.dst with
    | some d => match Nat.blt d N with
      | true => match zoW d none B with
        | [] => some (.op all rest, fs, (d, undef) :: E, [])
        | k :: B' => some (.op all rest, fs, (d, undef) :: E, k :: B')
      | false => none
    | none => some (.op all rest, fs, E, B)
  | none => none
def zmF (τ : Tab) (N : Nat) (E : Env) (B : Kn) : Cur → List Fr → Option Cfg
  | .co .skip, fs => some (.no, fs, E, B)
  | .co (.seq x y), fs => some (.co x, .sq y :: fs, E, B)
  | .co (.region _ ops false), fs => some (.op ops ops.toList, fs, E, B)
  | .co (.cond c x y), fs => match kOf B c with
    | some true => some (.co x, fs, E, B)
    | some false => some (.co y, fs, E, B)
    | none => none
  | .co (.block id c), fs => some (.co c, .bk id :: fs, E, B)
  | .co (.exit id), fs => some (.ex id, fs, E, B)
  | .co .ret, fs => some (.rt, fs, E, B)
  | .no, .sq y :: fs => some (.co y, fs, E, B)
  | .no, .bk _ :: fs => some (.no, fs, E, B)
  | .ex id, .sq _ :: fs => some (.ex id, fs, E, B)
  | .ex id, .ct _ :: fs => some (.ex id, fs, E, B)
  | .ex id, .bk i :: fs => match Nat.beq id i with
    | true => some (.no, fs, E, B)
    | false => some (.ex id, fs, E, B)
  | .rt, _ :: fs => some (.rt, fs, E, B)
  | .op _ [], fs => some (.no, fs, E, B)
  | .op all (o :: rest), fs => zqO τ N all o rest fs E B
  | _, _ => none
def ziS (τ : Tab) (N : Nat) : Nat → Cur → List Fr → Env → Kn → Cfg
  | 0, c, fs, E, B => (c, fs, E, B)
  | n + 1, c, fs, E, B => match zmF τ N E B c fs with
    | some (c', fs', E', B') => ziS τ N n c' fs' E' B'
    | none => (c, fs, E, B)

variable {Q0 : Exit → Act → World → Prop}

theorem zsG {d : Nat} {k : Option Bool} {d' : Nat} {b : Bool} (h : lkB (zoW d k B) d' = some b) : (d = d' ∧ k = some b) ∨ (d ≠ d' ∧ lkB B d' = some b) := by
  unfold zoW at h
  by_cases e : d = d'
  · subst e
    left
    split at h
    · simp [lkB] at h; exact ⟨rfl, by rw [h]⟩
    · split at h
      · simp [lkB] at h
      · rename_i hn; rw [hn] at h; cases h
  · right
    refine ⟨e, ?_⟩
    have hb : Nat.beq d d' = false := zkG.2 e
    split at h
    · simpa [lkB, hb] using h
    · split at h
      · simpa [lkB, hb] using h
      · exact h
theorem Kns.put (hf : Fits N E a) (hB : Kns B a) {d : Nat} (hd : Nat.blt d N = true) {v : Value} {k : Option Bool} (hk : ∀ b, k = some b → v = .bool b) : Kns (zoW d k B) (a.put (some d) v) := by
  intro d' b h
  have hd' : d < a.tmps.size := by rw [hf.size]; simpa [Nat.blt_eq] using hd
  rcases zsG h with ⟨rfl, hkb⟩ | ⟨hne, hb⟩
  · simp [Act.put, hd', hk b hkb]
  · simp [Act.put, hne, hB d' b hb]
theorem Kns.nil : Kns [] a := fun _ _ h => by cases h

theorem zmt {Q : Exit → Act → World → Prop} {all : Array Oper} {rest : List Oper} {o : Oper} {v : Value} (hg : Region.wanted o (yielded all a.tmps) = true) (hx : (execOp a.eval o).run P w = .ok (.value v) w)
    (hk : wpList P all Q rest (a.put o.dst v) w) : wpList P all Q (o :: rest) a w := by
  unfold wpList
  rw [if_pos hg]
  left
  unfold Oper.wp
  rw [hx]
  exact hk
theorem zsH {Q : Exit → Act → World → Prop} {all : Array Oper} {rest : List Oper} {o : Oper} (hg : Region.wanted o (yielded all a.tmps) = false)
    (hk : wpList P all Q rest (a.put o.dst undef) w) : wpList P all Q (o :: rest) a w := by
  unfold wpList
  rw [if_neg (by simp [hg])]
  exact hk
theorem zub {Q : Exit → Act → World → Prop} {all : Array Oper} {rest : List Oper} {dst : Option Nat} {op : Op} {t : Nat} {p : String} {af : Array Edge} {g : Option (Nat × Bool)}
    (hg : Region.wanted ⟨dst, op, t, p, af, g⟩ (yielded all a.tmps) = true) (hk : wpList P all Q (⟨dst, op, t, p, af, none⟩ :: rest) a w) : wpList P all Q (⟨dst, op, t, p, af, g⟩ :: rest) a w := by
  unfold wpList at hk ⊢
  rw [if_pos hg]
  rw [if_pos (by simp [Region.wanted])] at hk
  exact hk

theorem zrU [TabOk P τ] {all : Array Oper} {o : Oper} {rest : List Oper} {fs : List Fr} {c : Cfg} (h : zqO τ N all o rest fs E B = some c) (hf : Fits N E a) (hB : Kns B a)
    (k : ∀ a, Fits N c.2.2.1 a → Kns c.2.2.2 a → wpU P Q0 c.1 c.2.1 a w) : wpU P Q0 (.op all (o :: rest)) fs a w := by
  unfold zqO at h
  split at h
  · rename_i hg
    have hw := zsF hf hB hg
    split at h
    · rename_i v hv
      obtain ⟨hx, hkn⟩ := evO_ok (P := P) (w := w) hf hB hv
      split at h
      · rename_i d hd
        split at h
        · rename_i hN
          have hs := Kns.put hf hB hN (v := v) hkn
          refine zmt hw hx ?_
          rw [hd]
          split at h <;> (obtain rfl := Option.some.inj h; rename_i e; rw [e] at hs; exact k _ (hf.put hN _) hs)
        · cases h
      · rename_i hd
        obtain rfl := Option.some.inj h
        refine zmt hw hx ?_
        rw [hd]
        exact k _ hf hB
    · cases h
  · rename_i hg
    have hw := zsF hf hB hg
    refine zsH hw ?_
    split at h
    · rename_i d hd
      split at h
      · rename_i hN
        have hs := Kns.put hf hB hN (v := undef) (k := none) (fun b h => by cases h)
        rw [hd]
        split at h <;> (obtain rfl := Option.some.inj h; rename_i e; rw [e] at hs; exact k _ (hf.put hN _) hs)
      · cases h
    · rename_i hd
      obtain rfl := Option.some.inj h
      rw [hd]
      exact k _ hf hB
  · cases h
theorem zuc [TabOk P τ] {cu : Cur} {fs : List Fr} {c : Cfg} (h : zmF τ N E B cu fs = some c) (hf : Fits N E a) (hB : Kns B a)
    (k : ∀ a, Fits N c.2.2.1 a → Kns c.2.2.2 a → wpU P Q0 c.1 c.2.1 a w) : wpU P Q0 cu fs a w := by
  unfold zmF at h
  split at h
  · obtain rfl := Option.some.inj h; exact wp_skip (k a hf hB)
  · obtain rfl := Option.some.inj h; exact wp_seq (k a hf hB)
  · obtain rfl := Option.some.inj h; exact wp_region_list (k a hf hB)
  · split at h
    · rename_i hc; obtain rfl := Option.some.inj h; exact wp_cond_true (zeS hB hc) (k a hf hB)
    · rename_i hc; obtain rfl := Option.some.inj h; exact wp_cond_false (zeS hB hc) (k a hf hB)
    · cases h
  · obtain rfl := Option.some.inj h; exact wp_block (k a hf hB)
  · obtain rfl := Option.some.inj h; exact wp_exit (k a hf hB)
  · obtain rfl := Option.some.inj h; exact wp_ret (k a hf hB)
  · obtain rfl := Option.some.inj h; exact k a hf hB
  · obtain rfl := Option.some.inj h; exact k a hf hB
  · obtain rfl := Option.some.inj h; exact k a hf hB
  · obtain rfl := Option.some.inj h; exact k a hf hB
  · rename_i id i fs
    split at h
    · rename_i e
      obtain rfl := Option.some.inj h
      have e' : id = i := by simpa using e
      subst e'
      exact zst (k a hf hB)
    · rename_i e
      obtain rfl := Option.some.inj h
      exact zsu e (k a hf hB)
  · rename_i f fs
    obtain rfl := Option.some.inj h
    cases f with
    | sq y => exact k a hf hB
    | ct K => exact k a hf hB
    | bk id => exact k a hf hB
  · obtain rfl := Option.some.inj h; exact k a hf hB
  · exact zrU h hf hB k
  · cases h
theorem zdF [TabOk P τ] : ∀ {n : Nat} {c c' : Cur} {fs fs' : List Fr} {E E' : Env} {B B' : Kn} {a : Act}, ziS τ N n c fs E B = (c', fs', E', B') → Fits N E a → Kns B a →
    (∀ a, Fits N E' a → Kns B' a → wpU P Q0 c' fs' a w) → wpU P Q0 c fs a w
  | 0, c, c', fs, fs', E, E', B, B', a, h, hf, hB, k => by cases h; exact k a hf hB
  | n + 1, c, c', fs, fs', E, E', B, B', a, h, hf, hB, k => by
    unfold ziS at h
    split at h
    · rename_i h1
      exact zuc h1 hf hB fun a hf hB => zdF h hf hB k
    · cases h; exact k a hf hB
end

def S (P : Program) (τ : Tab) (N : Nat) {ρ : Type} (R : ρ) (Q0 : Exit → Act → World → Prop) (w0 : World) (F : List Nat) (c : Cur) (fs : List Fr) (E : Env) (B : Kn) (L : List Res) (M : Option ρ) : Prop :=
  ∀ a w, Fits N E a → Kns B a → Own w0 F w L → M = some R → wpU P Q0 c fs a w
def far : Nat := 100000000

section
variable {P : Program} {τ : Tab} {N : Nat} {Q0 : Exit → Act → World → Prop} {w0 : World} {F : List Nat} {ρ α : Type} {R : ρ} {c c' : Cur} {fs fs' : List Fr} {E E' : Env} {B B' : Kn} {L : List Res} {M : Option ρ}
variable {all : Array Oper} {rest : List Oper} {d : Nat} {o : Oper}

theorem S.at [TabOk P τ] (h : ziS τ N far c fs E B = (c', fs', E', B')) (k : S P τ N R Q0 w0 F c' fs' E' B' L M) : S P τ N R Q0 w0 F c fs E B L M :=
  fun _ w hf hB hO hm => zdF h hf hB fun a hf hB => k a w hf hB hO hm
theorem S.enter (τ : Tab) {f : FuncId} {fn : Func} {co : Code} {vs : List Value} {Rp : Ending → World → Prop}
    (hf : P.funcs[f]? = some fn) (hb : fn.body = some co) (hN : fn.ntmps = N) (hv : Nat.ble vs.length N = true)
    (h : S P τ N R (bodyPost P fn Rp) w0 F (.co co) [] (params 0 vs) [] L M) (hO : Own w0 F w0 L) (hm : M = some R) : Calls P f vs.toArray w0 Rp :=
  zqE hf hb hN hv fun a hf => h a w0 hf Kns.nil hO hm
theorem S.op (τ : Tab) {a : Act} {w : World} (h : S P τ N R Q0 w0 F (.op all rest) fs E [] L M) (hf : Fits N E a) (hO : Own w0 F w L) (hm : M = some R) : wpList P all (QS P Q0 fs) rest a w := h a w hf Kns.nil hO hm
theorem S.co (τ : Tab) {a : Act} {w : World} {co : Code} (h : S P τ N R Q0 w0 F (.co co) fs E [] L M) (hf : Fits N E a) (hO : Own w0 F w L) (hm : M = some R) : co.wp P (QS P Q0 fs) a w := h a w hf Kns.nil hO hm
theorem S.no (τ : Tab) {a : Act} {w : World} (h : S P τ N R Q0 w0 F .no fs E [] L M) (hf : Fits N E a) (hO : Own w0 F w L) (hm : M = some R) : QS P Q0 fs .normal a w := h a w hf Kns.nil hO hm

def nxO (τ : Tab) (N : Nat) (c : Cur) (fs : List Fr) (E : Env) (B : Kn) : Option (Array Oper × Oper × List Oper × List Fr × Env × Kn) :=
  match ziS τ N far c fs E B with
  | (.op all (o :: rest), fs, E, B) => match gd all E B o.guard with
    | some true => match o with
      | ⟨dst, op, t, p, af, _⟩ => some (all, ⟨dst, op, t, p, af, none⟩, rest, fs, E, B)
    | _ => none
  | _ => none
theorem zoX [TabOk P τ] {a : Act} {w : World} (h : nxO τ N c fs E B = some (all, o, rest, fs', E', B')) (hf : Fits N E a) (hB : Kns B a)
    (k : ∀ a, Fits N E' a → Kns B' a → wpList P all (QS P Q0 fs') (o :: rest) a w) : wpU P Q0 c fs a w := by
  unfold nxO at h
  split at h
  · rename_i hd
    split at h
    · rename_i hg
      obtain ⟨dst, op, t, p, af, g⟩ := ‹Oper›
      cases h
      exact zdF hd hf hB fun a hf hB => zub (zsF hf hB hg) (k a hf hB)
    · cases h
  · cases h
theorem rw_ [TabOk P τ] (h : nxO τ N c fs E B = some (all, o, rest, fs', E', B'))
    (k : ∀ a w, Fits N E' a → Own w0 F w L → M = some R → wpList P all (QS P Q0 fs') (o :: rest) a w) : S P τ N R Q0 w0 F c fs E B L M :=
  fun _ w hf hB hO hm => zoX h hf hB fun a hf _ => k a w hf hO hm
theorem rc_ [TabOk P τ] {co : Code} (h : ziS τ N far c fs E B = (.co co, fs', E', B'))
    (k : ∀ a w, Fits N E' a → Own w0 F w L → M = some R → co.wp P (QS P Q0 fs') a w) : S P τ N R Q0 w0 F c fs E B L M :=
  fun _ w hf hB hO hm => zdF h hf hB fun a hf _ => k a w hf hO hm
theorem re_ [TabOk P τ] (h : ziS τ N far c fs E B = (.rt, [], E', B'))
    (k : ∀ a w, Fits N E' a → Own w0 F w L → M = some R → Q0 .ret a w) : S P τ N R Q0 w0 F c fs E B L M :=
  fun _ w hf hB hO hm => zdF h hf hB fun a hf _ => k a w hf hO hm
theorem vl [TabOk P τ] {op : Op} {t : Nat} {p : String} {af : Array Edge} {v : Value} (h : nxO τ N c fs E B = some (all, ⟨some d, op, t, p, af, none⟩, rest, fs', E', B')) (hd : Nat.blt d N = true)
    (hx : ∀ a w, Fits N E' a → Own w0 F w L → (execOp a.eval ⟨some d, op, t, p, af, none⟩).run P w = .ok (.value v) w)
    (k : S P τ N R Q0 w0 F (.op all rest) fs' ((d, v) :: E') (zoW d none B') L M) : S P τ N R Q0 w0 F c fs E B L M :=
  fun _ w hf hB hO hm => zoX h hf hB fun a hf hB => zmt (by simp [Region.wanted]) (hx a w hf hO) (k _ w (hf.put hd _) (Kns.put hf hB hd fun _ e => by cases e) hO hm)
def evP (τ : Tab) (E : Env) : Op → Option ((α : Type) × Option α × (α → Value))
  | .binOp o _ x y _ => match evl E x with
    | some (.int .i64 m) => match evl E y with
      | some (.int .i64 n) => match o with
        | .add => some ⟨Int, zE m n, .int .i64⟩
        | .sub => some ⟨Int, zdb m n, .int .i64⟩
        | .mul => some ⟨Int, zlp m n, .int .i64⟩
        | .quo => some ⟨Int, zo9 m n, .int .i64⟩
        | .rem => some ⟨Int, zqT m n, .int .i64⟩
        | _ => none
      | _ => none
    | some (.string ⟨⟨l⟩⟩) => match evl E y with
      | some (.string ⟨⟨m⟩⟩) => match o with
        | .add => some ⟨Str, zjb l m, fun l => str l⟩
        | _ => none
      | _ => none
    | _ => none
  | .index t x y => match ass τ.und t with
    | some .string => match evl E x with
      | some (.string ⟨⟨l⟩⟩) => match evl E y with
        | some (.int .i64 i) => some ⟨UInt8, sAt l i, fun c => zY c⟩
        | _ => none
      | _ => none
    | _ => none
  | .slice t x lo hi none => match ass τ.und t with
    | some .string => match evl E x with
      | some (.string ⟨⟨l⟩⟩) => match lo, hi with
        | some y, some z => match evl E y with
          | some (.int .i64 i) => match evl E z with
            | some (.int .i64 j) => some ⟨Str, zeC l i j, fun l => str l⟩
            | _ => none
          | _ => none
        | some y, none => match evl E y with
          | some (.int .i64 i) => some ⟨Str, zbD l i, fun l => str l⟩
          | _ => none
        | none, some z => match evl E z with
          | some (.int .i64 j) => some ⟨Str, sTo l j, fun l => str l⟩
          | _ => none
        | none, none => none
      | _ => none
    | _ => none
  | _ => none
theorem evP_ok [hτ : TabOk P τ] {a : Act} {w : World} {dst : Option Nat} {op : Op} {t : Nat} {p : String} {af : Array Edge} {g : Option (Nat × Bool)} {m : Option α} {enc : α → Value} {x : α}
    (hf : Fits N E a) (h : evP τ E op = some ⟨α, m, enc⟩) (hm : m = some x) : (execOp a.eval ⟨dst, op, t, p, af, g⟩).run P w = .ok (.value (enc x)) w := by
  unfold evP at h
  split at h
  · rename_i bo ti x y ty
    split at h
    · rename_i m' hx
      split at h
      · rename_i n hy
        split at h
        · cases h; exact zrk hf hx hy hm
        · cases h; exact zrl hf hx hy hm
        · cases h; exact zrm hf hx hy hm
        · cases h; exact ztW hf hx hy hm
        · cases h; exact zrn hf hx hy hm
        · cases h
      · cases h
    · rename_i l hx
      split at h
      · rename_i n hy
        split at h
        · cases h; exact zt7 hf hx hy hm
        · cases h
      · cases h
    · cases h
  · rename_i ti x y
    split at h
    · rename_i ht
      split at h
      · rename_i l hx
        split at h
        · rename_i i hy
          cases h; exact zli (hτ.und _ (zit ht)) hf hx hy hm
        · cases h
      · cases h
    · cases h
  · rename_i ti x lo hi
    split at h
    · rename_i ht
      split at h
      · rename_i l hx
        split at h
        · rename_i y z
          split at h
          · rename_i i hy
            split at h
            · rename_i j hz
              cases h; exact zlj (hτ.und _ (zit ht)) hf hx hy hz hm
            · cases h
          · cases h
        · rename_i y
          split at h
          · rename_i i hy
            cases h; exact zjR (hτ.und _ (zit ht)) hf hx hy hm
          · cases h
        · rename_i z
          split at h
          · rename_i j hz
            cases h; exact zuR (hτ.und _ (zit ht)) hf hx hz hm
          · cases h
        · cases h
      · cases h
    · cases h
  · cases h
def nxP (τ : Tab) (N : Nat) (c : Cur) (fs : List Fr) (E : Env) (B : Kn) : Option (Array Oper × List Oper × List Fr × Env × Kn × Nat × ((α : Type) × Option α × (α → Value))) :=
  match nxO τ N c fs E B with
  | some (all, ⟨some d, op, _, _, _, none⟩, rest, fs, E, B) => match Nat.blt d N with
    | true => match evP τ E op with
      | some p => match zoW d none B with
        | [] => some (all, rest, fs, E, [], d, p)
        | k :: B' => some (all, rest, fs, E, k :: B', d, p)
      | none => none
    | false => none
  | _ => none
theorem bi [TabOk P τ] {m : Option α} {g : α → Option ρ} {enc : α → Value} (h : nxP τ N c fs E B = some (all, rest, fs', E', B', d, ⟨α, m, enc⟩))
    (k : ∀ x, m = some x → S P τ N R Q0 w0 F (.op all rest) fs' ((d, enc x) :: E') B' L (g x)) : S P τ N R Q0 w0 F c fs E B L (m.bind g) := by
  intro a w hf hB hO hm
  obtain ⟨x, hx, hm⟩ := ob hm
  unfold nxP at h
  split at h
  · rename_i h0
    split at h
    · rename_i hN
      split at h
      · rename_i p hp
        refine zoX h0 hf hB fun a hf hB => ?_
        have hs := Kns.put hf hB hN (v := enc x) (k := none) (fun b h => by cases h)
        split at h <;> (rename_i e; cases h; rw [e] at hs; exact zmt (by simp [Region.wanted]) (evP_ok hf hp hx) (k x hx _ w (hf.put hN _) hs hO hm))
      · cases h
    · cases h
  · cases h
abbrev Ret {ρ : Type} (w0 : World) (V : ρ → Value) (R : ρ) : Ending → World → Prop := fun e w' => e = .returned (V R) ∧ Below w0.heap.size w0 w'
theorem nl (e sz : Nat) (k : S P τ N R Q0 w0 F c fs E B (.row (.slice none 0 0) e sz 0 [] :: L) M) : S P τ N R Q0 w0 F c fs E B L M :=
  fun a w hf hB hO hm => k a w hf hB (hO.nilRow e sz) hm
def nxC (τ : Tab) (N : Nat) (c : Cur) (fs : List Fr) (E : Env) (B : Kn) : Option (Array Oper × List Oper × List Fr × Env × Kn × Nat × Nat × List Value) :=
  match nxO τ N c fs E B with
  | some (all, ⟨some d, .call ⟨.value (.func f), ⟨xs⟩, _⟩, _, _, _, none⟩, rest, fs, E, B) => match Nat.blt d N with
    | true => match znN E xs with
      | some vs => match zoW d none B with
        | [] => some (all, rest, fs, E, [], d, f, vs)
        | k :: B' => some (all, rest, fs, E, k :: B', d, f, vs)
      | none => none
    | false => none
  | _ => none
theorem zrV {Q : Exit → Act → World → Prop} {a : Act} {w : World} {f t : Nat} {p : String} {af : Array Edge} {xs : List Operand} {ats : Array TypeId} {vs : List Value} {K : Ending → World → Prop} (hc : ze P f) (hf : Fits N E a) (hB : Kns B a) (hd : Nat.blt d N = true) (hv : znN E xs = some vs)
    (hw : Calls P f vs.toArray w K) (k : ∀ e w', K e w' → ∃ v, e = .returned v ∧ ∀ a, Fits N ((d, v) :: E) a → Kns (zoW d none B) a → wpList P all Q rest a w') :
    wpList P all Q (⟨some d, .call ⟨.value (.func f), ⟨xs⟩, ats⟩, t, p, af, none⟩ :: rest) a w := by
  have hx := zt (w := w) (dst := some d) (t := t) (p := p) (af := af) (gd := none) (ats := ats) hc hf (args := ⟨xs⟩) hv
  unfold wpList
  rw [if_pos (by simp [Region.wanted])]
  left
  unfold Oper.wp
  rw [hx, Oper.upon_enter]
  refine hw.mono fun e w' he => ?_
  obtain ⟨v, rfl, hk⟩ := k e w' he
  exact hk _ (hf.put hd _) (Kns.put hf hB hd fun b h => by cases h)
theorem nxC_ok [TabOk P τ] {a : Act} {w : World} {f : Nat} {vs : List Value} {K : Ending → World → Prop} (hc : ze P f) (h : nxC τ N c fs E B = some (all, rest, fs', E', B', d, f, vs)) (hf : Fits N E a) (hB : Kns B a)
    (hw : Calls P f vs.toArray w K) (k : ∀ e w', K e w' → ∃ v, e = .returned v ∧ ∀ a, Fits N ((d, v) :: E') a → Kns B' a → wpList P all (QS P Q0 fs') rest a w') : wpU P Q0 c fs a w := by
  unfold nxC at h
  split at h
  · rename_i h0
    split at h
    · rename_i hN
      split at h
      · rename_i p hp
        refine zoX h0 hf hB fun a hf hB => ?_
        have hs := fun v => Kns.put hf hB hN (v := v) (k := none) (fun b h => by cases h)
        split at h <;> (rename_i e; cases h; refine zrV hc hf hB hN hp hw fun e1 w' he => ?_; rw [e]; exact k e1 w' he)
      · cases h
    · cases h
  · cases h
theorem cl [TabOk P τ] {f : Nat} {vs : List Value} {m : Option α} {g : α → Option ρ} {enc : α → Value} (hc : ze P f) (h : nxC τ N c fs E B = some (all, rest, fs', E', B', d, f, vs))
    (hw : ∀ x w, m = some x → Own w0 F w L → Calls P f vs.toArray w (Ret w enc x))
    (k : ∀ x, m = some x → S P τ N R Q0 w0 F (.op all rest) fs' ((d, enc x) :: E') B' L (g x)) : S P τ N R Q0 w0 F c fs E B L (m.bind g) := by
  intro a w hf hB hO hm
  obtain ⟨x, hx, hm⟩ := ob hm
  exact nxC_ok hc h hf hB (hw x w hx hO) fun e w' ⟨he, hb⟩ => ⟨_, he, fun a hf hB => k x hx a w' hf hB (hO.grow hb) hm⟩

def nxB (τ : Tab) (N : Nat) (c : Cur) (fs : List Fr) (E : Env) (B : Kn) : Option (Cur × List Fr × Env × Kn × Nat × Bool) :=
  match ziS τ N far c fs E B with
  | (.co (.cond (.tmp s) x y), fs, E, B) => match look E s with
    | some (.bool b) => some (.co (.cond (.tmp s) x y), fs, E, B, s, b)
    | _ => none
  | (.op all (o :: rest), fs, E, B) => match o.guard with
    | some (j, _) => match nth all.toList j with
      | some ⟨some s, _, _, _, _, _⟩ => match look E s with
        | some (.bool b) => some (.op all (o :: rest), fs, E, B, s, b)
        | _ => none
      | _ => none
    | none => none
  | _ => none
theorem zsI [TabOk P τ] {a : Act} {w : World} {b : Bool} (h : nxB τ N c fs E B = some (c', fs', E', B', d, b)) (hf : Fits N E a) (hB : Kns B a)
    (k : ∀ a, Fits N E' a → Kns ((d, some b) :: B') a → wpU P Q0 c' fs' a w) : wpU P Q0 c fs a w := by
  have key : ∀ {s : Nat} {b : Bool} {a : Act} {E : Env} {B : Kn}, Fits N E a → Kns B a → look E s = some (.bool b) → Kns ((s, some b) :: B) a := by
    intro s b a E B hf hB hs d' b' hd
    simp only [lkB] at hd
    by_cases e : Nat.beq s d' = true
    · have : s = d' := by simpa using e
      subst this
      simp at hd; subst hd
      exact hf.has _ _ hs
    · simp only [e] at hd
      exact hB _ _ hd
  unfold nxB at h
  split at h
  · rename_i hd
    split at h
    · rename_i hs
      cases h
      exact zdF hd hf hB fun a hf hB => k a hf (key hf hB hs)
    · cases h
  · rename_i hd
    split at h
    · split at h
      · split at h
        · rename_i hs
          cases h
          exact zdF hd hf hB fun a hf hB => k a hf (key hf hB hs)
        · cases h
      · cases h
    · cases h
  · cases h
theorem br [TabOk P τ] {b : Bool} {A C : Option ρ} (h : nxB τ N c fs E B = some (c', fs', E', B', d, b))
    (k1 : b = true → S P τ N R Q0 w0 F c' fs' E' ((d, some true) :: B') L A) (k0 : b = false → S P τ N R Q0 w0 F c' fs' E' ((d, some false) :: B') L C) :
    S P τ N R Q0 w0 F c fs E B L (if b = true then A else C) := by
  intro a w hf hB hO hm
  refine zsI h hf hB fun a hf hB => ?_
  cases b with
  | true => exact k1 rfl a w hf hB hO hm
  | false => exact k0 rfl a w hf hB hO (by simpa using hm)
theorem kn [TabOk P τ] {b b' : Bool} (hb : b = b') (h : nxB τ N c fs E B = some (c', fs', E', B', d, b))
    (k : S P τ N R Q0 w0 F c' fs' E' ((d, some b') :: B') L M) : S P τ N R Q0 w0 F c fs E B L M := by
  intro a w hf hB hO hm
  subst hb
  exact zsI h hf hB fun a hf hB => k a w hf hB hO hm

def zi7 (K : Act → World → Prop) : Nat → List Fr → Option (List Fr × Code × List Fr)
  | n, .sq y :: fs => match Nat.beq n fs.length with
    | true => some (.ct K :: fs, y, fs)
    | false => match zi7 K n fs with
      | some (l, z, r) => some (.sq y :: l, z, r)
      | none => none
  | n, f :: fs => match zi7 K n fs with
    | some (l, z, r) => some (f :: l, z, r)
    | none => none
  | _, [] => none
theorem zjM {K : Act → World → Prop} {n : Nat} : ∀ {fs l r : List Fr} {y : Code}, zi7 K n fs = some (l, y, r) → (∀ a w, K a w → y.wp P (QS P Q0 r) a w) → ∀ e a w, QS P Q0 l e a w → QS P Q0 fs e a w
  | [], _, _, _, h, _ => by simp [zi7] at h
  | .sq y :: fs, l, r, z, h, hk => by
    unfold zi7 at h
    split at h
    · cases h
      intro e a w q
      cases e <;> first | exact hk _ _ q | exact q
    · split at h
      · rename_i h1
        cases h
        have ih := zjM h1 hk
        intro e a w q
        cases e <;> first | exact Code.wp_mono ih q | exact ih _ _ _ q
      · cases h
  | .ct K' :: fs, l, r, z, h, hk => by
    unfold zi7 at h
    split at h
    · rename_i h1
      cases h
      have ih := zjM h1 hk
      intro e a w q
      cases e <;> first | exact ih _ _ _ q | exact q
    · cases h
  | .bk id :: fs, l, r, z, h, hk => by
    unfold zi7 at h
    split at h
    · rename_i h1
      cases h
      have ih := zjM h1 hk
      intro e a w q
      cases e <;> first
        | exact ih _ _ _ q
        | (simp only [QS, Exit.inBlock] at q ⊢; split at q <;> first | (rename_i hh; rw [if_pos hh]; exact ih _ _ _ q) | (rename_i hh; rw [if_neg hh]; exact ih _ _ _ q))
    · cases h
def nxJ (τ : Tab) (N : Nat) (K : Act → World → Prop) (n : Nat) (c : Cur) (fs : List Fr) (E : Env) (B : Kn) : Option (Cur × List Fr × Env × Kn × Code × List Fr) :=
  match ziS τ N far c fs E B with
  | (c, fs, E, B) => match zi7 K n fs with
    | some (l, y, r) => some (c, l, E, B, y, r)
    | none => none
theorem zsJ {o : Oper} {a : Act} {w : World} {K K' : Act → World → Prop} {Q Q' : Exit → Act → World → Prop} (h : ∀ a w, K a w → K' a w) (hq : ∀ e a w, Q e a w → Q' e a w) (hh : o.wp P a w K Q) : o.wp P a w K' Q' := by
  have hl : LetsOut Q → LetsOut Q' := fun ⟨a, w, q⟩ => ⟨a, w, hq _ _ _ q⟩
  unfold Oper.wp at *
  generalize (execOp a.eval o).run P w = r at *
  cases r with
  | ok n w' =>
    cases n <;> simp only [Oper.upon] at hh ⊢ <;>
      first
        | exact h _ _ hh
        | exact Calls.mono hh (fun e w'' he => by cases e <;> first | exact h _ _ he | exact hq _ _ _ he | exact hl he)
        | exact Rows.mono hh (fun _ _ he => h _ _ he)
  | halt x w' => cases x <;> simp only [Oper.upon] at hh ⊢ <;> first | exact hq _ _ _ hh | exact hh
theorem zmG {Q Q' : Exit → Act → World → Prop} (hq : ∀ e a w, Q e a w → Q' e a w) : ∀ {l : List Oper} {a : Act} {w : World}, wpList P all Q l a w → wpList P all Q' l a w
  | [], a, w, h => hq _ _ _ h
  | o :: l, a, w, h => by
    unfold wpList at h ⊢
    split
    · rename_i hw
      rw [if_pos hw] at h
      rcases h with h | ⟨h1, a, w, h2⟩
      · left
        exact zsJ (fun a w h => zmG hq h) hq h
      · exact .inr ⟨h1, a, w, hq _ _ _ h2⟩
    · rename_i hw
      rw [if_neg hw] at h
      exact zmG hq h
theorem zsK (hq : ∀ e a w, QS P Q0 fs e a w → QS P Q0 fs' e a w) {a : Act} {w : World} (h : wpU P Q0 c fs a w) : wpU P Q0 c fs' a w := by
  cases c with
  | co c => exact Code.wp_mono hq h
  | op all rest => exact zmG hq h
  | no => exact hq _ _ _ h
  | ex id => exact hq _ _ _ h
  | rt => exact hq _ _ _ h
theorem jn [TabOk P τ] (n : Nat) (K : Act → World → Prop) {y : Code} {r : List Fr} (h : nxJ τ N K n c fs E B = some (c', fs', E', B', y, r))
    (k1 : S P τ N R Q0 w0 F c' fs' E' B' L M) (k2 : ∀ a w, K a w → y.wp P (QS P Q0 r) a w) : S P τ N R Q0 w0 F c fs E B L M := by
  intro a w hf hB hO hm
  unfold nxJ at h
  split at h
  rename_i hd
  split at h
  · rename_i h1
    cases h
    exact zdF hd hf hB fun a hf hB => zsK (zjM h1 k2) (k1 a w hf hB hO hm)
  · cases h
def keys : Env → List Nat
  | [] => []
  | (k, _) :: E => k :: keys E
def zoY (E : Env) : List Nat → Option Env
  | [] => some []
  | k :: ks => match look E k with
    | some v => match zoY E ks with
      | some l => some ((k, v) :: l)
      | none => none
    | none => none
theorem Fits.vals {a : Act} (hf : Fits N E a) : ∀ {ks : List Nat} {E' : Env}, zoY E ks = some E' → Fits N E' a
  | [], E', h => by cases h; exact hf.nil
  | k :: ks, E', h => by
    unfold zoY at h
    split at h
    · rename_i v hv
      split at h
      · rename_i l hl
        cases h
        exact hf.cons hv (hf.vals hl)
      · cases h
    · cases h
theorem Fits.sel {a : Act} (hf : Fits N E a) (h : zoY E (keys E') = some E') : Fits N E' a := hf.vals h
theorem en [TabOk P τ] {K : Act → World → Prop} (h : ziS τ N far c fs E B = (.no, .ct K :: fs', E', B'))
    (k : ∀ a w, Fits N E' a → Own w0 F w L → M = some R → K a w) : S P τ N R Q0 w0 F c fs E B L M :=
  fun _ w hf hB hO hm => zdF h hf hB fun a hf _ => k a w hf hO hm
theorem lp [TabOk P τ] (I : Nat → Act → World → Prop) {co : Code} (h : ziS τ N far c fs E B = (.co (.loop co), fs', E', B'))
    (h0 : ∀ a w, Fits N E' a → Own w0 F w L → M = some R → I fuel a w)
    (k : ∀ n a w, I n a w → co.wp P (QS P Q0 (.ct (fun a w => ∃ m, m < n ∧ I m a w) :: fs')) a w) : S P τ N R Q0 w0 F c fs E B L M :=
  fun _ w hf hB hO hm => zdF h hf hB fun a hf _ => zss I (fun n a w hI => k n a w hI) fuel (h0 a w hf hO hm)

def vsOf (E : Env) : List ResultVar → Option (List Value)
  | [] => some []
  | .tmp t :: rs => match look E t with
    | some v => match vsOf E rs with
      | some vs => some (v :: vs)
      | none => none
    | none => none
  | _ => none
theorem zoZ {w : World} : ∀ {rs : List ResultVar} {vs : List Value}, vsOf E rs = some vs → ResV P w E rs vs
  | [], vs, h => by cases h; exact .nil
  | .tmp t :: rs, vs, h => by
    unfold vsOf at h
    split at h
    · rename_i v hv
      split at h
      · rename_i l hl
        cases h
        exact .tmp hv (zoZ hl)
      · cases h
    · cases h
  | .cell _ _ :: _, _, h => by cases h
def nxR (τ : Tab) (N : Nat) (rs : List ResultVar) (c : Cur) (fs : List Fr) (E : Env) (B : Kn) : Option Value :=
  match ziS τ N far c fs E B with
  | (.rt, [], E, _) => match vsOf E rs with
    | some vs => some (tup vs)
    | none => none
  | (.no, [], E, _) => match vsOf E rs with
    | some vs => some (tup vs)
    | none => none
  | _ => none
theorem rt [TabOk P τ] {fn : Func} {rs : List ResultVar} {r : ρ} {V : ρ → Value} (hr : fn.results = rs.toArray) (h : nxR τ N rs c fs E B = some (V r)) :
    S P τ N R (bodyPost P fn (Ret w0 V R)) w0 [] c fs E B L (some r) := by
  intro a w hf hB hO hm
  obtain rfl := Option.some.inj hm
  unfold nxR at h
  split at h
  · rename_i hd
    split at h
    · rename_i vs hv
      refine zdF hd hf hB fun a hf _ => ?_
      exact zf (R := fun e w' => e = .returned (V r) ∧ Below w0.heap.size w0 w') hr hf (zoZ hv) ⟨by rw [Option.some.inj h], hO.below⟩
    · cases h
  · rename_i hd
    split at h
    · rename_i vs hv
      refine zdF hd hf hB fun a hf _ => ?_
      exact zt9 (R := fun e w' => e = .returned (V r) ∧ Below w0.heap.size w0 w') hr hf (zoZ hv) ⟨by rw [Option.some.inj h], hO.below⟩
    · cases h
  · cases h
end
end Go.Dk
end
section
set_option linter.unusedVariables false
set_option linter.unusedSimpArgs false
namespace Go.Proofs
open Go.Dk Go.Dm Go.RowKit

theorem ztk {P : Program} {w0 w : World} {n : String} {g : Nat} (hg : P.globalNamed n = some g) (h : w.heap[g]? = w0.heap[g]?) : w.var? P n = w0.var? P n := by
  unfold World.var?
  rw [hg]
  simp only [Option.bind_some, h]
def zD (w : World) : Prop := 6 ≤ w.heap.size ∧ (∃ m, w.cell? ⟨0, 0, none⟩ = some (.int .i64 m))
def zG (F : List Nat) : Prop := ∀ b ∈ F, 6 ≤ b
theorem zg : zG [] := fun b hb => by cases hb
theorem zD.same {w0 w : World} (h : zD w0) (hs : w0.heap.size ≤ w.heap.size) (hf : ∀ g, g < 6 → w.heap[g]? = w0.heap[g]?) : zD w := by
  obtain ⟨h0, ⟨m, hm0⟩⟩ := h
  exact ⟨Nat.le_trans h0 hs, ⟨m, (World.cell?_of_block (w := w0) (a := ⟨0, 0, none⟩) (hf 0 (by omega))).trans hm0⟩⟩
theorem zD.low {w0 w : World} {B : Nat} (h : zD w0) (hB : 6 ≤ B) (hb : Below B w0 w) : zD w :=
  h.same hb.size fun g hg => hb.block g (by omega)
theorem zD.size {w : World} (h : zD w) : 6 ≤ w.heap.size := h.1
theorem zD.max {w : World} (h : zD w) : (∃ m, w.cell? ⟨0, 0, none⟩ = some (.int .i64 m)) := h.2
theorem zD.own {w0 w : World} {F : List Nat} {L : List Res} (h : zD w0) (hF : zG F) (hO : Own w0 F w L) : zD w :=
  h.same hO.size fun g hg => hO.frame g (by have := h.size; omega) (fun hm => absurd (hF g hm) (by omega))
def zbB (w : World) : Prop := zD w ∧ Go.Lib.TabIs Tryz.prog w "internal/strconv.uint64pow10" .u64 Go.Lib.pow10Tab
theorem zbB.same {w0 w : World} (h : zbB w0) (hs : w0.heap.size ≤ w.heap.size) (hf : ∀ g, g < 6 → w.heap[g]? = w0.heap[g]?) : zbB w := by
  obtain ⟨h, hp⟩ := h
  exact ⟨h.same hs hf, by unfold Go.Lib.TabIs at hp ⊢; rw [← hp]; exact ztk (show Tryz.prog.globalNamed "internal/strconv.uint64pow10" = some 3 by kernel_rfl) (hf 3 (by omega))⟩
theorem zbB.low {w0 w : World} {B : Nat} (h : zbB w0) (hB : 6 ≤ B) (hb : Below B w0 w) : zbB w :=
  h.same hb.size fun g hg => hb.block g (by omega)
theorem zbB.size {w : World} (h : zbB w) : 6 ≤ w.heap.size := h.1.size
theorem zbB.own {w0 w : World} {F : List Nat} {L : List Res} (h : zbB w0) (hF : zG F) (hO : Own w0 F w L) : zbB w :=
  h.same hO.size fun g hg => hO.frame g (by have := h.size; omega) (fun hm => absurd (hF g hm) (by omega))
def za (x : api_Field) : List Value := [str x.Name, str x.Value]
def zh (x : UInt8) : List Value := [zY x]
def zj (x : Str) : List Value := [str x]
theorem zpt : zhF Tryz.prog 105 = some false := by kernel_rfl
theorem zcI : zhF Tryz.prog 107 = some true := by kernel_rfl
theorem zad : zhF Tryz.prog 109 = some true := by kernel_rfl
theorem zlC : zhF Tryz.prog 125 = some true := by kernel_rfl
theorem znu : zhF Tryz.prog 22 = some false := by kernel_rfl
theorem zjy : zhF Tryz.prog 23 = some false := by kernel_rfl
theorem ztl : zhF Tryz.prog 26 = some false := by kernel_rfl
theorem zfz : zhF Tryz.prog 3 = some false := by kernel_rfl
theorem zkf : zhF Tryz.prog 33 = some false := by kernel_rfl
theorem zau : zhF Tryz.prog 35 = some true := by kernel_rfl
theorem ag_4 : zhF Tryz.prog 4 = some false := by kernel_rfl
theorem zqq : zhF Tryz.prog 44 = some true := by kernel_rfl
theorem ag_5 : zhF Tryz.prog 5 = some false := by kernel_rfl
theorem zf3 : zhF Tryz.prog 69 = some true := by kernel_rfl
theorem za6 : zhF Tryz.prog 9 = some false := by kernel_rfl
theorem zhz : zhF Tryz.prog 95 = some false := by kernel_rfl
theorem zfU : ∀ w, (Instr.alloc 107 true (.tuple #[])).run Tryz.prog w = .ok (ptr w.heap.size 0) (w.alloc (.cells [int 0, str [], int 0].toArray 107)) := fun w => by kernel_rfl
theorem zgf : ∀ w, (Instr.alloc 109 true (.tuple #[])).run Tryz.prog w = .ok (ptr w.heap.size 0) (w.alloc (.cells [int 0, str [], int 0, str [], int 0, str [], str [], .bool false].toArray 109)) := fun w => by kernel_rfl
theorem zq9 : ∀ w, (Instr.alloc 125 true (.tuple #[])).run Tryz.prog w = .ok (ptr w.heap.size 0) (w.alloc (.cells [.pointer none].toArray 125)) := fun w => by kernel_rfl
theorem zgH : ∀ w, (Instr.alloc 35 true (.tuple #[])).run Tryz.prog w = .ok (ptr w.heap.size 0) (w.alloc (.cells [int 0, str [], str [], int 0, str [], int 0, .slice none 0 0].toArray 35)) := fun w => by kernel_rfl
theorem al_44 : ∀ w, (Instr.alloc 44 true (.tuple #[])).run Tryz.prog w = .ok (ptr w.heap.size 0) (w.alloc (.cells [int 0, int 0, int 0, str [], str [], int 0, str [], int 0, .slice none 0 0].toArray 44)) := fun w => by kernel_rfl
theorem zoD : ∀ w, (Instr.alloc 69 true (.tuple #[])).run Tryz.prog w = .ok (ptr w.heap.size 0) (w.alloc (.cells [str [], str []].toArray 69)) := fun w => by kernel_rfl
theorem ei_23 : (Tryz.prog.info? 5).map (fun i => (i.zero, i.size, i.bytes)) = some (some (zY 0), 1, 1) := by kernel_rfl
theorem el_23 : Elem Tryz.prog 23 5 1 1 := ⟨Tryz.underlying23, by obtain ⟨i, h0, h1, h2, h3⟩ := info_parts ei_23; exact ⟨i, _, h0, h1, h2, h3, rfl⟩, by decide⟩
theorem ei_31 : (Tryz.prog.info? 9).map (fun i => (i.zero, i.size, i.bytes)) = some (some (str []), 1, 16) := by kernel_rfl
theorem zoE : Elem Tryz.prog 31 9 1 16 := ⟨Tryz.underlying31, by obtain ⟨i, h0, h1, h2, h3⟩ := info_parts ei_31; exact ⟨i, _, h0, h1, h2, h3, rfl⟩, by decide⟩
theorem ei_33 : (Tryz.prog.info? 69).map (fun i => (i.zero, i.size, i.bytes)) = some (some (.agg #[str [], str []]), 2, 32) := by kernel_rfl
theorem zrG : Elem Tryz.prog 33 69 2 32 := ⟨Tryz.underlying33, by obtain ⟨i, h0, h1, h2, h3⟩ := info_parts ei_33; exact ⟨i, _, h0, h1, h2, h3, rfl⟩, by decide⟩
theorem eqd_69 (d : Nat) (x y : api_Field) (w : World) : (Op.equalIn (d + 2) 69 (.agg #[str x.Name, str x.Value]) (.agg #[str y.Name, str y.Value])).run Tryz.prog w = .ok (x == y) w := by
  obtain ⟨x0, x1⟩ := x
  obtain ⟨y0, y1⟩ := y
  show (Op.equalIn (d + 1 + 1) 69 _ _).run _ _ = _
  rw [run_equalIn_struct w (d + 1) 69 _ _ (by kernel_rfl) (by kernel_rfl)]
  have e : ((⟨x0, x1⟩ : api_Field) == ⟨y0, y1⟩) = decide (x0 = y0 ∧ x1 = y1) := by
    show decide (_ = _) = _
    exact decide_eq_decide.2 (by simp)
  rw [e]
  simp only [Program.fieldsOf, Tryz.underlying69, Op.eqFields]
  simp [part, Tryz.isAgg9, Tryz.underlying9, run_equalIn_string, run_equalIn_bool', run_equalIn_int, znQ, Result.andThen, zpD]
  by_cases h0 : x0 = y0 <;> by_cases h1 : x1 = y1 <;> simp [h0, h1]
theorem eq_69 (x y : api_Field) (w : World) : (Op.equalIn 10000 69 (.agg #[str x.Name, str x.Value]) (.agg #[str y.Name, str y.Value])).run Tryz.prog w = .ok (x == y) w := eqd_69 9998 x y w
theorem znv : ∀ b o w, (Instr.fieldAt 107 (ptr b o) 0).run Tryz.prog w = .ok (ptr b (o + 0)) w := fun b o w => by kernel_rfl
theorem zqr : ∀ b o w, (Instr.fieldAt 107 (ptr b o) 1).run Tryz.prog w = .ok (ptr b (o + 1)) w := fun b o w => by kernel_rfl
theorem ztm : ∀ b o w, (Instr.fieldAt 107 (ptr b o) 2).run Tryz.prog w = .ok (ptr b (o + 2)) w := fun b o w => by kernel_rfl
theorem ztn : ∀ b o w, (Instr.fieldAt 109 (ptr b o) 1).run Tryz.prog w = .ok (ptr b (o + 1)) w := fun b o w => by kernel_rfl
theorem zto : ∀ b o w, (Instr.fieldAt 109 (ptr b o) 2).run Tryz.prog w = .ok (ptr b (o + 2)) w := fun b o w => by kernel_rfl
theorem znw : ∀ b o w, (Instr.fieldAt 109 (ptr b o) 3).run Tryz.prog w = .ok (ptr b (o + 5)) w := fun b o w => by kernel_rfl
theorem zqs : ∀ b o w, (Instr.fieldAt 109 (ptr b o) 4).run Tryz.prog w = .ok (ptr b (o + 6)) w := fun b o w => by kernel_rfl
theorem ztp : ∀ b o w, (Instr.fieldAt 109 (ptr b o) 5).run Tryz.prog w = .ok (ptr b (o + 7)) w := fun b o w => by kernel_rfl
theorem ztq : ∀ b o w, (Instr.fieldAt 115 (ptr b o) 0).run Tryz.prog w = .ok (ptr b (o + 0)) w := fun b o w => by kernel_rfl
theorem ztr : ∀ b o w, (Instr.fieldAt 115 (ptr b o) 1).run Tryz.prog w = .ok (ptr b (o + 1)) w := fun b o w => by kernel_rfl
theorem zts : ∀ b o w, (Instr.fieldAt 125 (ptr b o) 0).run Tryz.prog w = .ok (ptr b (o + 0)) w := fun b o w => by kernel_rfl
theorem zk3 : ∀ b o w, (Instr.fieldAt 139 (ptr b o) 0).run Tryz.prog w = .ok (ptr b (o + 0)) w := fun b o w => by kernel_rfl
theorem zk4 : ∀ b o w, (Instr.fieldAt 139 (ptr b o) 1).run Tryz.prog w = .ok (ptr b (o + 1)) w := fun b o w => by kernel_rfl
theorem ztt : ∀ b o w, (Instr.fieldAt 177 (ptr b o) 0).run Tryz.prog w = .ok (ptr b (o + 0)) w := fun b o w => by kernel_rfl
theorem zuu : ∀ b o w, (Instr.fieldAt 35 (ptr b o) 0).run Tryz.prog w = .ok (ptr b (o + 0)) w := fun b o w => by kernel_rfl
theorem zuv : ∀ b o w, (Instr.fieldAt 35 (ptr b o) 1).run Tryz.prog w = .ok (ptr b (o + 1)) w := fun b o w => by kernel_rfl
theorem zuw : ∀ b o w, (Instr.fieldAt 35 (ptr b o) 2).run Tryz.prog w = .ok (ptr b (o + 2)) w := fun b o w => by kernel_rfl
theorem zux : ∀ b o w, (Instr.fieldAt 35 (ptr b o) 3).run Tryz.prog w = .ok (ptr b (o + 3)) w := fun b o w => by kernel_rfl
theorem zuy : ∀ b o w, (Instr.fieldAt 35 (ptr b o) 4).run Tryz.prog w = .ok (ptr b (o + 4)) w := fun b o w => by kernel_rfl
theorem zuz : ∀ b o w, (Instr.fieldAt 35 (ptr b o) 5).run Tryz.prog w = .ok (ptr b (o + 5)) w := fun b o w => by kernel_rfl
theorem zuA : ∀ b o w, (Instr.fieldAt 35 (ptr b o) 6).run Tryz.prog w = .ok (ptr b (o + 6)) w := fun b o w => by kernel_rfl
theorem zuB : ∀ b o w, (Instr.fieldAt 44 (ptr b o) 0).run Tryz.prog w = .ok (ptr b (o + 0)) w := fun b o w => by kernel_rfl
theorem zmz : ∀ b o w, (Instr.fieldAt 44 (ptr b o) 1).run Tryz.prog w = .ok (ptr b (o + 1)) w := fun b o w => by kernel_rfl
theorem zuC : ∀ b o w, (Instr.fieldAt 44 (ptr b o) 2).run Tryz.prog w = .ok (ptr b (o + 2)) w := fun b o w => by kernel_rfl
theorem zrH : ∀ b o w, (Instr.fieldAt 61 (ptr b o) 0).run Tryz.prog w = .ok (ptr b (o + 0)) w := fun b o w => by kernel_rfl
theorem zpu : ∀ b o w, (Instr.fieldAt 61 (ptr b o) 1).run Tryz.prog w = .ok (ptr b (o + 1)) w := fun b o w => by kernel_rfl
theorem zk5 : ∀ b o w, (Instr.fieldAt 61 (ptr b o) 2).run Tryz.prog w = .ok (ptr b (o + 2)) w := fun b o w => by kernel_rfl
theorem zrI : ∀ b o w, (Instr.fieldAt 61 (ptr b o) 3).run Tryz.prog w = .ok (ptr b (o + 3)) w := fun b o w => by kernel_rfl
theorem zuD : ∀ b o w, (Instr.fieldAt 61 (ptr b o) 4).run Tryz.prog w = .ok (ptr b (o + 4)) w := fun b o w => by kernel_rfl
theorem zrJ : ∀ b o w, (Instr.fieldAt 61 (ptr b o) 5).run Tryz.prog w = .ok (ptr b (o + 5)) w := fun b o w => by kernel_rfl
theorem zrK : ∀ b o w, (Instr.fieldAt 61 (ptr b o) 6).run Tryz.prog w = .ok (ptr b (o + 6)) w := fun b o w => by kernel_rfl
theorem zrL : ∀ b o w, (Instr.fieldAt 61 (ptr b o) 7).run Tryz.prog w = .ok (ptr b (o + 7)) w := fun b o w => by kernel_rfl
theorem zuE : ∀ b o w, (Instr.fieldAt 69 (ptr b o) 0).run Tryz.prog w = .ok (ptr b (o + 0)) w := fun b o w => by kernel_rfl
theorem zuF : ∀ b o w, (Instr.fieldAt 69 (ptr b o) 1).run Tryz.prog w = .ok (ptr b (o + 1)) w := fun b o w => by kernel_rfl
theorem zuG : ∀ b o w, (Instr.fieldAt 80 (ptr b o) 0).run Tryz.prog w = .ok (ptr b (o + 0)) w := fun b o w => by kernel_rfl
theorem zuH : ∀ b o w, (Instr.fieldAt 80 (ptr b o) 1).run Tryz.prog w = .ok (ptr b (o + 1)) w := fun b o w => by kernel_rfl
theorem zrM : ∀ (b : Nat) (w : World), (Instr.indexAt 42 (ptr b 0) (int 0)).run Tryz.prog w = .ok (ptr b 0) w := fun b w => by kernel_rfl
theorem zrN : ∀ (b : Nat) (w : World), (Instr.indexAt 42 (ptr b 0) (int 1)).run Tryz.prog w = .ok (ptr b 1) w := fun b w => by kernel_rfl
theorem zra : zc3 Tryz.prog 105 = some 1 := by kernel_rfl
theorem zW : zc3 Tryz.prog 107 = some 3 := by kernel_rfl
theorem zB : zc3 Tryz.prog 109 = some 8 := by kernel_rfl
theorem ziI : zc3 Tryz.prog 125 = some 1 := by kernel_rfl
theorem sz_23 : zc3 Tryz.prog 23 = some 1 := by kernel_rfl
theorem sz_26 : zc3 Tryz.prog 26 = some 1 := by kernel_rfl
theorem zrb : zc3 Tryz.prog 3 = some 1 := by kernel_rfl
theorem ztu : zc3 Tryz.prog 33 = some 1 := by kernel_rfl
theorem zA : zc3 Tryz.prog 35 = some 7 := by kernel_rfl
theorem sz_4 : zc3 Tryz.prog 4 = some 1 := by kernel_rfl
theorem zjz : zc3 Tryz.prog 44 = some 9 := by kernel_rfl
theorem sz_5 : zc3 Tryz.prog 5 = some 1 := by kernel_rfl
theorem zbt : zc3 Tryz.prog 69 = some 2 := by kernel_rfl
theorem zeB : zc3 Tryz.prog 9 = some 1 := by kernel_rfl
def tb : Tab := ⟨[(9, .string), (23, .slice 5), (31, .slice 9), (33, .slice 69)], [(35, 0, 0), (35, 1, 1), (35, 2, 2), (35, 3, 3), (35, 4, 4), (35, 5, 5), (35, 6, 6), (44, 0, 0), (44, 1, 1), (44, 2, 2), (61, 0, 0), (61, 1, 1), (61, 2, 2), (61, 3, 3), (61, 4, 4), (61, 5, 5), (61, 6, 6), (61, 7, 7), (69, 0, 0), (69, 1, 1), (80, 0, 0), (80, 1, 1), (107, 0, 0), (107, 1, 1), (107, 2, 2), (109, 1, 1), (109, 2, 2), (109, 3, 5), (109, 4, 6), (109, 5, 7), (115, 0, 0), (115, 1, 1), (125, 0, 0), (139, 0, 0), (139, 1, 1), (177, 0, 0)]⟩
instance : TabOk Tryz.prog tb := ⟨zmD ⟨Tryz.underlying9, ⟨Tryz.underlying23, ⟨Tryz.underlying31, ⟨Tryz.underlying33, trivial⟩⟩⟩⟩, zmD ⟨zuu, ⟨zuv, ⟨zuw, ⟨zux, ⟨zuy, ⟨zuz, ⟨zuA, ⟨zuB, ⟨zmz, ⟨zuC, ⟨zrH, ⟨zpu, ⟨zk5, ⟨zrI, ⟨zuD, ⟨zrJ, ⟨zrK, ⟨zrL, ⟨zuE, ⟨zuF, ⟨zuG, ⟨zuH, ⟨znv, ⟨zqr, ⟨ztm, ⟨ztn, ⟨zto, ⟨znw, ⟨zqs, ⟨ztp, ⟨ztq, ⟨ztr, ⟨zts, ⟨zk3, ⟨zk4, ⟨ztt, trivial⟩⟩⟩⟩⟩⟩⟩⟩⟩⟩⟩⟩⟩⟩⟩⟩⟩⟩⟩⟩⟩⟩⟩⟩⟩⟩⟩⟩⟩⟩⟩⟩⟩⟩⟩⟩⟩
theorem c_8 : ze Tryz.prog 8 := ⟨Tryz.f8, Tryz.func8, rfl, by kernel_rfl⟩
theorem c_9 : ze Tryz.prog 9 := ⟨Tryz.f9, Tryz.func9, rfl, by kernel_rfl⟩
theorem c_10 : ze Tryz.prog 10 := ⟨Tryz.f10, Tryz.func10, rfl, by kernel_rfl⟩
theorem c_11 : ze Tryz.prog 11 := ⟨Tryz.f11, Tryz.func11, rfl, by kernel_rfl⟩
theorem c_12 : ze Tryz.prog 12 := ⟨Tryz.f12, Tryz.func12, rfl, by kernel_rfl⟩
theorem c_13 : ze Tryz.prog 13 := ⟨Tryz.f13, Tryz.func13, rfl, by kernel_rfl⟩
theorem c_14 : ze Tryz.prog 14 := ⟨Tryz.f14, Tryz.func14, rfl, by kernel_rfl⟩
theorem c_15 : ze Tryz.prog 15 := ⟨Tryz.f15, Tryz.func15, rfl, by kernel_rfl⟩
theorem c_16 : ze Tryz.prog 16 := ⟨Tryz.f16, Tryz.func16, rfl, by kernel_rfl⟩
theorem c_17 : ze Tryz.prog 17 := ⟨Tryz.f17, Tryz.func17, rfl, by kernel_rfl⟩
theorem c_18 : ze Tryz.prog 18 := ⟨Tryz.f18, Tryz.func18, rfl, by kernel_rfl⟩
theorem c_25 : ze Tryz.prog 25 := ⟨Tryz.f25, Tryz.func25, rfl, by kernel_rfl⟩
theorem c_27 : ze Tryz.prog 27 := ⟨Tryz.f27, Tryz.func27, rfl, by kernel_rfl⟩
theorem c_28 : ze Tryz.prog 28 := ⟨Tryz.f28, Tryz.func28, rfl, by kernel_rfl⟩
theorem c_29 : ze Tryz.prog 29 := ⟨Tryz.f29, Tryz.func29, rfl, by kernel_rfl⟩
theorem c_30 : ze Tryz.prog 30 := ⟨Tryz.f30, Tryz.func30, rfl, by kernel_rfl⟩
theorem c_31 : ze Tryz.prog 31 := ⟨Tryz.f31, Tryz.func31, rfl, by kernel_rfl⟩
theorem c_32 : ze Tryz.prog 32 := ⟨Tryz.f32, Tryz.func32, rfl, by kernel_rfl⟩
theorem c_33 : ze Tryz.prog 33 := ⟨Tryz.f33, Tryz.func33, rfl, by kernel_rfl⟩
theorem c_34 : ze Tryz.prog 34 := ⟨Tryz.f34, Tryz.func34, rfl, by kernel_rfl⟩
theorem c_35 : ze Tryz.prog 35 := ⟨Tryz.f35, Tryz.func35, rfl, by kernel_rfl⟩
theorem c_36 : ze Tryz.prog 36 := ⟨Tryz.f36, Tryz.func36, rfl, by kernel_rfl⟩
theorem c_45 : ze Tryz.prog 45 := ⟨Tryz.f45, Tryz.func45, rfl, by kernel_rfl⟩
theorem c_48 : ze Tryz.prog 48 := ⟨Tryz.f48, Tryz.func48, rfl, by kernel_rfl⟩
theorem c_50 : ze Tryz.prog 50 := ⟨Tryz.f50, Tryz.func50, rfl, by kernel_rfl⟩
theorem c_51 : ze Tryz.prog 51 := ⟨Tryz.f51, Tryz.func51, rfl, by kernel_rfl⟩
theorem c_52 : ze Tryz.prog 52 := ⟨Tryz.f52, Tryz.func52, rfl, by kernel_rfl⟩
theorem c_53 : ze Tryz.prog 53 := ⟨Tryz.f53, Tryz.func53, rfl, by kernel_rfl⟩
theorem c_54 : ze Tryz.prog 54 := ⟨Tryz.f54, Tryz.func54, rfl, by kernel_rfl⟩
theorem c_57 : ze Tryz.prog 57 := ⟨Tryz.f57, Tryz.func57, rfl, by kernel_rfl⟩
theorem c_58 : ze Tryz.prog 58 := ⟨Tryz.f58, Tryz.func58, rfl, by kernel_rfl⟩
theorem c_59 : ze Tryz.prog 59 := ⟨Tryz.f59, Tryz.func59, rfl, by kernel_rfl⟩
theorem zrc : ze Tryz.prog 60 := ⟨Tryz.f60, Tryz.func60, rfl, by kernel_rfl⟩
theorem c_61 : ze Tryz.prog 61 := ⟨Tryz.f61, Tryz.func61, rfl, by kernel_rfl⟩
theorem c_62 : ze Tryz.prog 62 := ⟨Tryz.f62, Tryz.func62, rfl, by kernel_rfl⟩
theorem c_63 : ze Tryz.prog 63 := ⟨Tryz.f63, Tryz.func63, rfl, by kernel_rfl⟩
theorem c_64 : ze Tryz.prog 64 := ⟨Tryz.f64, Tryz.func64, rfl, by kernel_rfl⟩
theorem c_65 : ze Tryz.prog 65 := ⟨Tryz.f65, Tryz.func65, rfl, by kernel_rfl⟩
theorem c_66 : ze Tryz.prog 66 := ⟨Tryz.f66, Tryz.func66, rfl, by kernel_rfl⟩
theorem c_67 : ze Tryz.prog 67 := ⟨Tryz.f67, Tryz.func67, rfl, by kernel_rfl⟩
theorem c_68 : ze Tryz.prog 68 := ⟨Tryz.f68, Tryz.func68, rfl, by kernel_rfl⟩
theorem c_69 : ze Tryz.prog 69 := ⟨Tryz.f69, Tryz.func69, rfl, by kernel_rfl⟩
theorem c_70 : ze Tryz.prog 70 := ⟨Tryz.f70, Tryz.func70, rfl, by kernel_rfl⟩
theorem c_71 : ze Tryz.prog 71 := ⟨Tryz.f71, Tryz.func71, rfl, by kernel_rfl⟩
theorem c_72 : ze Tryz.prog 72 := ⟨Tryz.f72, Tryz.func72, rfl, by kernel_rfl⟩
theorem c_73 : ze Tryz.prog 73 := ⟨Tryz.f73, Tryz.func73, rfl, by kernel_rfl⟩
theorem c_74 : ze Tryz.prog 74 := ⟨Tryz.f74, Tryz.func74, rfl, by kernel_rfl⟩
theorem c_75 : ze Tryz.prog 75 := ⟨Tryz.f75, Tryz.func75, rfl, by kernel_rfl⟩
theorem c_78 : ze Tryz.prog 78 := ⟨Tryz.f78, Tryz.func78, rfl, by kernel_rfl⟩
theorem c_79 : ze Tryz.prog 79 := ⟨Tryz.f79, Tryz.func79, rfl, by kernel_rfl⟩
theorem c_80 : ze Tryz.prog 80 := ⟨Tryz.f80, Tryz.func80, rfl, by kernel_rfl⟩
theorem c_82 : ze Tryz.prog 82 := ⟨Tryz.f82, Tryz.func82, rfl, by kernel_rfl⟩
theorem c_83 : ze Tryz.prog 83 := ⟨Tryz.f83, Tryz.func83, rfl, by kernel_rfl⟩
theorem c_84 : ze Tryz.prog 84 := ⟨Tryz.f84, Tryz.func84, rfl, by kernel_rfl⟩
theorem c_85 : ze Tryz.prog 85 := ⟨Tryz.f85, Tryz.func85, rfl, by kernel_rfl⟩
theorem c_86 : ze Tryz.prog 86 := ⟨Tryz.f86, Tryz.func86, rfl, by kernel_rfl⟩
theorem c_87 : ze Tryz.prog 87 := ⟨Tryz.f87, Tryz.func87, rfl, by kernel_rfl⟩
theorem c_88 : ze Tryz.prog 88 := ⟨Tryz.f88, Tryz.func88, rfl, by kernel_rfl⟩
theorem c_89 : ze Tryz.prog 89 := ⟨Tryz.f89, Tryz.func89, rfl, by kernel_rfl⟩
theorem c_90 : ze Tryz.prog 90 := ⟨Tryz.f90, Tryz.func90, rfl, by kernel_rfl⟩
theorem zrd : ze Tryz.prog 91 := ⟨Tryz.f91, Tryz.func91, rfl, by kernel_rfl⟩
theorem c_92 : ze Tryz.prog 92 := ⟨Tryz.f92, Tryz.func92, rfl, by kernel_rfl⟩
theorem c_99 : ze Tryz.prog 99 := ⟨Tryz.f99, Tryz.func99, rfl, by kernel_rfl⟩
theorem c_100 : ze Tryz.prog 100 := ⟨Tryz.f100, Tryz.func100, rfl, by kernel_rfl⟩
theorem ztw : ze Tryz.prog 101 := ⟨Tryz.f101, Tryz.func101, rfl, by kernel_rfl⟩
theorem c_102 : ze Tryz.prog 102 := ⟨Tryz.f102, Tryz.func102, rfl, by kernel_rfl⟩
theorem c_110 : ze Tryz.prog 110 := ⟨Tryz.f110, Tryz.func110, rfl, by kernel_rfl⟩
theorem c_111 : ze Tryz.prog 111 := ⟨Tryz.f111, Tryz.func111, rfl, by kernel_rfl⟩
theorem ztx : ze Tryz.prog 112 := ⟨Tryz.f112, Tryz.func112, rfl, by kernel_rfl⟩
theorem c_113 : ze Tryz.prog 113 := ⟨Tryz.f113, Tryz.func113, rfl, by kernel_rfl⟩
theorem c_114 : ze Tryz.prog 114 := ⟨Tryz.f114, Tryz.func114, rfl, by kernel_rfl⟩
theorem c_115 : ze Tryz.prog 115 := ⟨Tryz.f115, Tryz.func115, rfl, by kernel_rfl⟩
theorem zty : ze Tryz.prog 116 := ⟨Tryz.f116, Tryz.func116, rfl, by kernel_rfl⟩
theorem c_117 : ze Tryz.prog 117 := ⟨Tryz.f117, Tryz.func117, rfl, by kernel_rfl⟩
theorem c_118 : ze Tryz.prog 118 := ⟨Tryz.f118, Tryz.func118, rfl, by kernel_rfl⟩
theorem c_119 : ze Tryz.prog 119 := ⟨Tryz.f119, Tryz.func119, rfl, by kernel_rfl⟩
theorem zrO : ze Tryz.prog 120 := ⟨Tryz.f120, Tryz.func120, rfl, by kernel_rfl⟩
theorem c_121 : ze Tryz.prog 121 := ⟨Tryz.f121, Tryz.func121, rfl, by kernel_rfl⟩
theorem c_122 : ze Tryz.prog 122 := ⟨Tryz.f122, Tryz.func122, rfl, by kernel_rfl⟩
theorem c_125 : ze Tryz.prog 125 := ⟨Tryz.f125, Tryz.func125, rfl, by kernel_rfl⟩
theorem c_126 : ze Tryz.prog 126 := ⟨Tryz.f126, Tryz.func126, rfl, by kernel_rfl⟩
theorem c_127 : ze Tryz.prog 127 := ⟨Tryz.f127, Tryz.func127, rfl, by kernel_rfl⟩
theorem c_131 : ze Tryz.prog 131 := ⟨Tryz.f131, Tryz.func131, rfl, by kernel_rfl⟩
theorem c_132 : ze Tryz.prog 132 := ⟨Tryz.f132, Tryz.func132, rfl, by kernel_rfl⟩
theorem c_133 : ze Tryz.prog 133 := ⟨Tryz.f133, Tryz.func133, rfl, by kernel_rfl⟩
theorem c_134 : ze Tryz.prog 134 := ⟨Tryz.f134, Tryz.func134, rfl, by kernel_rfl⟩
theorem c_136 : ze Tryz.prog 136 := ⟨Tryz.f136, Tryz.func136, rfl, by kernel_rfl⟩
theorem c_142 : ze Tryz.prog 142 := ⟨Tryz.f142, Tryz.func142, rfl, by kernel_rfl⟩
theorem zrP : ze Tryz.prog 143 := ⟨Tryz.f143, Tryz.func143, rfl, by kernel_rfl⟩
theorem c_146 : ze Tryz.prog 146 := ⟨Tryz.f146, Tryz.func146, rfl, by kernel_rfl⟩
theorem c_147 : ze Tryz.prog 147 := ⟨Tryz.f147, Tryz.func147, rfl, by kernel_rfl⟩
theorem c_148 : ze Tryz.prog 148 := ⟨Tryz.f148, Tryz.func148, rfl, by kernel_rfl⟩
theorem c_149 : ze Tryz.prog 149 := ⟨Tryz.f149, Tryz.func149, rfl, by kernel_rfl⟩
theorem c_150 : ze Tryz.prog 150 := ⟨Tryz.f150, Tryz.func150, rfl, by kernel_rfl⟩
theorem zoF : ze Tryz.prog 151 := ⟨Tryz.f151, Tryz.func151, rfl, by kernel_rfl⟩
theorem c_152 : ze Tryz.prog 152 := ⟨Tryz.f152, Tryz.func152, rfl, by kernel_rfl⟩
theorem c_153 : ze Tryz.prog 153 := ⟨Tryz.f153, Tryz.func153, rfl, by kernel_rfl⟩
theorem zqt : ze Tryz.prog 154 := ⟨Tryz.f154, Tryz.func154, rfl, by kernel_rfl⟩
theorem c_155 : ze Tryz.prog 155 := ⟨Tryz.f155, Tryz.func155, rfl, by kernel_rfl⟩
theorem c_160 : ze Tryz.prog 160 := ⟨Tryz.f160, Tryz.func160, rfl, by kernel_rfl⟩
theorem c_161 : ze Tryz.prog 161 := ⟨Tryz.f161, Tryz.func161, rfl, by kernel_rfl⟩
theorem c_162 : ze Tryz.prog 162 := ⟨Tryz.f162, Tryz.func162, rfl, by kernel_rfl⟩
theorem c_163 : ze Tryz.prog 163 := ⟨Tryz.f163, Tryz.func163, rfl, by kernel_rfl⟩
theorem c_165 : ze Tryz.prog 165 := ⟨Tryz.f165, Tryz.func165, rfl, by kernel_rfl⟩
theorem c_166 : ze Tryz.prog 166 := ⟨Tryz.f166, Tryz.func166, rfl, by kernel_rfl⟩
theorem ztz : ze Tryz.prog 167 := ⟨Tryz.f167, Tryz.func167, rfl, by kernel_rfl⟩
theorem c_168 : ze Tryz.prog 168 := ⟨Tryz.f168, Tryz.func168, rfl, by kernel_rfl⟩
theorem c_169 : ze Tryz.prog 169 := ⟨Tryz.f169, Tryz.func169, rfl, by kernel_rfl⟩
theorem c_170 : ze Tryz.prog 170 := ⟨Tryz.f170, Tryz.func170, rfl, by kernel_rfl⟩
theorem zqu : ze Tryz.prog 172 := ⟨Tryz.f172, Tryz.func172, rfl, by kernel_rfl⟩
theorem ztA : ze Tryz.prog 174 := ⟨Tryz.f174, Tryz.func174, rfl, by kernel_rfl⟩
theorem c_175 : ze Tryz.prog 175 := ⟨Tryz.f175, Tryz.func175, rfl, by kernel_rfl⟩
theorem c_176 : ze Tryz.prog 176 := ⟨Tryz.f176, Tryz.func176, rfl, by kernel_rfl⟩
theorem c_177 : ze Tryz.prog 177 := ⟨Tryz.f177, Tryz.func177, rfl, by kernel_rfl⟩
theorem zqv : ze Tryz.prog 178 := ⟨Tryz.f178, Tryz.func178, rfl, by kernel_rfl⟩
theorem c_179 : ze Tryz.prog 179 := ⟨Tryz.f179, Tryz.func179, rfl, by kernel_rfl⟩
theorem c_183 : ze Tryz.prog 183 := ⟨Tryz.f183, Tryz.func183, rfl, by kernel_rfl⟩
theorem c_184 : ze Tryz.prog 184 := ⟨Tryz.f184, Tryz.func184, rfl, by kernel_rfl⟩
theorem c_185 : ze Tryz.prog 185 := ⟨Tryz.f185, Tryz.func185, rfl, by kernel_rfl⟩
theorem c_186 : ze Tryz.prog 186 := ⟨Tryz.f186, Tryz.func186, rfl, by kernel_rfl⟩
theorem c_187 : ze Tryz.prog 187 := ⟨Tryz.f187, Tryz.func187, rfl, by kernel_rfl⟩
theorem ztB : ze Tryz.prog 188 := ⟨Tryz.f188, Tryz.func188, rfl, by kernel_rfl⟩
theorem c_190 : ze Tryz.prog 190 := ⟨Tryz.f190, Tryz.func190, rfl, by kernel_rfl⟩
theorem c_191 : ze Tryz.prog 191 := ⟨Tryz.f191, Tryz.func191, rfl, by kernel_rfl⟩
theorem c_192 : ze Tryz.prog 192 := ⟨Tryz.f192, Tryz.func192, rfl, by kernel_rfl⟩
theorem c_199 : ze Tryz.prog 199 := ⟨Tryz.f199, Tryz.func199, rfl, by kernel_rfl⟩
theorem c_200 : ze Tryz.prog 200 := ⟨Tryz.f200, Tryz.func200, rfl, by kernel_rfl⟩
theorem ztC : ze Tryz.prog 201 := ⟨Tryz.f201, Tryz.func201, rfl, by kernel_rfl⟩
theorem c_208 : ze Tryz.prog 208 := ⟨Tryz.f208, Tryz.func208, rfl, by kernel_rfl⟩
theorem c_212 : ze Tryz.prog 212 := ⟨Tryz.f212, Tryz.func212, rfl, by kernel_rfl⟩
end Go.Proofs
end
section
namespace Go.Proofs
open Go.Dk Go.Dm Go.RowKit
theorem zgQ (s : Str) (c : UInt8) (R : Int) (w0 : World) (hG : zD w0) (hm : strings_IndexByte s c = some R) :
    Calls Tryz.prog 163 #[str s, zY c] w0 fun e w' => e = .returned (int R) ∧ Below w0.heap.size w0 w' := by
  refine (Tryz.strings_IndexByte ⟨s.toArray⟩ c.toNat w0).mono fun e w' ⟨he, hw⟩ => ?_
  subst he hw
  refine ⟨?_, Below.refl _ _⟩
  unfold strings_IndexByte at hm
  rw [zpR] at hm
  cases hm
  simp
theorem zgL (s t : Str) (R : Int) (w0 : World) (hG : zD w0) (hm : strings_Index s t = some R) :
    Calls Tryz.prog 31 #[str s, str t] w0 fun e w' => e = .returned (int R) ∧ Below w0.heap.size w0 w' := by
  unfold strings_Index at hm
  split at hm
  · rename_i hs
    obtain ⟨m, hg⟩ := hG.max
    refine (Tryz.strings_Index ⟨s.toArray⟩ ⟨t.toArray⟩ m w0 hs hg).mono fun e w' ⟨he, hw⟩ => ?_
    subst he hw
    rw [zmQ] at hm
    cases hm
    exact ⟨rfl, Below.refl _ _⟩
  · cases hm
theorem zgj (s t : Str) (R : Str × Str × Bool) (w0 : World) (hG : zD w0) (hm : strings_Cut s t = some R) :
    Calls Tryz.prog 90 #[str s, str t] w0 fun e w' => e = .returned (.tuple #[str R.1, str R.2.1, .bool R.2.2]) ∧ Below w0.heap.size w0 w' := by
  unfold strings_Cut at hm
  split at hm
  · rename_i hs
    obtain ⟨m, hg⟩ := hG.max
    refine (Tryz.strings_Cut ⟨s.toArray⟩ ⟨t.toArray⟩ m w0 hs hg).mono fun e w' ⟨he, n, hw⟩ => ?_
    subst he hw
    cases hm
    exact ⟨rfl, ⟨rfl, rfl, rfl, Nat.le_refl _, fun _ _ => rfl⟩⟩
  · cases hm
theorem zg7 (s cs : Str) (R : Int) (w0 : World) (hG : zD w0) (hm : strings_IndexAny s cs = some R) :
    Calls Tryz.prog 82 #[str s, str cs] w0 fun e w' => e = .returned (int R) ∧ Below w0.heap.size w0 w' := by
  unfold strings_IndexAny at hm
  split at hm
  · rename_i hs
    refine (zoS Tryz.lays153 (by kernel_rfl) ⟨s.toArray⟩ ⟨cs.toArray⟩ w0 hs.1 hs.2.1 (fun j b hb => ?_)).mono fun e w' ⟨he, hw⟩ => ?_
    · have := List.all_eq_true.1 hs.2.2 b (List.mem_of_getElem? hb)
      simpa using this
    · subst he
      rw [zqS] at hm
      cases hm
      exact ⟨rfl, hw⟩
  · cases hm
theorem zjU (n b : Int) (R : Str) (w0 : World) (hG : zbB w0) (hm : zd4 n b = some R) :
    Calls Tryz.prog 155 #[int n, int b] w0 fun e w' => e = .returned (str R) ∧ Below w0.heap.size w0 w' := by
  unfold zd4 at hm
  split at hm
  · rename_i h
    obtain ⟨h1, rfl⟩ := h
    obtain ⟨h2, h3⟩ := zhG.1 h1
    cases hm
    refine (Tryz.strconv_FormatInt_10 n h2 h3 w0 hG.2).mono fun e w' ⟨he, k, os, hw⟩ => ?_
    subst he hw
    exact ⟨rfl, Lib.below_grow _ _ (Nat.le_refl _) _ _⟩
  · cases hm
theorem ziU (s sep : Str) (R : List Str) (w0 : World) (hG : zD w0) (hm : strings_Split s sep = some R) :
    Calls Tryz.prog 32 #[str s, str sep] w0 fun e w' => ∃ (p0 : Option Addr) (c0 : Nat), e = .returned (.slice p0 R.length c0) ∧ Own w0 [] w' [.row (.slice p0 R.length c0) 9 1 R.length (cells zj R)] := by
  unfold strings_Split at hm
  split at hm
  · rename_i hs
    obtain ⟨m, hg⟩ := hG.max
    refine (Tryz.strings_Split ⟨s.toArray⟩ ⟨sep.toArray⟩ m w0 hs.1 hg hs.2).mono fun e w' ⟨he, hw⟩ => ?_
    subst he hw
    have hlen := Go.Lib.splitB_all ⟨sep.toArray⟩ hs.2 0 _ ⟨s.toArray⟩ rfl
    have hdat := Go.Lib.splitB_data ⟨sep.toArray⟩ 0 (Go.Lib.countB ⟨s.toArray⟩ ⟨sep.toArray⟩) ⟨s.toArray⟩
    have hR : R = (Go.Lib.splitB ⟨sep.toArray⟩ 0 (Go.Lib.countB ⟨s.toArray⟩ ⟨sep.toArray⟩) ⟨s.toArray⟩).map (·.data.toList) := by
      rw [hdat]; exact (Option.some.inj hm).symm
    have hRl : R.length = Go.Lib.countB ⟨s.toArray⟩ ⟨sep.toArray⟩ + 1 := by rw [hR, List.length_map, hlen]
    have hcells : (Go.Lib.splitB ⟨sep.toArray⟩ 0 (Go.Lib.countB ⟨s.toArray⟩ ⟨sep.toArray⟩) ⟨s.toArray⟩).map Value.string = cells zj R := by
      rw [hR]
      generalize Go.Lib.splitB _ _ _ _ = l
      induction l with
      | nil => rfl
      | cons x l ih => obtain ⟨⟨x⟩⟩ := x; rw [List.map_cons, List.map_cons, ih]; rfl
    have hle := Go.Lib.countB_le ⟨sep.toArray⟩ hs.2 _ ⟨s.toArray⟩ (Nat.le_refl _)
    have hsz : (⟨s.toArray⟩ : ByteArray).size = s.length := rfl
    have hO := (Own.refl w0).newRow (cells zj R) 9 1 R.length (zeN (enc := zj) (sz := 1) (fun _ => rfl) R) (by unfold maxLen; omega)
    rw [hcells, ← hRl]
    exact ⟨_, _, rfl, hO⟩
  · cases hm
theorem zmV (s cs : Str) (R : Str) (w0 : World) (hG : zD w0) (hm : zfE s cs = some R) :
    Calls Tryz.prog 64 #[str s, str cs] w0 fun e w' => e = .returned (str R) ∧ Below w0.heap.size w0 w' := by
  unfold zfE at hm
  split at hm
  · rename_i hs
    refine (Any.strings_Trim_laid Tryz.lays160 (by kernel_rfl) ⟨s.toArray⟩ ⟨cs.toArray⟩ w0 (Nat.le_trans (Nat.le_of_lt hs.1) (by decide)) hs.2.1 (fun j b hb => ?_)).mono fun e w' ⟨he, hw⟩ => ?_
    · have := List.all_eq_true.1 hs.2.2 b (List.mem_of_getElem? hb)
      simpa using this
    · subst he
      cases hm
      exact ⟨rfl, hw⟩
  · cases hm
end Go.Proofs
end
