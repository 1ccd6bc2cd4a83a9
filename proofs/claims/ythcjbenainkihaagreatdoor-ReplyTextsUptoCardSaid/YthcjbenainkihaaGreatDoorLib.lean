/-
  Walks in short: a program's steps are taken by evaluation as far as no case parts; one rule for each thing that is left. Over any program.
  Rows of rows: what is read of them, and how they grow. Over any program.
  Facts on the types and functions of this translation, one by one, by evaluation. Written by a program (wip/gen).
  The library functions that the walks call. Over this translation.
-/
import Derived.Test.YthcjbenainkihaaGreatDoorShelf
import Derived.Test.YthcjbenainkihaaGreatDoorTSplit
import Derived.Test.YthcjbenainkihaaGreatDoorProg
import Derived.KernelRfl
import Derived.Laws.StructEq
import Derived.Lib.LaidTab
import Derived.Lib.ItoaNum
import Derived.Shelf.Strings.SlTrimAscii
import Derived.Lib.AppendIntMem
section
namespace Go.Dk
open Go.RowKit Go.Dm

inductive Fr where
  | sq (y : Code)
  | ct (K : Act → World → Prop)
  | bk (id : Nat)
def QS (P : Program) (Q0 : Exit → Act → World → Prop) : List Fr → Exit → Act → World → Prop
  | [] => Q0
  | .sq y :: fs => Exit.then (y.wp P (QS P Q0 fs)) (QS P Q0 fs)
  | .ct K :: fs => Exit.then K (QS P Q0 fs)
  | .bk id :: fs => Exit.inBlock id (QS P Q0 fs)
inductive Cur where
  | co (c : Code)
  | op (all : Array Oper) (rest : List Oper)
  | no
  | ex (id : Nat)
  | rt
def wpU (P : Program) (Q0 : Exit → Act → World → Prop) : Cur → List Fr → Act → World → Prop
  | .co c, fs => c.wp P (QS P Q0 fs)
  | .op all rest, fs => wpList P all (QS P Q0 fs) rest
  | .no, fs => QS P Q0 fs .normal
  | .ex id, fs => QS P Q0 fs (.exit id)
  | .rt, fs => QS P Q0 fs .ret

abbrev Kn := List (Nat × Option Bool)
def lkB : Kn → Nat → Option Bool
  | [], _ => none
  | (k, v) :: B, d => bif Nat.beq k d then v else lkB B d
def zjD (d : Nat) (k : Option Bool) (B : Kn) : Kn :=
  match k with
  | some b => (d, some b) :: B
  | none => match lkB B d with
    | some _ => (d, none) :: B
    | none => B
def Kns (B : Kn) (a : Act) : Prop := ∀ d b, lkB B d = some b → a.tmps[d]? = some (.bool b)
def kOf (B : Kn) : Operand → Option Bool
  | .tmp s => lkB B s
  | .const (.bool b) => some b
  | _ => none
def knO (B : Kn) : Op → Option Bool
  | .move x => kOf B x
  | .assign x => kOf B x
  | .pick c x y => match kOf B c with
    | some true => kOf B x
    | some false => kOf B y
    | none => none
  | .unOp .not _ x => match kOf B x with
    | some true => some false
    | some false => some true
    | none => none
  | _ => none

structure Tab where
  und : List (Nat × TypeDesc)
  fa : List (Nat × Nat × Nat)
  ag : List (Nat × Bool)
  sz : List (Nat × Nat)
class TabOk (P : Program) (τ : Tab) : Prop where
  und : ∀ p ∈ τ.und, P.underlying p.1 = some p.2
  fa : ∀ p ∈ τ.fa, ∀ b o w, (Instr.fieldAt p.1 (ptr b o) p.2.1).run P w = .ok (ptr b (o + p.2.2)) w
  ag : ∀ p ∈ τ.ag, zc6 P p.1 = some p.2
  sz : ∀ p ∈ τ.sz, zag P p.1 = some p.2
def allP {α : Type} (Q : α → Prop) : List α → Prop
  | [] => True
  | x :: l => Q x ∧ allP Q l
theorem zhy {α : Type} {Q : α → Prop} : ∀ {l : List α}, allP Q l → ∀ x ∈ l, Q x
  | [], _, x, hx => by cases hx
  | y :: l, h, x, hx => by
    rcases List.mem_cons.1 hx with rfl | hx
    · exact h.1
    · exact zhy h.2 x hx
def ass {α : Type} : List (Nat × α) → Nat → Option α
  | [], _ => none
  | (k, v) :: l, t => bif Nat.beq k t then some v else ass l t
def offs : List (Nat × Nat × Nat) → Nat → Nat → Option Nat
  | [], _, _ => none
  | (k, j, v) :: l, t, i => bif Nat.beq k t then bif Nat.beq j i then some v else offs l t i else offs l t i
theorem zd8 {α : Type} : ∀ {l : List (Nat × α)} {t : Nat} {v : α}, ass l t = some v → (t, v) ∈ l
  | [], _, _, h => by cases h
  | (k, u) :: l, t, v, h => by
    simp only [ass] at h
    by_cases e : Nat.beq k t = true
    · simp only [e, cond_true, Option.some.injEq] at h
      have : k = t := by simpa using e
      subst this; subst h
      exact List.mem_cons_self ..
    · simp only [e] at h
      exact List.mem_cons_of_mem _ (zd8 h)
theorem zkj : ∀ {l : List (Nat × Nat × Nat)} {t i v : Nat}, offs l t i = some v → (t, i, v) ∈ l
  | [], _, _, _, h => by cases h
  | (k, j, u) :: l, t, i, v, h => by
    simp only [offs] at h
    by_cases e : Nat.beq k t = true
    · by_cases e2 : Nat.beq j i = true
      · simp only [e, e2, cond_true, Option.some.injEq] at h
        have h1 : k = t := by simpa using e
        have h2 : j = i := by simpa using e2
        subst h1; subst h2; subst h
        exact List.mem_cons_self ..
      · simp only [e, e2, cond_true] at h
        exact List.mem_cons_of_mem _ (zkj h)
    · simp only [e] at h
      exact List.mem_cons_of_mem _ (zkj h)
def nth {α : Type} : List α → Nat → Option α
  | [], _ => none
  | x :: _, 0 => some x
  | _ :: l, n + 1 => nth l n
theorem zgJ {α : Type} : ∀ (l : List α) (n : Nat), nth l n = l[n]?
  | [], _ => by simp [nth]
  | _ :: _, 0 => by simp [nth]
  | _ :: l, n + 1 => by simp [nth, zgJ l n]

def cmpI (o : BinOp) (m n : Int) : Option Value :=
  match o with
  | .eql => some (.bool (m == n))
  | .neq => some (.bool (!(m == n)))
  | .lss => some (.bool (decide (m < n)))
  | .leq => some (.bool (decide (m ≤ n)))
  | .gtr => some (.bool (decide (n < m)))
  | .geq => some (.bool (decide (n ≤ m)))
  | _ => none
def evO (τ : Tab) (E : Env) (B : Kn) : Op → Option Value
  | .move x => evl E x
  | .assign x => evl E x
  | .pick c x y => match kOf B c with
    | some true => evl E x
    | some false => evl E y
    | none => none
  | .unOp .not _ x => match evl E x with
    | some (.bool b) => some (.bool (!b))
    | _ => none
  | .binOp o _ x y _ => match evl E x with
    | some (.int .i64 m) => match evl E y with
      | some (.int .i64 n) => cmpI o m n
      | _ => none
    | some (.string ⟨⟨l⟩⟩) => match evl E y with
      | some (.string ⟨⟨m⟩⟩) => match o with
        | .eql => some (.bool (l == m))
        | .neq => some (.bool (!(l == m)))
        | _ => none
      | _ => none
    | _ => none
  | .extract x i => match evl E x with
    | some (.tuple ⟨l⟩) => nth l i
    | _ => none
  | .nilCheck x => match evl E x with
    | some (.pointer (some ad)) => some (.pointer (some ad))
    | _ => none
  | .fieldAddr t x i => match evl E x with
    | some (.pointer (some ⟨b, o, none⟩)) => match offs τ.fa t i with
      | some f => some (.pointer (some ⟨b, o + f, none⟩))
      | none => none
    | _ => none
  | .call ⟨.builtin .len, ⟨[x]⟩, ⟨[t]⟩⟩ => match ass τ.und t with
    | some .string => match evl E x with
      | some (.string ⟨⟨l⟩⟩) => some (.int .i64 l.length)
      | _ => none
    | some (.slice _) => match evl E x with
      | some (.slice _ n _) => some (.int .i64 n)
      | _ => none
    | _ => none
  | _ => none

section
variable {P : Program} {τ : Tab} {N : Nat} {E : Env} {B : Kn} {a : Act} {w : World}

theorem zdv (hB : Kns B a) {x : Operand} {b : Bool} (h : kOf B x = some b) : a.eval x = .bool b := by
  cases x with
  | tmp s => have := hB s b h; simp [Act.eval, Array.getD_eq_getD_getElem?, this]
  | const c =>
    cases c <;> first | (simp [kOf] at h; done) | skip
    simp only [kOf, Option.some.injEq] at h
    subst h; rfl
  | global g => simp [kOf] at h
  | func f => simp [kOf] at h

theorem evO_ok [hτ : TabOk P τ] {o : Oper} {v : Value} (hf : Fits N E a) (hB : Kns B a) (h : evO τ E B o.op = some v) :
    (execOp a.eval o).run P w = .ok (.value v) w ∧ ∀ b, knO B o.op = some b → v = .bool b := by
  obtain ⟨dst, op, t, p, af, gd⟩ := o
  dsimp only at h ⊢
  unfold evO at h
  split at h
  · exact ⟨zn hf h, fun b hb => (hf.ev h).symm.trans (zdv hB hb)⟩
  · exact ⟨zv hf h, fun b hb => (hf.ev h).symm.trans (zdv hB hb)⟩
  · rename_i c x y
    split at h
    · rename_i hc
      refine ⟨?_, fun b hb => ?_⟩
      · simp only [execOp]; rw [zdv hB hc, hf.ev h]; simp [asBool]
      · simp only [knO, hc] at hb; exact (hf.ev h).symm.trans (zdv hB hb)
    · rename_i hc
      refine ⟨?_, fun b hb => ?_⟩
      · simp only [execOp]; rw [zdv hB hc, hf.ev h]; simp [asBool]
      · simp only [knO, hc] at hb; exact (hf.ev h).symm.trans (zdv hB hb)
    · cases h
  · rename_i ti x
    split at h
    · rename_i b hx
      obtain rfl := Option.some.inj h
      refine ⟨zmf hf hx, fun b' hb => ?_⟩
      simp only [knO] at hb
      split at hb
      · rename_i hk
        have := (hf.ev hx).symm.trans (zdv hB hk)
        cases this; cases hb; rfl
      · rename_i hk
        have := (hf.ev hx).symm.trans (zdv hB hk)
        cases this; cases hb; rfl
      · cases hb
    · cases h
  · rename_i bo ti x y ty
    refine ⟨?_, fun b hb => by simp [knO] at hb⟩
    split at h
    · rename_i m hx
      split at h
      · rename_i n hy
        cases bo <;> first | (cases h; done) | skip
        · obtain rfl := Option.some.inj h; exact ex_eql hf hx hy
        · obtain rfl := Option.some.inj h; exact zn1 hf hx hy
        · obtain rfl := Option.some.inj h; exact ex_lss hf hx hy
        · obtain rfl := Option.some.inj h; exact ex_leq hf hx hy
        · obtain rfl := Option.some.inj h; exact zn2 hf hx hy
        · obtain rfl := Option.some.inj h; exact zk6 hf hx hy
      · cases h
    · rename_i l hx
      split at h
      · rename_i m hy
        split at h
        · obtain rfl := Option.some.inj h; exact zn5 hf hx hy
        · obtain rfl := Option.some.inj h; exact zlL hf hx hy
        · cases h
      · cases h
    · cases h
  · rename_i x i
    refine ⟨?_, fun b hb => by simp [knO] at hb⟩
    split at h
    · rename_i l hx
      exact zdM hf hx (by rw [zgJ] at h; simpa using h)
    · cases h
  · refine ⟨?_, fun b hb => by simp [knO] at hb⟩
    split at h
    · rename_i ad hx
      obtain rfl := Option.some.inj h
      exact zp hf hx
    · cases h
  · refine ⟨?_, fun b hb => by simp [knO] at hb⟩
    split at h
    · rename_i b o hx
      split at h
      · rename_i f ho
        obtain rfl := Option.some.inj h
        exact zr (fun b o w => hτ.fa _ (zkj ho) b o w) hf hx
      · cases h
    · cases h
  · refine ⟨?_, fun b hb => by simp [knO] at hb⟩
    split at h
    · rename_i ht
      split at h
      · rename_i l hx
        obtain rfl := Option.some.inj h
        exact zkd (hτ.und _ (zd8 ht)) hf hx
      · cases h
    · rename_i e ht
      split at h
      · rename_i n c hx
        obtain rfl := Option.some.inj h
        exact ziQ (hτ.und _ (zd8 ht)) hf hx
      · cases h
    · cases h
  · cases h

def gd (all : Array Oper) (E : Env) (B : Kn) : Option (Nat × Bool) → Option Bool
  | none => some true
  | some (j, b) => match nth all.toList j with
    | some ⟨some s, _, _, _, _, _⟩ => match lkB B s with
      | some b' => some (b' == b)
      | none => match look E s with
        | some (.tuple ⟨[]⟩) => some false
        | _ => none
    | _ => none
theorem zob {all : Array Oper} {o : Oper} {m : Bool} (hf : Fits N E a) (hB : Kns B a) (h : gd all E B o.guard = some m) : Region.wanted o (yielded all a.tmps) = m := by
  unfold gd at h
  split at h
  · rename_i hg
    obtain rfl := Option.some.inj h
    simp [Region.wanted, hg]
  · rename_i j b hg
    split at h
    · rename_i s _ _ _ _ _ hs
      rw [zgJ] at hs
      have hs' : (all[j]?).bind (·.dst) = some s := by rw [← Array.getElem?_toList, hs]; rfl
      split at h
      · rename_i b' hb'
        obtain rfl := Option.some.inj h
        have hy : yielded all a.tmps j = some b' := by simp [yielded, hs', hB s _ hb']
        cases b <;> cases b' <;> simp [Region.wanted, hg, hy]
      · split at h
        · rename_i hu
          obtain rfl := Option.some.inj h
          have hy : yielded all a.tmps j = none := by simp [yielded, hs', hf.has s _ hu]
          simp [Region.wanted, hg, hy]
        · cases h
    · cases h

abbrev Cfg := Cur × List Fr × Env × Kn
def zmo (τ : Tab) (N : Nat) (all : Array Oper) (o : Oper) (rest : List Oper) (fs : List Fr) (E : Env) (B : Kn) : Option Cfg :=
  match gd all E B o.guard with
  | some true => match evO τ E B o.op with
    | some v => match o.dst with
      | some d => match Nat.blt d N with
        | true => match zjD d (knO B o.op) B with
          | [] => some (.op all rest, fs, (d, v) :: E, [])
          | k :: B' => some (.op all rest, fs, (d, v) :: E, k :: B')
        | false => none
      | none => some (.op all rest, fs, E, B)
    | none => none
  | some false => match o.dst with
    | some d => match Nat.blt d N with
      | true => match zjD d none B with
        | [] => some (.op all rest, fs, (d, undef) :: E, [])
        | k :: B' => some (.op all rest, fs, (d, undef) :: E, k :: B')
      | false => none
    | none => some (.op all rest, fs, E, B)
  | none => none
def zkB (τ : Tab) (N : Nat) (E : Env) (B : Kn) : Cur → List Fr → Option Cfg
  | .co .skip, fs => some (.no, fs, E, B)
  | .co (.seq x y), fs => some (.co x, .sq y :: fs, E, B)
  | .co (.region _ ops false), fs => some (.op ops ops.toList, fs, E, B)
  | .co (.cond c x y), fs => match kOf B c with
    | some true => some (.co x, fs, E, B)
    | some false => some (.co y, fs, E, B)
    | none => none
  | .co (.block id c), fs => some (.co c, .bk id :: fs, E, B)
  | .co (.exit id), fs => some (.ex id, fs, E, B)
  | .co .ret, fs => some (.rt, fs, E, B)
  | .no, .sq y :: fs => some (.co y, fs, E, B)
  | .no, .bk _ :: fs => some (.no, fs, E, B)
  | .ex id, .sq _ :: fs => some (.ex id, fs, E, B)
  | .ex id, .ct _ :: fs => some (.ex id, fs, E, B)
  | .ex id, .bk i :: fs => match Nat.beq id i with
    | true => some (.no, fs, E, B)
    | false => some (.ex id, fs, E, B)
  | .rt, _ :: fs => some (.rt, fs, E, B)
  | .op _ [], fs => some (.no, fs, E, B)
  | .op all (o :: rest), fs => zmo τ N all o rest fs E B
  | _, _ => none
def zfp (τ : Tab) (N : Nat) : Nat → Cur → List Fr → Env → Kn → Cfg
  | 0, c, fs, E, B => (c, fs, E, B)
  | n + 1, c, fs, E, B => match zkB τ N E B c fs with
    | some (c', fs', E', B') => zfp τ N n c' fs' E' B'
    | none => (c, fs, E, B)

variable {Q0 : Exit → Act → World → Prop}

theorem zoc {d : Nat} {k : Option Bool} {d' : Nat} {b : Bool} (h : lkB (zjD d k B) d' = some b) : (d = d' ∧ k = some b) ∨ (d ≠ d' ∧ lkB B d' = some b) := by
  unfold zjD at h
  by_cases e : d = d'
  · subst e
    left
    split at h
    · simp [lkB] at h; exact ⟨rfl, by rw [h]⟩
    · split at h
      · simp [lkB] at h
      · rename_i hn; rw [hn] at h; cases h
  · right
    refine ⟨e, ?_⟩
    have hb : Nat.beq d d' = false := zih.2 e
    split at h
    · simpa [lkB, hb] using h
    · split at h
      · simpa [lkB, hb] using h
      · exact h
theorem Kns.put (hf : Fits N E a) (hB : Kns B a) {d : Nat} (hd : Nat.blt d N = true) {v : Value} {k : Option Bool} (hk : ∀ b, k = some b → v = .bool b) : Kns (zjD d k B) (a.put (some d) v) := by
  intro d' b h
  have hd' : d < a.tmps.size := by rw [hf.size]; simpa [Nat.blt_eq] using hd
  rcases zoc h with ⟨rfl, hkb⟩ | ⟨hne, hb⟩
  · simp [Act.put, hd', hk b hkb]
  · simp [Act.put, hne, hB d' b hb]
theorem Kns.nil : Kns [] a := fun _ _ h => by cases h

theorem ziZ {Q : Exit → Act → World → Prop} {all : Array Oper} {rest : List Oper} {o : Oper} {v : Value} (hg : Region.wanted o (yielded all a.tmps) = true) (hx : (execOp a.eval o).run P w = .ok (.value v) w)
    (hk : wpList P all Q rest (a.put o.dst v) w) : wpList P all Q (o :: rest) a w := by
  unfold wpList
  rw [if_pos hg]
  left
  unfold Oper.wp
  rw [hx]
  exact hk
theorem zod {Q : Exit → Act → World → Prop} {all : Array Oper} {rest : List Oper} {o : Oper} (hg : Region.wanted o (yielded all a.tmps) = false)
    (hk : wpList P all Q rest (a.put o.dst undef) w) : wpList P all Q (o :: rest) a w := by
  unfold wpList
  rw [if_neg (by simp [hg])]
  exact hk
theorem zoG {Q : Exit → Act → World → Prop} {all : Array Oper} {rest : List Oper} {dst : Option Nat} {op : Op} {t : Nat} {p : String} {af : Array Edge} {g : Option (Nat × Bool)}
    (hg : Region.wanted ⟨dst, op, t, p, af, g⟩ (yielded all a.tmps) = true) (hk : wpList P all Q (⟨dst, op, t, p, af, none⟩ :: rest) a w) : wpList P all Q (⟨dst, op, t, p, af, g⟩ :: rest) a w := by
  unfold wpList at hk ⊢
  rw [if_pos hg]
  rw [if_pos (by simp [Region.wanted])] at hk
  exact hk

theorem zm2 [TabOk P τ] {all : Array Oper} {o : Oper} {rest : List Oper} {fs : List Fr} {c : Cfg} (h : zmo τ N all o rest fs E B = some c) (hf : Fits N E a) (hB : Kns B a)
    (k : ∀ a, Fits N c.2.2.1 a → Kns c.2.2.2 a → wpU P Q0 c.1 c.2.1 a w) : wpU P Q0 (.op all (o :: rest)) fs a w := by
  unfold zmo at h
  split at h
  · rename_i hg
    have hw := zob hf hB hg
    split at h
    · rename_i v hv
      obtain ⟨hx, hkn⟩ := evO_ok (P := P) (w := w) hf hB hv
      split at h
      · rename_i d hd
        split at h
        · rename_i hN
          have hs := Kns.put hf hB hN (v := v) hkn
          refine ziZ hw hx ?_
          rw [hd]
          split at h <;> (obtain rfl := Option.some.inj h; rename_i e; rw [e] at hs; exact k _ (hf.put hN _) hs)
        · cases h
      · rename_i hd
        obtain rfl := Option.some.inj h
        refine ziZ hw hx ?_
        rw [hd]
        exact k _ hf hB
    · cases h
  · rename_i hg
    have hw := zob hf hB hg
    refine zod hw ?_
    split at h
    · rename_i d hd
      split at h
      · rename_i hN
        have hs := Kns.put hf hB hN (v := undef) (k := none) (fun b h => by cases h)
        rw [hd]
        split at h <;> (obtain rfl := Option.some.inj h; rename_i e; rw [e] at hs; exact k _ (hf.put hN _) hs)
      · cases h
    · rename_i hd
      obtain rfl := Option.some.inj h
      rw [hd]
      exact k _ hf hB
  · cases h
theorem zoH [TabOk P τ] {cu : Cur} {fs : List Fr} {c : Cfg} (h : zkB τ N E B cu fs = some c) (hf : Fits N E a) (hB : Kns B a)
    (k : ∀ a, Fits N c.2.2.1 a → Kns c.2.2.2 a → wpU P Q0 c.1 c.2.1 a w) : wpU P Q0 cu fs a w := by
  unfold zkB at h
  split at h
  · obtain rfl := Option.some.inj h; exact wp_skip (k a hf hB)
  · obtain rfl := Option.some.inj h; exact wp_seq (k a hf hB)
  · obtain rfl := Option.some.inj h; exact wp_region_list (k a hf hB)
  · split at h
    · rename_i hc; obtain rfl := Option.some.inj h; exact wp_cond_true (zdv hB hc) (k a hf hB)
    · rename_i hc; obtain rfl := Option.some.inj h; exact wp_cond_false (zdv hB hc) (k a hf hB)
    · cases h
  · obtain rfl := Option.some.inj h; exact wp_block (k a hf hB)
  · obtain rfl := Option.some.inj h; exact wp_exit (k a hf hB)
  · obtain rfl := Option.some.inj h; exact wp_ret (k a hf hB)
  · obtain rfl := Option.some.inj h; exact k a hf hB
  · obtain rfl := Option.some.inj h; exact k a hf hB
  · obtain rfl := Option.some.inj h; exact k a hf hB
  · obtain rfl := Option.some.inj h; exact k a hf hB
  · rename_i id i fs
    split at h
    · rename_i e
      obtain rfl := Option.some.inj h
      have e' : id = i := by simpa using e
      subst e'
      exact zmV (k a hf hB)
    · rename_i e
      obtain rfl := Option.some.inj h
      exact zmW e (k a hf hB)
  · rename_i f fs
    obtain rfl := Option.some.inj h
    cases f with
    | sq y => exact k a hf hB
    | ct K => exact k a hf hB
    | bk id => exact k a hf hB
  · obtain rfl := Option.some.inj h; exact k a hf hB
  · exact zm2 h hf hB k
  · cases h
theorem zbq [TabOk P τ] : ∀ {n : Nat} {c c' : Cur} {fs fs' : List Fr} {E E' : Env} {B B' : Kn} {a : Act}, zfp τ N n c fs E B = (c', fs', E', B') → Fits N E a → Kns B a →
    (∀ a, Fits N E' a → Kns B' a → wpU P Q0 c' fs' a w) → wpU P Q0 c fs a w
  | 0, c, c', fs, fs', E, E', B, B', a, h, hf, hB, k => by cases h; exact k a hf hB
  | n + 1, c, c', fs, fs', E, E', B, B', a, h, hf, hB, k => by
    unfold zfp at h
    split at h
    · rename_i h1
      exact zoH h1 hf hB fun a hf hB => zbq h hf hB k
    · cases h; exact k a hf hB
end

def S (P : Program) (τ : Tab) (N : Nat) {ρ : Type} (R : ρ) (Q0 : Exit → Act → World → Prop) (w0 : World) (F : List Nat) (c : Cur) (fs : List Fr) (E : Env) (B : Kn) (L : List Res) (M : Option ρ) : Prop :=
  ∀ a w, Fits N E a → Kns B a → Own w0 F w L → M = some R → wpU P Q0 c fs a w
def far : Nat := 100000000

section
variable {P : Program} {τ : Tab} {N : Nat} {Q0 : Exit → Act → World → Prop} {w0 : World} {F : List Nat} {ρ α : Type} {R : ρ} {c c' : Cur} {fs fs' : List Fr} {E E' : Env} {B B' : Kn} {L : List Res} {M : Option ρ}
variable {all : Array Oper} {rest : List Oper} {d : Nat} {o : Oper}

theorem S.at [TabOk P τ] (h : zfp τ N far c fs E B = (c', fs', E', B')) (k : S P τ N R Q0 w0 F c' fs' E' B' L M) : S P τ N R Q0 w0 F c fs E B L M :=
  fun _ w hf hB hO hm => zbq h hf hB fun a hf hB => k a w hf hB hO hm
theorem S.enter (τ : Tab) {f : FuncId} {fn : Func} {co : Code} {vs : List Value} {Rp : Ending → World → Prop}
    (hf : P.funcs[f]? = some fn) (hb : fn.body = some co) (hN : fn.ntmps = N) (hv : Nat.ble vs.length N = true)
    (h : S P τ N R (bodyPost P fn Rp) w0 F (.co co) [] (params 0 vs) [] L M) (hO : Own w0 F w0 L) (hm : M = some R) : Calls P f vs.toArray w0 Rp :=
  zlH hf hb hN hv fun a hf => h a w0 hf Kns.nil hO hm
theorem S.op (τ : Tab) {a : Act} {w : World} (h : S P τ N R Q0 w0 F (.op all rest) fs E [] L M) (hf : Fits N E a) (hO : Own w0 F w L) (hm : M = some R) : wpList P all (QS P Q0 fs) rest a w := h a w hf Kns.nil hO hm
theorem S.co (τ : Tab) {a : Act} {w : World} {co : Code} (h : S P τ N R Q0 w0 F (.co co) fs E [] L M) (hf : Fits N E a) (hO : Own w0 F w L) (hm : M = some R) : co.wp P (QS P Q0 fs) a w := h a w hf Kns.nil hO hm
theorem S.no (τ : Tab) {a : Act} {w : World} (h : S P τ N R Q0 w0 F .no fs E [] L M) (hf : Fits N E a) (hO : Own w0 F w L) (hm : M = some R) : QS P Q0 fs .normal a w := h a w hf Kns.nil hO hm

def nxO (τ : Tab) (N : Nat) (c : Cur) (fs : List Fr) (E : Env) (B : Kn) : Option (Array Oper × Oper × List Oper × List Fr × Env × Kn) :=
  match zfp τ N far c fs E B with
  | (.op all (o :: rest), fs, E, B) => match gd all E B o.guard with
    | some true => match o with
      | ⟨dst, op, t, p, af, _⟩ => some (all, ⟨dst, op, t, p, af, none⟩, rest, fs, E, B)
    | _ => none
  | _ => none
theorem zhz [TabOk P τ] {a : Act} {w : World} (h : nxO τ N c fs E B = some (all, o, rest, fs', E', B')) (hf : Fits N E a) (hB : Kns B a)
    (k : ∀ a, Fits N E' a → Kns B' a → wpList P all (QS P Q0 fs') (o :: rest) a w) : wpU P Q0 c fs a w := by
  unfold nxO at h
  split at h
  · rename_i hd
    split at h
    · rename_i hg
      obtain ⟨dst, op, t, p, af, g⟩ := ‹Oper›
      cases h
      exact zbq hd hf hB fun a hf hB => zoG (zob hf hB hg) (k a hf hB)
    · cases h
  · cases h
theorem rw_ [TabOk P τ] (h : nxO τ N c fs E B = some (all, o, rest, fs', E', B'))
    (k : ∀ a w, Fits N E' a → Own w0 F w L → M = some R → wpList P all (QS P Q0 fs') (o :: rest) a w) : S P τ N R Q0 w0 F c fs E B L M :=
  fun _ w hf hB hO hm => zhz h hf hB fun a hf _ => k a w hf hO hm
theorem rc_ [TabOk P τ] {co : Code} (h : zfp τ N far c fs E B = (.co co, fs', E', B'))
    (k : ∀ a w, Fits N E' a → Own w0 F w L → M = some R → co.wp P (QS P Q0 fs') a w) : S P τ N R Q0 w0 F c fs E B L M :=
  fun _ w hf hB hO hm => zbq h hf hB fun a hf _ => k a w hf hO hm
theorem re_ [TabOk P τ] (h : zfp τ N far c fs E B = (.rt, [], E', B'))
    (k : ∀ a w, Fits N E' a → Own w0 F w L → M = some R → Q0 .ret a w) : S P τ N R Q0 w0 F c fs E B L M :=
  fun _ w hf hB hO hm => zbq h hf hB fun a hf _ => k a w hf hO hm
theorem rn_ [TabOk P τ] (h : zfp τ N far c fs E B = (.no, [], E', B'))
    (k : ∀ a w, Fits N E' a → Own w0 F w L → M = some R → Q0 .normal a w) : S P τ N R Q0 w0 F c fs E B L M :=
  fun _ w hf hB hO hm => zbq h hf hB fun a hf _ => k a w hf hO hm

theorem vl [TabOk P τ] {op : Op} {t : Nat} {p : String} {af : Array Edge} {v : Value} (h : nxO τ N c fs E B = some (all, ⟨some d, op, t, p, af, none⟩, rest, fs', E', B')) (hd : Nat.blt d N = true)
    (hx : ∀ a w, Fits N E' a → Own w0 F w L → (execOp a.eval ⟨some d, op, t, p, af, none⟩).run P w = .ok (.value v) w)
    (k : S P τ N R Q0 w0 F (.op all rest) fs' ((d, v) :: E') (zjD d none B') L M) : S P τ N R Q0 w0 F c fs E B L M :=
  fun _ w hf hB hO hm => zhz h hf hB fun a hf hB => ziZ (by simp [Region.wanted]) (hx a w hf hO) (k _ w (hf.put hd _) (Kns.put hf hB hd fun _ e => by cases e) hO hm)
def zla (L : List Res) (i : Nat) : Option (Nat × List Value) := match nth L i with
  | some (.blk b cs _) => some (b, cs)
  | some (.shr (some ⟨b, 0, none⟩) cs) => some (b, cs)
  | _ => none
theorem zmp {w : World} {L : List Res} {i b : Nat} {cs : List Value} (hO : Own w0 F w L) (h : zla L i = some (b, cs)) : zw w (some ⟨b, 0, none⟩) cs := by
  unfold zla at h
  split at h
  · rename_i h1
    rw [zgJ] at h1
    cases h
    exact hO.blkSees h1
  · rename_i h1
    rw [zgJ] at h1
    cases h
    exact hO.sees h1
  · cases h
def cut (l : List Value) : Nat → Nat → Option (List Value)
  | _, 0 => some []
  | o, n + 1 => match nth l o with
    | some v => match cut l (o + 1) n with
      | some r => some (v :: r)
      | none => none
    | none => none
theorem zmq {l : List Value} : ∀ {n o : Nat} {r : List Value}, cut l o n = some r → (l.drop o).take n = r ∧ r.length = n
  | 0, o, r, h => by cases h; simp
  | n + 1, o, r, h => by
    unfold cut at h
    split at h
    · rename_i v hv
      split at h
      · rename_i r' hr
        cases h
        obtain ⟨h1, h2⟩ := zmq hr
        rw [zgJ] at hv
        have hlt : o < l.length := (List.getElem?_eq_some_iff.1 hv).1
        rw [List.drop_eq_getElem_cons hlt, List.take_succ_cons, h1]
        have : l[o] = v := (List.getElem?_eq_some_iff.1 hv).2
        exact ⟨by rw [this], by simp [h2]⟩
      · cases h
    · cases h
def ldV (τ : Tab) (cs : List Value) (t o : Nat) : Option Value := match ass τ.ag t with
  | some false => nth cs o
  | some true => match ass τ.sz t with
    | some n => match cut cs o n with
      | some vs => some (.agg ⟨vs⟩)
      | none => none
    | none => none
  | none => none
def nxL (τ : Tab) (N : Nat) (i : Nat) (L : List Res) (c : Cur) (fs : List Fr) (E : Env) (B : Kn) : Option (Array Oper × List Oper × List Fr × Env × Kn × Nat × Nat × Nat × Value) :=
  match nxO τ N c fs E B with
  | some (all, ⟨some d, .load t x, _, _, _, none⟩, rest, fs, E, B) => match Nat.blt d N with
    | true => match evl E x with
      | some (.pointer (some ⟨b, o, none⟩)) => match zla L i with
        | some (b', cs) => match ldV τ cs t o with
          | some v => match zjD d none B with
            | [] => some (all, rest, fs, E, [], d, b, b', v)
            | k :: B' => some (all, rest, fs, E, k :: B', d, b, b', v)
          | none => none
        | none => none
      | _ => none
    | false => none
  | _ => none
theorem ld [hτ : TabOk P τ] (i : Nat) {b b' : Nat} {v : Value} (h : nxL τ N i L c fs E B = some (all, rest, fs', E', B', d, b, b', v)) (hb : b' = b)
    (k : S P τ N R Q0 w0 F (.op all rest) fs' ((d, v) :: E') B' L M) : S P τ N R Q0 w0 F c fs E B L M := by
  intro a w hf hB hO hm
  subst hb
  unfold nxL at h
  split at h
  · rename_i h0
    split at h
    · rename_i hN
      split at h
      · rename_i b1 o hx
        split at h
        · rename_i b2 cs hc
          split at h
          · rename_i v1 hv
            refine zhz h0 hf hB fun a hf hB => ?_
            have hs := Kns.put hf hB hN (v := v1) (k := none) (fun b h => by cases h)
            have hS := zmp hO hc
            have hb2 : b1 = b2 := by split at h <;> (cases h; rfl)
            subst hb2
            refine ziZ (v := v1) (by simp [Region.wanted]) ?_ ?_
            · unfold ldV at hv
              split at hv
              · rename_i ha
                rw [zgJ] at hv
                exact zk (ob := 0) (hτ.ag _ (zd8 ha)) hS hv hf (by rw [Nat.zero_add]; exact hx)
              · rename_i ha
                split at hv
                · rename_i n hn
                  split at hv
                  · rename_i vs hvs
                    cases hv
                    exact zaO (ob := 0) (hτ.ag _ (zd8 ha)) (hτ.sz _ (zd8 hn)) hS (zmq hvs).1 (zmq hvs).2 hf (by rw [Nat.zero_add]; exact hx)
                  · cases hv
                · cases hv
              · cases hv
            · split at h <;> (rename_i e; cases h; rw [e] at hs; exact k _ w (hf.put hN _) hs hO hm)
          · cases h
        · cases h
      · cases h
    · cases h
  · cases h
def one1 : Value → Bool
  | .agg _ => false
  | .tuple _ => false
  | _ => true
def zjE (cs vs : List Value) : Nat → Option (List Value)
  | 0 => over cs vs
  | o + 1 => match cs with
    | [] => none
    | c :: cs => match zjE cs vs o with
      | some r => some (c :: r)
      | none => none
where over : List Value → List Value → Option (List Value)
  | cs, [] => some cs
  | _ :: cs, v :: vs => match over cs vs with
    | some r => some (v :: r)
    | none => none
  | [], _ :: _ => none
theorem zmE : ∀ {vs cs r : List Value}, zjE.over cs vs = some r → r = vs ++ cs.drop vs.length ∧ vs.length ≤ cs.length
  | [], cs, r, h => by
    unfold zjE.over at h
    cases h; simp
  | v :: vs, [], r, h => by unfold zjE.over at h; cases h
  | v :: vs, c :: cs, r, h => by
    unfold zjE.over at h
    split at h
    · rename_i r' hr
      cases h
      obtain ⟨h1, h2⟩ := zmE hr
      subst h1
      simp [h2]
    · cases h
theorem zmF : ∀ {o : Nat} {cs vs r : List Value}, zjE cs vs o = some r → r = cs.take o ++ vs ++ cs.drop (o + vs.length) ∧ o + vs.length ≤ cs.length
  | 0, cs, vs, r, h => by
    unfold zjE at h
    obtain ⟨h1, h2⟩ := zmE h
    simp [h1, h2]
  | o + 1, [], vs, r, h => by unfold zjE at h; cases h
  | o + 1, c :: cs, vs, r, h => by
    cases hr : zjE cs vs o with
    | none => rw [zjE, hr] at h; cases h
    | some r' =>
      rw [zjE, hr] at h
      cases h
      obtain ⟨h1, h2⟩ := zmF hr
      subst h1
      refine ⟨?_, by simp only [List.length_cons]; omega⟩
      rw [show o + 1 + vs.length = (o + vs.length) + 1 by omega, List.take_succ_cons, List.drop_succ_cons]
      rfl
theorem zoJ {cs : List Value} {o : Nat} {v : Value} (h : o < cs.length) : cs.take o ++ [v] ++ cs.drop (o + [v].length) = cs.set o v := by
  rw [List.set_eq_take_append_cons_drop, if_pos h]; simp
def setR : List Res → Nat → Res → Option (List Res)
  | [], _, _ => none
  | _ :: L, 0, r => some (r :: L)
  | x :: L, i + 1, r => match setR L i r with
    | some l => some (x :: l)
    | none => none
theorem zmG {r : Res} : ∀ {L l : List Res} {i : Nat}, setR L i r = some l → l = L.set i r
  | [], _, _, h => by cases h
  | _ :: _, _, 0, h => by cases h; rfl
  | x :: L, l, i + 1, h => by
    unfold setR at h
    split at h
    · rename_i l' hl
      cases h
      rw [List.set_cons_succ, ← zmG hl]
    · cases h
theorem zoL {v : Value} (h : one1 v = true) : v.oneCell' = true ∧ v.cells = #[v] := by
  cases v <;> first | exact ⟨rfl, rfl⟩ | cases h
def cvs : Value → Option (Bool × List Value)
  | .agg ⟨l⟩ => match l.all one1 with
    | true => some (true, l)
    | false => none
  | .tuple _ => none
  | v => some (false, [v])
def nxS (τ : Tab) (N : Nat) (i : Nat) (L : List Res) (c : Cur) (fs : List Fr) (E : Env) (B : Kn) : Option (Array Oper × List Oper × List Fr × Env × Kn × Nat × Nat × List Res) :=
  match nxO τ N c fs E B with
  | some (all, ⟨none, .store t x y, _, _, _, none⟩, rest, fs, E, B) => match evl E x with
    | some (.pointer (some ⟨b, o, none⟩)) => match evl E y with
      | some v => match nth L i with
        | some (.blk b' cs ty) => match cvs v with
          | some (_, vs) => match ass τ.sz t with
            | some n => match Nat.beq n vs.length with
              | true => match zjE cs vs o with
                | some cs' => match setR L i (.blk b' cs' ty) with
                  | some L' => some (all, rest, fs, E, B, b, b', L')
                  | none => none
                | none => none
              | false => none
            | none => none
          | none => none
        | _ => none
      | none => none
    | _ => none
  | _ => none
theorem st [hτ : TabOk P τ] (i : Nat) {b b' : Nat} {L' : List Res} (h : nxS τ N i L c fs E B = some (all, rest, fs', E', B', b, b', L')) (hb : b' = b)
    (k : S P τ N R Q0 w0 F (.op all rest) fs' E' B' L' M) : S P τ N R Q0 w0 F c fs E B L M := by
  intro a w hf hB hO hm
  subst hb
  unfold nxS at h
  split at h
  · rename_i h0
    split at h
    · rename_i b1 o hx
      split at h
      · rename_i v hv
        split at h
        · rename_i b2 cs ty hi
          rw [zgJ] at hi
          split at h
          · rename_i g vs hvs
            split at h
            · rename_i n hn
              split at h
              · rename_i hnl
                split at h
                · rename_i cs' hp
                  split at h
                  · rename_i L1 hL
                    cases h
                    obtain ⟨p1, p2⟩ := zmF hp
                    have hnl' : n = vs.length := by simpa using hnl
                    refine zhz h0 hf hB fun a hf hB => ?_
                    have hk : ∀ w, Own w0 F w (L.set i (.blk b' cs' ty)) → wpList P all (QS P Q0 fs') rest a w := fun w hO' => k a w hf hB (by rw [zmG hL]; exact hO') hm
                    have hst := hτ.sz _ (zd8 hn)
                    cases v with
                    | agg l =>
                      obtain ⟨l⟩ := l
                      cases ha : l.all one1 with
                      | false => rw [cvs, ha] at hvs; cases hvs
                      | true =>
                        rw [cvs, ha] at hvs
                        cases hvs
                        exact zmP (n := n) hst hi (by omega) (by simpa [hnl'] using p2) (fun v hv => (zoL (List.all_eq_true.1 ha v hv)).1) p1 hf hx hv hO hk
                    | tuple l => cases hvs
                    | _ =>
                      cases hvs
                      have hn1 : n = 1 := hnl'
                      subst hn1
                      have ho : o < cs.length := by simp only [List.length_cons, List.length_nil] at p2; omega
                      refine zmO (o := o) hst hi (by simpa [Nat.blt_eq] using ho) rfl rfl hf hx hv hO fun w hO' => hk w ?_
                      rw [p1, zoJ ho]
                      exact hO'
                  · cases h
                · cases h
              · cases h
            · cases h
          · cases h
        · cases h
      · cases h
    · cases h
  · cases h
def nxA (τ : Tab) (N : Nat) (c : Cur) (fs : List Fr) (E : Env) (B : Kn) : Option (Array Oper × List Oper × List Fr × Env × Kn × Nat × Nat) :=
  match nxO τ N c fs E B with
  | some (all, ⟨some d, .alloc ty, _, _, _, none⟩, rest, fs, E, B) => match Nat.blt d N with
    | true => match zjD d none B with
      | [] => some (all, rest, fs, E, [], d, ty)
      | k :: B' => some (all, rest, fs, E, k :: B', d, ty)
    | false => none
  | _ => none
theorem al [TabOk P τ] {ty : Nat} {cs : List Value} (hal : ∀ w, (Instr.alloc ty true (.tuple #[])).run P w = .ok (ptr w.heap.size 0) (w.alloc (.cells cs.toArray ty)))
    (h : nxA τ N c fs E B = some (all, rest, fs', E', B', d, ty)) (k : ∀ b, S P τ N R Q0 w0 F (.op all rest) fs' ((d, ptr b 0) :: E') B' (.blk b cs ty :: L) M) : S P τ N R Q0 w0 F c fs E B L M := by
  intro a w hf hB hO hm
  unfold nxA at h
  split at h
  · rename_i h0
    split at h
    · rename_i hN
      refine zhz h0 hf hB fun a hf hB => ?_
      have hs := fun v => Kns.put hf hB hN (v := v) (k := none) (fun b h => by cases h)
      split at h <;> (rename_i e; cases h; rw [e] at hs; exact zho (v := ptr w.heap.size 0) rfl (by simp only [execOp, Sem.run_bind, hal w, Result.andThen, Sem.run_pure]) (k _ _ _ (hf.put hN _) (hs _) (hO.newBlk cs ty) hm))
    · cases h
  · cases h
def nxX (τ : Tab) (N : Nat) (c : Cur) (fs : List Fr) (E : Env) (B : Kn) : Option (Array Oper × List Oper × List Fr × Env × Kn × Nat × Nat × List Value) :=
  match nxO τ N c fs E B with
  | some (all, ⟨some d, .box ty x, _, _, _, none⟩, rest, fs, E, B) => match Nat.blt d N with
    | true => match evl E x with
      | some v => match cvs v with
        | some (_, cs) => match zjD d none B with
          | [] => some (all, rest, fs, E, [], d, ty, cs)
          | k :: B' => some (all, rest, fs, E, k :: B', d, ty, cs)
        | none => none
      | none => none
    | false => none
  | _ => none
theorem cvs_ok {v : Value} {g : Bool} {cs : List Value} (h : cvs v = some (g, cs)) : v.cells = cs.toArray := by
  cases v with
  | agg l =>
    obtain ⟨l⟩ := l
    cases ha : l.all one1 with
    | false => rw [cvs, ha] at h; cases h
    | true => rw [cvs, ha] at h; cases h; rfl
  | tuple l => cases h
  | _ => cases h; rfl
theorem bo [TabOk P τ] {ty : Nat} {cs : List Value} (h : nxX τ N c fs E B = some (all, rest, fs', E', B', d, ty, cs))
    (k : ∀ b, S P τ N R Q0 w0 F (.op all rest) fs' ((d, ptr b 0) :: E') B' (.blk b cs ty :: L) M) : S P τ N R Q0 w0 F c fs E B L M := by
  intro a w hf hB hO hm
  unfold nxX at h
  split at h
  · rename_i h0
    split at h
    · rename_i hN
      split at h
      · rename_i v hv
        split at h
        · rename_i g cs1 hc
          refine zhz h0 hf hB fun a hf hB => ?_
          have hs := fun v => Kns.put hf hB hN (v := v) (k := none) (fun b h => by cases h)
          have hcs := cvs_ok hc
          split at h <;> (rename_i e; cases h; rw [e] at hs; exact zho (v := ptr w.heap.size 0) (w' := w.alloc (.cells cs.toArray ty)) rfl (by simp only [execOp]; rw [hf.ev hv]; unfold Instr.box newVar; rw [hcs]; simp [newRow, go_sem]) (k _ _ _ (hf.put hN _) (hs _) (hO.newBlk cs ty) hm))
        · cases h
      · cases h
    · cases h
  · cases h
def evP (τ : Tab) (E : Env) : Op → Option ((α : Type) × Option α × (α → Value))
  | .binOp o _ x y _ => match evl E x with
    | some (.int .i64 m) => match evl E y with
      | some (.int .i64 n) => match o with
        | .add => some ⟨Int, zaL m n, .int .i64⟩
        | .sub => some ⟨Int, zfE m n, .int .i64⟩
        | .mul => some ⟨Int, iMul m n, .int .i64⟩
        | .quo => some ⟨Int, iDiv m n, .int .i64⟩
        | .rem => some ⟨Int, iMod m n, .int .i64⟩
        | _ => none
      | _ => none
    | some (.string ⟨⟨l⟩⟩) => match evl E y with
      | some (.string ⟨⟨m⟩⟩) => match o with
        | .add => some ⟨Str, zim l m, fun l => str l⟩
        | _ => none
      | _ => none
    | _ => none
  | .index t x y => match ass τ.und t with
    | some .string => match evl E x with
      | some (.string ⟨⟨l⟩⟩) => match evl E y with
        | some (.int .i64 i) => some ⟨UInt8, sAt l i, fun c => zB c⟩
        | _ => none
      | _ => none
    | _ => none
  | .slice t x lo hi none => match ass τ.und t with
    | some .string => match evl E x with
      | some (.string ⟨⟨l⟩⟩) => match lo, hi with
        | some y, some z => match evl E y with
          | some (.int .i64 i) => match evl E z with
            | some (.int .i64 j) => some ⟨Str, zld l i j, fun l => str l⟩
            | _ => none
          | _ => none
        | some y, none => match evl E y with
          | some (.int .i64 i) => some ⟨Str, zeA l i, fun l => str l⟩
          | _ => none
        | none, some z => match evl E z with
          | some (.int .i64 j) => some ⟨Str, sTo l j, fun l => str l⟩
          | _ => none
        | none, none => none
      | _ => none
    | _ => none
  | _ => none
theorem evP_ok [hτ : TabOk P τ] {a : Act} {w : World} {dst : Option Nat} {op : Op} {t : Nat} {p : String} {af : Array Edge} {g : Option (Nat × Bool)} {m : Option α} {enc : α → Value} {x : α}
    (hf : Fits N E a) (h : evP τ E op = some ⟨α, m, enc⟩) (hm : m = some x) : (execOp a.eval ⟨dst, op, t, p, af, g⟩).run P w = .ok (.value (enc x)) w := by
  unfold evP at h
  split at h
  · rename_i bo ti x y ty
    split at h
    · rename_i m' hx
      split at h
      · rename_i n hy
        split at h
        · cases h; exact zn0 hf hx hy hm
        · cases h; exact zk5 hf hx hy hm
        · cases h; exact ex_mul hf hx hy hm
        · cases h; exact ex_quo hf hx hy hm
        · cases h; exact ex_rem hf hx hy hm
        · cases h
      · cases h
    · rename_i l hx
      split at h
      · rename_i n hy
        split at h
        · cases h; exact ex_cat hf hx hy hm
        · cases h
      · cases h
    · cases h
  · rename_i ti x y
    split at h
    · rename_i ht
      split at h
      · rename_i l hx
        split at h
        · rename_i i hy
          cases h; exact zlN (hτ.und _ (zd8 ht)) hf hx hy hm
        · cases h
      · cases h
    · cases h
  · rename_i ti x lo hi
    split at h
    · rename_i ht
      split at h
      · rename_i l hx
        split at h
        · rename_i y z
          split at h
          · rename_i i hy
            split at h
            · rename_i j hz
              cases h; exact ziR (hτ.und _ (zd8 ht)) hf hx hy hz hm
            · cases h
          · cases h
        · rename_i y
          split at h
          · rename_i i hy
            cases h; exact zhN (hτ.und _ (zd8 ht)) hf hx hy hm
          · cases h
        · rename_i z
          split at h
          · rename_i j hz
            cases h; exact zjH (hτ.und _ (zd8 ht)) hf hx hz hm
          · cases h
        · cases h
      · cases h
    · cases h
  · cases h
def nxP (τ : Tab) (N : Nat) (c : Cur) (fs : List Fr) (E : Env) (B : Kn) : Option (Array Oper × List Oper × List Fr × Env × Kn × Nat × ((α : Type) × Option α × (α → Value))) :=
  match nxO τ N c fs E B with
  | some (all, ⟨some d, op, _, _, _, none⟩, rest, fs, E, B) => match Nat.blt d N with
    | true => match evP τ E op with
      | some p => match zjD d none B with
        | [] => some (all, rest, fs, E, [], d, p)
        | k :: B' => some (all, rest, fs, E, k :: B', d, p)
      | none => none
    | false => none
  | _ => none
theorem bi [TabOk P τ] {m : Option α} {g : α → Option ρ} {enc : α → Value} (h : nxP τ N c fs E B = some (all, rest, fs', E', B', d, ⟨α, m, enc⟩))
    (k : ∀ x, m = some x → S P τ N R Q0 w0 F (.op all rest) fs' ((d, enc x) :: E') B' L (g x)) : S P τ N R Q0 w0 F c fs E B L (m.bind g) := by
  intro a w hf hB hO hm
  obtain ⟨x, hx, hm⟩ := ob hm
  unfold nxP at h
  split at h
  · rename_i h0
    split at h
    · rename_i hN
      split at h
      · rename_i p hp
        refine zhz h0 hf hB fun a hf hB => ?_
        have hs := Kns.put hf hB hN (v := enc x) (k := none) (fun b h => by cases h)
        split at h <;> (rename_i e; cases h; rw [e] at hs; exact ziZ (by simp [Region.wanted]) (evP_ok hf hp hx) (k x hx _ w (hf.put hN _) hs hO hm))
      · cases h
    · cases h
  · cases h
abbrev Ret {ρ : Type} (w0 : World) (V : ρ → Value) (R : ρ) : Ending → World → Prop := fun e w' => e = .returned (V R) ∧ Below w0.heap.size w0 w'
theorem nl (e sz : Nat) (k : S P τ N R Q0 w0 F c fs E B (.row (.slice none 0 0) e sz 0 [] :: L) M) : S P τ N R Q0 w0 F c fs E B L M :=
  fun a w hf hB hO hm => k a w hf hB (hO.nilRow e sz) hm
def nxC (τ : Tab) (N : Nat) (c : Cur) (fs : List Fr) (E : Env) (B : Kn) : Option (Array Oper × List Oper × List Fr × Env × Kn × Nat × Nat × List Value) :=
  match nxO τ N c fs E B with
  | some (all, ⟨some d, .call ⟨.value (.func f), ⟨xs⟩, _⟩, _, _, _, none⟩, rest, fs, E, B) => match Nat.blt d N with
    | true => match zj9 E xs with
      | some vs => match zjD d none B with
        | [] => some (all, rest, fs, E, [], d, f, vs)
        | k :: B' => some (all, rest, fs, E, k :: B', d, f, vs)
      | none => none
    | false => none
  | _ => none
theorem zm3 {Q : Exit → Act → World → Prop} {a : Act} {w : World} {f t : Nat} {p : String} {af : Array Edge} {xs : List Operand} {ats : Array TypeId} {vs : List Value} {K : Ending → World → Prop} (hc : zd P f) (hf : Fits N E a) (hB : Kns B a) (hd : Nat.blt d N = true) (hv : zj9 E xs = some vs)
    (hw : Calls P f vs.toArray w K) (k : ∀ e w', K e w' → ∃ v, e = .returned v ∧ ∀ a, Fits N ((d, v) :: E) a → Kns (zjD d none B) a → wpList P all Q rest a w') :
    wpList P all Q (⟨some d, .call ⟨.value (.func f), ⟨xs⟩, ats⟩, t, p, af, none⟩ :: rest) a w := by
  have hx := zi (w := w) (dst := some d) (t := t) (p := p) (af := af) (gd := none) (ats := ats) hc hf (args := ⟨xs⟩) hv
  unfold wpList
  rw [if_pos (by simp [Region.wanted])]
  left
  unfold Oper.wp
  rw [hx, Oper.upon_enter]
  refine hw.mono fun e w' he => ?_
  obtain ⟨v, rfl, hk⟩ := k e w' he
  exact hk _ (hf.put hd _) (Kns.put hf hB hd fun b h => by cases h)
theorem nxC_ok [TabOk P τ] {a : Act} {w : World} {f : Nat} {vs : List Value} {K : Ending → World → Prop} (hc : zd P f) (h : nxC τ N c fs E B = some (all, rest, fs', E', B', d, f, vs)) (hf : Fits N E a) (hB : Kns B a)
    (hw : Calls P f vs.toArray w K) (k : ∀ e w', K e w' → ∃ v, e = .returned v ∧ ∀ a, Fits N ((d, v) :: E') a → Kns B' a → wpList P all (QS P Q0 fs') rest a w') : wpU P Q0 c fs a w := by
  unfold nxC at h
  split at h
  · rename_i h0
    split at h
    · rename_i hN
      split at h
      · rename_i p hp
        refine zhz h0 hf hB fun a hf hB => ?_
        have hs := fun v => Kns.put hf hB hN (v := v) (k := none) (fun b h => by cases h)
        split at h <;> (rename_i e; cases h; refine zm3 hc hf hB hN hp hw fun e1 w' he => ?_; rw [e]; exact k e1 w' he)
      · cases h
    · cases h
  · cases h
theorem cl [TabOk P τ] {f : Nat} {vs : List Value} {m : Option α} {g : α → Option ρ} {enc : α → Value} (hc : zd P f) (h : nxC τ N c fs E B = some (all, rest, fs', E', B', d, f, vs))
    (hw : ∀ x w, m = some x → Own w0 F w L → Calls P f vs.toArray w (Ret w enc x))
    (k : ∀ x, m = some x → S P τ N R Q0 w0 F (.op all rest) fs' ((d, enc x) :: E') B' L (g x)) : S P τ N R Q0 w0 F c fs E B L (m.bind g) := by
  intro a w hf hB hO hm
  obtain ⟨x, hx, hm⟩ := ob hm
  exact nxC_ok hc h hf hB (hw x w hx hO) fun e w' ⟨he, hb⟩ => ⟨_, he, fun a hf hB => k x hx a w' hf hB (hO.grow hb) hm⟩

def nxB (τ : Tab) (N : Nat) (c : Cur) (fs : List Fr) (E : Env) (B : Kn) : Option (Cur × List Fr × Env × Kn × Nat × Bool) :=
  match zfp τ N far c fs E B with
  | (.co (.cond (.tmp s) x y), fs, E, B) => match look E s with
    | some (.bool b) => some (.co (.cond (.tmp s) x y), fs, E, B, s, b)
    | _ => none
  | (.op all (o :: rest), fs, E, B) => match o.guard with
    | some (j, _) => match nth all.toList j with
      | some ⟨some s, _, _, _, _, _⟩ => match look E s with
        | some (.bool b) => some (.op all (o :: rest), fs, E, B, s, b)
        | _ => none
      | _ => none
    | none => none
  | _ => none
theorem zoe [TabOk P τ] {a : Act} {w : World} {b : Bool} (h : nxB τ N c fs E B = some (c', fs', E', B', d, b)) (hf : Fits N E a) (hB : Kns B a)
    (k : ∀ a, Fits N E' a → Kns ((d, some b) :: B') a → wpU P Q0 c' fs' a w) : wpU P Q0 c fs a w := by
  have key : ∀ {s : Nat} {b : Bool} {a : Act} {E : Env} {B : Kn}, Fits N E a → Kns B a → look E s = some (.bool b) → Kns ((s, some b) :: B) a := by
    intro s b a E B hf hB hs d' b' hd
    simp only [lkB] at hd
    by_cases e : Nat.beq s d' = true
    · have : s = d' := by simpa using e
      subst this
      simp at hd; subst hd
      exact hf.has _ _ hs
    · simp only [e] at hd
      exact hB _ _ hd
  unfold nxB at h
  split at h
  · rename_i hd
    split at h
    · rename_i hs
      cases h
      exact zbq hd hf hB fun a hf hB => k a hf (key hf hB hs)
    · cases h
  · rename_i hd
    split at h
    · split at h
      · split at h
        · rename_i hs
          cases h
          exact zbq hd hf hB fun a hf hB => k a hf (key hf hB hs)
        · cases h
      · cases h
    · cases h
  · cases h
theorem br [TabOk P τ] {b : Bool} {A C : Option ρ} (h : nxB τ N c fs E B = some (c', fs', E', B', d, b))
    (k1 : b = true → S P τ N R Q0 w0 F c' fs' E' ((d, some true) :: B') L A) (k0 : b = false → S P τ N R Q0 w0 F c' fs' E' ((d, some false) :: B') L C) :
    S P τ N R Q0 w0 F c fs E B L (if b = true then A else C) := by
  intro a w hf hB hO hm
  refine zoe h hf hB fun a hf hB => ?_
  cases b with
  | true => exact k1 rfl a w hf hB hO hm
  | false => exact k0 rfl a w hf hB hO (by simpa using hm)
theorem kn [TabOk P τ] {b b' : Bool} (hb : b = b') (h : nxB τ N c fs E B = some (c', fs', E', B', d, b))
    (k : S P τ N R Q0 w0 F c' fs' E' ((d, some b') :: B') L M) : S P τ N R Q0 w0 F c fs E B L M := by
  intro a w hf hB hO hm
  subst hb
  exact zoe h hf hB fun a hf hB => k a w hf hB hO hm

def zgK (K : Act → World → Prop) : Nat → List Fr → Option (List Fr × Code × List Fr)
  | n, .sq y :: fs => match Nat.beq n fs.length with
    | true => some (.ct K :: fs, y, fs)
    | false => match zgK K n fs with
      | some (l, z, r) => some (.sq y :: l, z, r)
      | none => none
  | n, f :: fs => match zgK K n fs with
    | some (l, z, r) => some (f :: l, z, r)
    | none => none
  | _, [] => none
theorem zgu {K : Act → World → Prop} {n : Nat} : ∀ {fs l r : List Fr} {y : Code}, zgK K n fs = some (l, y, r) → (∀ a w, K a w → y.wp P (QS P Q0 r) a w) → ∀ e a w, QS P Q0 l e a w → QS P Q0 fs e a w
  | [], _, _, _, h, _ => by simp [zgK] at h
  | .sq y :: fs, l, r, z, h, hk => by
    unfold zgK at h
    split at h
    · cases h
      intro e a w q
      cases e <;> first | exact hk _ _ q | exact q
    · split at h
      · rename_i h1
        cases h
        have ih := zgu h1 hk
        intro e a w q
        cases e <;> first | exact Code.wp_mono ih q | exact ih _ _ _ q
      · cases h
  | .ct K' :: fs, l, r, z, h, hk => by
    unfold zgK at h
    split at h
    · rename_i h1
      cases h
      have ih := zgu h1 hk
      intro e a w q
      cases e <;> first | exact ih _ _ _ q | exact q
    · cases h
  | .bk id :: fs, l, r, z, h, hk => by
    unfold zgK at h
    split at h
    · rename_i h1
      cases h
      have ih := zgu h1 hk
      intro e a w q
      cases e <;> first
        | exact ih _ _ _ q
        | (simp only [QS, Exit.inBlock] at q ⊢; split at q <;> first | (rename_i hh; rw [if_pos hh]; exact ih _ _ _ q) | (rename_i hh; rw [if_neg hh]; exact ih _ _ _ q))
    · cases h
def nxJ (τ : Tab) (N : Nat) (K : Act → World → Prop) (n : Nat) (c : Cur) (fs : List Fr) (E : Env) (B : Kn) : Option (Cur × List Fr × Env × Kn × Code × List Fr) :=
  match zfp τ N far c fs E B with
  | (c, fs, E, B) => match zgK K n fs with
    | some (l, y, r) => some (c, l, E, B, y, r)
    | none => none
theorem zof {o : Oper} {a : Act} {w : World} {K K' : Act → World → Prop} {Q Q' : Exit → Act → World → Prop} (h : ∀ a w, K a w → K' a w) (hq : ∀ e a w, Q e a w → Q' e a w) (hh : o.wp P a w K Q) : o.wp P a w K' Q' := by
  have hl : LetsOut Q → LetsOut Q' := fun ⟨a, w, q⟩ => ⟨a, w, hq _ _ _ q⟩
  unfold Oper.wp at *
  generalize (execOp a.eval o).run P w = r at *
  cases r with
  | ok n w' =>
    cases n <;> simp only [Oper.upon] at hh ⊢ <;>
      first
        | exact h _ _ hh
        | exact Calls.mono hh (fun e w'' he => by cases e <;> first | exact h _ _ he | exact hq _ _ _ he | exact hl he)
        | exact Rows.mono hh (fun _ _ he => h _ _ he)
  | halt x w' => cases x <;> simp only [Oper.upon] at hh ⊢ <;> first | exact hq _ _ _ hh | exact hh
theorem zkk {Q Q' : Exit → Act → World → Prop} (hq : ∀ e a w, Q e a w → Q' e a w) : ∀ {l : List Oper} {a : Act} {w : World}, wpList P all Q l a w → wpList P all Q' l a w
  | [], a, w, h => hq _ _ _ h
  | o :: l, a, w, h => by
    unfold wpList at h ⊢
    split
    · rename_i hw
      rw [if_pos hw] at h
      rcases h with h | ⟨h1, a, w, h2⟩
      · left
        exact zof (fun a w h => zkk hq h) hq h
      · exact .inr ⟨h1, a, w, hq _ _ _ h2⟩
    · rename_i hw
      rw [if_neg hw] at h
      exact zkk hq h
theorem zlX (hq : ∀ e a w, QS P Q0 fs e a w → QS P Q0 fs' e a w) {a : Act} {w : World} (h : wpU P Q0 c fs a w) : wpU P Q0 c fs' a w := by
  cases c with
  | co c => exact Code.wp_mono hq h
  | op all rest => exact zkk hq h
  | no => exact hq _ _ _ h
  | ex id => exact hq _ _ _ h
  | rt => exact hq _ _ _ h
theorem jn [TabOk P τ] (n : Nat) (K : Act → World → Prop) {y : Code} {r : List Fr} (h : nxJ τ N K n c fs E B = some (c', fs', E', B', y, r))
    (k1 : S P τ N R Q0 w0 F c' fs' E' B' L M) (k2 : ∀ a w, K a w → y.wp P (QS P Q0 r) a w) : S P τ N R Q0 w0 F c fs E B L M := by
  intro a w hf hB hO hm
  unfold nxJ at h
  split at h
  rename_i hd
  split at h
  · rename_i h1
    cases h
    exact zbq hd hf hB fun a hf hB => zlX (zgu h1 k2) (k1 a w hf hB hO hm)
  · cases h
def keys : Env → List Nat
  | [] => []
  | (k, _) :: E => k :: keys E
def zgL (E : Env) : List Nat → Option Env
  | [] => some []
  | k :: ks => match look E k with
    | some v => match zgL E ks with
      | some l => some ((k, v) :: l)
      | none => none
    | none => none
theorem Fits.vals {a : Act} (hf : Fits N E a) : ∀ {ks : List Nat} {E' : Env}, zgL E ks = some E' → Fits N E' a
  | [], E', h => by cases h; exact hf.nil
  | k :: ks, E', h => by
    unfold zgL at h
    split at h
    · rename_i v hv
      split at h
      · rename_i l hl
        cases h
        exact hf.cons hv (hf.vals hl)
      · cases h
    · cases h
theorem Fits.sel {a : Act} (hf : Fits N E a) (h : zgL E (keys E') = some E') : Fits N E' a := hf.vals h
theorem eo [TabOk P τ] {K : Act → World → Prop} (h : zfp τ N far c fs E B = (.no, .ct K :: fs', E', B'))
    (k : ∀ a w, Fits N E' a → Own w0 F w L → M = some R → K a w) : S P τ N R Q0 w0 F c fs E B L M :=
  fun _ w hf hB hO hm => zbq h hf hB fun a hf _ => k a w hf hO hm
abbrev Jp (N : Nat) (w0 : World) (F : List Nat) {ρ : Type} (R : ρ) (a : Act) (w : World) (E : Env) (L : List Res) (M : Option ρ) : Prop := Fits N E a ∧ Own w0 F w L ∧ M = some R
def zkl (L : List Res) : List Nat → Option (List Res)
  | [] => some []
  | i :: is => match nth L i with
    | some r => match zkl L is with
      | some l => some (r :: l)
      | none => none
    | none => none
theorem zkm {L : List Res} : ∀ {is : List Nat} {l : List Res}, zkl L is = some l → pick L is = l
  | [], _, h => by cases h; rfl
  | i :: is, l, h => by
    unfold zkl at h
    split at h
    · rename_i r hr
      split at h
      · rename_i l' hl
        cases h
        rw [zgJ] at hr
        rw [pick, hr]
        dsimp only
        rw [zkm hl]
      · cases h
    · cases h
theorem en [TabOk P τ] {K : Act → World → Prop} (h : zfp τ N far c fs E B = (.no, .ct K :: fs', E', B'))
    (k : ∀ a w, (∀ {E2}, zgL E' (keys E2) = some E2 → Jp N w0 F R a w E2 L M) → K a w) : S P τ N R Q0 w0 F c fs E B L M :=
  eo h fun a w hf hO hm => k a w fun h => ⟨hf.sel h, hO, hm⟩
theorem ec [TabOk P τ] (is : List Nat) {L2 : List Res} {K : Act → World → Prop} (h : zfp τ N far c fs E B = (.no, .ct K :: fs', E', B')) (hd : zgo is = true) (hp : zkl L is = some L2)
    (k : ∀ a w, (∀ {E2}, zgL E' (keys E2) = some E2 → Jp N w0 F R a w E2 L2 M) → K a w) : S P τ N R Q0 w0 F c fs E B L M :=
  eo h fun a w hf hO hm => k a w fun h => ⟨hf.sel h, by rw [← zkm hp]; exact hO.choose is hd, hm⟩
def nxV (τ : Tab) (N : Nat) (K : Env → List Res → Act → World → Prop) (n : Nat) (ks is : List Nat) (L : List Res) (c : Cur) (fs : List Fr) (E : Env) (B : Kn) : Option (Cur × List Fr × Env × Kn × Code × List Fr × Env × List Res) :=
  match zfp τ N far c fs E B with
  | (c, fs, E, B) => match zgL E ks with
    | some Ek => match zkl L is with
      | some Lk => match zgK (K Ek Lk) n fs with
        | some (l, y, r) => some (c, l, E, B, y, r, Ek, Lk)
        | none => none
      | none => none
    | none => none
theorem jv [TabOk P τ] (n : Nat) (ks is : List Nat) (K : (Env → List Res → Option ρ → Prop) → Env → List Res → Prop) {y : Code} {l r : List Fr} {Ek : Env} {Lk : List Res}
    (h : nxV τ N (fun Ek Lk a w => K (Jp N w0 F R a w) Ek Lk) n ks is L c fs E B = some (c', l, E', B', y, r, Ek, Lk))
    (k1 : S P τ N R Q0 w0 F c' l E' B' L M) (k2 : ∀ a w, K (Jp N w0 F R a w) Ek Lk → y.wp P (QS P Q0 r) a w) : S P τ N R Q0 w0 F c fs E B L M := by
  intro a w hf hB hO hm
  unfold nxV at h
  split at h
  rename_i hd
  split at h
  · split at h
    · split at h
      · rename_i h1
        cases h
        exact zbq hd hf hB fun a hf hB => zlX (zgu h1 k2) (k1 a w hf hB hO hm)
      · cases h
    · cases h
  · cases h
def nxW (τ : Tab) (N : Nat) (ks is : List Nat) (L : List Res) (c : Cur) (fs : List Fr) (E : Env) (B : Kn) : Option (Code × List Fr × Env × Kn × Env × List Res) :=
  match zfp τ N far c fs E B with
  | (.co (.loop co), fs, E, B) => match zgL E ks with
    | some Ek => match zkl L is with
      | some Lk => some (co, fs, E, B, Ek, Lk)
      | none => none
    | none => none
  | _ => none
theorem lv [TabOk P τ] (ks is : List Nat) (I : (Env → List Res → Option ρ → Prop) → Env → List Res → Nat → Prop) {co : Code} {Ek : Env} {Lk : List Res}
    (h : nxW τ N ks is L c fs E B = some (co, fs', E', B', Ek, Lk))
    (h0 : ∀ a w, (∀ {E2}, zgL E' (keys E2) = some E2 → Jp N w0 F R a w E2 L M) → I (Jp N w0 F R a w) Ek Lk fuel)
    (k : ∀ n a w, I (Jp N w0 F R a w) Ek Lk n → co.wp P (QS P Q0 (.ct (fun a w => ∃ m, m < n ∧ I (Jp N w0 F R a w) Ek Lk m) :: fs')) a w) : S P τ N R Q0 w0 F c fs E B L M := by
  intro a w hf hB hO hm
  unfold nxW at h
  split at h
  · rename_i hd
    split at h
    · split at h
      · cases h
        exact zbq hd hf hB fun a hf _ => zmU (fun n a w => I (Jp N w0 F R a w) Ek Lk n) (fun n a w hI => k n a w hI) fuel (h0 a w fun h => ⟨hf.sel h, hO, hm⟩)
      · cases h
    · cases h
  · cases h
theorem ch (is : List Nat) {L2 : List Res} (hd : zgo is = true) (hp : zkl L is = some L2) (k : S P τ N R Q0 w0 F c fs E B L2 M) : S P τ N R Q0 w0 F c fs E B L M :=
  fun a w hf hB hO hm => k a w hf hB (by rw [← zkm hp]; exact hO.choose is hd) hm
def vsOf (E : Env) : List ResultVar → Option (List Value)
  | [] => some []
  | .tmp t :: rs => match look E t with
    | some v => match vsOf E rs with
      | some vs => some (v :: vs)
      | none => none
    | none => none
  | _ => none
theorem zlb {w : World} : ∀ {rs : List ResultVar} {vs : List Value}, vsOf E rs = some vs → ResV P w E rs vs
  | [], vs, h => by cases h; exact .nil
  | .tmp t :: rs, vs, h => by
    unfold vsOf at h
    split at h
    · rename_i v hv
      split at h
      · rename_i l hl
        cases h
        exact .tmp hv (zlb hl)
      · cases h
    · cases h
  | .cell _ _ :: _, _, h => by cases h
def nxR (τ : Tab) (N : Nat) (rs : List ResultVar) (c : Cur) (fs : List Fr) (E : Env) (B : Kn) : Option Value :=
  match zfp τ N far c fs E B with
  | (.rt, [], E, _) => match vsOf E rs with
    | some vs => some (tup vs)
    | none => none
  | (.no, [], E, _) => match vsOf E rs with
    | some vs => some (tup vs)
    | none => none
  | _ => none
theorem rt [TabOk P τ] {fn : Func} {rs : List ResultVar} {r : ρ} {V : ρ → Value} (hr : fn.results = rs.toArray) (h : nxR τ N rs c fs E B = some (V r)) :
    S P τ N R (bodyPost P fn (Ret w0 V R)) w0 [] c fs E B L (some r) := by
  intro a w hf hB hO hm
  obtain rfl := Option.some.inj hm
  unfold nxR at h
  split at h
  · rename_i hd
    split at h
    · rename_i vs hv
      refine zbq hd hf hB fun a hf _ => ?_
      exact zb (R := fun e w' => e = .returned (V r) ∧ Below w0.heap.size w0 w') hr hf (zlb hv) ⟨by rw [Option.some.inj h], hO.below⟩
    · cases h
  · rename_i hd
    split at h
    · rename_i vs hv
      refine zbq hd hf hB fun a hf _ => ?_
      exact ziS (R := fun e w' => e = .returned (V r) ∧ Below w0.heap.size w0 w') hr hf (zlb hv) ⟨by rw [Option.some.inj h], hO.below⟩
    · cases h
  · cases h
end
end Go.Dk
end
section
namespace Go.Dk
open Go.RowKit Go.Dm
section
variable {P : Program} {Q : Exit → Act → World → Prop} {a : Act} {w w' w0 : World} {N : Nat} {E : Env} {F : List Nat} {L K : List Res}
variable {ops : Array Oper} {rest : List Oper} {t t' ty d : Nat} {p : String} {af : Array Edge} {x y : Operand}

theorem zew.append {s : Option Addr × Nat × Nat} {y : List Value} (hs : zw w s.1 y) (hc : s.2.1 ≤ s.2.2) : ∀ {ss : List (Option Addr × Nat × Nat)} {xs : List (List Value)}, zew w ss xs → zew w (ss ++ [s]) (xs ++ [y])
  | [], [], _ => ⟨⟨hs, hc⟩, trivial⟩
  | [], _ :: _, h => h.elim
  | _ :: _, [], h => h.elim
  | _ :: _, _ :: _, ⟨h1, h2⟩ => ⟨h1, zew.append hs hc h2⟩
theorem zew.get : ∀ {ss : List (Option Addr × Nat × Nat)} {xs : List (List Value)}, zew w ss xs → ∀ (i : Nat) (x : List Value), xs[i]? = some x → ∃ s, ss[i]? = some s ∧ zw w s.1 x ∧ s.2.1 ≤ s.2.2
  | [], [], _, i, x, h => by simp at h
  | [], _ :: _, h, _, _, _ => h.elim
  | _ :: _, [], h, _, _, _ => h.elim
  | s :: ss, y :: xs, ⟨h1, h2⟩, 0, x, h => by simp at h; subst h; exact ⟨s, by simp, h1⟩
  | s :: ss, y :: xs, ⟨h1, h2⟩, i + 1, x, h => by
    obtain ⟨s', h3, h4⟩ := zew.get h2 i x (by simpa using h)
    exact ⟨s', by simpa using h3, h4⟩
end
end Go.Dk
end
section
set_option linter.unusedVariables false
set_option linter.unusedSimpArgs false
namespace Go.Proofs
open Go.Dk Go.Dm Go.RowKit

theorem zm6 {P : Program} {w0 w : World} {n : String} {g : Nat} (hg : P.globalNamed n = some g) (h : w.heap[g]? = w0.heap[g]?) : w.var? P n = w0.var? P n := by
  unfold World.var?
  rw [hg]
  simp only [Option.bind_some, h]
def zt (w : World) : Prop := 6 ≤ w.heap.size ∧ (∃ m, w.cell? ⟨0, 0, none⟩ = some (.int .i64 m))
def zo (F : List Nat) : Prop := ∀ b ∈ F, 6 ≤ b
theorem zf : zo [] := fun b hb => by cases hb
theorem zt.same {w0 w : World} (h : zt w0) (hs : w0.heap.size ≤ w.heap.size) (hf : ∀ g, g < 6 → w.heap[g]? = w0.heap[g]?) : zt w := by
  obtain ⟨h0, ⟨m, hm0⟩⟩ := h
  exact ⟨Nat.le_trans h0 hs, ⟨m, (World.cell?_of_block (w := w0) (a := ⟨0, 0, none⟩) (hf 0 (by omega))).trans hm0⟩⟩
theorem zt.low {w0 w : World} {B : Nat} (h : zt w0) (hB : 6 ≤ B) (hb : Below B w0 w) : zt w :=
  h.same hb.size fun g hg => hb.block g (by omega)
theorem zt.size {w : World} (h : zt w) : 6 ≤ w.heap.size := h.1
theorem zt.max {w : World} (h : zt w) : (∃ m, w.cell? ⟨0, 0, none⟩ = some (.int .i64 m)) := h.2
theorem zt.own {w0 w : World} {F : List Nat} {L : List Res} (h : zt w0) (hF : zo F) (hO : Own w0 F w L) : zt w :=
  h.same hO.size fun g hg => hO.frame g (by have := h.size; omega) (fun hm => absurd (hF g hm) (by omega))
def zH (w : World) : Prop := zt w ∧ Go.Lib.TabIs Tryz.prog w "internal/strconv.uint64pow10" .u64 Go.Lib.pow10Tab
theorem zH.same {w0 w : World} (h : zH w0) (hs : w0.heap.size ≤ w.heap.size) (hf : ∀ g, g < 6 → w.heap[g]? = w0.heap[g]?) : zH w := by
  obtain ⟨h, hp⟩ := h
  exact ⟨h.same hs hf, by unfold Go.Lib.TabIs at hp ⊢; rw [← hp]; exact zm6 (show Tryz.prog.globalNamed "internal/strconv.uint64pow10" = some 3 by kernel_rfl) (hf 3 (by omega))⟩
theorem zH.low {w0 w : World} {B : Nat} (h : zH w0) (hB : 6 ≤ B) (hb : Below B w0 w) : zH w :=
  h.same hb.size fun g hg => hb.block g (by omega)
theorem zH.size {w : World} (h : zH w) : 6 ≤ w.heap.size := h.1.size
theorem zH.own {w0 w : World} {F : List Nat} {L : List Res} (h : zH w0) (hF : zo F) (hO : Own w0 F w L) : zH w :=
  h.same hO.size fun g hg => hO.frame g (by have := h.size; omega) (fun hm => absurd (hF g hm) (by omega))
def zat (x : api_Attr) : List Value := [str x.Name, str x.Value, .bool x.Has]
def za (x : api_Field) : List Value := [str x.Name, str x.Value]
def zc (x : UInt8) : List Value := [zB x]
def zh (x : Str) : List Value := [str x]
theorem zcK : zc6 Tryz.prog 107 = some true := by kernel_rfl
theorem ag_120 : zc6 Tryz.prog 120 = some false := by kernel_rfl
theorem zic : zc6 Tryz.prog 141 = some false := by kernel_rfl
theorem ag_146 : zc6 Tryz.prog 146 = some false := by kernel_rfl
theorem zl1 : zc6 Tryz.prog 180 = some false := by kernel_rfl
theorem zha : zc6 Tryz.prog 182 = some true := by kernel_rfl
theorem ag_192 : zc6 Tryz.prog 192 = some false := by kernel_rfl
theorem zdh : zc6 Tryz.prog 207 = some true := by kernel_rfl
theorem zi7 : zc6 Tryz.prog 217 = some false := by kernel_rfl
theorem ag_22 : zc6 Tryz.prog 22 = some false := by kernel_rfl
theorem ag_223 : zc6 Tryz.prog 223 = some true := by kernel_rfl
theorem ag_251 : zc6 Tryz.prog 251 = some false := by kernel_rfl
theorem ag_254 : zc6 Tryz.prog 254 = some true := by kernel_rfl
theorem zm7 : zc6 Tryz.prog 28 = some false := by kernel_rfl
theorem zl2 : zc6 Tryz.prog 283 = some true := by kernel_rfl
theorem zkC : zc6 Tryz.prog 29 = some false := by kernel_rfl
theorem ze6 : zc6 Tryz.prog 3 = some false := by kernel_rfl
theorem zdq : zc6 Tryz.prog 31 = some true := by kernel_rfl
theorem ag_32 : zc6 Tryz.prog 32 = some false := by kernel_rfl
theorem ag_338 : zc6 Tryz.prog 338 = some true := by kernel_rfl
theorem zfm : zc6 Tryz.prog 34 = some true := by kernel_rfl
theorem zcL : zc6 Tryz.prog 36 = some true := by kernel_rfl
theorem ag_4 : zc6 Tryz.prog 4 = some false := by kernel_rfl
theorem ag_5 : zc6 Tryz.prog 5 = some false := by kernel_rfl
theorem ag_61 : zc6 Tryz.prog 61 = some false := by kernel_rfl
theorem zbC : zc6 Tryz.prog 9 = some false := by kernel_rfl
theorem ag_94 : zc6 Tryz.prog 94 = some false := by kernel_rfl
theorem zid : ∀ w, (Instr.alloc 107 true (.tuple #[])).run Tryz.prog w = .ok (ptr w.heap.size 0) (w.alloc (.cells [str [], str []].toArray 107)) := fun w => by kernel_rfl
theorem zhb : ∀ w, (Instr.alloc 182 true (.tuple #[])).run Tryz.prog w = .ok (ptr w.heap.size 0) (w.alloc (.cells [int 0, str [], int 0].toArray 182)) := fun w => by kernel_rfl
theorem zhc : ∀ w, (Instr.alloc 207 true (.tuple #[])).run Tryz.prog w = .ok (ptr w.heap.size 0) (w.alloc (.cells [int 0, str [], int 0, str [], int 0, str [], str [], .bool false].toArray 207)) := fun w => by kernel_rfl
theorem zm8 : ∀ w, (Instr.alloc 223 true (.tuple #[])).run Tryz.prog w = .ok (ptr w.heap.size 0) (w.alloc (.cells [.pointer none, int 0].toArray 223)) := fun w => by kernel_rfl
theorem zl3 : ∀ w, (Instr.alloc 254 true (.tuple #[])).run Tryz.prog w = .ok (ptr w.heap.size 0) (w.alloc (.cells [.pointer none].toArray 254)) := fun w => by kernel_rfl
theorem zm9 : ∀ w, (Instr.alloc 283 true (.tuple #[])).run Tryz.prog w = .ok (ptr w.heap.size 0) (w.alloc (.cells [str [], str [], .bool false].toArray 283)) := fun w => by kernel_rfl
theorem zfR : ∀ w, (Instr.alloc 31 true (.tuple #[])).run Tryz.prog w = .ok (ptr w.heap.size 0) (w.alloc (.cells [int 0, str [], str [], int 0, str [], int 0, .slice none 0 0].toArray 31)) := fun w => by kernel_rfl
theorem al_338 : ∀ w, (Instr.alloc 338 true (.tuple #[])).run Tryz.prog w = .ok (ptr w.heap.size 0) (w.alloc (.cells [.pointer none].toArray 338)) := fun w => by kernel_rfl
theorem ziy : ∀ w, (Instr.alloc 34 true (.tuple #[])).run Tryz.prog w = .ok (ptr w.heap.size 0) (w.alloc (.cells [int 0, int 0].toArray 34)) := fun w => by kernel_rfl
theorem zkD : ∀ w, (Instr.alloc 36 true (.tuple #[])).run Tryz.prog w = .ok (ptr w.heap.size 0) (w.alloc (.cells [int 0, str [], str [], int 0, str [], int 0, .slice none 0 0, int 0, int 0, str [], .slice none 0 0].toArray 36)) := fun w => by kernel_rfl
theorem zom : (Tryz.prog.info? 5).map (fun i => (i.zero, i.size, i.bytes)) = some (some (.int .u8 0), 1, 1) := by kernel_rfl
theorem zlj : ElemB Tryz.prog 141 9 5 := ⟨Tryz.underlying141, Tryz.underlying9, by obtain ⟨i, h0, h1, h2, h3⟩ := info_parts zom; exact ⟨i, h0, h1, h2, h3⟩⟩
theorem ei_141 : (Tryz.prog.info? 5).map (fun i => (i.zero, i.size, i.bytes)) = some (some (zB 0), 1, 1) := by kernel_rfl
theorem zl4 : Elem Tryz.prog 141 5 1 1 := ⟨Tryz.underlying141, by obtain ⟨i, h0, h1, h2, h3⟩ := info_parts ei_141; exact ⟨i, _, h0, h1, h2, h3, rfl⟩, by decide⟩
theorem ei_244 : (Tryz.prog.info? 283).map (fun i => (i.zero, i.size, i.bytes)) = some (some (.agg #[str [], str [], .bool false]), 3, 40) := by kernel_rfl
theorem el_244 : Elem Tryz.prog 244 283 3 40 := ⟨Tryz.underlying244, by obtain ⟨i, h0, h1, h2, h3⟩ := info_parts ei_244; exact ⟨i, _, h0, h1, h2, h3, rfl⟩, by decide⟩
theorem ei_29 : (Tryz.prog.info? 107).map (fun i => (i.zero, i.size, i.bytes)) = some (some (.agg #[str [], str []]), 2, 32) := by kernel_rfl
theorem zlk : Elem Tryz.prog 29 107 2 32 := ⟨Tryz.underlying29, by obtain ⟨i, h0, h1, h2, h3⟩ := info_parts ei_29; exact ⟨i, _, h0, h1, h2, h3, rfl⟩, by decide⟩
theorem ei_61 : (Tryz.prog.info? 9).map (fun i => (i.zero, i.size, i.bytes)) = some (some (str []), 1, 16) := by kernel_rfl
theorem zjp : Elem Tryz.prog 61 9 1 16 := ⟨Tryz.underlying61, by obtain ⟨i, h0, h1, h2, h3⟩ := info_parts ei_61; exact ⟨i, _, h0, h1, h2, h3, rfl⟩, by decide⟩
theorem zon (d : Nat) (x y : api_Field) (w : World) : (Op.equalIn (d + 2) 107 (.agg #[str x.Name, str x.Value]) (.agg #[str y.Name, str y.Value])).run Tryz.prog w = .ok (x == y) w := by
  obtain ⟨x0, x1⟩ := x
  obtain ⟨y0, y1⟩ := y
  show (Op.equalIn (d + 1 + 1) 107 _ _).run _ _ = _
  rw [run_equalIn_struct w (d + 1) 107 _ _ (by kernel_rfl) (by kernel_rfl)]
  have e : ((⟨x0, x1⟩ : api_Field) == ⟨y0, y1⟩) = decide (x0 = y0 ∧ x1 = y1) := by
    show decide (_ = _) = _
    exact decide_eq_decide.2 (by simp)
  rw [e]
  simp only [Program.fieldsOf, Tryz.underlying107, Op.eqFields]
  simp [part, Tryz.isAgg9, Tryz.underlying9, run_equalIn_string, run_equalIn_bool', run_equalIn_int, zkc, Result.andThen, zjG]
  by_cases h0 : x0 = y0 <;> by_cases h1 : x1 = y1 <;> simp [h0, h1]
theorem eq_107 (x y : api_Field) (w : World) : (Op.equalIn 10000 107 (.agg #[str x.Name, str x.Value]) (.agg #[str y.Name, str y.Value])).run Tryz.prog w = .ok (x == y) w := zon 9998 x y w
theorem eqd_34 (d : Nat) (x y : api_Frame) (w : World) : (Op.equalIn (d + 2) 34 (.agg #[int x.Kind, int x.N]) (.agg #[int y.Kind, int y.N])).run Tryz.prog w = .ok (x == y) w := by
  obtain ⟨x0, x1⟩ := x
  obtain ⟨y0, y1⟩ := y
  show (Op.equalIn (d + 1 + 1) 34 _ _).run _ _ = _
  rw [run_equalIn_struct w (d + 1) 34 _ _ (by kernel_rfl) (by kernel_rfl)]
  have e : ((⟨x0, x1⟩ : api_Frame) == ⟨y0, y1⟩) = decide (x0 = y0 ∧ x1 = y1) := by
    show decide (_ = _) = _
    exact decide_eq_decide.2 (by simp)
  rw [e]
  simp only [Program.fieldsOf, Tryz.underlying34, Op.eqFields]
  simp [part, Tryz.isAgg3, Tryz.underlying3, Tryz.isAgg32, Tryz.underlying32, run_equalIn_string, run_equalIn_bool', run_equalIn_int, zkc, Result.andThen, zjG]
  by_cases h0 : x0 = y0 <;> by_cases h1 : x1 = y1 <;> simp [h0, h1]
theorem eq_34 (x y : api_Frame) (w : World) : (Op.equalIn 10000 34 (.agg #[int x.Kind, int x.N]) (.agg #[int y.Kind, int y.N])).run Tryz.prog w = .ok (x == y) w := eqd_34 9998 x y w
theorem zna : ∀ b o w, (Instr.fieldAt 107 (ptr b o) 0).run Tryz.prog w = .ok (ptr b (o + 0)) w := fun b o w => by kernel_rfl
theorem zhd : ∀ b o w, (Instr.fieldAt 107 (ptr b o) 1).run Tryz.prog w = .ok (ptr b (o + 1)) w := fun b o w => by kernel_rfl
theorem znb : ∀ b o w, (Instr.fieldAt 110 (ptr b o) 0).run Tryz.prog w = .ok (ptr b (o + 0)) w := fun b o w => by kernel_rfl
theorem znc : ∀ b o w, (Instr.fieldAt 110 (ptr b o) 1).run Tryz.prog w = .ok (ptr b (o + 1)) w := fun b o w => by kernel_rfl
theorem znd : ∀ b o w, (Instr.fieldAt 110 (ptr b o) 2).run Tryz.prog w = .ok (ptr b (o + 2)) w := fun b o w => by kernel_rfl
theorem zne : ∀ b o w, (Instr.fieldAt 110 (ptr b o) 3).run Tryz.prog w = .ok (ptr b (o + 3)) w := fun b o w => by kernel_rfl
theorem znf : ∀ b o w, (Instr.fieldAt 123 (ptr b o) 0).run Tryz.prog w = .ok (ptr b (o + 0)) w := fun b o w => by kernel_rfl
theorem zng : ∀ b o w, (Instr.fieldAt 123 (ptr b o) 1).run Tryz.prog w = .ok (ptr b (o + 1)) w := fun b o w => by kernel_rfl
theorem zll : ∀ b o w, (Instr.fieldAt 143 (ptr b o) 0).run Tryz.prog w = .ok (ptr b (o + 0)) w := fun b o w => by kernel_rfl
theorem zjT : ∀ b o w, (Instr.fieldAt 143 (ptr b o) 1).run Tryz.prog w = .ok (ptr b (o + 1)) w := fun b o w => by kernel_rfl
theorem zhe : ∀ b o w, (Instr.fieldAt 143 (ptr b o) 2).run Tryz.prog w = .ok (ptr b (o + 2)) w := fun b o w => by kernel_rfl
theorem zlm : ∀ b o w, (Instr.fieldAt 143 (ptr b o) 3).run Tryz.prog w = .ok (ptr b (o + 3)) w := fun b o w => by kernel_rfl
theorem znh : ∀ b o w, (Instr.fieldAt 143 (ptr b o) 4).run Tryz.prog w = .ok (ptr b (o + 4)) w := fun b o w => by kernel_rfl
theorem zln : ∀ b o w, (Instr.fieldAt 143 (ptr b o) 5).run Tryz.prog w = .ok (ptr b (o + 5)) w := fun b o w => by kernel_rfl
theorem zlo : ∀ b o w, (Instr.fieldAt 143 (ptr b o) 6).run Tryz.prog w = .ok (ptr b (o + 6)) w := fun b o w => by kernel_rfl
theorem zlp : ∀ b o w, (Instr.fieldAt 143 (ptr b o) 7).run Tryz.prog w = .ok (ptr b (o + 7)) w := fun b o w => by kernel_rfl
theorem zni : ∀ b o w, (Instr.fieldAt 150 (ptr b o) 0).run Tryz.prog w = .ok (ptr b (o + 0)) w := fun b o w => by kernel_rfl
theorem znj : ∀ b o w, (Instr.fieldAt 150 (ptr b o) 1).run Tryz.prog w = .ok (ptr b (o + 1)) w := fun b o w => by kernel_rfl
theorem znk : ∀ b o w, (Instr.fieldAt 150 (ptr b o) 2).run Tryz.prog w = .ok (ptr b (o + 3)) w := fun b o w => by kernel_rfl
theorem zjU : ∀ b o w, (Instr.fieldAt 150 (ptr b o) 3).run Tryz.prog w = .ok (ptr b (o + 4)) w := fun b o w => by kernel_rfl
theorem znl : ∀ b o w, (Instr.fieldAt 150 (ptr b o) 4).run Tryz.prog w = .ok (ptr b (o + 5)) w := fun b o w => by kernel_rfl
theorem zlq : ∀ b o w, (Instr.fieldAt 162 (ptr b o) 0).run Tryz.prog w = .ok (ptr b (o + 0)) w := fun b o w => by kernel_rfl
theorem zlr : ∀ b o w, (Instr.fieldAt 162 (ptr b o) 1).run Tryz.prog w = .ok (ptr b (o + 1)) w := fun b o w => by kernel_rfl
theorem ziz : ∀ b o w, (Instr.fieldAt 167 (ptr b o) 0).run Tryz.prog w = .ok (ptr b (o + 0)) w := fun b o w => by kernel_rfl
theorem zhf : ∀ b o w, (Instr.fieldAt 167 (ptr b o) 1).run Tryz.prog w = .ok (ptr b (o + 1)) w := fun b o w => by kernel_rfl
theorem znm : ∀ b o w, (Instr.fieldAt 167 (ptr b o) 2).run Tryz.prog w = .ok (ptr b (o + 2)) w := fun b o w => by kernel_rfl
theorem zjV : ∀ b o w, (Instr.fieldAt 182 (ptr b o) 0).run Tryz.prog w = .ok (ptr b (o + 0)) w := fun b o w => by kernel_rfl
theorem zls : ∀ b o w, (Instr.fieldAt 182 (ptr b o) 1).run Tryz.prog w = .ok (ptr b (o + 1)) w := fun b o w => by kernel_rfl
theorem znn : ∀ b o w, (Instr.fieldAt 182 (ptr b o) 2).run Tryz.prog w = .ok (ptr b (o + 2)) w := fun b o w => by kernel_rfl
theorem zlt : ∀ b o w, (Instr.fieldAt 194 (ptr b o) 0).run Tryz.prog w = .ok (ptr b (o + 0)) w := fun b o w => by kernel_rfl
theorem zno : ∀ b o w, (Instr.fieldAt 194 (ptr b o) 1).run Tryz.prog w = .ok (ptr b (o + 1)) w := fun b o w => by kernel_rfl
theorem znp : ∀ b o w, (Instr.fieldAt 194 (ptr b o) 2).run Tryz.prog w = .ok (ptr b (o + 2)) w := fun b o w => by kernel_rfl
theorem znq : ∀ b o w, (Instr.fieldAt 194 (ptr b o) 3).run Tryz.prog w = .ok (ptr b (o + 3)) w := fun b o w => by kernel_rfl
theorem znr : ∀ b o w, (Instr.fieldAt 194 (ptr b o) 4).run Tryz.prog w = .ok (ptr b (o + 4)) w := fun b o w => by kernel_rfl
theorem zlu : ∀ b o w, (Instr.fieldAt 194 (ptr b o) 5).run Tryz.prog w = .ok (ptr b (o + 5)) w := fun b o w => by kernel_rfl
theorem zjW : ∀ b o w, (Instr.fieldAt 194 (ptr b o) 6).run Tryz.prog w = .ok (ptr b (o + 6)) w := fun b o w => by kernel_rfl
theorem zns : ∀ b o w, (Instr.fieldAt 207 (ptr b o) 1).run Tryz.prog w = .ok (ptr b (o + 1)) w := fun b o w => by kernel_rfl
theorem znt : ∀ b o w, (Instr.fieldAt 207 (ptr b o) 2).run Tryz.prog w = .ok (ptr b (o + 2)) w := fun b o w => by kernel_rfl
theorem znu : ∀ b o w, (Instr.fieldAt 207 (ptr b o) 3).run Tryz.prog w = .ok (ptr b (o + 5)) w := fun b o w => by kernel_rfl
theorem znv : ∀ b o w, (Instr.fieldAt 207 (ptr b o) 4).run Tryz.prog w = .ok (ptr b (o + 6)) w := fun b o w => by kernel_rfl
theorem znw : ∀ b o w, (Instr.fieldAt 207 (ptr b o) 5).run Tryz.prog w = .ok (ptr b (o + 7)) w := fun b o w => by kernel_rfl
theorem zjX : ∀ b o w, (Instr.fieldAt 223 (ptr b o) 0).run Tryz.prog w = .ok (ptr b (o + 0)) w := fun b o w => by kernel_rfl
theorem znx : ∀ b o w, (Instr.fieldAt 223 (ptr b o) 1).run Tryz.prog w = .ok (ptr b (o + 1)) w := fun b o w => by kernel_rfl
theorem zny : ∀ b o w, (Instr.fieldAt 254 (ptr b o) 0).run Tryz.prog w = .ok (ptr b (o + 0)) w := fun b o w => by kernel_rfl
theorem znz : ∀ b o w, (Instr.fieldAt 272 (ptr b o) 0).run Tryz.prog w = .ok (ptr b (o + 0)) w := fun b o w => by kernel_rfl
theorem znA : ∀ b o w, (Instr.fieldAt 283 (ptr b o) 1).run Tryz.prog w = .ok (ptr b (o + 1)) w := fun b o w => by kernel_rfl
theorem znB : ∀ b o w, (Instr.fieldAt 283 (ptr b o) 2).run Tryz.prog w = .ok (ptr b (o + 2)) w := fun b o w => by kernel_rfl
theorem ziA : ∀ b o w, (Instr.fieldAt 289 (ptr b o) 0).run Tryz.prog w = .ok (ptr b (o + 0)) w := fun b o w => by kernel_rfl
theorem ziB : ∀ b o w, (Instr.fieldAt 289 (ptr b o) 1).run Tryz.prog w = .ok (ptr b (o + 1)) w := fun b o w => by kernel_rfl
theorem znC : ∀ b o w, (Instr.fieldAt 297 (ptr b o) 0).run Tryz.prog w = .ok (ptr b (o + 0)) w := fun b o w => by kernel_rfl
theorem znD : ∀ b o w, (Instr.fieldAt 297 (ptr b o) 1).run Tryz.prog w = .ok (ptr b (o + 1)) w := fun b o w => by kernel_rfl
theorem zlv : ∀ b o w, (Instr.fieldAt 297 (ptr b o) 2).run Tryz.prog w = .ok (ptr b (o + 2)) w := fun b o w => by kernel_rfl
theorem zlw : ∀ b o w, (Instr.fieldAt 297 (ptr b o) 3).run Tryz.prog w = .ok (ptr b (o + 3)) w := fun b o w => by kernel_rfl
theorem zoo : ∀ b o w, (Instr.fieldAt 31 (ptr b o) 0).run Tryz.prog w = .ok (ptr b (o + 0)) w := fun b o w => by kernel_rfl
theorem zop : ∀ b o w, (Instr.fieldAt 31 (ptr b o) 1).run Tryz.prog w = .ok (ptr b (o + 1)) w := fun b o w => by kernel_rfl
theorem zoq : ∀ b o w, (Instr.fieldAt 31 (ptr b o) 2).run Tryz.prog w = .ok (ptr b (o + 2)) w := fun b o w => by kernel_rfl
theorem zmv : ∀ b o w, (Instr.fieldAt 31 (ptr b o) 3).run Tryz.prog w = .ok (ptr b (o + 3)) w := fun b o w => by kernel_rfl
theorem zmw : ∀ b o w, (Instr.fieldAt 31 (ptr b o) 4).run Tryz.prog w = .ok (ptr b (o + 4)) w := fun b o w => by kernel_rfl
theorem ziC : ∀ b o w, (Instr.fieldAt 31 (ptr b o) 5).run Tryz.prog w = .ok (ptr b (o + 5)) w := fun b o w => by kernel_rfl
theorem zkP : ∀ b o w, (Instr.fieldAt 31 (ptr b o) 6).run Tryz.prog w = .ok (ptr b (o + 6)) w := fun b o w => by kernel_rfl
theorem znE : ∀ b o w, (Instr.fieldAt 335 (ptr b o) 0).run Tryz.prog w = .ok (ptr b (o + 0)) w := fun b o w => by kernel_rfl
theorem znF : ∀ b o w, (Instr.fieldAt 335 (ptr b o) 1).run Tryz.prog w = .ok (ptr b (o + 1)) w := fun b o w => by kernel_rfl
theorem znG : ∀ b o w, (Instr.fieldAt 338 (ptr b o) 0).run Tryz.prog w = .ok (ptr b (o + 0)) w := fun b o w => by kernel_rfl
theorem zor : ∀ b o w, (Instr.fieldAt 34 (ptr b o) 0).run Tryz.prog w = .ok (ptr b (o + 0)) w := fun b o w => by kernel_rfl
theorem zos : ∀ b o w, (Instr.fieldAt 34 (ptr b o) 1).run Tryz.prog w = .ok (ptr b (o + 1)) w := fun b o w => by kernel_rfl
theorem zot : ∀ b o w, (Instr.fieldAt 36 (ptr b o) 0).run Tryz.prog w = .ok (ptr b (o + 0)) w := fun b o w => by kernel_rfl
theorem zou : ∀ b o w, (Instr.fieldAt 36 (ptr b o) 1).run Tryz.prog w = .ok (ptr b (o + 7)) w := fun b o w => by kernel_rfl
theorem zov : ∀ b o w, (Instr.fieldAt 36 (ptr b o) 2).run Tryz.prog w = .ok (ptr b (o + 9)) w := fun b o w => by kernel_rfl
theorem zow : ∀ b o w, (Instr.fieldAt 36 (ptr b o) 3).run Tryz.prog w = .ok (ptr b (o + 10)) w := fun b o w => by kernel_rfl
theorem zox : ∀ b o w, (Instr.fieldAt 96 (ptr b o) 0).run Tryz.prog w = .ok (ptr b (o + 0)) w := fun b o w => by kernel_rfl
theorem zoy : ∀ b o w, (Instr.fieldAt 96 (ptr b o) 1).run Tryz.prog w = .ok (ptr b (o + 1)) w := fun b o w => by kernel_rfl
theorem za7 : zag Tryz.prog 107 = some 2 := by kernel_rfl
theorem sz_141 : zag Tryz.prog 141 = some 1 := by kernel_rfl
theorem sz_146 : zag Tryz.prog 146 = some 1 := by kernel_rfl
theorem sz_156 : zag Tryz.prog 156 = some 9 := by kernel_rfl
theorem znH : zag Tryz.prog 180 = some 1 := by kernel_rfl
theorem zgz : zag Tryz.prog 182 = some 3 := by kernel_rfl
theorem sz_192 : zag Tryz.prog 192 = some 1 := by kernel_rfl
theorem zcM : zag Tryz.prog 207 = some 8 := by kernel_rfl
theorem sz_22 : zag Tryz.prog 22 = some 1 := by kernel_rfl
theorem znI : zag Tryz.prog 223 = some 2 := by kernel_rfl
theorem sz_242 : zag Tryz.prog 242 = some 3 := by kernel_rfl
theorem sz_254 : zag Tryz.prog 254 = some 1 := by kernel_rfl
theorem zl5 : zag Tryz.prog 283 = some 3 := by kernel_rfl
theorem sz_29 : zag Tryz.prog 29 = some 1 := by kernel_rfl
theorem sz_3 : zag Tryz.prog 3 = some 1 := by kernel_rfl
theorem zdf : zag Tryz.prog 31 = some 7 := by kernel_rfl
theorem sz_338 : zag Tryz.prog 338 = some 1 := by kernel_rfl
theorem zfn : zag Tryz.prog 34 = some 2 := by kernel_rfl
theorem zcN : zag Tryz.prog 36 = some 11 := by kernel_rfl
theorem sz_4 : zag Tryz.prog 4 = some 1 := by kernel_rfl
theorem sz_5 : zag Tryz.prog 5 = some 1 := by kernel_rfl
theorem sz_61 : zag Tryz.prog 61 = some 1 := by kernel_rfl
theorem zhS : zag Tryz.prog 9 = some 1 := by kernel_rfl
theorem sz_94 : zag Tryz.prog 94 = some 1 := by kernel_rfl
theorem zv_9 : ∀ w, (zeroValue 9).run Tryz.prog w = .ok (str []) w := fun w => by kernel_rfl
def tb : Tab := ⟨[(9, .string), (29, .slice 107), (61, .slice 9), (141, .slice 5), (187, .slice 3)], [(31, 0, 0), (31, 1, 1), (31, 2, 2), (31, 3, 3), (31, 4, 4), (31, 5, 5), (31, 6, 6), (34, 0, 0), (34, 1, 1), (36, 0, 0), (36, 1, 7), (36, 2, 9), (36, 3, 10), (96, 0, 0), (96, 1, 1), (107, 0, 0), (107, 1, 1), (110, 0, 0), (110, 1, 1), (110, 2, 2), (110, 3, 3), (123, 0, 0), (123, 1, 1), (143, 0, 0), (143, 1, 1), (143, 2, 2), (143, 3, 3), (143, 4, 4), (143, 5, 5), (143, 6, 6), (143, 7, 7), (150, 0, 0), (150, 1, 1), (150, 2, 3), (150, 3, 4), (150, 4, 5), (162, 0, 0), (162, 1, 1), (167, 0, 0), (167, 1, 1), (167, 2, 2), (182, 0, 0), (182, 1, 1), (182, 2, 2), (194, 0, 0), (194, 1, 1), (194, 2, 2), (194, 3, 3), (194, 4, 4), (194, 5, 5), (194, 6, 6), (207, 1, 1), (207, 2, 2), (207, 3, 5), (207, 4, 6), (207, 5, 7), (223, 0, 0), (223, 1, 1), (254, 0, 0), (272, 0, 0), (283, 1, 1), (283, 2, 2), (289, 0, 0), (289, 1, 1), (297, 0, 0), (297, 1, 1), (297, 2, 2), (297, 3, 3), (335, 0, 0), (335, 1, 1), (338, 0, 0)], [(3, false), (4, false), (9, false), (22, false), (28, false), (29, false), (31, true), (32, false), (34, true), (36, true), (61, false), (94, false), (107, true), (120, false), (141, false), (146, false), (180, false), (182, true), (192, false), (207, true), (223, true), (251, false), (254, true), (283, true), (338, true)], [(3, 1), (4, 1), (9, 1), (22, 1), (29, 1), (31, 7), (34, 2), (36, 11), (61, 1), (94, 1), (107, 2), (141, 1), (146, 1), (156, 9), (180, 1), (182, 3), (192, 1), (207, 8), (223, 2), (242, 3), (254, 1), (283, 3), (338, 1)]⟩
instance : TabOk Tryz.prog tb := ⟨zhy ⟨Tryz.underlying9, ⟨Tryz.underlying29, ⟨Tryz.underlying61, ⟨Tryz.underlying141, ⟨Tryz.underlying187, trivial⟩⟩⟩⟩⟩, zhy ⟨zoo, ⟨zop, ⟨zoq, ⟨zmv, ⟨zmw, ⟨ziC, ⟨zkP, ⟨zor, ⟨zos, ⟨zot, ⟨zou, ⟨zov, ⟨zow, ⟨zox, ⟨zoy, ⟨zna, ⟨zhd, ⟨znb, ⟨znc, ⟨znd, ⟨zne, ⟨znf, ⟨zng, ⟨zll, ⟨zjT, ⟨zhe, ⟨zlm, ⟨znh, ⟨zln, ⟨zlo, ⟨zlp, ⟨zni, ⟨znj, ⟨znk, ⟨zjU, ⟨znl, ⟨zlq, ⟨zlr, ⟨ziz, ⟨zhf, ⟨znm, ⟨zjV, ⟨zls, ⟨znn, ⟨zlt, ⟨zno, ⟨znp, ⟨znq, ⟨znr, ⟨zlu, ⟨zjW, ⟨zns, ⟨znt, ⟨znu, ⟨znv, ⟨znw, ⟨zjX, ⟨znx, ⟨zny, ⟨znz, ⟨znA, ⟨znB, ⟨ziA, ⟨ziB, ⟨znC, ⟨znD, ⟨zlv, ⟨zlw, ⟨znE, ⟨znF, ⟨znG, trivial⟩⟩⟩⟩⟩⟩⟩⟩⟩⟩⟩⟩⟩⟩⟩⟩⟩⟩⟩⟩⟩⟩⟩⟩⟩⟩⟩⟩⟩⟩⟩⟩⟩⟩⟩⟩⟩⟩⟩⟩⟩⟩⟩⟩⟩⟩⟩⟩⟩⟩⟩⟩⟩⟩⟩⟩⟩⟩⟩⟩⟩⟩⟩⟩⟩⟩⟩⟩⟩⟩⟩, zhy ⟨ze6, ⟨ag_4, ⟨zbC, ⟨ag_22, ⟨zm7, ⟨zkC, ⟨zdq, ⟨ag_32, ⟨zfm, ⟨zcL, ⟨ag_61, ⟨ag_94, ⟨zcK, ⟨ag_120, ⟨zic, ⟨ag_146, ⟨zl1, ⟨zha, ⟨ag_192, ⟨zdh, ⟨ag_223, ⟨ag_251, ⟨ag_254, ⟨zl2, ⟨ag_338, trivial⟩⟩⟩⟩⟩⟩⟩⟩⟩⟩⟩⟩⟩⟩⟩⟩⟩⟩⟩⟩⟩⟩⟩⟩⟩, zhy ⟨sz_3, ⟨sz_4, ⟨zhS, ⟨sz_22, ⟨sz_29, ⟨zdf, ⟨zfn, ⟨zcN, ⟨sz_61, ⟨sz_94, ⟨za7, ⟨sz_141, ⟨sz_146, ⟨sz_156, ⟨znH, ⟨zgz, ⟨sz_192, ⟨zcM, ⟨znI, ⟨sz_242, ⟨sz_254, ⟨zl5, ⟨sz_338, trivial⟩⟩⟩⟩⟩⟩⟩⟩⟩⟩⟩⟩⟩⟩⟩⟩⟩⟩⟩⟩⟩⟩⟩⟩
theorem c_11 : zd Tryz.prog 11 := ⟨Tryz.f11, Tryz.func11, rfl, by kernel_rfl⟩
theorem c_14 : zd Tryz.prog 14 := ⟨Tryz.f14, Tryz.func14, rfl, by kernel_rfl⟩
theorem c_17 : zd Tryz.prog 17 := ⟨Tryz.f17, Tryz.func17, rfl, by kernel_rfl⟩
theorem c_19 : zd Tryz.prog 19 := ⟨Tryz.f19, Tryz.func19, rfl, by kernel_rfl⟩
theorem c_21 : zd Tryz.prog 21 := ⟨Tryz.f21, Tryz.func21, rfl, by kernel_rfl⟩
theorem c_22 : zd Tryz.prog 22 := ⟨Tryz.f22, Tryz.func22, rfl, by kernel_rfl⟩
theorem c_23 : zd Tryz.prog 23 := ⟨Tryz.f23, Tryz.func23, rfl, by kernel_rfl⟩
theorem c_24 : zd Tryz.prog 24 := ⟨Tryz.f24, Tryz.func24, rfl, by kernel_rfl⟩
theorem c_34 : zd Tryz.prog 34 := ⟨Tryz.f34, Tryz.func34, rfl, by kernel_rfl⟩
theorem c_35 : zd Tryz.prog 35 := ⟨Tryz.f35, Tryz.func35, rfl, by kernel_rfl⟩
theorem c_38 : zd Tryz.prog 38 := ⟨Tryz.f38, Tryz.func38, rfl, by kernel_rfl⟩
theorem c_39 : zd Tryz.prog 39 := ⟨Tryz.f39, Tryz.func39, rfl, by kernel_rfl⟩
theorem c_40 : zd Tryz.prog 40 := ⟨Tryz.f40, Tryz.func40, rfl, by kernel_rfl⟩
theorem c_41 : zd Tryz.prog 41 := ⟨Tryz.f41, Tryz.func41, rfl, by kernel_rfl⟩
theorem c_45 : zd Tryz.prog 45 := ⟨Tryz.f45, Tryz.func45, rfl, by kernel_rfl⟩
theorem c_46 : zd Tryz.prog 46 := ⟨Tryz.f46, Tryz.func46, rfl, by kernel_rfl⟩
theorem c_47 : zd Tryz.prog 47 := ⟨Tryz.f47, Tryz.func47, rfl, by kernel_rfl⟩
theorem c_48 : zd Tryz.prog 48 := ⟨Tryz.f48, Tryz.func48, rfl, by kernel_rfl⟩
theorem c_49 : zd Tryz.prog 49 := ⟨Tryz.f49, Tryz.func49, rfl, by kernel_rfl⟩
theorem c_50 : zd Tryz.prog 50 := ⟨Tryz.f50, Tryz.func50, rfl, by kernel_rfl⟩
theorem c_51 : zd Tryz.prog 51 := ⟨Tryz.f51, Tryz.func51, rfl, by kernel_rfl⟩
theorem c_52 : zd Tryz.prog 52 := ⟨Tryz.f52, Tryz.func52, rfl, by kernel_rfl⟩
theorem c_57 : zd Tryz.prog 57 := ⟨Tryz.f57, Tryz.func57, rfl, by kernel_rfl⟩
theorem c_58 : zd Tryz.prog 58 := ⟨Tryz.f58, Tryz.func58, rfl, by kernel_rfl⟩
theorem c_59 : zd Tryz.prog 59 := ⟨Tryz.f59, Tryz.func59, rfl, by kernel_rfl⟩
theorem c_60 : zd Tryz.prog 60 := ⟨Tryz.f60, Tryz.func60, rfl, by kernel_rfl⟩
theorem c_61 : zd Tryz.prog 61 := ⟨Tryz.f61, Tryz.func61, rfl, by kernel_rfl⟩
theorem c_62 : zd Tryz.prog 62 := ⟨Tryz.f62, Tryz.func62, rfl, by kernel_rfl⟩
theorem c_63 : zd Tryz.prog 63 := ⟨Tryz.f63, Tryz.func63, rfl, by kernel_rfl⟩
theorem c_64 : zd Tryz.prog 64 := ⟨Tryz.f64, Tryz.func64, rfl, by kernel_rfl⟩
theorem c_69 : zd Tryz.prog 69 := ⟨Tryz.f69, Tryz.func69, rfl, by kernel_rfl⟩
theorem c_70 : zd Tryz.prog 70 := ⟨Tryz.f70, Tryz.func70, rfl, by kernel_rfl⟩
theorem c_71 : zd Tryz.prog 71 := ⟨Tryz.f71, Tryz.func71, rfl, by kernel_rfl⟩
theorem c_72 : zd Tryz.prog 72 := ⟨Tryz.f72, Tryz.func72, rfl, by kernel_rfl⟩
theorem c_73 : zd Tryz.prog 73 := ⟨Tryz.f73, Tryz.func73, rfl, by kernel_rfl⟩
theorem c_78 : zd Tryz.prog 78 := ⟨Tryz.f78, Tryz.func78, rfl, by kernel_rfl⟩
theorem c_79 : zd Tryz.prog 79 := ⟨Tryz.f79, Tryz.func79, rfl, by kernel_rfl⟩
theorem c_80 : zd Tryz.prog 80 := ⟨Tryz.f80, Tryz.func80, rfl, by kernel_rfl⟩
theorem c_81 : zd Tryz.prog 81 := ⟨Tryz.f81, Tryz.func81, rfl, by kernel_rfl⟩
theorem c_82 : zd Tryz.prog 82 := ⟨Tryz.f82, Tryz.func82, rfl, by kernel_rfl⟩
theorem c_83 : zd Tryz.prog 83 := ⟨Tryz.f83, Tryz.func83, rfl, by kernel_rfl⟩
theorem c_84 : zd Tryz.prog 84 := ⟨Tryz.f84, Tryz.func84, rfl, by kernel_rfl⟩
theorem c_87 : zd Tryz.prog 87 := ⟨Tryz.f87, Tryz.func87, rfl, by kernel_rfl⟩
theorem c_88 : zd Tryz.prog 88 := ⟨Tryz.f88, Tryz.func88, rfl, by kernel_rfl⟩
theorem c_89 : zd Tryz.prog 89 := ⟨Tryz.f89, Tryz.func89, rfl, by kernel_rfl⟩
theorem c_90 : zd Tryz.prog 90 := ⟨Tryz.f90, Tryz.func90, rfl, by kernel_rfl⟩
theorem c_91 : zd Tryz.prog 91 := ⟨Tryz.f91, Tryz.func91, rfl, by kernel_rfl⟩
theorem c_94 : zd Tryz.prog 94 := ⟨Tryz.f94, Tryz.func94, rfl, by kernel_rfl⟩
theorem zkQ : zd Tryz.prog 95 := ⟨Tryz.f95, Tryz.func95, rfl, by kernel_rfl⟩
theorem c_96 : zd Tryz.prog 96 := ⟨Tryz.f96, Tryz.func96, rfl, by kernel_rfl⟩
theorem c_97 : zd Tryz.prog 97 := ⟨Tryz.f97, Tryz.func97, rfl, by kernel_rfl⟩
theorem c_98 : zd Tryz.prog 98 := ⟨Tryz.f98, Tryz.func98, rfl, by kernel_rfl⟩
theorem c_99 : zd Tryz.prog 99 := ⟨Tryz.f99, Tryz.func99, rfl, by kernel_rfl⟩
theorem c_100 : zd Tryz.prog 100 := ⟨Tryz.f100, Tryz.func100, rfl, by kernel_rfl⟩
theorem c_101 : zd Tryz.prog 101 := ⟨Tryz.f101, Tryz.func101, rfl, by kernel_rfl⟩
theorem c_111 : zd Tryz.prog 111 := ⟨Tryz.f111, Tryz.func111, rfl, by kernel_rfl⟩
theorem c_112 : zd Tryz.prog 112 := ⟨Tryz.f112, Tryz.func112, rfl, by kernel_rfl⟩
theorem c_113 : zd Tryz.prog 113 := ⟨Tryz.f113, Tryz.func113, rfl, by kernel_rfl⟩
theorem c_114 : zd Tryz.prog 114 := ⟨Tryz.f114, Tryz.func114, rfl, by kernel_rfl⟩
theorem c_118 : zd Tryz.prog 118 := ⟨Tryz.f118, Tryz.func118, rfl, by kernel_rfl⟩
theorem c_119 : zd Tryz.prog 119 := ⟨Tryz.f119, Tryz.func119, rfl, by kernel_rfl⟩
theorem c_120 : zd Tryz.prog 120 := ⟨Tryz.f120, Tryz.func120, rfl, by kernel_rfl⟩
theorem c_121 : zd Tryz.prog 121 := ⟨Tryz.f121, Tryz.func121, rfl, by kernel_rfl⟩
theorem c_122 : zd Tryz.prog 122 := ⟨Tryz.f122, Tryz.func122, rfl, by kernel_rfl⟩
theorem c_123 : zd Tryz.prog 123 := ⟨Tryz.f123, Tryz.func123, rfl, by kernel_rfl⟩
theorem c_129 : zd Tryz.prog 129 := ⟨Tryz.f129, Tryz.func129, rfl, by kernel_rfl⟩
theorem c_130 : zd Tryz.prog 130 := ⟨Tryz.f130, Tryz.func130, rfl, by kernel_rfl⟩
theorem c_131 : zd Tryz.prog 131 := ⟨Tryz.f131, Tryz.func131, rfl, by kernel_rfl⟩
theorem c_139 : zd Tryz.prog 139 := ⟨Tryz.f139, Tryz.func139, rfl, by kernel_rfl⟩
theorem znM : zd Tryz.prog 140 := ⟨Tryz.f140, Tryz.func140, rfl, by kernel_rfl⟩
theorem znN : zd Tryz.prog 141 := ⟨Tryz.f141, Tryz.func141, rfl, by kernel_rfl⟩
theorem c_142 : zd Tryz.prog 142 := ⟨Tryz.f142, Tryz.func142, rfl, by kernel_rfl⟩
theorem c_143 : zd Tryz.prog 143 := ⟨Tryz.f143, Tryz.func143, rfl, by kernel_rfl⟩
theorem znO : zd Tryz.prog 156 := ⟨Tryz.f156, Tryz.func156, rfl, by kernel_rfl⟩
theorem c_157 : zd Tryz.prog 157 := ⟨Tryz.f157, Tryz.func157, rfl, by kernel_rfl⟩
theorem c_158 : zd Tryz.prog 158 := ⟨Tryz.f158, Tryz.func158, rfl, by kernel_rfl⟩
theorem c_163 : zd Tryz.prog 163 := ⟨Tryz.f163, Tryz.func163, rfl, by kernel_rfl⟩
theorem c_164 : zd Tryz.prog 164 := ⟨Tryz.f164, Tryz.func164, rfl, by kernel_rfl⟩
theorem c_165 : zd Tryz.prog 165 := ⟨Tryz.f165, Tryz.func165, rfl, by kernel_rfl⟩
theorem c_166 : zd Tryz.prog 166 := ⟨Tryz.f166, Tryz.func166, rfl, by kernel_rfl⟩
theorem zkE : zd Tryz.prog 167 := ⟨Tryz.f167, Tryz.func167, rfl, by kernel_rfl⟩
theorem zmx : zd Tryz.prog 168 := ⟨Tryz.f168, Tryz.func168, rfl, by kernel_rfl⟩
theorem zet : zd Tryz.prog 169 := ⟨Tryz.f169, Tryz.func169, rfl, by kernel_rfl⟩
theorem zlx : zd Tryz.prog 170 := ⟨Tryz.f170, Tryz.func170, rfl, by kernel_rfl⟩
theorem c_171 : zd Tryz.prog 171 := ⟨Tryz.f171, Tryz.func171, rfl, by kernel_rfl⟩
theorem c_172 : zd Tryz.prog 172 := ⟨Tryz.f172, Tryz.func172, rfl, by kernel_rfl⟩
theorem c_173 : zd Tryz.prog 173 := ⟨Tryz.f173, Tryz.func173, rfl, by kernel_rfl⟩
theorem zly : zd Tryz.prog 174 := ⟨Tryz.f174, Tryz.func174, rfl, by kernel_rfl⟩
theorem zmy : zd Tryz.prog 175 := ⟨Tryz.f175, Tryz.func175, rfl, by kernel_rfl⟩
theorem zjY : zd Tryz.prog 176 := ⟨Tryz.f176, Tryz.func176, rfl, by kernel_rfl⟩
theorem zmz : zd Tryz.prog 177 := ⟨Tryz.f177, Tryz.func177, rfl, by kernel_rfl⟩
theorem zkF : zd Tryz.prog 178 := ⟨Tryz.f178, Tryz.func178, rfl, by kernel_rfl⟩
theorem c_179 : zd Tryz.prog 179 := ⟨Tryz.f179, Tryz.func179, rfl, by kernel_rfl⟩
theorem c_180 : zd Tryz.prog 180 := ⟨Tryz.f180, Tryz.func180, rfl, by kernel_rfl⟩
theorem c_184 : zd Tryz.prog 184 := ⟨Tryz.f184, Tryz.func184, rfl, by kernel_rfl⟩
theorem zmA : zd Tryz.prog 185 := ⟨Tryz.f185, Tryz.func185, rfl, by kernel_rfl⟩
theorem c_190 : zd Tryz.prog 190 := ⟨Tryz.f190, Tryz.func190, rfl, by kernel_rfl⟩
theorem c_191 : zd Tryz.prog 191 := ⟨Tryz.f191, Tryz.func191, rfl, by kernel_rfl⟩
theorem c_192 : zd Tryz.prog 192 := ⟨Tryz.f192, Tryz.func192, rfl, by kernel_rfl⟩
theorem c_193 : zd Tryz.prog 193 := ⟨Tryz.f193, Tryz.func193, rfl, by kernel_rfl⟩
theorem c_194 : zd Tryz.prog 194 := ⟨Tryz.f194, Tryz.func194, rfl, by kernel_rfl⟩
theorem c_195 : zd Tryz.prog 195 := ⟨Tryz.f195, Tryz.func195, rfl, by kernel_rfl⟩
theorem c_196 : zd Tryz.prog 196 := ⟨Tryz.f196, Tryz.func196, rfl, by kernel_rfl⟩
theorem c_204 : zd Tryz.prog 204 := ⟨Tryz.f204, Tryz.func204, rfl, by kernel_rfl⟩
theorem c_205 : zd Tryz.prog 205 := ⟨Tryz.f205, Tryz.func205, rfl, by kernel_rfl⟩
theorem c_206 : zd Tryz.prog 206 := ⟨Tryz.f206, Tryz.func206, rfl, by kernel_rfl⟩
theorem c_207 : zd Tryz.prog 207 := ⟨Tryz.f207, Tryz.func207, rfl, by kernel_rfl⟩
theorem c_208 : zd Tryz.prog 208 := ⟨Tryz.f208, Tryz.func208, rfl, by kernel_rfl⟩
theorem c_209 : zd Tryz.prog 209 := ⟨Tryz.f209, Tryz.func209, rfl, by kernel_rfl⟩
theorem c_215 : zd Tryz.prog 215 := ⟨Tryz.f215, Tryz.func215, rfl, by kernel_rfl⟩
theorem c_216 : zd Tryz.prog 216 := ⟨Tryz.f216, Tryz.func216, rfl, by kernel_rfl⟩
theorem zjZ : zd Tryz.prog 217 := ⟨Tryz.f217, Tryz.func217, rfl, by kernel_rfl⟩
theorem zlz : zd Tryz.prog 218 := ⟨Tryz.f218, Tryz.func218, rfl, by kernel_rfl⟩
theorem c_219 : zd Tryz.prog 219 := ⟨Tryz.f219, Tryz.func219, rfl, by kernel_rfl⟩
theorem c_221 : zd Tryz.prog 221 := ⟨Tryz.f221, Tryz.func221, rfl, by kernel_rfl⟩
theorem zlA : zd Tryz.prog 225 := ⟨Tryz.f225, Tryz.func225, rfl, by kernel_rfl⟩
theorem c_226 : zd Tryz.prog 226 := ⟨Tryz.f226, Tryz.func226, rfl, by kernel_rfl⟩
theorem znP : zd Tryz.prog 229 := ⟨Tryz.f229, Tryz.func229, rfl, by kernel_rfl⟩
theorem c_230 : zd Tryz.prog 230 := ⟨Tryz.f230, Tryz.func230, rfl, by kernel_rfl⟩
theorem c_231 : zd Tryz.prog 231 := ⟨Tryz.f231, Tryz.func231, rfl, by kernel_rfl⟩
theorem c_232 : zd Tryz.prog 232 := ⟨Tryz.f232, Tryz.func232, rfl, by kernel_rfl⟩
theorem c_233 : zd Tryz.prog 233 := ⟨Tryz.f233, Tryz.func233, rfl, by kernel_rfl⟩
theorem c_234 : zd Tryz.prog 234 := ⟨Tryz.f234, Tryz.func234, rfl, by kernel_rfl⟩
theorem c_242 : zd Tryz.prog 242 := ⟨Tryz.f242, Tryz.func242, rfl, by kernel_rfl⟩
theorem c_243 : zd Tryz.prog 243 := ⟨Tryz.f243, Tryz.func243, rfl, by kernel_rfl⟩
theorem c_251 : zd Tryz.prog 251 := ⟨Tryz.f251, Tryz.func251, rfl, by kernel_rfl⟩
theorem c_252 : zd Tryz.prog 252 := ⟨Tryz.f252, Tryz.func252, rfl, by kernel_rfl⟩
theorem znQ : zd Tryz.prog 253 := ⟨Tryz.f253, Tryz.func253, rfl, by kernel_rfl⟩
theorem c_254 : zd Tryz.prog 254 := ⟨Tryz.f254, Tryz.func254, rfl, by kernel_rfl⟩
theorem c_255 : zd Tryz.prog 255 := ⟨Tryz.f255, Tryz.func255, rfl, by kernel_rfl⟩
theorem c_256 : zd Tryz.prog 256 := ⟨Tryz.f256, Tryz.func256, rfl, by kernel_rfl⟩
theorem znR : zd Tryz.prog 259 := ⟨Tryz.f259, Tryz.func259, rfl, by kernel_rfl⟩
theorem c_261 : zd Tryz.prog 261 := ⟨Tryz.f261, Tryz.func261, rfl, by kernel_rfl⟩
theorem c_262 : zd Tryz.prog 262 := ⟨Tryz.f262, Tryz.func262, rfl, by kernel_rfl⟩
theorem c_263 : zd Tryz.prog 263 := ⟨Tryz.f263, Tryz.func263, rfl, by kernel_rfl⟩
theorem c_264 : zd Tryz.prog 264 := ⟨Tryz.f264, Tryz.func264, rfl, by kernel_rfl⟩
theorem c_265 : zd Tryz.prog 265 := ⟨Tryz.f265, Tryz.func265, rfl, by kernel_rfl⟩
theorem c_269 : zd Tryz.prog 269 := ⟨Tryz.f269, Tryz.func269, rfl, by kernel_rfl⟩
theorem c_275 : zd Tryz.prog 275 := ⟨Tryz.f275, Tryz.func275, rfl, by kernel_rfl⟩
theorem c_276 : zd Tryz.prog 276 := ⟨Tryz.f276, Tryz.func276, rfl, by kernel_rfl⟩
theorem zlB : zd Tryz.prog 278 := ⟨Tryz.f278, Tryz.func278, rfl, by kernel_rfl⟩
theorem c_280 : zd Tryz.prog 280 := ⟨Tryz.f280, Tryz.func280, rfl, by kernel_rfl⟩
theorem c_281 : zd Tryz.prog 281 := ⟨Tryz.f281, Tryz.func281, rfl, by kernel_rfl⟩
theorem c_285 : zd Tryz.prog 285 := ⟨Tryz.f285, Tryz.func285, rfl, by kernel_rfl⟩
theorem c_286 : zd Tryz.prog 286 := ⟨Tryz.f286, Tryz.func286, rfl, by kernel_rfl⟩
theorem c_289 : zd Tryz.prog 289 := ⟨Tryz.f289, Tryz.func289, rfl, by kernel_rfl⟩
theorem c_290 : zd Tryz.prog 290 := ⟨Tryz.f290, Tryz.func290, rfl, by kernel_rfl⟩
theorem c_292 : zd Tryz.prog 292 := ⟨Tryz.f292, Tryz.func292, rfl, by kernel_rfl⟩
theorem c_293 : zd Tryz.prog 293 := ⟨Tryz.f293, Tryz.func293, rfl, by kernel_rfl⟩
theorem c_294 : zd Tryz.prog 294 := ⟨Tryz.f294, Tryz.func294, rfl, by kernel_rfl⟩
end Go.Proofs
end
section
namespace Go.Proofs
open Go.Dk Go.Dm Go.RowKit
theorem zfo (s : Str) (c : UInt8) (R : Int) (w0 : World) (hG : zt w0) (hm : strings_IndexByte s c = some R) :
    Calls Tryz.prog 226 #[str s, zB c] w0 fun e w' => e = .returned (int R) ∧ Below w0.heap.size w0 w' := by
  refine (Tryz.strings_IndexByte ⟨s.toArray⟩ c.toNat w0).mono fun e w' ⟨he, hw⟩ => ?_
  subst he hw
  refine ⟨?_, Below.refl _ _⟩
  unfold strings_IndexByte at hm
  rw [zlh] at hm
  cases hm
  simp
theorem zfe (s t : Str) (R : Int) (w0 : World) (hG : zt w0) (hm : strings_Index s t = some R) :
    Calls Tryz.prog 205 #[str s, str t] w0 fun e w' => e = .returned (int R) ∧ Below w0.heap.size w0 w' := by
  unfold strings_Index at hm
  split at hm
  · rename_i hs
    obtain ⟨m, hg⟩ := hG.max
    refine (Tryz.strings_Index ⟨s.toArray⟩ ⟨t.toArray⟩ m w0 hs hg).mono fun e w' ⟨he, hw⟩ => ?_
    subst he hw
    rw [zlY] at hm
    cases hm
    exact ⟨rfl, Below.refl _ _⟩
  · cases hm
theorem zeW (s t : Str) (R : Str × Str × Bool) (w0 : World) (hG : zt w0) (hm : strings_Cut s t = some R) :
    Calls Tryz.prog 175 #[str s, str t] w0 fun e w' => e = .returned (.tuple #[str R.1, str R.2.1, .bool R.2.2]) ∧ Below w0.heap.size w0 w' := by
  unfold strings_Cut at hm
  split at hm
  · rename_i hs
    obtain ⟨m, hg⟩ := hG.max
    refine (Tryz.strings_Cut ⟨s.toArray⟩ ⟨t.toArray⟩ m w0 hs hg).mono fun e w' ⟨he, n, hw⟩ => ?_
    subst he hw
    cases hm
    exact ⟨rfl, ⟨rfl, rfl, rfl, Nat.le_refl _, fun _ _ => rfl⟩⟩
  · cases hm
theorem zfC (s cs : Str) (R : Int) (w0 : World) (hG : zt w0) (hm : strings_IndexAny s cs = some R) :
    Calls Tryz.prog 164 #[str s, str cs] w0 fun e w' => e = .returned (int R) ∧ Below w0.heap.size w0 w' := by
  unfold strings_IndexAny at hm
  split at hm
  · rename_i hs
    refine (zkT Tryz.lays153 (by kernel_rfl) ⟨s.toArray⟩ ⟨cs.toArray⟩ w0 hs.1 hs.2.1 (fun j b hb => ?_)).mono fun e w' ⟨he, hw⟩ => ?_
    · have := List.all_eq_true.1 hs.2.2 b (List.mem_of_getElem? hb)
      simpa using this
    · subst he
      rw [zlZ] at hm
      cases hm
      exact ⟨rfl, hw⟩
  · cases hm
theorem zhU (n b : Int) (R : Str) (w0 : World) (hG : zH w0) (hm : zea n b = some R) :
    Calls Tryz.prog 163 #[int n, int b] w0 fun e w' => e = .returned (str R) ∧ Below w0.heap.size w0 w' := by
  unfold zea at hm
  split at hm
  · rename_i h
    obtain ⟨h1, rfl⟩ := h
    obtain ⟨h2, h3⟩ := zlc.1 h1
    cases hm
    refine (Tryz.strconv_FormatInt_10 n h2 h3 w0 hG.2).mono fun e w' ⟨he, k, os, hw⟩ => ?_
    subst he hw
    exact ⟨rfl, Lib.below_grow _ _ (Nat.le_refl _) _ _⟩
  · cases hm
theorem zgV (s sep : Str) (R : List Str) (w0 : World) (hG : zt w0) (hm : strings_Split s sep = some R) :
    Calls Tryz.prog 206 #[str s, str sep] w0 fun e w' => ∃ (p0 : Option Addr) (c0 : Nat), e = .returned (.slice p0 R.length c0) ∧ Own w0 [] w' [.row (.slice p0 R.length c0) 9 1 R.length (cells zh R)] := by
  unfold strings_Split at hm
  split at hm
  · rename_i hs
    obtain ⟨m, hg⟩ := hG.max
    refine (Tryz.strings_Split ⟨s.toArray⟩ ⟨sep.toArray⟩ m w0 hs.1 hg hs.2).mono fun e w' ⟨he, hw⟩ => ?_
    subst he hw
    have hlen := Go.Lib.splitB_all ⟨sep.toArray⟩ hs.2 0 _ ⟨s.toArray⟩ rfl
    have hdat := Go.Lib.splitB_data ⟨sep.toArray⟩ 0 (Go.Lib.countB ⟨s.toArray⟩ ⟨sep.toArray⟩) ⟨s.toArray⟩
    have hR : R = (Go.Lib.splitB ⟨sep.toArray⟩ 0 (Go.Lib.countB ⟨s.toArray⟩ ⟨sep.toArray⟩) ⟨s.toArray⟩).map (·.data.toList) := by
      rw [hdat]; exact (Option.some.inj hm).symm
    have hRl : R.length = Go.Lib.countB ⟨s.toArray⟩ ⟨sep.toArray⟩ + 1 := by rw [hR, List.length_map, hlen]
    have hcells : (Go.Lib.splitB ⟨sep.toArray⟩ 0 (Go.Lib.countB ⟨s.toArray⟩ ⟨sep.toArray⟩) ⟨s.toArray⟩).map Value.string = cells zh R := by
      rw [hR]
      generalize Go.Lib.splitB _ _ _ _ = l
      induction l with
      | nil => rfl
      | cons x l ih => obtain ⟨⟨x⟩⟩ := x; rw [List.map_cons, List.map_cons, ih]; rfl
    have hle := Go.Lib.countB_le ⟨sep.toArray⟩ hs.2 _ ⟨s.toArray⟩ (Nat.le_refl _)
    have hsz : (⟨s.toArray⟩ : ByteArray).size = s.length := rfl
    have hO := (Own.refl w0).newRow (cells zh R) 9 1 R.length (zbZ (enc := zh) (sz := 1) (fun _ => rfl) R) (by unfold maxLen; omega)
    rw [hcells, ← hRl]
    exact ⟨_, _, rfl, hO⟩
  · cases hm
theorem zfD (s cs : Str) (R : Str) (w0 : World) (hG : zt w0) (hm : zeb s cs = some R) :
    Calls Tryz.prog 97 #[str s, str cs] w0 fun e w' => e = .returned (str R) ∧ Below w0.heap.size w0 w' := by
  unfold zeb at hm
  split at hm
  · rename_i hs
    refine (Any.strings_Trim_laid Tryz.lays160 (by kernel_rfl) ⟨s.toArray⟩ ⟨cs.toArray⟩ w0 (Nat.le_trans (Nat.le_of_lt hs.1) (by decide)) hs.2.1 (fun j b hb => ?_)).mono fun e w' ⟨he, hw⟩ => ?_
    · have := List.all_eq_true.1 hs.2.2 b (List.mem_of_getElem? hb)
      simpa using this
    · subst he
      cases hm
      exact ⟨rfl, hw⟩
  · cases hm
theorem zj6 (l : List Str) (sep : Str) (R : Str) (w0 : World) (hG : zt w0) {x_p : Option Addr} {x_c : Nat} (hs0 : zw w0 x_p (cells zh l)) (hc0 : l.length ≤ x_c) (hm : strings_Join l sep = some R) :
    Calls Tryz.prog 101 #[.slice x_p l.length x_c, str sep] w0 fun e w' => e = .returned (str R) ∧ Below w0.heap.size w0 w' := by
  unfold strings_Join at hm
  split at hm
  · rename_i hb
    cases hm
    have hmap : (l.map fun x => (⟨x.toArray⟩ : ByteArray)).map (·.data.toList) = l := by
      rw [List.map_map]; exact List.map_id' l
    cases x_p with
    | none =>
      have hnil : cells zh l = [] := hs0
      have : l = [] := by
        cases l with
        | nil => rfl
        | cons x l => simp [cells, zh] at hnil
      subst this
      exact (Tryz.strings_Join_none none x_c ⟨sep.toArray⟩ w0).mono fun e w' h => by
        obtain ⟨he, hw⟩ := h
        subst he hw
        exact ⟨rfl, Below.refl _ _⟩
    | some a =>
      obtain ⟨bk, o, spot⟩ := a
      obtain ⟨h1, h2, h3⟩ := hs0
      simp only at h1; subst h1
      have := Tryz.strings_Join bk o x_c (l.map fun x => (⟨x.toArray⟩ : ByteArray)) ⟨sep.toArray⟩ w0 (fun j x hx => ?_) h2 (by simpa using hb.1) (by simpa using hc0) (by rw [hmap]; exact hb.2)
      · rw [hmap, List.length_map] at this
        exact this
      · rw [List.getElem?_map] at hx
        obtain ⟨y, hy, rfl⟩ := Option.map_eq_some_iff.1 hx
        refine h3 j _ ?_
        have := zhL (enc := zh) (sz := 1) (fun _ => rfl) l j 0 y hy (by omega)
        rw [Nat.mul_one, Nat.add_zero] at this
        exact this
  · cases hm
end Go.Proofs
end
