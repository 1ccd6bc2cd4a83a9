/-
  Walks in short: a program's steps are taken by evaluation as far as no case parts; one rule for each thing that is left. Over any program.
  Facts on the types and functions of this translation, one by one, by evaluation. Written by a program (wip/gen).
  The library functions that the walks call. Over this translation.
-/
import Derived.Test.YtbebpdfhbpedjaaGreatDoorShelf
import Derived.Test.YtbebpdfhbpedjaaGreatDoorT27
import Derived.Test.YtbebpdfhbpedjaaGreatDoorProg
import Derived.KernelRfl
import Derived.Laws.StructEq
import Derived.Lib.LaidTab
import Derived.Lib.ItoaNum
import Derived.Shelf.Strings.SlTrimAscii
import Derived.Lib.AppendIntMem
section
namespace Go.Dk
open Go.RowKit Go.Dm

inductive Fr where
  | sq (y : Code)
  | ct (K : Act → World → Prop)
  | bk (id : Nat)
def QS (P : Program) (Q0 : Exit → Act → World → Prop) : List Fr → Exit → Act → World → Prop
  | [] => Q0
  | .sq y :: fs => Exit.then (y.wp P (QS P Q0 fs)) (QS P Q0 fs)
  | .ct K :: fs => Exit.then K (QS P Q0 fs)
  | .bk id :: fs => Exit.inBlock id (QS P Q0 fs)
inductive Cur where
  | co (c : Code)
  | op (all : Array Oper) (rest : List Oper)
  | no
  | ex (id : Nat)
  | rt
def wpU (P : Program) (Q0 : Exit → Act → World → Prop) : Cur → List Fr → Act → World → Prop
  | .co c, fs => c.wp P (QS P Q0 fs)
  | .op all rest, fs => wpList P all (QS P Q0 fs) rest
  | .no, fs => QS P Q0 fs .normal
  | .ex id, fs => QS P Q0 fs (.exit id)
  | .rt, fs => QS P Q0 fs .ret

abbrev Kn := List (Nat × Option Bool)
def lkB : Kn → Nat → Option Bool
  | [], _ => none
  | (k, v) :: B, d => bif Nat.beq k d then v else lkB B d
def zmY (d : Nat) (k : Option Bool) (B : Kn) : Kn :=
  match k with
  | some b => (d, some b) :: B
  | none => match lkB B d with
    | some _ => (d, none) :: B
    | none => B
def Kns (B : Kn) (a : Act) : Prop := ∀ d b, lkB B d = some b → a.tmps[d]? = some (.bool b)
def kOf (B : Kn) : Operand → Option Bool
  | .tmp s => lkB B s
  | .const (.bool b) => some b
  | _ => none
def knO (B : Kn) : Op → Option Bool
  | .move x => kOf B x
  | .assign x => kOf B x
  | .pick c x y => match kOf B c with
    | some true => kOf B x
    | some false => kOf B y
    | none => none
  | .unOp .not _ x => match kOf B x with
    | some true => some false
    | some false => some true
    | none => none
  | _ => none

structure Tab where
  und : List (Nat × TypeDesc)
  fa : List (Nat × Nat × Nat)
class TabOk (P : Program) (τ : Tab) : Prop where
  und : ∀ p ∈ τ.und, P.underlying p.1 = some p.2
  fa : ∀ p ∈ τ.fa, ∀ b o w, (Instr.fieldAt p.1 (ptr b o) p.2.1).run P w = .ok (ptr b (o + p.2.2)) w
def allP {α : Type} (Q : α → Prop) : List α → Prop
  | [] => True
  | x :: l => Q x ∧ allP Q l
theorem zkW {α : Type} {Q : α → Prop} : ∀ {l : List α}, allP Q l → ∀ x ∈ l, Q x
  | [], _, x, hx => by cases hx
  | y :: l, h, x, hx => by
    rcases List.mem_cons.1 hx with rfl | hx
    · exact h.1
    · exact zkW h.2 x hx
def ass {α : Type} : List (Nat × α) → Nat → Option α
  | [], _ => none
  | (k, v) :: l, t => bif Nat.beq k t then some v else ass l t
def offs : List (Nat × Nat × Nat) → Nat → Nat → Option Nat
  | [], _, _ => none
  | (k, j, v) :: l, t, i => bif Nat.beq k t then bif Nat.beq j i then some v else offs l t i else offs l t i
theorem zgP {α : Type} : ∀ {l : List (Nat × α)} {t : Nat} {v : α}, ass l t = some v → (t, v) ∈ l
  | [], _, _, h => by cases h
  | (k, u) :: l, t, v, h => by
    simp only [ass] at h
    by_cases e : Nat.beq k t = true
    · simp only [e, cond_true, Option.some.injEq] at h
      have : k = t := by simpa using e
      subst this; subst h
      exact List.mem_cons_self ..
    · simp only [e] at h
      exact List.mem_cons_of_mem _ (zgP h)
theorem zkX : ∀ {l : List (Nat × Nat × Nat)} {t i v : Nat}, offs l t i = some v → (t, i, v) ∈ l
  | [], _, _, _, h => by cases h
  | (k, j, u) :: l, t, i, v, h => by
    simp only [offs] at h
    by_cases e : Nat.beq k t = true
    · by_cases e2 : Nat.beq j i = true
      · simp only [e, e2, cond_true, Option.some.injEq] at h
        have h1 : k = t := by simpa using e
        have h2 : j = i := by simpa using e2
        subst h1; subst h2; subst h
        exact List.mem_cons_self ..
      · simp only [e, e2, cond_true] at h
        exact List.mem_cons_of_mem _ (zkX h)
    · simp only [e] at h
      exact List.mem_cons_of_mem _ (zkX h)
def nth {α : Type} : List α → Nat → Option α
  | [], _ => none
  | x :: _, 0 => some x
  | _ :: l, n + 1 => nth l n
theorem zoE {α : Type} : ∀ (l : List α) (n : Nat), nth l n = l[n]?
  | [], _ => by simp [nth]
  | _ :: _, 0 => by simp [nth]
  | _ :: l, n + 1 => by simp [nth, zoE l n]

def cmpI (o : BinOp) (m n : Int) : Option Value :=
  match o with
  | .eql => some (.bool (m == n))
  | .neq => some (.bool (!(m == n)))
  | .lss => some (.bool (decide (m < n)))
  | .leq => some (.bool (decide (m ≤ n)))
  | .gtr => some (.bool (decide (n < m)))
  | .geq => some (.bool (decide (n ≤ m)))
  | _ => none
def evO (τ : Tab) (E : Env) (B : Kn) : Op → Option Value
  | .move x => evl E x
  | .assign x => evl E x
  | .pick c x y => match kOf B c with
    | some true => evl E x
    | some false => evl E y
    | none => none
  | .unOp .not _ x => match evl E x with
    | some (.bool b) => some (.bool (!b))
    | _ => none
  | .binOp o _ x y _ => match evl E x with
    | some (.int .i64 m) => match evl E y with
      | some (.int .i64 n) => cmpI o m n
      | _ => none
    | some (.string ⟨⟨l⟩⟩) => match evl E y with
      | some (.string ⟨⟨m⟩⟩) => match o with
        | .eql => some (.bool (l == m))
        | .neq => some (.bool (!(l == m)))
        | _ => none
      | _ => none
    | _ => none
  | .extract x i => match evl E x with
    | some (.tuple ⟨l⟩) => nth l i
    | _ => none
  | .nilCheck x => match evl E x with
    | some (.pointer (some ad)) => some (.pointer (some ad))
    | _ => none
  | .fieldAddr t x i => match evl E x with
    | some (.pointer (some ⟨b, o, none⟩)) => match offs τ.fa t i with
      | some f => some (.pointer (some ⟨b, o + f, none⟩))
      | none => none
    | _ => none
  | .call ⟨.builtin .len, ⟨[x]⟩, ⟨[t]⟩⟩ => match ass τ.und t with
    | some .string => match evl E x with
      | some (.string ⟨⟨l⟩⟩) => some (.int .i64 l.length)
      | _ => none
    | some (.slice _) => match evl E x with
      | some (.slice _ n _) => some (.int .i64 n)
      | _ => none
    | _ => none
  | _ => none

section
variable {P : Program} {τ : Tab} {N : Nat} {E : Env} {B : Kn} {a : Act} {w : World}

theorem zdQ (hB : Kns B a) {x : Operand} {b : Bool} (h : kOf B x = some b) : a.eval x = .bool b := by
  cases x with
  | tmp s => have := hB s b h; simp [Act.eval, Array.getD_eq_getD_getElem?, this]
  | const c =>
    cases c <;> first | (simp [kOf] at h; done) | skip
    simp only [kOf, Option.some.injEq] at h
    subst h; rfl
  | global g => simp [kOf] at h
  | func f => simp [kOf] at h

theorem evO_ok [hτ : TabOk P τ] {o : Oper} {v : Value} (hf : Fits N E a) (hB : Kns B a) (h : evO τ E B o.op = some v) :
    (execOp a.eval o).run P w = .ok (.value v) w ∧ ∀ b, knO B o.op = some b → v = .bool b := by
  obtain ⟨dst, op, t, p, af, gd⟩ := o
  dsimp only at h ⊢
  unfold evO at h
  split at h
  · exact ⟨zv hf h, fun b hb => (hf.ev h).symm.trans (zdQ hB hb)⟩
  · exact ⟨zcY hf h, fun b hb => (hf.ev h).symm.trans (zdQ hB hb)⟩
  · rename_i c x y
    split at h
    · rename_i hc
      refine ⟨?_, fun b hb => ?_⟩
      · simp only [execOp]; rw [zdQ hB hc, hf.ev h]; simp [asBool]
      · simp only [knO, hc] at hb; exact (hf.ev h).symm.trans (zdQ hB hb)
    · rename_i hc
      refine ⟨?_, fun b hb => ?_⟩
      · simp only [execOp]; rw [zdQ hB hc, hf.ev h]; simp [asBool]
      · simp only [knO, hc] at hb; exact (hf.ev h).symm.trans (zdQ hB hb)
    · cases h
  · rename_i ti x
    split at h
    · rename_i b hx
      obtain rfl := Option.some.inj h
      refine ⟨ex_not hf hx, fun b' hb => ?_⟩
      simp only [knO] at hb
      split at hb
      · rename_i hk
        have := (hf.ev hx).symm.trans (zdQ hB hk)
        cases this; cases hb; rfl
      · rename_i hk
        have := (hf.ev hx).symm.trans (zdQ hB hk)
        cases this; cases hb; rfl
      · cases hb
    · cases h
  · rename_i bo ti x y ty
    refine ⟨?_, fun b hb => by simp [knO] at hb⟩
    split at h
    · rename_i m hx
      split at h
      · rename_i n hy
        cases bo <;> first | (cases h; done) | skip
        · obtain rfl := Option.some.inj h; exact ex_eql hf hx hy
        · obtain rfl := Option.some.inj h; exact zqN hf hx hy
        · obtain rfl := Option.some.inj h; exact ex_lss hf hx hy
        · obtain rfl := Option.some.inj h; exact ex_leq hf hx hy
        · obtain rfl := Option.some.inj h; exact ex_gtr hf hx hy
        · obtain rfl := Option.some.inj h; exact ex_geq hf hx hy
      · cases h
    · rename_i l hx
      split at h
      · rename_i m hy
        split at h
        · obtain rfl := Option.some.inj h; exact zqQ hf hx hy
        · obtain rfl := Option.some.inj h; exact zqR hf hx hy
        · cases h
      · cases h
    · cases h
  · rename_i x i
    refine ⟨?_, fun b hb => by simp [knO] at hb⟩
    split at h
    · rename_i l hx
      exact zoU hf hx (by rw [zoE] at h; simpa using h)
    · cases h
  · refine ⟨?_, fun b hb => by simp [knO] at hb⟩
    split at h
    · rename_i ad hx
      obtain rfl := Option.some.inj h
      exact zbc hf hx
    · cases h
  · refine ⟨?_, fun b hb => by simp [knO] at hb⟩
    split at h
    · rename_i b o hx
      split at h
      · rename_i f ho
        obtain rfl := Option.some.inj h
        exact zaz (fun b o w => hτ.fa _ (zkX ho) b o w) hf hx
      · cases h
    · cases h
  · refine ⟨?_, fun b hb => by simp [knO] at hb⟩
    split at h
    · rename_i ht
      split at h
      · rename_i l hx
        obtain rfl := Option.some.inj h
        exact zlc (hτ.und _ (zgP ht)) hf hx
      · cases h
    · rename_i e ht
      split at h
      · rename_i n c hx
        obtain rfl := Option.some.inj h
        exact zqV (hτ.und _ (zgP ht)) hf hx
      · cases h
    · cases h
  · cases h

def gd (all : Array Oper) (E : Env) (B : Kn) : Option (Nat × Bool) → Option Bool
  | none => some true
  | some (j, b) => match nth all.toList j with
    | some ⟨some s, _, _, _, _, _⟩ => match lkB B s with
      | some b' => some (b' == b)
      | none => match look E s with
        | some (.tuple ⟨[]⟩) => some false
        | _ => none
    | _ => none
theorem zqv {all : Array Oper} {o : Oper} {m : Bool} (hf : Fits N E a) (hB : Kns B a) (h : gd all E B o.guard = some m) : Region.wanted o (yielded all a.tmps) = m := by
  unfold gd at h
  split at h
  · rename_i hg
    obtain rfl := Option.some.inj h
    simp [Region.wanted, hg]
  · rename_i j b hg
    split at h
    · rename_i s _ _ _ _ _ hs
      rw [zoE] at hs
      have hs' : (all[j]?).bind (·.dst) = some s := by rw [← Array.getElem?_toList, hs]; rfl
      split at h
      · rename_i b' hb'
        obtain rfl := Option.some.inj h
        have hy : yielded all a.tmps j = some b' := by simp [yielded, hs', hB s _ hb']
        cases b <;> cases b' <;> simp [Region.wanted, hg, hy]
      · split at h
        · rename_i hu
          obtain rfl := Option.some.inj h
          have hy : yielded all a.tmps j = none := by simp [yielded, hs', hf.has s _ hu]
          simp [Region.wanted, hg, hy]
        · cases h
    · cases h

abbrev Cfg := Cur × List Fr × Env × Kn
def zoF (τ : Tab) (N : Nat) (all : Array Oper) (o : Oper) (rest : List Oper) (fs : List Fr) (E : Env) (B : Kn) : Option Cfg :=
  match gd all E B o.guard with
  | some true => match evO τ E B o.op with
    | some v => match o.dst with
      | some d => match Nat.blt d N with
        | true => match zmY d (knO B o.op) B with
          | [] => some (.op all rest, fs, (d, v) :: E, [])
          | k :: B' => some (.op all rest, fs, (d, v) :: E, k :: B')
        | false => none
      | none => some (.op all rest, fs, E, B)
    | none => none
  | some false => match o.dst with
    | some d => match Nat.blt d N with
      | true => match zmY d none B with
        | [] => some (.op all rest, fs, (d, undef) :: E, [])
        | k :: B' => some (.op all rest, fs, (d, undef) :: E, k :: B')
      | false => none
    | none => some (.op all rest, fs, E, B)
  | none => none
def zkY (τ : Tab) (N : Nat) (E : Env) (B : Kn) : Cur → List Fr → Option Cfg
  | .co .skip, fs => some (.no, fs, E, B)
  | .co (.seq x y), fs => some (.co x, .sq y :: fs, E, B)
  | .co (.region _ ops false), fs => some (.op ops ops.toList, fs, E, B)
  | .co (.cond c x y), fs => match kOf B c with
    | some true => some (.co x, fs, E, B)
    | some false => some (.co y, fs, E, B)
    | none => none
  | .co (.block id c), fs => some (.co c, .bk id :: fs, E, B)
  | .co (.exit id), fs => some (.ex id, fs, E, B)
  | .co .ret, fs => some (.rt, fs, E, B)
  | .no, .sq y :: fs => some (.co y, fs, E, B)
  | .no, .bk _ :: fs => some (.no, fs, E, B)
  | .ex id, .sq _ :: fs => some (.ex id, fs, E, B)
  | .ex id, .ct _ :: fs => some (.ex id, fs, E, B)
  | .ex id, .bk i :: fs => match Nat.beq id i with
    | true => some (.no, fs, E, B)
    | false => some (.ex id, fs, E, B)
  | .rt, _ :: fs => some (.rt, fs, E, B)
  | .op _ [], fs => some (.no, fs, E, B)
  | .op all (o :: rest), fs => zoF τ N all o rest fs E B
  | _, _ => none
def zgm (τ : Tab) (N : Nat) : Nat → Cur → List Fr → Env → Kn → Cfg
  | 0, c, fs, E, B => (c, fs, E, B)
  | n + 1, c, fs, E, B => match zkY τ N E B c fs with
    | some (c', fs', E', B') => zgm τ N n c' fs' E' B'
    | none => (c, fs, E, B)

variable {Q0 : Exit → Act → World → Prop}

theorem zqw {d : Nat} {k : Option Bool} {d' : Nat} {b : Bool} (h : lkB (zmY d k B) d' = some b) : (d = d' ∧ k = some b) ∨ (d ≠ d' ∧ lkB B d' = some b) := by
  unfold zmY at h
  by_cases e : d = d'
  · subst e
    left
    split at h
    · simp [lkB] at h; exact ⟨rfl, by rw [h]⟩
    · split at h
      · simp [lkB] at h
      · rename_i hn; rw [hn] at h; cases h
  · right
    refine ⟨e, ?_⟩
    have hb : Nat.beq d d' = false := ziv.2 e
    split at h
    · simpa [lkB, hb] using h
    · split at h
      · simpa [lkB, hb] using h
      · exact h
theorem Kns.put (hf : Fits N E a) (hB : Kns B a) {d : Nat} (hd : Nat.blt d N = true) {v : Value} {k : Option Bool} (hk : ∀ b, k = some b → v = .bool b) : Kns (zmY d k B) (a.put (some d) v) := by
  intro d' b h
  have hd' : d < a.tmps.size := by rw [hf.size]; simpa [Nat.blt_eq] using hd
  rcases zqw h with ⟨rfl, hkb⟩ | ⟨hne, hb⟩
  · simp [Act.put, hd', hk b hkb]
  · simp [Act.put, hne, hB d' b hb]
theorem Kns.nil : Kns [] a := fun _ _ h => by cases h

theorem zkz {Q : Exit → Act → World → Prop} {all : Array Oper} {rest : List Oper} {o : Oper} {v : Value} (hg : Region.wanted o (yielded all a.tmps) = true) (hx : (execOp a.eval o).run P w = .ok (.value v) w)
    (hk : wpList P all Q rest (a.put o.dst v) w) : wpList P all Q (o :: rest) a w := by
  unfold wpList
  rw [if_pos hg]
  left
  unfold Oper.wp
  rw [hx]
  exact hk
theorem zqx {Q : Exit → Act → World → Prop} {all : Array Oper} {rest : List Oper} {o : Oper} (hg : Region.wanted o (yielded all a.tmps) = false)
    (hk : wpList P all Q rest (a.put o.dst undef) w) : wpList P all Q (o :: rest) a w := by
  unfold wpList
  rw [if_neg (by simp [hg])]
  exact hk
theorem zrB {Q : Exit → Act → World → Prop} {all : Array Oper} {rest : List Oper} {dst : Option Nat} {op : Op} {t : Nat} {p : String} {af : Array Edge} {g : Option (Nat × Bool)}
    (hg : Region.wanted ⟨dst, op, t, p, af, g⟩ (yielded all a.tmps) = true) (hk : wpList P all Q (⟨dst, op, t, p, af, none⟩ :: rest) a w) : wpList P all Q (⟨dst, op, t, p, af, g⟩ :: rest) a w := by
  unfold wpList at hk ⊢
  rw [if_pos hg]
  rw [if_pos (by simp [Region.wanted])] at hk
  exact hk

theorem zpG [TabOk P τ] {all : Array Oper} {o : Oper} {rest : List Oper} {fs : List Fr} {c : Cfg} (h : zoF τ N all o rest fs E B = some c) (hf : Fits N E a) (hB : Kns B a)
    (k : ∀ a, Fits N c.2.2.1 a → Kns c.2.2.2 a → wpU P Q0 c.1 c.2.1 a w) : wpU P Q0 (.op all (o :: rest)) fs a w := by
  unfold zoF at h
  split at h
  · rename_i hg
    have hw := zqv hf hB hg
    split at h
    · rename_i v hv
      obtain ⟨hx, hkn⟩ := evO_ok (P := P) (w := w) hf hB hv
      split at h
      · rename_i d hd
        split at h
        · rename_i hN
          have hs := Kns.put hf hB hN (v := v) hkn
          refine zkz hw hx ?_
          rw [hd]
          split at h <;> (obtain rfl := Option.some.inj h; rename_i e; rw [e] at hs; exact k _ (hf.put hN _) hs)
        · cases h
      · rename_i hd
        obtain rfl := Option.some.inj h
        refine zkz hw hx ?_
        rw [hd]
        exact k _ hf hB
    · cases h
  · rename_i hg
    have hw := zqv hf hB hg
    refine zqx hw ?_
    split at h
    · rename_i d hd
      split at h
      · rename_i hN
        have hs := Kns.put hf hB hN (v := undef) (k := none) (fun b h => by cases h)
        rw [hd]
        split at h <;> (obtain rfl := Option.some.inj h; rename_i e; rw [e] at hs; exact k _ (hf.put hN _) hs)
      · cases h
    · rename_i hd
      obtain rfl := Option.some.inj h
      rw [hd]
      exact k _ hf hB
  · cases h
theorem zrC [TabOk P τ] {cu : Cur} {fs : List Fr} {c : Cfg} (h : zkY τ N E B cu fs = some c) (hf : Fits N E a) (hB : Kns B a)
    (k : ∀ a, Fits N c.2.2.1 a → Kns c.2.2.2 a → wpU P Q0 c.1 c.2.1 a w) : wpU P Q0 cu fs a w := by
  unfold zkY at h
  split at h
  · obtain rfl := Option.some.inj h; exact wp_skip (k a hf hB)
  · obtain rfl := Option.some.inj h; exact wp_seq (k a hf hB)
  · obtain rfl := Option.some.inj h; exact wp_region_list (k a hf hB)
  · split at h
    · rename_i hc; obtain rfl := Option.some.inj h; exact wp_cond_true (zdQ hB hc) (k a hf hB)
    · rename_i hc; obtain rfl := Option.some.inj h; exact wp_cond_false (zdQ hB hc) (k a hf hB)
    · cases h
  · obtain rfl := Option.some.inj h; exact wp_block (k a hf hB)
  · obtain rfl := Option.some.inj h; exact wp_exit (k a hf hB)
  · obtain rfl := Option.some.inj h; exact wp_ret (k a hf hB)
  · obtain rfl := Option.some.inj h; exact k a hf hB
  · obtain rfl := Option.some.inj h; exact k a hf hB
  · obtain rfl := Option.some.inj h; exact k a hf hB
  · obtain rfl := Option.some.inj h; exact k a hf hB
  · rename_i id i fs
    split at h
    · rename_i e
      obtain rfl := Option.some.inj h
      have e' : id = i := by simpa using e
      subst e'
      exact zpE (k a hf hB)
    · rename_i e
      obtain rfl := Option.some.inj h
      exact zpF e (k a hf hB)
  · rename_i f fs
    obtain rfl := Option.some.inj h
    cases f with
    | sq y => exact k a hf hB
    | ct K => exact k a hf hB
    | bk id => exact k a hf hB
  · obtain rfl := Option.some.inj h; exact k a hf hB
  · exact zpG h hf hB k
  · cases h
theorem zcn [TabOk P τ] : ∀ {n : Nat} {c c' : Cur} {fs fs' : List Fr} {E E' : Env} {B B' : Kn} {a : Act}, zgm τ N n c fs E B = (c', fs', E', B') → Fits N E a → Kns B a →
    (∀ a, Fits N E' a → Kns B' a → wpU P Q0 c' fs' a w) → wpU P Q0 c fs a w
  | 0, c, c', fs, fs', E, E', B, B', a, h, hf, hB, k => by cases h; exact k a hf hB
  | n + 1, c, c', fs, fs', E, E', B, B', a, h, hf, hB, k => by
    unfold zgm at h
    split at h
    · rename_i h1
      exact zrC h1 hf hB fun a hf hB => zcn h hf hB k
    · cases h; exact k a hf hB
end

def S (P : Program) (τ : Tab) (N : Nat) {ρ : Type} (R : ρ) (Q0 : Exit → Act → World → Prop) (w0 : World) (F : List Nat) (c : Cur) (fs : List Fr) (E : Env) (B : Kn) (L : List Res) (M : Option ρ) : Prop :=
  ∀ a w, Fits N E a → Kns B a → Own w0 F w L → M = some R → wpU P Q0 c fs a w
def far : Nat := 100000000

section
variable {P : Program} {τ : Tab} {N : Nat} {Q0 : Exit → Act → World → Prop} {w0 : World} {F : List Nat} {ρ α : Type} {R : ρ} {c c' : Cur} {fs fs' : List Fr} {E E' : Env} {B B' : Kn} {L : List Res} {M : Option ρ}
variable {all : Array Oper} {rest : List Oper} {d : Nat} {o : Oper}

theorem S.at [TabOk P τ] (h : zgm τ N far c fs E B = (c', fs', E', B')) (k : S P τ N R Q0 w0 F c' fs' E' B' L M) : S P τ N R Q0 w0 F c fs E B L M :=
  fun _ w hf hB hO hm => zcn h hf hB fun a hf hB => k a w hf hB hO hm
theorem S.enter (τ : Tab) {f : FuncId} {fn : Func} {co : Code} {vs : List Value} {Rp : Ending → World → Prop}
    (hf : P.funcs[f]? = some fn) (hb : fn.body = some co) (hN : fn.ntmps = N) (hv : Nat.ble vs.length N = true)
    (h : S P τ N R (bodyPost P fn Rp) w0 F (.co co) [] (params 0 vs) [] L M) (hO : Own w0 F w0 L) (hm : M = some R) : Calls P f vs.toArray w0 Rp :=
  znE hf hb hN hv fun a hf => h a w0 hf Kns.nil hO hm
theorem S.op (τ : Tab) {a : Act} {w : World} (h : S P τ N R Q0 w0 F (.op all rest) fs E [] L M) (hf : Fits N E a) (hO : Own w0 F w L) (hm : M = some R) : wpList P all (QS P Q0 fs) rest a w := h a w hf Kns.nil hO hm
theorem S.co (τ : Tab) {a : Act} {w : World} {co : Code} (h : S P τ N R Q0 w0 F (.co co) fs E [] L M) (hf : Fits N E a) (hO : Own w0 F w L) (hm : M = some R) : co.wp P (QS P Q0 fs) a w := h a w hf Kns.nil hO hm
theorem S.no (τ : Tab) {a : Act} {w : World} (h : S P τ N R Q0 w0 F .no fs E [] L M) (hf : Fits N E a) (hO : Own w0 F w L) (hm : M = some R) : QS P Q0 fs .normal a w := h a w hf Kns.nil hO hm

def nxO (τ : Tab) (N : Nat) (c : Cur) (fs : List Fr) (E : Env) (B : Kn) : Option (Array Oper × Oper × List Oper × List Fr × Env × Kn) :=
  match zgm τ N far c fs E B with
  | (.op all (o :: rest), fs, E, B) => match gd all E B o.guard with
    | some true => match o with
      | ⟨dst, op, t, p, af, _⟩ => some (all, ⟨dst, op, t, p, af, none⟩, rest, fs, E, B)
    | _ => none
  | _ => none
theorem zmZ [TabOk P τ] {a : Act} {w : World} (h : nxO τ N c fs E B = some (all, o, rest, fs', E', B')) (hf : Fits N E a) (hB : Kns B a)
    (k : ∀ a, Fits N E' a → Kns B' a → wpList P all (QS P Q0 fs') (o :: rest) a w) : wpU P Q0 c fs a w := by
  unfold nxO at h
  split at h
  · rename_i hd
    split at h
    · rename_i hg
      obtain ⟨dst, op, t, p, af, g⟩ := ‹Oper›
      cases h
      exact zcn hd hf hB fun a hf hB => zrB (zqv hf hB hg) (k a hf hB)
    · cases h
  · cases h
theorem rw_ [TabOk P τ] (h : nxO τ N c fs E B = some (all, o, rest, fs', E', B'))
    (k : ∀ a w, Fits N E' a → Own w0 F w L → M = some R → wpList P all (QS P Q0 fs') (o :: rest) a w) : S P τ N R Q0 w0 F c fs E B L M :=
  fun _ w hf hB hO hm => zmZ h hf hB fun a hf _ => k a w hf hO hm
theorem rc_ [TabOk P τ] {co : Code} (h : zgm τ N far c fs E B = (.co co, fs', E', B'))
    (k : ∀ a w, Fits N E' a → Own w0 F w L → M = some R → co.wp P (QS P Q0 fs') a w) : S P τ N R Q0 w0 F c fs E B L M :=
  fun _ w hf hB hO hm => zcn h hf hB fun a hf _ => k a w hf hO hm
theorem re_ [TabOk P τ] (h : zgm τ N far c fs E B = (.rt, [], E', B'))
    (k : ∀ a w, Fits N E' a → Own w0 F w L → M = some R → Q0 .ret a w) : S P τ N R Q0 w0 F c fs E B L M :=
  fun _ w hf hB hO hm => zcn h hf hB fun a hf _ => k a w hf hO hm
theorem rn_ [TabOk P τ] (h : zgm τ N far c fs E B = (.no, [], E', B'))
    (k : ∀ a w, Fits N E' a → Own w0 F w L → M = some R → Q0 .normal a w) : S P τ N R Q0 w0 F c fs E B L M :=
  fun _ w hf hB hO hm => zcn h hf hB fun a hf _ => k a w hf hO hm

theorem vl [TabOk P τ] {op : Op} {t : Nat} {p : String} {af : Array Edge} {v : Value} (h : nxO τ N c fs E B = some (all, ⟨some d, op, t, p, af, none⟩, rest, fs', E', B')) (hd : Nat.blt d N = true)
    (hx : ∀ a w, Fits N E' a → Own w0 F w L → (execOp a.eval ⟨some d, op, t, p, af, none⟩).run P w = .ok (.value v) w)
    (k : S P τ N R Q0 w0 F (.op all rest) fs' ((d, v) :: E') (zmY d none B') L M) : S P τ N R Q0 w0 F c fs E B L M :=
  fun _ w hf hB hO hm => zmZ h hf hB fun a hf hB => zkz (by simp [Region.wanted]) (hx a w hf hO) (k _ w (hf.put hd _) (Kns.put hf hB hd fun _ e => by cases e) hO hm)
def evP (τ : Tab) (E : Env) : Op → Option ((α : Type) × Option α × (α → Value))
  | .binOp o _ x y _ => match evl E x with
    | some (.int .i64 m) => match evl E y with
      | some (.int .i64 n) => match o with
        | .add => some ⟨Int, zM m n, .int .i64⟩
        | .sub => some ⟨Int, zci m n, .int .i64⟩
        | .mul => some ⟨Int, zmW m n, .int .i64⟩
        | .quo => some ⟨Int, zmX m n, .int .i64⟩
        | .rem => some ⟨Int, zoB m n, .int .i64⟩
        | _ => none
      | _ => none
    | some (.string ⟨⟨l⟩⟩) => match evl E y with
      | some (.string ⟨⟨m⟩⟩) => match o with
        | .add => some ⟨Str, ze5 l m, fun l => str l⟩
        | _ => none
      | _ => none
    | _ => none
  | .index t x y => match ass τ.und t with
    | some .string => match evl E x with
      | some (.string ⟨⟨l⟩⟩) => match evl E y with
        | some (.int .i64 i) => some ⟨UInt8, sAt l i, fun c => zQ c⟩
        | _ => none
      | _ => none
    | _ => none
  | .slice t x lo hi none => match ass τ.und t with
    | some .string => match evl E x with
      | some (.string ⟨⟨l⟩⟩) => match lo, hi with
        | some y, some z => match evl E y with
          | some (.int .i64 i) => match evl E z with
            | some (.int .i64 j) => some ⟨Str, zeG l i j, fun l => str l⟩
            | _ => none
          | _ => none
        | some y, none => match evl E y with
          | some (.int .i64 i) => some ⟨Str, zem l i, fun l => str l⟩
          | _ => none
        | none, some z => match evl E z with
          | some (.int .i64 j) => some ⟨Str, sTo l j, fun l => str l⟩
          | _ => none
        | none, none => none
      | _ => none
    | _ => none
  | _ => none
theorem evP_ok [hτ : TabOk P τ] {a : Act} {w : World} {dst : Option Nat} {op : Op} {t : Nat} {p : String} {af : Array Edge} {g : Option (Nat × Bool)} {m : Option α} {enc : α → Value} {x : α}
    (hf : Fits N E a) (h : evP τ E op = some ⟨α, m, enc⟩) (hm : m = some x) : (execOp a.eval ⟨dst, op, t, p, af, g⟩).run P w = .ok (.value (enc x)) w := by
  unfold evP at h
  split at h
  · rename_i bo ti x y ty
    split at h
    · rename_i m' hx
      split at h
      · rename_i n hy
        split at h
        · cases h; exact zoO hf hx hy hm
        · cases h; exact zqL hf hx hy hm
        · cases h; exact ex_mul hf hx hy hm
        · cases h; exact zqM hf hx hy hm
        · cases h; exact zoP hf hx hy hm
        · cases h
      · cases h
    · rename_i l hx
      split at h
      · rename_i n hy
        split at h
        · cases h; exact zqT hf hx hy hm
        · cases h
      · cases h
    · cases h
  · rename_i ti x y
    split at h
    · rename_i ht
      split at h
      · rename_i l hx
        split at h
        · rename_i i hy
          cases h; exact zi1 (hτ.und _ (zgP ht)) hf hx hy hm
        · cases h
      · cases h
    · cases h
  · rename_i ti x lo hi
    split at h
    · rename_i ht
      split at h
      · rename_i l hx
        split at h
        · rename_i y z
          split at h
          · rename_i i hy
            split at h
            · rename_i j hz
              cases h; exact zgq (hτ.und _ (zgP ht)) hf hx hy hz hm
            · cases h
          · cases h
        · rename_i y
          split at h
          · rename_i i hy
            cases h; exact zmy (hτ.und _ (zgP ht)) hf hx hy hm
          · cases h
        · rename_i z
          split at h
          · rename_i j hz
            cases h; exact znd (hτ.und _ (zgP ht)) hf hx hz hm
          · cases h
        · cases h
      · cases h
    · cases h
  · cases h
def nxP (τ : Tab) (N : Nat) (c : Cur) (fs : List Fr) (E : Env) (B : Kn) : Option (Array Oper × List Oper × List Fr × Env × Kn × Nat × ((α : Type) × Option α × (α → Value))) :=
  match nxO τ N c fs E B with
  | some (all, ⟨some d, op, _, _, _, none⟩, rest, fs, E, B) => match Nat.blt d N with
    | true => match evP τ E op with
      | some p => match zmY d none B with
        | [] => some (all, rest, fs, E, [], d, p)
        | k :: B' => some (all, rest, fs, E, k :: B', d, p)
      | none => none
    | false => none
  | _ => none
theorem bi [TabOk P τ] {m : Option α} {g : α → Option ρ} {enc : α → Value} (h : nxP τ N c fs E B = some (all, rest, fs', E', B', d, ⟨α, m, enc⟩))
    (k : ∀ x, m = some x → S P τ N R Q0 w0 F (.op all rest) fs' ((d, enc x) :: E') B' L (g x)) : S P τ N R Q0 w0 F c fs E B L (m.bind g) := by
  intro a w hf hB hO hm
  obtain ⟨x, hx, hm⟩ := ob hm
  unfold nxP at h
  split at h
  · rename_i h0
    split at h
    · rename_i hN
      split at h
      · rename_i p hp
        refine zmZ h0 hf hB fun a hf hB => ?_
        have hs := Kns.put hf hB hN (v := enc x) (k := none) (fun b h => by cases h)
        split at h <;> (rename_i e; cases h; rw [e] at hs; exact zkz (by simp [Region.wanted]) (evP_ok hf hp hx) (k x hx _ w (hf.put hN _) hs hO hm))
      · cases h
    · cases h
  · cases h
abbrev Ret {ρ : Type} (w0 : World) (V : ρ → Value) (R : ρ) : Ending → World → Prop := fun e w' => e = .returned (V R) ∧ Below w0.heap.size w0 w'
theorem nl (e sz : Nat) (k : S P τ N R Q0 w0 F c fs E B (.row (.slice none 0 0) e sz 0 [] :: L) M) : S P τ N R Q0 w0 F c fs E B L M :=
  fun a w hf hB hO hm => k a w hf hB (hO.nilRow e sz) hm
def nxC (τ : Tab) (N : Nat) (c : Cur) (fs : List Fr) (E : Env) (B : Kn) : Option (Array Oper × List Oper × List Fr × Env × Kn × Nat × Nat × List Value) :=
  match nxO τ N c fs E B with
  | some (all, ⟨some d, .call ⟨.value (.func f), ⟨xs⟩, _⟩, _, _, _, none⟩, rest, fs, E, B) => match Nat.blt d N with
    | true => match zlb E xs with
      | some vs => match zmY d none B with
        | [] => some (all, rest, fs, E, [], d, f, vs)
        | k :: B' => some (all, rest, fs, E, k :: B', d, f, vs)
      | none => none
    | false => none
  | _ => none
theorem zpH {Q : Exit → Act → World → Prop} {a : Act} {w : World} {f t : Nat} {p : String} {af : Array Edge} {xs : List Operand} {ats : Array TypeId} {vs : List Value} {K : Ending → World → Prop} (hc : zc P f) (hf : Fits N E a) (hB : Kns B a) (hd : Nat.blt d N = true) (hv : zlb E xs = some vs)
    (hw : Calls P f vs.toArray w K) (k : ∀ e w', K e w' → ∃ v, e = .returned v ∧ ∀ a, Fits N ((d, v) :: E) a → Kns (zmY d none B) a → wpList P all Q rest a w') :
    wpList P all Q (⟨some d, .call ⟨.value (.func f), ⟨xs⟩, ats⟩, t, p, af, none⟩ :: rest) a w := by
  have hx := zr (w := w) (dst := some d) (t := t) (p := p) (af := af) (gd := none) (ats := ats) hc hf (args := ⟨xs⟩) hv
  unfold wpList
  rw [if_pos (by simp [Region.wanted])]
  left
  unfold Oper.wp
  rw [hx, Oper.upon_enter]
  refine hw.mono fun e w' he => ?_
  obtain ⟨v, rfl, hk⟩ := k e w' he
  exact hk _ (hf.put hd _) (Kns.put hf hB hd fun b h => by cases h)
theorem nxC_ok [TabOk P τ] {a : Act} {w : World} {f : Nat} {vs : List Value} {K : Ending → World → Prop} (hc : zc P f) (h : nxC τ N c fs E B = some (all, rest, fs', E', B', d, f, vs)) (hf : Fits N E a) (hB : Kns B a)
    (hw : Calls P f vs.toArray w K) (k : ∀ e w', K e w' → ∃ v, e = .returned v ∧ ∀ a, Fits N ((d, v) :: E') a → Kns B' a → wpList P all (QS P Q0 fs') rest a w') : wpU P Q0 c fs a w := by
  unfold nxC at h
  split at h
  · rename_i h0
    split at h
    · rename_i hN
      split at h
      · rename_i p hp
        refine zmZ h0 hf hB fun a hf hB => ?_
        have hs := fun v => Kns.put hf hB hN (v := v) (k := none) (fun b h => by cases h)
        split at h <;> (rename_i e; cases h; refine zpH hc hf hB hN hp hw fun e1 w' he => ?_; rw [e]; exact k e1 w' he)
      · cases h
    · cases h
  · cases h
theorem cl [TabOk P τ] {f : Nat} {vs : List Value} {m : Option α} {g : α → Option ρ} {enc : α → Value} (hc : zc P f) (h : nxC τ N c fs E B = some (all, rest, fs', E', B', d, f, vs))
    (hw : ∀ x w, m = some x → Own w0 F w L → Calls P f vs.toArray w (Ret w enc x))
    (k : ∀ x, m = some x → S P τ N R Q0 w0 F (.op all rest) fs' ((d, enc x) :: E') B' L (g x)) : S P τ N R Q0 w0 F c fs E B L (m.bind g) := by
  intro a w hf hB hO hm
  obtain ⟨x, hx, hm⟩ := ob hm
  exact nxC_ok hc h hf hB (hw x w hx hO) fun e w' ⟨he, hb⟩ => ⟨_, he, fun a hf hB => k x hx a w' hf hB (hO.grow hb) hm⟩

def nxB (τ : Tab) (N : Nat) (c : Cur) (fs : List Fr) (E : Env) (B : Kn) : Option (Cur × List Fr × Env × Kn × Nat × Bool) :=
  match zgm τ N far c fs E B with
  | (.co (.cond (.tmp s) x y), fs, E, B) => match look E s with
    | some (.bool b) => some (.co (.cond (.tmp s) x y), fs, E, B, s, b)
    | _ => none
  | (.op all (o :: rest), fs, E, B) => match o.guard with
    | some (j, _) => match nth all.toList j with
      | some ⟨some s, _, _, _, _, _⟩ => match look E s with
        | some (.bool b) => some (.op all (o :: rest), fs, E, B, s, b)
        | _ => none
      | _ => none
    | none => none
  | _ => none
theorem zqy [TabOk P τ] {a : Act} {w : World} {b : Bool} (h : nxB τ N c fs E B = some (c', fs', E', B', d, b)) (hf : Fits N E a) (hB : Kns B a)
    (k : ∀ a, Fits N E' a → Kns ((d, some b) :: B') a → wpU P Q0 c' fs' a w) : wpU P Q0 c fs a w := by
  have key : ∀ {s : Nat} {b : Bool} {a : Act} {E : Env} {B : Kn}, Fits N E a → Kns B a → look E s = some (.bool b) → Kns ((s, some b) :: B) a := by
    intro s b a E B hf hB hs d' b' hd
    simp only [lkB] at hd
    by_cases e : Nat.beq s d' = true
    · have : s = d' := by simpa using e
      subst this
      simp at hd; subst hd
      exact hf.has _ _ hs
    · simp only [e] at hd
      exact hB _ _ hd
  unfold nxB at h
  split at h
  · rename_i hd
    split at h
    · rename_i hs
      cases h
      exact zcn hd hf hB fun a hf hB => k a hf (key hf hB hs)
    · cases h
  · rename_i hd
    split at h
    · split at h
      · split at h
        · rename_i hs
          cases h
          exact zcn hd hf hB fun a hf hB => k a hf (key hf hB hs)
        · cases h
      · cases h
    · cases h
  · cases h
theorem br [TabOk P τ] {b : Bool} {A C : Option ρ} (h : nxB τ N c fs E B = some (c', fs', E', B', d, b))
    (k1 : b = true → S P τ N R Q0 w0 F c' fs' E' ((d, some true) :: B') L A) (k0 : b = false → S P τ N R Q0 w0 F c' fs' E' ((d, some false) :: B') L C) :
    S P τ N R Q0 w0 F c fs E B L (if b = true then A else C) := by
  intro a w hf hB hO hm
  refine zqy h hf hB fun a hf hB => ?_
  cases b with
  | true => exact k1 rfl a w hf hB hO hm
  | false => exact k0 rfl a w hf hB hO (by simpa using hm)
theorem kn [TabOk P τ] {b b' : Bool} (hb : b = b') (h : nxB τ N c fs E B = some (c', fs', E', B', d, b))
    (k : S P τ N R Q0 w0 F c' fs' E' ((d, some b') :: B') L M) : S P τ N R Q0 w0 F c fs E B L M := by
  intro a w hf hB hO hm
  subst hb
  exact zqy h hf hB fun a hf hB => k a w hf hB hO hm

def zho (K : Act → World → Prop) : Nat → List Fr → Option (List Fr × Code × List Fr)
  | n, .sq y :: fs => match Nat.beq n fs.length with
    | true => some (.ct K :: fs, y, fs)
    | false => match zho K n fs with
      | some (l, z, r) => some (.sq y :: l, z, r)
      | none => none
  | n, f :: fs => match zho K n fs with
    | some (l, z, r) => some (f :: l, z, r)
    | none => none
  | _, [] => none
theorem zhT {K : Act → World → Prop} {n : Nat} : ∀ {fs l r : List Fr} {y : Code}, zho K n fs = some (l, y, r) → (∀ a w, K a w → y.wp P (QS P Q0 r) a w) → ∀ e a w, QS P Q0 l e a w → QS P Q0 fs e a w
  | [], _, _, _, h, _ => by simp [zho] at h
  | .sq y :: fs, l, r, z, h, hk => by
    unfold zho at h
    split at h
    · cases h
      intro e a w q
      cases e <;> first | exact hk _ _ q | exact q
    · split at h
      · rename_i h1
        cases h
        have ih := zhT h1 hk
        intro e a w q
        cases e <;> first | exact Code.wp_mono ih q | exact ih _ _ _ q
      · cases h
  | .ct K' :: fs, l, r, z, h, hk => by
    unfold zho at h
    split at h
    · rename_i h1
      cases h
      have ih := zhT h1 hk
      intro e a w q
      cases e <;> first | exact ih _ _ _ q | exact q
    · cases h
  | .bk id :: fs, l, r, z, h, hk => by
    unfold zho at h
    split at h
    · rename_i h1
      cases h
      have ih := zhT h1 hk
      intro e a w q
      cases e <;> first
        | exact ih _ _ _ q
        | (simp only [QS, Exit.inBlock] at q ⊢; split at q <;> first | (rename_i hh; rw [if_pos hh]; exact ih _ _ _ q) | (rename_i hh; rw [if_neg hh]; exact ih _ _ _ q))
    · cases h
def nxJ (τ : Tab) (N : Nat) (K : Act → World → Prop) (n : Nat) (c : Cur) (fs : List Fr) (E : Env) (B : Kn) : Option (Cur × List Fr × Env × Kn × Code × List Fr) :=
  match zgm τ N far c fs E B with
  | (c, fs, E, B) => match zho K n fs with
    | some (l, y, r) => some (c, l, E, B, y, r)
    | none => none
theorem zqz {o : Oper} {a : Act} {w : World} {K K' : Act → World → Prop} {Q Q' : Exit → Act → World → Prop} (h : ∀ a w, K a w → K' a w) (hq : ∀ e a w, Q e a w → Q' e a w) (hh : o.wp P a w K Q) : o.wp P a w K' Q' := by
  have hl : LetsOut Q → LetsOut Q' := fun ⟨a, w, q⟩ => ⟨a, w, hq _ _ _ q⟩
  unfold Oper.wp at *
  generalize (execOp a.eval o).run P w = r at *
  cases r with
  | ok n w' =>
    cases n <;> simp only [Oper.upon] at hh ⊢ <;>
      first
        | exact h _ _ hh
        | exact Calls.mono hh (fun e w'' he => by cases e <;> first | exact h _ _ he | exact hq _ _ _ he | exact hl he)
        | exact Rows.mono hh (fun _ _ he => h _ _ he)
  | halt x w' => cases x <;> simp only [Oper.upon] at hh ⊢ <;> first | exact hq _ _ _ hh | exact hh
theorem zkZ {Q Q' : Exit → Act → World → Prop} (hq : ∀ e a w, Q e a w → Q' e a w) : ∀ {l : List Oper} {a : Act} {w : World}, wpList P all Q l a w → wpList P all Q' l a w
  | [], a, w, h => hq _ _ _ h
  | o :: l, a, w, h => by
    unfold wpList at h ⊢
    split
    · rename_i hw
      rw [if_pos hw] at h
      rcases h with h | ⟨h1, a, w, h2⟩
      · left
        exact zqz (fun a w h => zkZ hq h) hq h
      · exact .inr ⟨h1, a, w, hq _ _ _ h2⟩
    · rename_i hw
      rw [if_neg hw] at h
      exact zkZ hq h
theorem zqA (hq : ∀ e a w, QS P Q0 fs e a w → QS P Q0 fs' e a w) {a : Act} {w : World} (h : wpU P Q0 c fs a w) : wpU P Q0 c fs' a w := by
  cases c with
  | co c => exact Code.wp_mono hq h
  | op all rest => exact zkZ hq h
  | no => exact hq _ _ _ h
  | ex id => exact hq _ _ _ h
  | rt => exact hq _ _ _ h
theorem jn [TabOk P τ] (n : Nat) (K : Act → World → Prop) {y : Code} {r : List Fr} (h : nxJ τ N K n c fs E B = some (c', fs', E', B', y, r))
    (k1 : S P τ N R Q0 w0 F c' fs' E' B' L M) (k2 : ∀ a w, K a w → y.wp P (QS P Q0 r) a w) : S P τ N R Q0 w0 F c fs E B L M := by
  intro a w hf hB hO hm
  unfold nxJ at h
  split at h
  rename_i hd
  split at h
  · rename_i h1
    cases h
    exact zcn hd hf hB fun a hf hB => zqA (zhT h1 k2) (k1 a w hf hB hO hm)
  · cases h
def keys : Env → List Nat
  | [] => []
  | (k, _) :: E => k :: keys E
def zm0 (E : Env) : List Nat → Option Env
  | [] => some []
  | k :: ks => match look E k with
    | some v => match zm0 E ks with
      | some l => some ((k, v) :: l)
      | none => none
    | none => none
theorem Fits.vals {a : Act} (hf : Fits N E a) : ∀ {ks : List Nat} {E' : Env}, zm0 E ks = some E' → Fits N E' a
  | [], E', h => by cases h; exact hf.nil
  | k :: ks, E', h => by
    unfold zm0 at h
    split at h
    · rename_i v hv
      split at h
      · rename_i l hl
        cases h
        exact hf.cons hv (hf.vals hl)
      · cases h
    · cases h
theorem Fits.sel {a : Act} (hf : Fits N E a) (h : zm0 E (keys E') = some E') : Fits N E' a := hf.vals h
theorem en [TabOk P τ] {K : Act → World → Prop} (h : zgm τ N far c fs E B = (.no, .ct K :: fs', E', B'))
    (k : ∀ a w, Fits N E' a → Own w0 F w L → M = some R → K a w) : S P τ N R Q0 w0 F c fs E B L M :=
  fun _ w hf hB hO hm => zcn h hf hB fun a hf _ => k a w hf hO hm
theorem lp [TabOk P τ] (I : Nat → Act → World → Prop) {co : Code} (h : zgm τ N far c fs E B = (.co (.loop co), fs', E', B'))
    (h0 : ∀ a w, Fits N E' a → Own w0 F w L → M = some R → I fuel a w)
    (k : ∀ n a w, I n a w → co.wp P (QS P Q0 (.ct (fun a w => ∃ m, m < n ∧ I m a w) :: fs')) a w) : S P τ N R Q0 w0 F c fs E B L M :=
  fun _ w hf hB hO hm => zcn h hf hB fun a hf _ => zpD I (fun n a w hI => k n a w hI) fuel (h0 a w hf hO hm)

def vsOf (E : Env) : List ResultVar → Option (List Value)
  | [] => some []
  | .tmp t :: rs => match look E t with
    | some v => match vsOf E rs with
      | some vs => some (v :: vs)
      | none => none
    | none => none
  | _ => none
theorem zm1 {w : World} : ∀ {rs : List ResultVar} {vs : List Value}, vsOf E rs = some vs → ResV P w E rs vs
  | [], vs, h => by cases h; exact .nil
  | .tmp t :: rs, vs, h => by
    unfold vsOf at h
    split at h
    · rename_i v hv
      split at h
      · rename_i l hl
        cases h
        exact .tmp hv (zm1 hl)
      · cases h
    · cases h
  | .cell _ _ :: _, _, h => by cases h
def nxR (τ : Tab) (N : Nat) (rs : List ResultVar) (c : Cur) (fs : List Fr) (E : Env) (B : Kn) : Option Value :=
  match zgm τ N far c fs E B with
  | (.rt, [], E, _) => match vsOf E rs with
    | some vs => some (tup vs)
    | none => none
  | (.no, [], E, _) => match vsOf E rs with
    | some vs => some (tup vs)
    | none => none
  | _ => none
theorem rt [TabOk P τ] {fn : Func} {rs : List ResultVar} {r : ρ} {V : ρ → Value} (hr : fn.results = rs.toArray) (h : nxR τ N rs c fs E B = some (V r)) :
    S P τ N R (bodyPost P fn (Ret w0 V R)) w0 [] c fs E B L (some r) := by
  intro a w hf hB hO hm
  obtain rfl := Option.some.inj hm
  unfold nxR at h
  split at h
  · rename_i hd
    split at h
    · rename_i vs hv
      refine zcn hd hf hB fun a hf _ => ?_
      exact zi (R := fun e w' => e = .returned (V r) ∧ Below w0.heap.size w0 w') hr hf (zm1 hv) ⟨by rw [Option.some.inj h], hO.below⟩
    · cases h
  · rename_i hd
    split at h
    · rename_i vs hv
      refine zcn hd hf hB fun a hf _ => ?_
      exact zi2 (R := fun e w' => e = .returned (V r) ∧ Below w0.heap.size w0 w') hr hf (zm1 hv) ⟨by rw [Option.some.inj h], hO.below⟩
    · cases h
  · cases h
end
end Go.Dk
end
section
set_option linter.unusedVariables false
set_option linter.unusedSimpArgs false
namespace Go.Proofs
open Go.Dk Go.Dm Go.RowKit

theorem zq5 {P : Program} {w0 w : World} {n : String} {g : Nat} (hg : P.globalNamed n = some g) (h : w.heap[g]? = w0.heap[g]?) : w.var? P n = w0.var? P n := by
  unfold World.var?
  rw [hg]
  simp only [Option.bind_some, h]
def zt (w : World) : Prop := 6 ≤ w.heap.size ∧ (∃ m, w.cell? ⟨0, 0, none⟩ = some (.int .i64 m))
def zG (F : List Nat) : Prop := ∀ b ∈ F, 6 ≤ b
theorem ze : zG [] := fun b hb => by cases hb
theorem zt.same {w0 w : World} (h : zt w0) (hs : w0.heap.size ≤ w.heap.size) (hf : ∀ g, g < 6 → w.heap[g]? = w0.heap[g]?) : zt w := by
  obtain ⟨h0, ⟨m, hm0⟩⟩ := h
  exact ⟨Nat.le_trans h0 hs, ⟨m, (World.cell?_of_block (w := w0) (a := ⟨0, 0, none⟩) (hf 0 (by omega))).trans hm0⟩⟩
theorem zt.low {w0 w : World} {B : Nat} (h : zt w0) (hB : 6 ≤ B) (hb : Below B w0 w) : zt w :=
  h.same hb.size fun g hg => hb.block g (by omega)
theorem zt.size {w : World} (h : zt w) : 6 ≤ w.heap.size := h.1
theorem zt.max {w : World} (h : zt w) : (∃ m, w.cell? ⟨0, 0, none⟩ = some (.int .i64 m)) := h.2
theorem zt.own {w0 w : World} {F : List Nat} {L : List Res} (h : zt w0) (hF : zG F) (hO : Own w0 F w L) : zt w :=
  h.same hO.size fun g hg => hO.frame g (by have := h.size; omega) (fun hm => absurd (hF g hm) (by omega))
def zbH (w : World) : Prop := zt w ∧ Go.Lib.TabIs Tryz.prog w "internal/strconv.uint64pow10" .u64 Go.Lib.pow10Tab
theorem zbH.same {w0 w : World} (h : zbH w0) (hs : w0.heap.size ≤ w.heap.size) (hf : ∀ g, g < 6 → w.heap[g]? = w0.heap[g]?) : zbH w := by
  obtain ⟨h, hp⟩ := h
  exact ⟨h.same hs hf, by unfold Go.Lib.TabIs at hp ⊢; rw [← hp]; exact zq5 (show Tryz.prog.globalNamed "internal/strconv.uint64pow10" = some 3 by kernel_rfl) (hf 3 (by omega))⟩
theorem zbH.low {w0 w : World} {B : Nat} (h : zbH w0) (hB : 6 ≤ B) (hb : Below B w0 w) : zbH w :=
  h.same hb.size fun g hg => hb.block g (by omega)
theorem zbH.size {w : World} (h : zbH w) : 6 ≤ w.heap.size := h.1.size
theorem zbH.own {w0 w : World} {F : List Nat} {L : List Res} (h : zbH w0) (hF : zG F) (hO : Own w0 F w L) : zbH w :=
  h.same hO.size fun g hg => hO.frame g (by have := h.size; omega) (fun hm => absurd (hF g hm) (by omega))
def za (x : api_Field) : List Value := [str x.Name, str x.Value]
def zN (x : api_Via) : List Value := [str x.Proto, str x.Version, str x.By, str x.Comment]
def zbw (x : UInt8) : List Value := [zQ x]
def zd (x : Str) : List Value := [str x]
theorem znk : zhc Tryz.prog 103 = some false := by kernel_rfl
theorem zcI : zhc Tryz.prog 105 = some true := by kernel_rfl
theorem zbq : zhc Tryz.prog 110 = some false := by kernel_rfl
theorem zoZ : zhc Tryz.prog 116 = some true := by kernel_rfl
theorem zq6 : zhc Tryz.prog 159 = some false := by kernel_rfl
theorem zdi : zhc Tryz.prog 23 = some true := by kernel_rfl
theorem zdj : zhc Tryz.prog 24 = some false := by kernel_rfl
theorem ag_29 : zhc Tryz.prog 29 = some true := by kernel_rfl
theorem zo0 : zhc Tryz.prog 3 = some false := by kernel_rfl
theorem ag_41 : zhc Tryz.prog 41 = some false := by kernel_rfl
theorem zmG : zhc Tryz.prog 71 = some true := by kernel_rfl
theorem zab : zhc Tryz.prog 9 = some false := by kernel_rfl
theorem zge : ∀ w, (Instr.alloc 105 true (.tuple #[])).run Tryz.prog w = .ok (ptr w.heap.size 0) (w.alloc (.cells [int 0, str [], int 0].toArray 105)) := fun w => by kernel_rfl
theorem al_116 : ∀ w, (Instr.alloc 116 true (.tuple #[])).run Tryz.prog w = .ok (ptr w.heap.size 0) (w.alloc (.cells [.pointer none].toArray 116)) := fun w => by kernel_rfl
theorem zj6 : ∀ w, (Instr.alloc 23 true (.tuple #[])).run Tryz.prog w = .ok (ptr w.heap.size 0) (w.alloc (.cells [str [], str [], str [], str []].toArray 23)) := fun w => by kernel_rfl
theorem al_29 : ∀ w, (Instr.alloc 29 true (.tuple #[])).run Tryz.prog w = .ok (ptr w.heap.size 0) (w.alloc (.cells [int 0, str [], str [], int 0, str [], int 0, .slice none 0 0].toArray 29)) := fun w => by kernel_rfl
theorem al_70 : ∀ w, (Instr.alloc 70 true (.tuple #[])).run Tryz.prog w = .ok (ptr w.heap.size 0) (w.alloc (.cells [str [], str [], str [], str []].toArray 70)) := fun w => by kernel_rfl
theorem al_71 : ∀ w, (Instr.alloc 71 true (.tuple #[])).run Tryz.prog w = .ok (ptr w.heap.size 0) (w.alloc (.cells [str [], str []].toArray 71)) := fun w => by kernel_rfl
theorem ei_159 : (Tryz.prog.info? 5).map (fun i => (i.zero, i.size, i.bytes)) = some (some (zQ 0), 1, 1) := by kernel_rfl
theorem el_159 : Elem Tryz.prog 159 5 1 1 := ⟨Tryz.underlying159, by obtain ⟨i, h0, h1, h2, h3⟩ := info_parts ei_159; exact ⟨i, _, h0, h1, h2, h3, rfl⟩, by decide⟩
theorem ei_24 : (Tryz.prog.info? 71).map (fun i => (i.zero, i.size, i.bytes)) = some (some (.agg #[str [], str []]), 2, 32) := by kernel_rfl
theorem zn3 : Elem Tryz.prog 24 71 2 32 := ⟨Tryz.underlying24, by obtain ⟨i, h0, h1, h2, h3⟩ := info_parts ei_24; exact ⟨i, _, h0, h1, h2, h3, rfl⟩, by decide⟩
theorem ei_38 : (Tryz.prog.info? 23).map (fun i => (i.zero, i.size, i.bytes)) = some (some (.agg #[str [], str [], str [], str []]), 4, 64) := by kernel_rfl
theorem el_38 : Elem Tryz.prog 38 23 4 64 := ⟨Tryz.underlying38, by obtain ⟨i, h0, h1, h2, h3⟩ := info_parts ei_38; exact ⟨i, _, h0, h1, h2, h3, rfl⟩, by decide⟩
theorem ei_41 : (Tryz.prog.info? 9).map (fun i => (i.zero, i.size, i.bytes)) = some (some (str []), 1, 16) := by kernel_rfl
theorem zlr : Elem Tryz.prog 41 9 1 16 := ⟨Tryz.underlying41, by obtain ⟨i, h0, h1, h2, h3⟩ := info_parts ei_41; exact ⟨i, _, h0, h1, h2, h3, rfl⟩, by decide⟩
theorem eqd_23 (d : Nat) (x y : api_Via) (w : World) : (Op.equalIn (d + 2) 23 (.agg #[str x.Proto, str x.Version, str x.By, str x.Comment]) (.agg #[str y.Proto, str y.Version, str y.By, str y.Comment])).run Tryz.prog w = .ok (x == y) w := by
  obtain ⟨x0, x1, x2, x3⟩ := x
  obtain ⟨y0, y1, y2, y3⟩ := y
  show (Op.equalIn (d + 1 + 1) 23 _ _).run _ _ = _
  rw [run_equalIn_struct w (d + 1) 23 _ _ (by kernel_rfl) (by kernel_rfl)]
  have e : ((⟨x0, x1, x2, x3⟩ : api_Via) == ⟨y0, y1, y2, y3⟩) = decide (x0 = y0 ∧ x1 = y1 ∧ x2 = y2 ∧ x3 = y3) := by
    show decide (_ = _) = _
    exact decide_eq_decide.2 (by simp)
  rw [e]
  simp only [Program.fieldsOf, Tryz.underlying23, Op.eqFields]
  simp [part, Tryz.isAgg9, Tryz.underlying9, run_equalIn_string, run_equalIn_bool', run_equalIn_int, ziz, Result.andThen, zkB]
  by_cases h0 : x0 = y0 <;> by_cases h1 : x1 = y1 <;> by_cases h2 : x2 = y2 <;> by_cases h3 : x3 = y3 <;> simp [h0, h1, h2, h3]
theorem zq7 (x y : api_Via) (w : World) : (Op.equalIn 10000 23 (.agg #[str x.Proto, str x.Version, str x.By, str x.Comment]) (.agg #[str y.Proto, str y.Version, str y.By, str y.Comment])).run Tryz.prog w = .ok (x == y) w := eqd_23 9998 x y w
theorem eqd_71 (d : Nat) (x y : api_Field) (w : World) : (Op.equalIn (d + 2) 71 (.agg #[str x.Name, str x.Value]) (.agg #[str y.Name, str y.Value])).run Tryz.prog w = .ok (x == y) w := by
  obtain ⟨x0, x1⟩ := x
  obtain ⟨y0, y1⟩ := y
  show (Op.equalIn (d + 1 + 1) 71 _ _).run _ _ = _
  rw [run_equalIn_struct w (d + 1) 71 _ _ (by kernel_rfl) (by kernel_rfl)]
  have e : ((⟨x0, x1⟩ : api_Field) == ⟨y0, y1⟩) = decide (x0 = y0 ∧ x1 = y1) := by
    show decide (_ = _) = _
    exact decide_eq_decide.2 (by simp)
  rw [e]
  simp only [Program.fieldsOf, Tryz.underlying71, Op.eqFields]
  simp [part, Tryz.isAgg9, Tryz.underlying9, run_equalIn_string, run_equalIn_bool', run_equalIn_int, ziz, Result.andThen, zkB]
  by_cases h0 : x0 = y0 <;> by_cases h1 : x1 = y1 <;> simp [h0, h1]
theorem eq_71 (x y : api_Field) (w : World) : (Op.equalIn 10000 71 (.agg #[str x.Name, str x.Value]) (.agg #[str y.Name, str y.Value])).run Tryz.prog w = .ok (x == y) w := eqd_71 9998 x y w
theorem zls : ∀ b o w, (Instr.fieldAt 100 (ptr b o) 0).run Tryz.prog w = .ok (ptr b (o + 0)) w := fun b o w => by kernel_rfl
theorem zlt : ∀ b o w, (Instr.fieldAt 105 (ptr b o) 0).run Tryz.prog w = .ok (ptr b (o + 0)) w := fun b o w => by kernel_rfl
theorem zn4 : ∀ b o w, (Instr.fieldAt 105 (ptr b o) 1).run Tryz.prog w = .ok (ptr b (o + 1)) w := fun b o w => by kernel_rfl
theorem zq8 : ∀ b o w, (Instr.fieldAt 105 (ptr b o) 2).run Tryz.prog w = .ok (ptr b (o + 2)) w := fun b o w => by kernel_rfl
theorem zq9 : ∀ b o w, (Instr.fieldAt 113 (ptr b o) 0).run Tryz.prog w = .ok (ptr b (o + 0)) w := fun b o w => by kernel_rfl
theorem zra : ∀ b o w, (Instr.fieldAt 113 (ptr b o) 1).run Tryz.prog w = .ok (ptr b (o + 1)) w := fun b o w => by kernel_rfl
theorem zn5 : ∀ b o w, (Instr.fieldAt 113 (ptr b o) 2).run Tryz.prog w = .ok (ptr b (o + 2)) w := fun b o w => by kernel_rfl
theorem zn6 : ∀ b o w, (Instr.fieldAt 113 (ptr b o) 3).run Tryz.prog w = .ok (ptr b (o + 3)) w := fun b o w => by kernel_rfl
theorem zrb : ∀ b o w, (Instr.fieldAt 116 (ptr b o) 0).run Tryz.prog w = .ok (ptr b (o + 0)) w := fun b o w => by kernel_rfl
theorem zrc : ∀ b o w, (Instr.fieldAt 119 (ptr b o) 0).run Tryz.prog w = .ok (ptr b (o + 0)) w := fun b o w => by kernel_rfl
theorem zjb : ∀ b o w, (Instr.fieldAt 137 (ptr b o) 0).run Tryz.prog w = .ok (ptr b (o + 0)) w := fun b o w => by kernel_rfl
theorem zjc : ∀ b o w, (Instr.fieldAt 137 (ptr b o) 1).run Tryz.prog w = .ok (ptr b (o + 1)) w := fun b o w => by kernel_rfl
theorem zrd : ∀ b o w, (Instr.fieldAt 176 (ptr b o) 0).run Tryz.prog w = .ok (ptr b (o + 0)) w := fun b o w => by kernel_rfl
theorem zre : ∀ b o w, (Instr.fieldAt 176 (ptr b o) 1).run Tryz.prog w = .ok (ptr b (o + 1)) w := fun b o w => by kernel_rfl
theorem zrI : ∀ b o w, (Instr.fieldAt 23 (ptr b o) 0).run Tryz.prog w = .ok (ptr b (o + 0)) w := fun b o w => by kernel_rfl
theorem zrJ : ∀ b o w, (Instr.fieldAt 23 (ptr b o) 1).run Tryz.prog w = .ok (ptr b (o + 1)) w := fun b o w => by kernel_rfl
theorem zrK : ∀ b o w, (Instr.fieldAt 23 (ptr b o) 2).run Tryz.prog w = .ok (ptr b (o + 2)) w := fun b o w => by kernel_rfl
theorem zrL : ∀ b o w, (Instr.fieldAt 23 (ptr b o) 3).run Tryz.prog w = .ok (ptr b (o + 3)) w := fun b o w => by kernel_rfl
theorem zrM : ∀ b o w, (Instr.fieldAt 29 (ptr b o) 1).run Tryz.prog w = .ok (ptr b (o + 1)) w := fun b o w => by kernel_rfl
theorem zrN : ∀ b o w, (Instr.fieldAt 29 (ptr b o) 2).run Tryz.prog w = .ok (ptr b (o + 2)) w := fun b o w => by kernel_rfl
theorem zrO : ∀ b o w, (Instr.fieldAt 29 (ptr b o) 4).run Tryz.prog w = .ok (ptr b (o + 4)) w := fun b o w => by kernel_rfl
theorem znl : ∀ b o w, (Instr.fieldAt 29 (ptr b o) 6).run Tryz.prog w = .ok (ptr b (o + 6)) w := fun b o w => by kernel_rfl
theorem zrP : ∀ b o w, (Instr.fieldAt 47 (ptr b o) 0).run Tryz.prog w = .ok (ptr b (o + 0)) w := fun b o w => by kernel_rfl
theorem zrQ : ∀ b o w, (Instr.fieldAt 47 (ptr b o) 1).run Tryz.prog w = .ok (ptr b (o + 1)) w := fun b o w => by kernel_rfl
theorem zrR : ∀ b o w, (Instr.fieldAt 47 (ptr b o) 2).run Tryz.prog w = .ok (ptr b (o + 2)) w := fun b o w => by kernel_rfl
theorem zrS : ∀ b o w, (Instr.fieldAt 47 (ptr b o) 3).run Tryz.prog w = .ok (ptr b (o + 3)) w := fun b o w => by kernel_rfl
theorem zrT : ∀ b o w, (Instr.fieldAt 47 (ptr b o) 4).run Tryz.prog w = .ok (ptr b (o + 4)) w := fun b o w => by kernel_rfl
theorem zrU : ∀ b o w, (Instr.fieldAt 47 (ptr b o) 5).run Tryz.prog w = .ok (ptr b (o + 5)) w := fun b o w => by kernel_rfl
theorem zrV : ∀ b o w, (Instr.fieldAt 57 (ptr b o) 0).run Tryz.prog w = .ok (ptr b (o + 0)) w := fun b o w => by kernel_rfl
theorem zrW : ∀ b o w, (Instr.fieldAt 57 (ptr b o) 1).run Tryz.prog w = .ok (ptr b (o + 1)) w := fun b o w => by kernel_rfl
theorem zpg : ∀ b o w, (Instr.fieldAt 71 (ptr b o) 0).run Tryz.prog w = .ok (ptr b (o + 0)) w := fun b o w => by kernel_rfl
theorem zkC : ∀ b o w, (Instr.fieldAt 71 (ptr b o) 1).run Tryz.prog w = .ok (ptr b (o + 1)) w := fun b o w => by kernel_rfl
theorem zrX : ∀ b o w, (Instr.fieldAt 87 (ptr b o) 0).run Tryz.prog w = .ok (ptr b (o + 0)) w := fun b o w => by kernel_rfl
theorem zrY : ∀ b o w, (Instr.fieldAt 87 (ptr b o) 1).run Tryz.prog w = .ok (ptr b (o + 1)) w := fun b o w => by kernel_rfl
theorem zrZ : ∀ (b : Nat) (w : World), (Instr.indexAt 70 (ptr b 0) (int 0)).run Tryz.prog w = .ok (ptr b 0) w := fun b w => by kernel_rfl
theorem zr0 : ∀ (b : Nat) (w : World), (Instr.indexAt 70 (ptr b 0) (int 1)).run Tryz.prog w = .ok (ptr b 1) w := fun b w => by kernel_rfl
theorem zr1 : ∀ (b : Nat) (w : World), (Instr.indexAt 70 (ptr b 0) (int 2)).run Tryz.prog w = .ok (ptr b 2) w := fun b w => by kernel_rfl
theorem zr2 : ∀ (b : Nat) (w : World), (Instr.indexAt 70 (ptr b 0) (int 3)).run Tryz.prog w = .ok (ptr b 3) w := fun b w => by kernel_rfl
theorem zo1 : zcz Tryz.prog 103 = some 1 := by kernel_rfl
theorem zX : zcz Tryz.prog 105 = some 3 := by kernel_rfl
theorem znm : zcz Tryz.prog 116 = some 1 := by kernel_rfl
theorem sz_159 : zcz Tryz.prog 159 = some 1 := by kernel_rfl
theorem zaV : zcz Tryz.prog 23 = some 4 := by kernel_rfl
theorem sz_24 : zcz Tryz.prog 24 = some 1 := by kernel_rfl
theorem zrf : zcz Tryz.prog 29 = some 7 := by kernel_rfl
theorem sz_3 : zcz Tryz.prog 3 = some 1 := by kernel_rfl
theorem sz_41 : zcz Tryz.prog 41 = some 1 := by kernel_rfl
theorem sz_70 : zcz Tryz.prog 70 = some 4 := by kernel_rfl
theorem zeM : zcz Tryz.prog 71 = some 2 := by kernel_rfl
theorem zd3 : zcz Tryz.prog 9 = some 1 := by kernel_rfl
def tb : Tab := ⟨[(9, .string), (24, .slice 71), (38, .slice 23), (41, .slice 9), (45, .slice 87), (49, .slice 57)], [(23, 0, 0), (23, 1, 1), (23, 2, 2), (23, 3, 3), (29, 1, 1), (29, 2, 2), (29, 4, 4), (29, 6, 6), (47, 0, 0), (47, 1, 1), (47, 2, 2), (47, 3, 3), (47, 4, 4), (47, 5, 5), (57, 0, 0), (57, 1, 1), (71, 0, 0), (71, 1, 1), (87, 0, 0), (87, 1, 1), (100, 0, 0), (105, 0, 0), (105, 1, 1), (105, 2, 2), (113, 0, 0), (113, 1, 1), (113, 2, 2), (113, 3, 3), (116, 0, 0), (119, 0, 0), (137, 0, 0), (137, 1, 1), (176, 0, 0), (176, 1, 1)]⟩
instance : TabOk Tryz.prog tb := ⟨zkW ⟨Tryz.underlying9, ⟨Tryz.underlying24, ⟨Tryz.underlying38, ⟨Tryz.underlying41, ⟨Tryz.underlying45, ⟨Tryz.underlying49, trivial⟩⟩⟩⟩⟩⟩, zkW ⟨zrI, ⟨zrJ, ⟨zrK, ⟨zrL, ⟨zrM, ⟨zrN, ⟨zrO, ⟨znl, ⟨zrP, ⟨zrQ, ⟨zrR, ⟨zrS, ⟨zrT, ⟨zrU, ⟨zrV, ⟨zrW, ⟨zpg, ⟨zkC, ⟨zrX, ⟨zrY, ⟨zls, ⟨zlt, ⟨zn4, ⟨zq8, ⟨zq9, ⟨zra, ⟨zn5, ⟨zn6, ⟨zrb, ⟨zrc, ⟨zjb, ⟨zjc, ⟨zrd, ⟨zre, trivial⟩⟩⟩⟩⟩⟩⟩⟩⟩⟩⟩⟩⟩⟩⟩⟩⟩⟩⟩⟩⟩⟩⟩⟩⟩⟩⟩⟩⟩⟩⟩⟩⟩⟩⟩
theorem c_7 : zc Tryz.prog 7 := ⟨Tryz.f7, Tryz.func7, rfl, by kernel_rfl⟩
theorem c_8 : zc Tryz.prog 8 := ⟨Tryz.f8, Tryz.func8, rfl, by kernel_rfl⟩
theorem c_9 : zc Tryz.prog 9 := ⟨Tryz.f9, Tryz.func9, rfl, by kernel_rfl⟩
theorem c_10 : zc Tryz.prog 10 := ⟨Tryz.f10, Tryz.func10, rfl, by kernel_rfl⟩
theorem c_11 : zc Tryz.prog 11 := ⟨Tryz.f11, Tryz.func11, rfl, by kernel_rfl⟩
theorem c_12 : zc Tryz.prog 12 := ⟨Tryz.f12, Tryz.func12, rfl, by kernel_rfl⟩
theorem c_13 : zc Tryz.prog 13 := ⟨Tryz.f13, Tryz.func13, rfl, by kernel_rfl⟩
theorem c_14 : zc Tryz.prog 14 := ⟨Tryz.f14, Tryz.func14, rfl, by kernel_rfl⟩
theorem c_15 : zc Tryz.prog 15 := ⟨Tryz.f15, Tryz.func15, rfl, by kernel_rfl⟩
theorem c_16 : zc Tryz.prog 16 := ⟨Tryz.f16, Tryz.func16, rfl, by kernel_rfl⟩
theorem c_30 : zc Tryz.prog 30 := ⟨Tryz.f30, Tryz.func30, rfl, by kernel_rfl⟩
theorem c_31 : zc Tryz.prog 31 := ⟨Tryz.f31, Tryz.func31, rfl, by kernel_rfl⟩
theorem c_32 : zc Tryz.prog 32 := ⟨Tryz.f32, Tryz.func32, rfl, by kernel_rfl⟩
theorem c_33 : zc Tryz.prog 33 := ⟨Tryz.f33, Tryz.func33, rfl, by kernel_rfl⟩
theorem c_34 : zc Tryz.prog 34 := ⟨Tryz.f34, Tryz.func34, rfl, by kernel_rfl⟩
theorem c_35 : zc Tryz.prog 35 := ⟨Tryz.f35, Tryz.func35, rfl, by kernel_rfl⟩
theorem c_36 : zc Tryz.prog 36 := ⟨Tryz.f36, Tryz.func36, rfl, by kernel_rfl⟩
theorem c_37 : zc Tryz.prog 37 := ⟨Tryz.f37, Tryz.func37, rfl, by kernel_rfl⟩
theorem c_38 : zc Tryz.prog 38 := ⟨Tryz.f38, Tryz.func38, rfl, by kernel_rfl⟩
theorem c_39 : zc Tryz.prog 39 := ⟨Tryz.f39, Tryz.func39, rfl, by kernel_rfl⟩
theorem zo2 : zc Tryz.prog 42 := ⟨Tryz.f42, Tryz.func42, rfl, by kernel_rfl⟩
theorem c_45 : zc Tryz.prog 45 := ⟨Tryz.f45, Tryz.func45, rfl, by kernel_rfl⟩
theorem c_46 : zc Tryz.prog 46 := ⟨Tryz.f46, Tryz.func46, rfl, by kernel_rfl⟩
theorem c_47 : zc Tryz.prog 47 := ⟨Tryz.f47, Tryz.func47, rfl, by kernel_rfl⟩
theorem c_48 : zc Tryz.prog 48 := ⟨Tryz.f48, Tryz.func48, rfl, by kernel_rfl⟩
theorem c_53 : zc Tryz.prog 53 := ⟨Tryz.f53, Tryz.func53, rfl, by kernel_rfl⟩
theorem c_54 : zc Tryz.prog 54 := ⟨Tryz.f54, Tryz.func54, rfl, by kernel_rfl⟩
theorem c_55 : zc Tryz.prog 55 := ⟨Tryz.f55, Tryz.func55, rfl, by kernel_rfl⟩
theorem c_56 : zc Tryz.prog 56 := ⟨Tryz.f56, Tryz.func56, rfl, by kernel_rfl⟩
theorem c_57 : zc Tryz.prog 57 := ⟨Tryz.f57, Tryz.func57, rfl, by kernel_rfl⟩
theorem c_58 : zc Tryz.prog 58 := ⟨Tryz.f58, Tryz.func58, rfl, by kernel_rfl⟩
theorem c_59 : zc Tryz.prog 59 := ⟨Tryz.f59, Tryz.func59, rfl, by kernel_rfl⟩
theorem c_60 : zc Tryz.prog 60 := ⟨Tryz.f60, Tryz.func60, rfl, by kernel_rfl⟩
theorem c_61 : zc Tryz.prog 61 := ⟨Tryz.f61, Tryz.func61, rfl, by kernel_rfl⟩
theorem c_62 : zc Tryz.prog 62 := ⟨Tryz.f62, Tryz.func62, rfl, by kernel_rfl⟩
theorem c_63 : zc Tryz.prog 63 := ⟨Tryz.f63, Tryz.func63, rfl, by kernel_rfl⟩
theorem c_64 : zc Tryz.prog 64 := ⟨Tryz.f64, Tryz.func64, rfl, by kernel_rfl⟩
theorem c_65 : zc Tryz.prog 65 := ⟨Tryz.f65, Tryz.func65, rfl, by kernel_rfl⟩
theorem c_66 : zc Tryz.prog 66 := ⟨Tryz.f66, Tryz.func66, rfl, by kernel_rfl⟩
theorem c_67 : zc Tryz.prog 67 := ⟨Tryz.f67, Tryz.func67, rfl, by kernel_rfl⟩
theorem c_68 : zc Tryz.prog 68 := ⟨Tryz.f68, Tryz.func68, rfl, by kernel_rfl⟩
theorem c_69 : zc Tryz.prog 69 := ⟨Tryz.f69, Tryz.func69, rfl, by kernel_rfl⟩
theorem zlu : zc Tryz.prog 70 := ⟨Tryz.f70, Tryz.func70, rfl, by kernel_rfl⟩
theorem c_71 : zc Tryz.prog 71 := ⟨Tryz.f71, Tryz.func71, rfl, by kernel_rfl⟩
theorem c_72 : zc Tryz.prog 72 := ⟨Tryz.f72, Tryz.func72, rfl, by kernel_rfl⟩
theorem c_74 : zc Tryz.prog 74 := ⟨Tryz.f74, Tryz.func74, rfl, by kernel_rfl⟩
theorem c_77 : zc Tryz.prog 77 := ⟨Tryz.f77, Tryz.func77, rfl, by kernel_rfl⟩
theorem c_78 : zc Tryz.prog 78 := ⟨Tryz.f78, Tryz.func78, rfl, by kernel_rfl⟩
theorem c_80 : zc Tryz.prog 80 := ⟨Tryz.f80, Tryz.func80, rfl, by kernel_rfl⟩
theorem c_81 : zc Tryz.prog 81 := ⟨Tryz.f81, Tryz.func81, rfl, by kernel_rfl⟩
theorem c_82 : zc Tryz.prog 82 := ⟨Tryz.f82, Tryz.func82, rfl, by kernel_rfl⟩
theorem c_88 : zc Tryz.prog 88 := ⟨Tryz.f88, Tryz.func88, rfl, by kernel_rfl⟩
theorem c_89 : zc Tryz.prog 89 := ⟨Tryz.f89, Tryz.func89, rfl, by kernel_rfl⟩
theorem c_90 : zc Tryz.prog 90 := ⟨Tryz.f90, Tryz.func90, rfl, by kernel_rfl⟩
theorem c_91 : zc Tryz.prog 91 := ⟨Tryz.f91, Tryz.func91, rfl, by kernel_rfl⟩
theorem c_92 : zc Tryz.prog 92 := ⟨Tryz.f92, Tryz.func92, rfl, by kernel_rfl⟩
theorem c_93 : zc Tryz.prog 93 := ⟨Tryz.f93, Tryz.func93, rfl, by kernel_rfl⟩
theorem c_94 : zc Tryz.prog 94 := ⟨Tryz.f94, Tryz.func94, rfl, by kernel_rfl⟩
theorem c_95 : zc Tryz.prog 95 := ⟨Tryz.f95, Tryz.func95, rfl, by kernel_rfl⟩
theorem c_96 : zc Tryz.prog 96 := ⟨Tryz.f96, Tryz.func96, rfl, by kernel_rfl⟩
theorem c_97 : zc Tryz.prog 97 := ⟨Tryz.f97, Tryz.func97, rfl, by kernel_rfl⟩
theorem c_98 : zc Tryz.prog 98 := ⟨Tryz.f98, Tryz.func98, rfl, by kernel_rfl⟩
theorem c_99 : zc Tryz.prog 99 := ⟨Tryz.f99, Tryz.func99, rfl, by kernel_rfl⟩
theorem c_100 : zc Tryz.prog 100 := ⟨Tryz.f100, Tryz.func100, rfl, by kernel_rfl⟩
theorem c_101 : zc Tryz.prog 101 := ⟨Tryz.f101, Tryz.func101, rfl, by kernel_rfl⟩
theorem c_102 : zc Tryz.prog 102 := ⟨Tryz.f102, Tryz.func102, rfl, by kernel_rfl⟩
theorem c_103 : zc Tryz.prog 103 := ⟨Tryz.f103, Tryz.func103, rfl, by kernel_rfl⟩
theorem c_104 : zc Tryz.prog 104 := ⟨Tryz.f104, Tryz.func104, rfl, by kernel_rfl⟩
theorem c_105 : zc Tryz.prog 105 := ⟨Tryz.f105, Tryz.func105, rfl, by kernel_rfl⟩
theorem c_106 : zc Tryz.prog 106 := ⟨Tryz.f106, Tryz.func106, rfl, by kernel_rfl⟩
theorem c_107 : zc Tryz.prog 107 := ⟨Tryz.f107, Tryz.func107, rfl, by kernel_rfl⟩
theorem c_108 : zc Tryz.prog 108 := ⟨Tryz.f108, Tryz.func108, rfl, by kernel_rfl⟩
theorem zph : zc Tryz.prog 109 := ⟨Tryz.f109, Tryz.func109, rfl, by kernel_rfl⟩
theorem zri : zc Tryz.prog 112 := ⟨Tryz.f112, Tryz.func112, rfl, by kernel_rfl⟩
theorem c_113 : zc Tryz.prog 113 := ⟨Tryz.f113, Tryz.func113, rfl, by kernel_rfl⟩
theorem c_114 : zc Tryz.prog 114 := ⟨Tryz.f114, Tryz.func114, rfl, by kernel_rfl⟩
theorem c_116 : zc Tryz.prog 116 := ⟨Tryz.f116, Tryz.func116, rfl, by kernel_rfl⟩
theorem c_117 : zc Tryz.prog 117 := ⟨Tryz.f117, Tryz.func117, rfl, by kernel_rfl⟩
theorem c_119 : zc Tryz.prog 119 := ⟨Tryz.f119, Tryz.func119, rfl, by kernel_rfl⟩
theorem zn7 : zc Tryz.prog 120 := ⟨Tryz.f120, Tryz.func120, rfl, by kernel_rfl⟩
theorem c_121 : zc Tryz.prog 121 := ⟨Tryz.f121, Tryz.func121, rfl, by kernel_rfl⟩
theorem c_124 : zc Tryz.prog 124 := ⟨Tryz.f124, Tryz.func124, rfl, by kernel_rfl⟩
theorem zn8 : zc Tryz.prog 128 := ⟨Tryz.f128, Tryz.func128, rfl, by kernel_rfl⟩
theorem c_136 : zc Tryz.prog 136 := ⟨Tryz.f136, Tryz.func136, rfl, by kernel_rfl⟩
theorem c_137 : zc Tryz.prog 137 := ⟨Tryz.f137, Tryz.func137, rfl, by kernel_rfl⟩
theorem c_138 : zc Tryz.prog 138 := ⟨Tryz.f138, Tryz.func138, rfl, by kernel_rfl⟩
theorem c_139 : zc Tryz.prog 139 := ⟨Tryz.f139, Tryz.func139, rfl, by kernel_rfl⟩
theorem c_140 : zc Tryz.prog 140 := ⟨Tryz.f140, Tryz.func140, rfl, by kernel_rfl⟩
theorem c_141 : zc Tryz.prog 141 := ⟨Tryz.f141, Tryz.func141, rfl, by kernel_rfl⟩
theorem c_142 : zc Tryz.prog 142 := ⟨Tryz.f142, Tryz.func142, rfl, by kernel_rfl⟩
theorem c_143 : zc Tryz.prog 143 := ⟨Tryz.f143, Tryz.func143, rfl, by kernel_rfl⟩
theorem c_144 : zc Tryz.prog 144 := ⟨Tryz.f144, Tryz.func144, rfl, by kernel_rfl⟩
theorem c_145 : zc Tryz.prog 145 := ⟨Tryz.f145, Tryz.func145, rfl, by kernel_rfl⟩
theorem c_146 : zc Tryz.prog 146 := ⟨Tryz.f146, Tryz.func146, rfl, by kernel_rfl⟩
theorem c_147 : zc Tryz.prog 147 := ⟨Tryz.f147, Tryz.func147, rfl, by kernel_rfl⟩
theorem zpi : zc Tryz.prog 148 := ⟨Tryz.f148, Tryz.func148, rfl, by kernel_rfl⟩
theorem c_149 : zc Tryz.prog 149 := ⟨Tryz.f149, Tryz.func149, rfl, by kernel_rfl⟩
theorem c_153 : zc Tryz.prog 153 := ⟨Tryz.f153, Tryz.func153, rfl, by kernel_rfl⟩
theorem zn9 : zc Tryz.prog 154 := ⟨Tryz.f154, Tryz.func154, rfl, by kernel_rfl⟩
theorem c_155 : zc Tryz.prog 155 := ⟨Tryz.f155, Tryz.func155, rfl, by kernel_rfl⟩
theorem c_158 : zc Tryz.prog 158 := ⟨Tryz.f158, Tryz.func158, rfl, by kernel_rfl⟩
theorem zrj : zc Tryz.prog 159 := ⟨Tryz.f159, Tryz.func159, rfl, by kernel_rfl⟩
theorem c_165 : zc Tryz.prog 165 := ⟨Tryz.f165, Tryz.func165, rfl, by kernel_rfl⟩
theorem c_166 : zc Tryz.prog 166 := ⟨Tryz.f166, Tryz.func166, rfl, by kernel_rfl⟩
theorem c_167 : zc Tryz.prog 167 := ⟨Tryz.f167, Tryz.func167, rfl, by kernel_rfl⟩
theorem c_168 : zc Tryz.prog 168 := ⟨Tryz.f168, Tryz.func168, rfl, by kernel_rfl⟩
theorem c_171 : zc Tryz.prog 171 := ⟨Tryz.f171, Tryz.func171, rfl, by kernel_rfl⟩
theorem c_172 : zc Tryz.prog 172 := ⟨Tryz.f172, Tryz.func172, rfl, by kernel_rfl⟩
theorem c_173 : zc Tryz.prog 173 := ⟨Tryz.f173, Tryz.func173, rfl, by kernel_rfl⟩
theorem c_175 : zc Tryz.prog 175 := ⟨Tryz.f175, Tryz.func175, rfl, by kernel_rfl⟩
theorem c_176 : zc Tryz.prog 176 := ⟨Tryz.f176, Tryz.func176, rfl, by kernel_rfl⟩
theorem c_183 : zc Tryz.prog 183 := ⟨Tryz.f183, Tryz.func183, rfl, by kernel_rfl⟩
theorem c_187 : zc Tryz.prog 187 := ⟨Tryz.f187, Tryz.func187, rfl, by kernel_rfl⟩
theorem c_188 : zc Tryz.prog 188 := ⟨Tryz.f188, Tryz.func188, rfl, by kernel_rfl⟩
theorem c_189 : zc Tryz.prog 189 := ⟨Tryz.f189, Tryz.func189, rfl, by kernel_rfl⟩
end Go.Proofs
end
section
namespace Go.Proofs
open Go.Dk Go.Dm Go.RowKit
theorem zhZ (s : Str) (c : UInt8) (R : Int) (w0 : World) (hG : zt w0) (hm : strings_IndexByte s c = some R) :
    Calls Tryz.prog 183 #[str s, zQ c] w0 fun e w' => e = .returned (int R) ∧ Below w0.heap.size w0 w' := by
  refine (Tryz.strings_IndexByte ⟨s.toArray⟩ c.toNat w0).mono fun e w' ⟨he, hw⟩ => ?_
  subst he hw
  refine ⟨?_, Below.refl _ _⟩
  unfold strings_IndexByte at hm
  rw [znD] at hm
  cases hm
  simp
theorem zg7 (s t : Str) (R : Int) (w0 : World) (hG : zt w0) (hm : strings_Index s t = some R) :
    Calls Tryz.prog 152 #[str s, str t] w0 fun e w' => e = .returned (int R) ∧ Below w0.heap.size w0 w' := by
  unfold strings_Index at hm
  split at hm
  · rename_i hs
    obtain ⟨m, hg⟩ := hG.max
    refine (Tryz.strings_Index ⟨s.toArray⟩ ⟨t.toArray⟩ m w0 hs hg).mono fun e w' ⟨he, hw⟩ => ?_
    subst he hw
    rw [zoC] at hm
    cases hm
    exact ⟨rfl, Below.refl _ _⟩
  · cases hm
theorem zmj (s t : Str) (R : Str × Str × Bool) (w0 : World) (hG : zt w0) (hm : strings_Cut s t = some R) :
    Calls Tryz.prog 81 #[str s, str t] w0 fun e w' => e = .returned (.tuple #[str R.1, str R.2.1, .bool R.2.2]) ∧ Below w0.heap.size w0 w' := by
  unfold strings_Cut at hm
  split at hm
  · rename_i hs
    obtain ⟨m, hg⟩ := hG.max
    refine (Tryz.strings_Cut ⟨s.toArray⟩ ⟨t.toArray⟩ m w0 hs hg).mono fun e w' ⟨he, n, hw⟩ => ?_
    subst he hw
    cases hm
    exact ⟨rfl, ⟨rfl, rfl, rfl, Nat.le_refl _, fun _ _ => rfl⟩⟩
  · cases hm
theorem ziL (s cs : Str) (R : Int) (w0 : World) (hG : zt w0) (hm : strings_IndexAny s cs = some R) :
    Calls Tryz.prog 141 #[str s, str cs] w0 fun e w' => e = .returned (int R) ∧ Below w0.heap.size w0 w' := by
  unfold strings_IndexAny at hm
  split at hm
  · rename_i hs
    refine (znb Tryz.lays153 (by kernel_rfl) ⟨s.toArray⟩ ⟨cs.toArray⟩ w0 hs.1 hs.2.1 (fun j b hb => ?_)).mono fun e w' ⟨he, hw⟩ => ?_
    · have := List.all_eq_true.1 hs.2.2 b (List.mem_of_getElem? hb)
      simpa using this
    · subst he
      rw [zoD] at hm
      cases hm
      exact ⟨rfl, hw⟩
  · cases hm
theorem zh0 (n b : Int) (R : Str) (w0 : World) (hG : zbH w0) (hm : zc9 n b = some R) :
    Calls Tryz.prog 176 #[int n, int b] w0 fun e w' => e = .returned (str R) ∧ Below w0.heap.size w0 w' := by
  unfold zc9 at hm
  split at hm
  · rename_i h
    obtain ⟨h1, rfl⟩ := h
    obtain ⟨h2, h3⟩ := zf2.1 h1
    cases hm
    refine (Tryz.strconv_FormatInt_10 n h2 h3 w0 hG.2).mono fun e w' ⟨he, k, os, hw⟩ => ?_
    subst he hw
    exact ⟨rfl, Lib.below_grow _ _ (Nat.le_refl _) _ _⟩
  · cases hm
theorem zku (s sep : Str) (R : List Str) (w0 : World) (hG : zt w0) (hm : strings_Split s sep = some R) :
    Calls Tryz.prog 119 #[str s, str sep] w0 fun e w' => ∃ (p0 : Option Addr) (c0 : Nat), e = .returned (.slice p0 R.length c0) ∧ Own w0 [] w' [.row (.slice p0 R.length c0) 9 1 R.length (cells zd R)] := by
  unfold strings_Split at hm
  split at hm
  · rename_i hs
    obtain ⟨m, hg⟩ := hG.max
    refine (Tryz.strings_Split ⟨s.toArray⟩ ⟨sep.toArray⟩ m w0 hs.1 hg hs.2).mono fun e w' ⟨he, hw⟩ => ?_
    subst he hw
    have hlen := Go.Lib.splitB_all ⟨sep.toArray⟩ hs.2 0 _ ⟨s.toArray⟩ rfl
    have hdat := Go.Lib.splitB_data ⟨sep.toArray⟩ 0 (Go.Lib.countB ⟨s.toArray⟩ ⟨sep.toArray⟩) ⟨s.toArray⟩
    have hR : R = (Go.Lib.splitB ⟨sep.toArray⟩ 0 (Go.Lib.countB ⟨s.toArray⟩ ⟨sep.toArray⟩) ⟨s.toArray⟩).map (·.data.toList) := by
      rw [hdat]; exact (Option.some.inj hm).symm
    have hRl : R.length = Go.Lib.countB ⟨s.toArray⟩ ⟨sep.toArray⟩ + 1 := by rw [hR, List.length_map, hlen]
    have hcells : (Go.Lib.splitB ⟨sep.toArray⟩ 0 (Go.Lib.countB ⟨s.toArray⟩ ⟨sep.toArray⟩) ⟨s.toArray⟩).map Value.string = cells zd R := by
      rw [hR]
      generalize Go.Lib.splitB _ _ _ _ = l
      induction l with
      | nil => rfl
      | cons x l ih => obtain ⟨⟨x⟩⟩ := x; rw [List.map_cons, List.map_cons, ih]; rfl
    have hle := Go.Lib.countB_le ⟨sep.toArray⟩ hs.2 _ ⟨s.toArray⟩ (Nat.le_refl _)
    have hsz : (⟨s.toArray⟩ : ByteArray).size = s.length := rfl
    have hO := (Own.refl w0).newRow (cells zd R) 9 1 R.length (zbz (enc := zd) (sz := 1) (fun _ => rfl) R) (by unfold maxLen; omega)
    rw [hcells, ← hRl]
    exact ⟨_, _, rfl, hO⟩
  · cases hm
theorem zhH (s cs : Str) (R : Str) (w0 : World) (hG : zt w0) (hm : zbA s cs = some R) :
    Calls Tryz.prog 91 #[str s, str cs] w0 fun e w' => e = .returned (str R) ∧ Below w0.heap.size w0 w' := by
  unfold zbA at hm
  split at hm
  · rename_i hs
    refine (Any.strings_Trim_laid Tryz.lays160 (by kernel_rfl) ⟨s.toArray⟩ ⟨cs.toArray⟩ w0 (Nat.le_trans (Nat.le_of_lt hs.1) (by decide)) hs.2.1 (fun j b hb => ?_)).mono fun e w' ⟨he, hw⟩ => ?_
    · have := List.all_eq_true.1 hs.2.2 b (List.mem_of_getElem? hb)
      simpa using this
    · subst he
      cases hm
      exact ⟨rfl, hw⟩
  · cases hm
theorem zh1 (s cs : Str) (R : Str) (w0 : World) (hG : zt w0) (hm : zb8 s cs = some R) :
    Calls Tryz.prog 93 #[str s, str cs] w0 fun e w' => e = .returned (str R) ∧ Below w0.heap.size w0 w' := by
  unfold zb8 at hm
  split at hm
  · rename_i hs
    refine (Any.strings_TrimRight_laid Tryz.lays162 (by kernel_rfl) ⟨s.toArray⟩ ⟨cs.toArray⟩ w0 (Nat.le_trans (Nat.le_of_lt hs.1) (by decide)) hs.2.1 (fun j b hb => ?_)).mono fun e w' ⟨he, hw⟩ => ?_
    · have := List.all_eq_true.1 hs.2.2 b (List.mem_of_getElem? hb)
      simpa using this
    · subst he
      cases hm
      exact ⟨rfl, hw⟩
  · cases hm
theorem zlM (l : List Str) (sep : Str) (R : Str) (w0 : World) (hG : zt w0) {x_p : Option Addr} {x_c : Nat} (hs0 : zaU w0 x_p (cells zd l)) (hc0 : l.length ≤ x_c) (hm : strings_Join l sep = some R) :
    Calls Tryz.prog 89 #[.slice x_p l.length x_c, str sep] w0 fun e w' => e = .returned (str R) ∧ Below w0.heap.size w0 w' := by
  unfold strings_Join at hm
  split at hm
  · rename_i hb
    cases hm
    have hmap : (l.map fun x => (⟨x.toArray⟩ : ByteArray)).map (·.data.toList) = l := by
      rw [List.map_map]; exact List.map_id' l
    cases x_p with
    | none =>
      have hnil : cells zd l = [] := hs0
      have : l = [] := by
        cases l with
        | nil => rfl
        | cons x l => simp [cells, zd] at hnil
      subst this
      exact (Tryz.strings_Join_none none x_c ⟨sep.toArray⟩ w0).mono fun e w' h => by
        obtain ⟨he, hw⟩ := h
        subst he hw
        exact ⟨rfl, Below.refl _ _⟩
    | some a =>
      obtain ⟨bk, o, spot⟩ := a
      obtain ⟨h1, h2, h3⟩ := hs0
      simp only at h1; subst h1
      have := Tryz.strings_Join bk o x_c (l.map fun x => (⟨x.toArray⟩ : ByteArray)) ⟨sep.toArray⟩ w0 (fun j x hx => ?_) h2 (by simpa using hb.1) (by simpa using hc0) (by rw [hmap]; exact hb.2)
      · rw [hmap, List.length_map] at this
        exact this
      · rw [List.getElem?_map] at hx
        obtain ⟨y, hy, rfl⟩ := Option.map_eq_some_iff.1 hx
        refine h3 j _ ?_
        have := zhU (enc := zd) (sz := 1) (fun _ => rfl) l j 0 y hy (by omega)
        rw [Nat.mul_one, Nat.add_zero] at this
        exact this
  · cases hm
end Go.Proofs
end
