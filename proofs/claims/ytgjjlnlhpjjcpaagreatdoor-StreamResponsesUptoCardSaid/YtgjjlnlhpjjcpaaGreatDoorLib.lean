/-
 Walks in short: a program's steps are taken by evaluation as far as no case parts; one rule for each thing that is left. Over any program.
 Calls in short: what they hand back, in one rule. Over any program. Written by a program (wip/gen/mkcal.py).
 Drawn regions in short: what is alike in all of them is found by itself. Over any program.
 Rows of rows: what is read of them, and how they grow. Over any program.
 Rows whose elements name other rows. Over any program.
 From what a statement says of the arguments to what a walk asks of them, and the way back. Over any program.
 Facts on the type
-/
import Derived.Test.YtgjjlnlhpjjcpaaGreatDoorShelf
import Derived.Test.YtgjjlnlhpjjcpaaGreatDoorT08P
import Derived.KernelRfl
import Derived.WalkKit
import Derived.ProofKit
import Derived.JoinedCond
import Derived.SizedLaws
import Derived.Deep.Slices
import Derived.Carry
import Derived.OpenShut
import Derived.ShutString
import Derived.WideMake
import Derived.Test.YtgjjlnlhpjjcpaaGreatDoorProg
import Derived.Laws.StructEq
import Derived.Lib.LaidTab
import Derived.Lib.ItoaNum
import Derived.Shelf.Strings.SlTrimAscii
import Derived.Lib.AppendIntMem
section
namespace Go.Dk
open Go.RowKit Go.Dm

inductive Fr where
 | sq (y : Code)
 | ct (K : Act → World → Prop)
 | bk (id : Nat)
def QS (P : Program) (Q0 : Exit → Act → World → Prop) : List Fr → Exit → Act → World → Prop
 | [] => Q0
 | .sq y :: fs => Exit.then (y.wp P (QS P Q0 fs)) (QS P Q0 fs)
 | .ct K :: fs => Exit.then K (QS P Q0 fs)
 | .bk id :: fs => Exit.inBlock id (QS P Q0 fs)
inductive Cur where
 | co (c : Code)
 | op (all : Array Oper) (rest : List Oper)
 | no
 | ex (id : Nat)
 | rt
def wpU (P : Program) (Q0 : Exit → Act → World → Prop) : Cur → List Fr → Act → World → Prop
 | .co c,fs => c.wp P (QS P Q0 fs)
 | .op all rest,fs => wpList P all (QS P Q0 fs) rest
 | .no,fs => QS P Q0 fs .normal
 | .ex id,fs => QS P Q0 fs (.exit id)
 | .rt,fs => QS P Q0 fs .ret

abbrev Kn := List (Nat × Option Bool)
def lkB : Kn → Nat → Option Bool
 | [],_ => none
 | (k,v) :: B,d => bif Nat.beq k d then v else lkB B d
def zqi (d : Nat) (k : Option Bool) (B : Kn) : Kn :=
 match k with
 | some b => (d,some b) :: B
 | none => match lkB B d with
  | some _ => (d,none) :: B
  | none => B
def Kns (B : Kn) (a : Act) : Prop := ∀ d b,lkB B d = some b → a.tmps[d]? = some (.bool b)
def kOf (B : Kn) : Operand → Option Bool
 | .tmp s => lkB B s
 | .const (.bool b) => some b
 | _ => none
def knO (B : Kn) : Op → Option Bool
 | .move x => kOf B x
 | .assign x => kOf B x
 | .pick c x y => match kOf B c with
  | some true => kOf B x
  | some false => kOf B y
  | none => none
 | .unOp .not _ x => match kOf B x with
  | some true => some false
  | some false => some true
  | none => none
 | _ => none

structure Tab where
 und : List (Nat × TypeDesc)
 fa : List (Nat × Nat × Nat)
 ag : List (Nat × Bool)
 sz : List (Nat × Nat)
class TabOk (P : Program) (τ : Tab) : Prop where
 und : ∀ p ∈ τ.und,P.underlying p.1 = some p.2
 fa : ∀ p ∈ τ.fa, ∀ b o w,(Instr.fieldAt p.1 (ptr b o) p.2.1).run P w = .ok (ptr b (o + p.2.2)) w
 ag : ∀ p ∈ τ.ag,zeP P p.1 = some p.2
 sz : ∀ p ∈ τ.sz,za3 P p.1 = some p.2
def allP {α : Type} (Q : α → Prop) : List α → Prop
 | [] => True
 | x :: l => Q x ∧ allP Q l
theorem znS {α : Type} {Q : α → Prop} : ∀ {l : List α},allP Q l → ∀ x ∈ l,Q x
 | [],_,x,hx => by cases hx
 | y :: l,h,x,hx => by
  rcases List.mem_cons.1 hx with rfl | hx
  ·exact h.1
  ·exact znS h.2 x hx
def ass {α : Type} : List (Nat × α) → Nat → Option α
 | [],_ => none
 | (k,v) :: l,t => bif Nat.beq k t then some v else ass l t
def offs : List (Nat × Nat × Nat) → Nat → Nat → Option Nat
 | [],_,_ => none
 | (k,j,v) :: l,t,i => bif Nat.beq k t then bif Nat.beq j i then some v else offs l t i else offs l t i
theorem zed {α : Type} : ∀ {l : List (Nat × α)} {t : Nat} {v : α},ass l t = some v → (t,v) ∈ l
 | [],_,_,h => by cases h
 | (k,u) :: l,t,v,h => by
  simp only [ass] at h
  by_cases e : Nat.beq k t = true
  ·simp only [e,cond_true,Option.some.injEq] at h
   have : k = t := by simpa using e
   subst this; subst h;exact List.mem_cons_self ..
  ·simp only [e] at h;exact List.mem_cons_of_mem _ (zed h)
theorem ztv : ∀ {l : List (Nat × Nat × Nat)} {t i v : Nat},offs l t i = some v → (t,i,v) ∈ l
 | [],_,_,_,h => by cases h
 | (k,j,u) :: l,t,i,v,h => by
  simp only [offs] at h
  by_cases e : Nat.beq k t = true
  ·by_cases e2 : Nat.beq j i = true
   ·simp only [e,e2,cond_true,Option.some.injEq] at h
    have h1 : k = t := by simpa using e
    have h2 : j = i := by simpa using e2
    subst h1; subst h2; subst h;exact List.mem_cons_self ..
   ·simp only [e,e2,cond_true] at h;exact List.mem_cons_of_mem _ (ztv h)
  ·simp only [e] at h;exact List.mem_cons_of_mem _ (ztv h)
def nth {α : Type} : List α → Nat → Option α
 | [],_ => none
 | x :: _,0 => some x
 | _ :: l,n + 1 => nth l n
theorem ziC {α : Type} : ∀ (l : List α) (n : Nat),nth l n = l[n]?
 | [],_ => by simp [nth]
 | _ :: _,0 => by simp [nth]
 | _ :: l,n + 1 => by simp [nth,ziC l n]

def cmpI (o : BinOp) (m n : Int) : Option Value :=
 match o with
 | .eql => some (.bool (m == n))
 | .neq => some (.bool (!(m == n)))
 | .lss => some (.bool (decide (m < n)))
 | .leq => some (.bool (decide (m ≤ n)))
 | .gtr => some (.bool (decide (n < m)))
 | .geq => some (.bool (decide (n ≤ m)))
 | _ => none
def evO (τ : Tab) (E : Env) (B : Kn) : Op → Option Value
 | .move x => evl E x
 | .assign x => evl E x
 | .pick c x y => match kOf B c with
  | some true => evl E x
  | some false => evl E y
  | none => none
 | .unOp .not _ x => match evl E x with
  | some (.bool b) => some (.bool (!b))
  | _ => none
 | .binOp o _ x y _ => match evl E x with
  | some (.int .i64 m) => match evl E y with
   | some (.int .i64 n) => cmpI o m n
   | _ => none
  | some (.string ⟨⟨l⟩⟩) => match evl E y with
   | some (.string ⟨⟨m⟩⟩) => match o with
    | .eql => some (.bool (l == m))
    | .neq => some (.bool (!(l == m)))
    | _ => none
   | _ => none
  | _ => none
 | .extract x i => match evl E x with
  | some (.tuple ⟨l⟩) => nth l i
  | _ => none
 | .nilCheck x => match evl E x with
  | some (.pointer (some ad)) => some (.pointer (some ad))
  | _ => none
 | .fieldAddr t x i => match evl E x with
  | some (.pointer (some ⟨b,o,none⟩)) => match offs τ.fa t i with
   | some f => some (.pointer (some ⟨b,o + f,none⟩))
   | none => none
  | _ => none
 | .call ⟨.builtin .len,⟨[x]⟩,⟨[t]⟩⟩ => match ass τ.und t with
  | some .string => match evl E x with
   | some (.string ⟨⟨l⟩⟩) => some (.int .i64 l.length)
   | _ => none
  | some (.slice _) => match evl E x with
   | some (.slice _ n _) => some (.int .i64 n)
   | _ => none
  | _ => none
 | _ => none

section
variable {P : Program} {τ : Tab} {N : Nat} {E : Env} {B : Kn} {a : Act} {w : World}

theorem zhw (hB : Kns B a) {x : Operand} {b : Bool} (h : kOf B x = some b) : a.eval x = .bool b := by
 cases x with
 | tmp s => have := hB s b h; simp [Act.eval,Array.getD_eq_getD_getElem?,this]
 | const c =>
  cases c <;> first | (simp [kOf] at h; done) | skip
  simp only [kOf,Option.some.injEq] at h;subst h; rfl
 | global g => simp [kOf] at h
 | func f => simp [kOf] at h

theorem zyi [hτ : TabOk P τ] {o : Oper} {v : Value} (hf : Fits N E a) (hB : Kns B a) (h : evO τ E B o.op = some v) :
  (execOp a.eval o).run P w = .ok (.value v) w ∧ ∀ b,knO B o.op = some b → v = .bool b := by
 obtain ⟨dst,op,t,p,af,gd⟩ := o;dsimp only at h ⊢;unfold evO at h
 split at h
 ·exact ⟨zvr hf h,fun b hb => (hf.ev h).symm.trans (zhw hB hb)⟩
 ·exact ⟨zos hf h,fun b hb => (hf.ev h).symm.trans (zhw hB hb)⟩
 ·rename_i c x y
  split at h
  ·rename_i hc
   refine ⟨?_,fun b hb => ?_⟩
   ·simp only [execOp]; rw [zhw hB hc,hf.ev h]; simp [asBool]
   ·simp only [knO,hc] at hb; exact (hf.ev h).symm.trans (zhw hB hb)
  ·rename_i hc
   refine ⟨?_,fun b hb => ?_⟩
   ·simp only [execOp]; rw [zhw hB hc,hf.ev h]; simp [asBool]
   ·simp only [knO,hc] at hb; exact (hf.ev h).symm.trans (zhw hB hb)
  ·cases h
 ·rename_i ti x
  split at h
  ·rename_i b hx
   obtain rfl := Option.some.inj h;refine ⟨ex_not hf hx,fun b' hb => ?_⟩;simp only [knO] at hb
   split at hb
   ·rename_i hk
    have := (hf.ev hx).symm.trans (zhw hB hk);cases this; cases hb; rfl
   ·rename_i hk
    have := (hf.ev hx).symm.trans (zhw hB hk);cases this; cases hb; rfl
   ·cases hb
  ·cases h
 ·rename_i bo ti x y ty
  refine ⟨?_,fun b hb => by simp [knO] at hb⟩
  split at h
  ·rename_i m hx
   split at h
   ·rename_i n hy
    cases bo <;> first | (cases h; done) | skip
    ·obtain rfl := Option.some.inj h; exact ex_eql hf hx hy
    ·obtain rfl := Option.some.inj h; exact ex_neq hf hx hy
    ·obtain rfl := Option.some.inj h; exact ex_lss hf hx hy
    ·obtain rfl := Option.some.inj h; exact ex_leq hf hx hy
    ·obtain rfl := Option.some.inj h; exact ex_gtr hf hx hy
    ·obtain rfl := Option.some.inj h; exact ex_geq hf hx hy
   ·cases h
  ·rename_i l hx
   split at h
   ·rename_i m hy
    split at h
    ·obtain rfl := Option.some.inj h; exact zAx hf hx hy
    ·obtain rfl := Option.some.inj h; exact zAy hf hx hy
    ·cases h
   ·cases h
  ·cases h
 ·rename_i x i
  refine ⟨?_,fun b hb => by simp [knO] at hb⟩
  split at h
  ·rename_i l hx
   exact zsB hf hx (by rw [ziC] at h; simpa using h)
  ·cases h
 ·refine ⟨?_,fun b hb => by simp [knO] at hb⟩
  split at h
  ·rename_i ad hx
   obtain rfl := Option.some.inj h;exact zru hf hx
  ·cases h
 ·refine ⟨?_,fun b hb => by simp [knO] at hb⟩
  split at h
  ·rename_i b o hx
   split at h
   ·rename_i f ho
    obtain rfl := Option.some.inj h;exact zjD (fun b o w => hτ.fa _ (ztv ho) b o w) hf hx
   ·cases h
  ·cases h
 ·refine ⟨?_,fun b hb => by simp [knO] at hb⟩
  split at h
  ·rename_i ht
   split at h
   ·rename_i l hx
    obtain rfl := Option.some.inj h;exact zAD (hτ.und _ (zed ht)) hf hx
   ·cases h
  ·rename_i e ht
   split at h
   ·rename_i n c hx
    obtain rfl := Option.some.inj h;exact zAE (hτ.und _ (zed ht)) hf hx
   ·cases h
  ·cases h
 ·cases h

def gd (all : Array Oper) (E : Env) (B : Kn) : Option (Nat × Bool) → Option Bool
 | none => some true
 | some (j,b) => match nth all.toList j with
  | some ⟨some s,_,_,_,_,_⟩ => match lkB B s with
   | some b' => some (b' == b)
   | none => match look E s with
    | some (.tuple ⟨[]⟩) => some false
    | _ => none
  | _ => none
theorem zCy {all : Array Oper} {o : Oper} {m : Bool} (hf : Fits N E a) (hB : Kns B a) (h : gd all E B o.guard = some m) : Region.wanted o (yielded all a.tmps) = m := by
 unfold gd at h
 split at h
 ·rename_i hg
  obtain rfl := Option.some.inj h;simp [Region.wanted,hg]
 ·rename_i j b hg
  split at h
  ·rename_i s _ _ _ _ _ hs
   rw [ziC] at hs
   have hs' : (all[j]?).bind (·.dst) = some s := by rw [← Array.getElem?_toList,hs]; rfl
   split at h
   ·rename_i b' hb'
    obtain rfl := Option.some.inj h
    have hy : yielded all a.tmps j = some b' := by simp [yielded,hs',hB s _ hb']
    cases b <;> cases b' <;> simp [Region.wanted,hg,hy]
   ·split at h
    ·rename_i hu
     obtain rfl := Option.some.inj h
     have hy : yielded all a.tmps j = none := by simp [yielded,hs',hf.has s _ hu]
     simp [Region.wanted,hg,hy]
    ·cases h
  ·cases h

abbrev Cfg := Cur × List Fr × Env × Kn
def zyj (τ : Tab) (N : Nat) (all : Array Oper) (o : Oper) (rest : List Oper) (fs : List Fr) (E : Env) (B : Kn) : Option Cfg :=
 match gd all E B o.guard with
 | some true => match evO τ E B o.op with
  | some v => match o.dst with
   | some d => match Nat.blt d N with
    | true => match zqi d (knO B o.op) B with
     | [] => some (.op all rest,fs,(d,v) :: E,[])
     | k :: B' => some (.op all rest,fs,(d,v) :: E,k :: B')
    | false => none
   | none => some (.op all rest,fs,E,B)
  | none => none
 | some false => match o.dst with
  | some d => match Nat.blt d N with
   | true => match zqi d none B with
    | [] => some (.op all rest,fs,(d,undef) :: E,[])
    | k :: B' => some (.op all rest,fs,(d,undef) :: E,k :: B')
   | false => none
  | none => some (.op all rest,fs,E,B)
 | none => none
def ztw (τ : Tab) (N : Nat) (E : Env) (B : Kn) : Cur → List Fr → Option Cfg
 | .co .skip,fs => some (.no,fs,E,B)
 | .co (.seq x y),fs => some (.co x, .sq y :: fs,E,B)
 | .co (.region _ ops false),fs => some (.op ops ops.toList,fs,E,B)
 | .co (.cond c x y),fs => match kOf B c with
  | some true => some (.co x,fs,E,B)
  | some false => some (.co y,fs,E,B)
  | none => none
 | .co (.block id c),fs => some (.co c, .bk id :: fs,E,B)
 | .co (.exit id),fs => some (.ex id,fs,E,B)
 | .co .ret,fs => some (.rt,fs,E,B)
 | .no, .sq y :: fs => some (.co y,fs,E,B)
 | .no, .bk _ :: fs => some (.no,fs,E,B)
 | .ex id, .sq _ :: fs => some (.ex id,fs,E,B)
 | .ex id, .ct _ :: fs => some (.ex id,fs,E,B)
 | .ex id, .bk i :: fs => match Nat.beq id i with
  | true => some (.no,fs,E,B)
  | false => some (.ex id,fs,E,B)
 | .rt,_ :: fs => some (.rt,fs,E,B)
 | .op _ [],fs => some (.no,fs,E,B)
 | .op all (o :: rest),fs => zyj τ N all o rest fs E B
 | _,_ => none
def zh2 (τ : Tab) (N : Nat) : Nat → Cur → List Fr → Env → Kn → Cfg
 | 0,c,fs,E,B => (c,fs,E,B)
 | n + 1,c,fs,E,B => match ztw τ N E B c fs with
  | some (c',fs',E',B') => zh2 τ N n c' fs' E' B'
  | none => (c,fs,E,B)

variable {Q0 : Exit → Act → World → Prop}

theorem zCz {d : Nat} {k : Option Bool} {d' : Nat} {b : Bool} (h : lkB (zqi d k B) d' = some b) : (d = d' ∧ k = some b) ∨ (d ≠ d' ∧ lkB B d' = some b) := by
 unfold zqi at h
 by_cases e : d = d'
 ·subst e
  left
  split at h
  ·simp [lkB] at h; exact ⟨rfl,by rw [h]⟩
  ·split at h
   ·simp [lkB] at h
   ·rename_i hn; rw [hn] at h; cases h
 ·right
  refine ⟨e,?_⟩;have hb : Nat.beq d d' = false := zpw.2 e
  split at h
  ·simpa [lkB,hb] using h
  ·split at h
   ·simpa [lkB,hb] using h
   ·exact h
theorem Kns.put (hf : Fits N E a) (hB : Kns B a) {d : Nat} (hd : Nat.blt d N = true) {v : Value} {k : Option Bool} (hk : ∀ b,k = some b → v = .bool b) : Kns (zqi d k B) (a.put (some d) v) := by
 intro d' b h
 have hd' : d < a.tmps.size := by rw [hf.size]; simpa [Nat.blt_eq] using hd
 rcases zCz h with ⟨rfl,hkb⟩ | ⟨hne,hb⟩
 ·simp [Act.put,hd',hk b hkb]
 ·simp [Act.put,hne,hB d' b hb]
theorem Kns.nil : Kns [] a := fun _ _ h => by cases h

theorem zqj {Q : Exit → Act → World → Prop} {all : Array Oper} {rest : List Oper} {o : Oper} {v : Value} (hg : Region.wanted o (yielded all a.tmps) = true) (hx : (execOp a.eval o).run P w = .ok (.value v) w)
  (hk : wpList P all Q rest (a.put o.dst v) w) : wpList P all Q (o :: rest) a w := by
 unfold wpList;rw [if_pos hg]
 left
 unfold Oper.wp;rw [hx];exact hk
theorem zCA {Q : Exit → Act → World → Prop} {all : Array Oper} {rest : List Oper} {o : Oper} (hg : Region.wanted o (yielded all a.tmps) = false)
  (hk : wpList P all Q rest (a.put o.dst undef) w) : wpList P all Q (o :: rest) a w := by
 unfold wpList;rw [if_neg (by simp [hg])];exact hk
theorem zDM {Q : Exit → Act → World → Prop} {all : Array Oper} {rest : List Oper} {dst : Option Nat} {op : Op} {t : Nat} {p : String} {af : Array Edge} {g : Option (Nat × Bool)}
  (hg : Region.wanted ⟨dst,op,t,p,af,g⟩ (yielded all a.tmps) = true) (hk : wpList P all Q (⟨dst,op,t,p,af,none⟩ :: rest) a w) : wpList P all Q (⟨dst,op,t,p,af,g⟩ :: rest) a w := by
 unfold wpList at hk ⊢;rw [if_pos hg];rw [if_pos (by simp [Region.wanted])] at hk;exact hk

theorem zz0 [TabOk P τ] {all : Array Oper} {o : Oper} {rest : List Oper} {fs : List Fr} {c : Cfg} (h : zyj τ N all o rest fs E B = some c) (hf : Fits N E a) (hB : Kns B a)
  (k : ∀ a,Fits N c.2.2.1 a → Kns c.2.2.2 a → wpU P Q0 c.1 c.2.1 a w) : wpU P Q0 (.op all (o :: rest)) fs a w := by
 unfold zyj at h
 split at h
 ·rename_i hg
  have hw := zCy hf hB hg
  split at h
  ·rename_i v hv
   obtain ⟨hx,hkn⟩ := zyi (P := P) (w := w) hf hB hv
   split at h
   ·rename_i d hd
    split at h
    ·rename_i hN
     have hs := Kns.put hf hB hN (v := v) hkn;refine zqj hw hx ?_;rw [hd]
     split at h <;> (obtain rfl := Option.some.inj h; rename_i e; rw [e] at hs; exact k _ (hf.put hN _) hs)
    ·cases h
   ·rename_i hd
    obtain rfl := Option.some.inj h;refine zqj hw hx ?_;rw [hd];exact k _ hf hB
  ·cases h
 ·rename_i hg
  have hw := zCy hf hB hg;refine zCA hw ?_
  split at h
  ·rename_i d hd
   split at h
   ·rename_i hN
    have hs := Kns.put hf hB hN (v := undef) (k := none) (fun b h => by cases h);rw [hd]
    split at h <;> (obtain rfl := Option.some.inj h; rename_i e; rw [e] at hs; exact k _ (hf.put hN _) hs)
   ·cases h
  ·rename_i hd
   obtain rfl := Option.some.inj h;rw [hd];exact k _ hf hB
 ·cases h
theorem zDN [TabOk P τ] {cu : Cur} {fs : List Fr} {c : Cfg} (h : ztw τ N E B cu fs = some c) (hf : Fits N E a) (hB : Kns B a)
  (k : ∀ a,Fits N c.2.2.1 a → Kns c.2.2.2 a → wpU P Q0 c.1 c.2.1 a w) : wpU P Q0 cu fs a w := by
 unfold ztw at h
 split at h
 ·obtain rfl := Option.some.inj h; exact wp_skip (k a hf hB)
 ·obtain rfl := Option.some.inj h; exact wp_seq (k a hf hB)
 ·obtain rfl := Option.some.inj h; exact wp_region_list (k a hf hB)
 ·split at h
  ·rename_i hc; obtain rfl := Option.some.inj h; exact wp_cond_true (zhw hB hc) (k a hf hB)
  ·rename_i hc; obtain rfl := Option.some.inj h; exact wp_cond_false (zhw hB hc) (k a hf hB)
  ·cases h
 ·obtain rfl := Option.some.inj h; exact wp_block (k a hf hB)
 ·obtain rfl := Option.some.inj h; exact wp_exit (k a hf hB)
 ·obtain rfl := Option.some.inj h; exact wp_ret (k a hf hB)
 ·obtain rfl := Option.some.inj h; exact k a hf hB
 ·obtain rfl := Option.some.inj h; exact k a hf hB
 ·obtain rfl := Option.some.inj h; exact k a hf hB
 ·obtain rfl := Option.some.inj h; exact k a hf hB
 ·rename_i id i fs
  split at h
  ·rename_i e
   obtain rfl := Option.some.inj h
   have e' : id = i := by simpa using e
   subst e';exact zzQ (k a hf hB)
  ·rename_i e
   obtain rfl := Option.some.inj h;exact zzR e (k a hf hB)
 ·rename_i f fs
  obtain rfl := Option.some.inj h
  cases f with
  | sq y => exact k a hf hB
  | ct K => exact k a hf hB
  | bk id => exact k a hf hB
 ·obtain rfl := Option.some.inj h; exact k a hf hB
 ·exact zz0 h hf hB k
 ·cases h
theorem zcJ [TabOk P τ] : ∀ {n : Nat} {c c' : Cur} {fs fs' : List Fr} {E E' : Env} {B B' : Kn} {a : Act},zh2 τ N n c fs E B = (c',fs',E',B') → Fits N E a → Kns B a →
  (∀ a,Fits N E' a → Kns B' a → wpU P Q0 c' fs' a w) → wpU P Q0 c fs a w
 | 0,c,c',fs,fs',E,E',B,B',a,h,hf,hB,k => by cases h; exact k a hf hB
 | n + 1,c,c',fs,fs',E,E',B,B',a,h,hf,hB,k => by
  unfold zh2 at h
  split at h
  ·rename_i h1
   exact zDN h1 hf hB fun a hf hB => zcJ h hf hB k
  ·cases h; exact k a hf hB
end

def S (P : Program) (τ : Tab) (N : Nat) {ρ : Type} (R : ρ) (Q0 : Exit → Act → World → Prop) (w0 : World) (F : List Nat) (c : Cur) (fs : List Fr) (E : Env) (B : Kn) (L : List Res) (M : Option ρ) : Prop :=
 ∀ a w,Fits N E a → Kns B a → Own w0 F w L → M = some R → wpU P Q0 c fs a w
def far : Nat := 100000000

section
variable {P : Program} {τ : Tab} {N : Nat} {Q0 : Exit → Act → World → Prop} {w0 : World} {F : List Nat} {ρ α : Type} {R : ρ} {c c' : Cur} {fs fs' : List Fr} {E E' : Env} {B B' : Kn} {L : List Res} {M : Option ρ}
variable {all : Array Oper} {rest : List Oper} {d : Nat} {o : Oper}

theorem S.at [TabOk P τ] (h : zh2 τ N far c fs E B = (c',fs',E',B')) (k : S P τ N R Q0 w0 F c' fs' E' B' L M) : S P τ N R Q0 w0 F c fs E B L M :=
 fun _ w hf hB hO hm => zcJ h hf hB fun a hf hB => k a w hf hB hO hm
theorem S.enter (τ : Tab) {f : FuncId} {fn : Func} {co : Code} {vs : List Value} {Rp : Ending → World → Prop}
  (hf : P.funcs[f]? = some fn) (hb : fn.body = some co) (hN : fn.ntmps = N) (hv : Nat.ble vs.length N = true)
  (h : S P τ N R (bodyPost P fn Rp) w0 F (.co co) [] (params 0 vs) [] L M) (hO : Own w0 F w0 L) (hm : M = some R) : Calls P f vs.toArray w0 Rp :=
 zw0 hf hb hN hv fun a hf => h a w0 hf Kns.nil hO hm
theorem S.op (τ : Tab) {a : Act} {w : World} (h : S P τ N R Q0 w0 F (.op all rest) fs E [] L M) (hf : Fits N E a) (hO : Own w0 F w L) (hm : M = some R) : wpList P all (QS P Q0 fs) rest a w := h a w hf Kns.nil hO hm
theorem S.co (τ : Tab) {a : Act} {w : World} {co : Code} (h : S P τ N R Q0 w0 F (.co co) fs E [] L M) (hf : Fits N E a) (hO : Own w0 F w L) (hm : M = some R) : co.wp P (QS P Q0 fs) a w := h a w hf Kns.nil hO hm
theorem S.no (τ : Tab) {a : Act} {w : World} (h : S P τ N R Q0 w0 F .no fs E [] L M) (hf : Fits N E a) (hO : Own w0 F w L) (hm : M = some R) : QS P Q0 fs .normal a w := h a w hf Kns.nil hO hm

def nxO (τ : Tab) (N : Nat) (c : Cur) (fs : List Fr) (E : Env) (B : Kn) : Option (Array Oper × Oper × List Oper × List Fr × Env × Kn) :=
 match zh2 τ N far c fs E B with
 | (.op all (o :: rest),fs,E,B) => match gd all E B o.guard with
  | some true => match o with
   | ⟨dst,op,t,p,af,_⟩ => some (all,⟨dst,op,t,p,af,none⟩,rest,fs,E,B)
  | _ => none
 | _ => none
theorem znT [TabOk P τ] {a : Act} {w : World} (h : nxO τ N c fs E B = some (all,o,rest,fs',E',B')) (hf : Fits N E a) (hB : Kns B a)
  (k : ∀ a,Fits N E' a → Kns B' a → wpList P all (QS P Q0 fs') (o :: rest) a w) : wpU P Q0 c fs a w := by
 unfold nxO at h
 split at h
 ·rename_i hd
  split at h
  ·rename_i hg
   obtain ⟨dst,op,t,p,af,g⟩ := ‹Oper›;cases h;exact zcJ hd hf hB fun a hf hB => zDM (zCy hf hB hg) (k a hf hB)
  ·cases h
 ·cases h
theorem rw_ [TabOk P τ] (h : nxO τ N c fs E B = some (all,o,rest,fs',E',B'))
  (k : ∀ a w,Fits N E' a → Own w0 F w L → M = some R → wpList P all (QS P Q0 fs') (o :: rest) a w) : S P τ N R Q0 w0 F c fs E B L M :=
 fun _ w hf hB hO hm => znT h hf hB fun a hf _ => k a w hf hO hm
theorem rc_ [TabOk P τ] {co : Code} (h : zh2 τ N far c fs E B = (.co co,fs',E',B'))
  (k : ∀ a w,Fits N E' a → Own w0 F w L → M = some R → co.wp P (QS P Q0 fs') a w) : S P τ N R Q0 w0 F c fs E B L M :=
 fun _ w hf hB hO hm => zcJ h hf hB fun a hf _ => k a w hf hO hm
theorem re_ [TabOk P τ] (h : zh2 τ N far c fs E B = (.rt,[],E',B'))
  (k : ∀ a w,Fits N E' a → Own w0 F w L → M = some R → Q0 .ret a w) : S P τ N R Q0 w0 F c fs E B L M :=
 fun _ w hf hB hO hm => zcJ h hf hB fun a hf _ => k a w hf hO hm
theorem vl [TabOk P τ] {op : Op} {t : Nat} {p : String} {af : Array Edge} {v : Value} (h : nxO τ N c fs E B = some (all,⟨some d,op,t,p,af,none⟩,rest,fs',E',B')) (hd : Nat.blt d N = true)
  (hx : ∀ a w,Fits N E' a → Own w0 F w L → (execOp a.eval ⟨some d,op,t,p,af,none⟩).run P w = .ok (.value v) w)
  (k : S P τ N R Q0 w0 F (.op all rest) fs' ((d,v) :: E') (zqi d none B') L M) : S P τ N R Q0 w0 F c fs E B L M :=
 fun _ w hf hB hO hm => znT h hf hB fun a hf hB => zqj (by simp [Region.wanted]) (hx a w hf hO) (k _ w (hf.put hd _) (Kns.put hf hB hd fun _ e => by cases e) hO hm)
def zqk (L : List Res) (i : Nat) : Option (Nat × List Value) := match nth L i with
 | some (.blk b cs _) => some (b,cs)
 | some (.shr (some ⟨b,0,none⟩) cs) => some (b,cs)
 | _ => none
theorem zpE {w : World} {L : List Res} {i b : Nat} {cs : List Value} (hO : Own w0 F w L) (h : zqk L i = some (b,cs)) : zH w (some ⟨b,0,none⟩) cs := by
 unfold zqk at h
 split at h
 ·rename_i h1
  rw [ziC] at h1;cases h;exact hO.blkSees h1
 ·rename_i h1
  rw [ziC] at h1;cases h;exact hO.sees h1
 ·cases h
def cut (l : List Value) : Nat → Nat → Option (List Value)
 | _,0 => some []
 | o,n + 1 => match nth l o with
  | some v => match cut l (o + 1) n with
   | some r => some (v :: r)
   | none => none
  | none => none
theorem zpF {l : List Value} : ∀ {n o : Nat} {r : List Value},cut l o n = some r → (l.drop o).take n = r ∧ r.length = n
 | 0,o,r,h => by cases h; simp
 | n + 1,o,r,h => by
  unfold cut at h
  split at h
  ·rename_i v hv
   split at h
   ·rename_i r' hr
    cases h;obtain ⟨h1,h2⟩ := zpF hr;rw [ziC] at hv;have hlt : o < l.length := (List.getElem?_eq_some_iff.1 hv).1;rw [List.drop_eq_getElem_cons hlt,List.take_succ_cons,h1];have : l[o] = v := (List.getElem?_eq_some_iff.1 hv).2;exact ⟨by rw [this],by simp [h2]⟩
   ·cases h
  ·cases h
def ldV (τ : Tab) (cs : List Value) (t o : Nat) : Option Value := match ass τ.ag t with
 | some false => nth cs o
 | some true => match ass τ.sz t with
  | some n => match cut cs o n with
   | some vs => some (.agg ⟨vs⟩)
   | none => none
  | none => none
 | none => none
def nxL (τ : Tab) (N : Nat) (i : Nat) (L : List Res) (c : Cur) (fs : List Fr) (E : Env) (B : Kn) : Option (Array Oper × List Oper × List Fr × Env × Kn × Nat × Nat × Nat × Value) :=
 match nxO τ N c fs E B with
 | some (all,⟨some d, .load t x,_,_,_,none⟩,rest,fs,E,B) => match Nat.blt d N with
  | true => match evl E x with
   | some (.pointer (some ⟨b,o,none⟩)) => match zqk L i with
    | some (b',cs) => match ldV τ cs t o with
     | some v => match zqi d none B with
      | [] => some (all,rest,fs,E,[],d,b,b',v)
      | k :: B' => some (all,rest,fs,E,k :: B',d,b,b',v)
     | none => none
    | none => none
   | _ => none
  | false => none
 | _ => none
theorem ld [hτ : TabOk P τ] (i : Nat) {b b' : Nat} {v : Value} (h : nxL τ N i L c fs E B = some (all,rest,fs',E',B',d,b,b',v)) (hb : b' = b)
  (k : S P τ N R Q0 w0 F (.op all rest) fs' ((d,v) :: E') B' L M) : S P τ N R Q0 w0 F c fs E B L M := by
 intro a w hf hB hO hm;subst hb;unfold nxL at h
 split at h
 ·rename_i h0
  split at h
  ·rename_i hN
   split at h
   ·rename_i b1 o hx
    split at h
    ·rename_i b2 cs hc
     split at h
     ·rename_i v1 hv
      refine znT h0 hf hB fun a hf hB => ?_;have hs := Kns.put hf hB hN (v := v1) (k := none) (fun b h => by cases h);have hS := zpE hO hc
      have hb2 : b1 = b2 := by split at h <;> (cases h; rfl)
      subst hb2;refine zqj (v := v1) (by simp [Region.wanted]) ?_ ?_
      ·unfold ldV at hv
       split at hv
       ·rename_i ha
        rw [ziC] at hv;exact zh (ob := 0) (hτ.ag _ (zed ha)) hS hv hf (by rw [Nat.zero_add]; exact hx)
       ·rename_i ha
        split at hv
        ·rename_i n hn
         split at hv
         ·rename_i vs hvs
          cases hv;exact zgo (ob := 0) (hτ.ag _ (zed ha)) (hτ.sz _ (zed hn)) hS (zpF hvs).1 (zpF hvs).2 hf (by rw [Nat.zero_add]; exact hx)
         ·cases hv
        ·cases hv
       ·cases hv
      ·split at h <;> (rename_i e; cases h; rw [e] at hs; exact k _ w (hf.put hN _) hs hO hm)
     ·cases h
    ·cases h
   ·cases h
  ·cases h
 ·cases h
def one1 : Value → Bool
 | .agg _ => false
 | .tuple _ => false
 | _ => true
def zr5 (cs vs : List Value) : Nat → Option (List Value)
 | 0 => over cs vs
 | o + 1 => match cs with
  | [] => none
  | c :: cs => match zr5 cs vs o with
   | some r => some (c :: r)
   | none => none
where over : List Value → List Value → Option (List Value)
 | cs,[] => some cs
 | _ :: cs,v :: vs => match over cs vs with
  | some r => some (v :: r)
  | none => none
 | [],_ :: _ => none
theorem zyZ : ∀ {vs cs r : List Value},zr5.over cs vs = some r → r = vs ++ cs.drop vs.length ∧ vs.length ≤ cs.length
 | [],cs,r,h => by
  unfold zr5.over at h;cases h; simp
 | v :: vs,[],r,h => by unfold zr5.over at h; cases h
 | v :: vs,c :: cs,r,h => by
  unfold zr5.over at h
  split at h
  ·rename_i r' hr
   cases h;obtain ⟨h1,h2⟩ := zyZ hr;subst h1;simp [h2]
  ·cases h
theorem zy0 : ∀ {o : Nat} {cs vs r : List Value},zr5 cs vs o = some r → r = cs.take o ++ vs ++ cs.drop (o + vs.length) ∧ o + vs.length ≤ cs.length
 | 0,cs,vs,r,h => by
  unfold zr5 at h;obtain ⟨h1,h2⟩ := zyZ h;simp [h1,h2]
 | o + 1,[],vs,r,h => by unfold zr5 at h; cases h
 | o + 1,c :: cs,vs,r,h => by
  cases hr : zr5 cs vs o with
  | none => rw [zr5,hr] at h; cases h
  | some r' =>
   rw [zr5,hr] at h;cases h;obtain ⟨h1,h2⟩ := zy0 hr;subst h1;refine ⟨?_,by simp only [List.length_cons]; omega⟩;rw [show o + 1 + vs.length = (o + vs.length) + 1 by omega,List.take_succ_cons,List.drop_succ_cons];rfl
theorem zDP {cs : List Value} {o : Nat} {v : Value} (h : o < cs.length) : cs.take o ++ [v] ++ cs.drop (o + [v].length) = cs.set o v := by
 rw [List.set_eq_take_append_cons_drop,if_pos h]; simp
def setR : List Res → Nat → Res → Option (List Res)
 | [],_,_ => none
 | _ :: L,0,r => some (r :: L)
 | x :: L,i + 1,r => match setR L i r with
  | some l => some (x :: l)
  | none => none
theorem zy1 {r : Res} : ∀ {L l : List Res} {i : Nat},setR L i r = some l → l = L.set i r
 | [],_,_,h => by cases h
 | _ :: _,_,0,h => by cases h; rfl
 | x :: L,l,i + 1,h => by
  unfold setR at h
  split at h
  ·rename_i l' hl
   cases h;rw [List.set_cons_succ, ← zy1 hl]
  ·cases h
theorem zDR {v : Value} (h : one1 v = true) : v.oneCell' = true ∧ v.cells = #[v] := by
 cases v <;> first | exact ⟨rfl,rfl⟩ | cases h
def cvs : Value → Option (Bool × List Value)
 | .agg ⟨l⟩ => match l.all one1 with
  | true => some (true,l)
  | false => none
 | .tuple _ => none
 | v => some (false,[v])
def nxS (τ : Tab) (N : Nat) (i : Nat) (L : List Res) (c : Cur) (fs : List Fr) (E : Env) (B : Kn) : Option (Array Oper × List Oper × List Fr × Env × Kn × Nat × Nat × List Res) :=
 match nxO τ N c fs E B with
 | some (all,⟨none, .store t x y,_,_,_,none⟩,rest,fs,E,B) => match evl E x with
  | some (.pointer (some ⟨b,o,none⟩)) => match evl E y with
   | some v => match nth L i with
    | some (.blk b' cs ty) => match cvs v with
     | some (_,vs) => match ass τ.sz t with
      | some n => match Nat.beq n vs.length with
       | true => match zr5 cs vs o with
        | some cs' => match setR L i (.blk b' cs' ty) with
         | some L' => some (all,rest,fs,E,B,b,b',L')
         | none => none
        | none => none
       | false => none
      | none => none
     | none => none
    | _ => none
   | none => none
  | _ => none
 | _ => none
theorem st [hτ : TabOk P τ] (i : Nat) {b b' : Nat} {L' : List Res} (h : nxS τ N i L c fs E B = some (all,rest,fs',E',B',b,b',L')) (hb : b' = b)
  (k : S P τ N R Q0 w0 F (.op all rest) fs' E' B' L' M) : S P τ N R Q0 w0 F c fs E B L M := by
 intro a w hf hB hO hm;subst hb;unfold nxS at h
 split at h
 ·rename_i h0
  split at h
  ·rename_i b1 o hx
   split at h
   ·rename_i v hv
    split at h
    ·rename_i b2 cs ty hi
     rw [ziC] at hi
     split at h
     ·rename_i g vs hvs
      split at h
      ·rename_i n hn
       split at h
       ·rename_i hnl
        split at h
        ·rename_i cs' hp
         split at h
         ·rename_i L1 hL
          cases h;obtain ⟨p1,p2⟩ := zy0 hp
          have hnl' : n = vs.length := by simpa using hnl
          refine znT h0 hf hB fun a hf hB => ?_;have hk : ∀ w,Own w0 F w (L.set i (.blk b' cs' ty)) → wpList P all (QS P Q0 fs') rest a w := fun w hO' => k a w hf hB (by rw [zy1 hL]; exact hO') hm;have hst := hτ.sz _ (zed hn)
          cases v with
          | agg l =>
           obtain ⟨l⟩ := l
           cases ha : l.all one1 with
           | false => rw [cvs,ha] at hvs; cases hvs
           | true =>
            rw [cvs,ha] at hvs;cases hvs;exact zzG (n := n) hst hi (by omega) (by simpa [hnl'] using p2) (fun v hv => (zDR (List.all_eq_true.1 ha v hv)).1) p1 hf hx hv hO hk
          | tuple l => cases hvs
          | _ =>
           cases hvs;have hn1 : n = 1 := hnl';subst hn1
           have ho : o < cs.length := by simp only [List.length_cons,List.length_nil] at p2; omega
           refine zzF (o := o) hst hi (by simpa [Nat.blt_eq] using ho) rfl rfl hf hx hv hO fun w hO' => hk w ?_;rw [p1,zDP ho];exact hO'
         ·cases h
        ·cases h
       ·cases h
      ·cases h
     ·cases h
    ·cases h
   ·cases h
  ·cases h
 ·cases h
def nxA (τ : Tab) (N : Nat) (c : Cur) (fs : List Fr) (E : Env) (B : Kn) : Option (Array Oper × List Oper × List Fr × Env × Kn × Nat × Nat) :=
 match nxO τ N c fs E B with
 | some (all,⟨some d, .alloc ty,_,_,_,none⟩,rest,fs,E,B) => match Nat.blt d N with
  | true => match zqi d none B with
   | [] => some (all,rest,fs,E,[],d,ty)
   | k :: B' => some (all,rest,fs,E,k :: B',d,ty)
  | false => none
 | _ => none
theorem al [TabOk P τ] {ty : Nat} {cs : List Value} (hal : ∀ w,(Instr.alloc ty true (.tuple #[])).run P w = .ok (ptr w.heap.size 0) (w.alloc (.cells cs.toArray ty)))
  (h : nxA τ N c fs E B = some (all,rest,fs',E',B',d,ty)) (k : ∀ b,S P τ N R Q0 w0 F (.op all rest) fs' ((d,ptr b 0) :: E') B' (.blk b cs ty :: L) M) : S P τ N R Q0 w0 F c fs E B L M := by
 intro a w hf hB hO hm;unfold nxA at h
 split at h
 ·rename_i h0
  split at h
  ·rename_i hN
   refine znT h0 hf hB fun a hf hB => ?_;have hs := fun v => Kns.put hf hB hN (v := v) (k := none) (fun b h => by cases h)
   split at h <;> (rename_i e; cases h; rw [e] at hs; exact znH (v := ptr w.heap.size 0) rfl (by simp only [execOp,Sem.run_bind,hal w,Result.andThen,Sem.run_pure]) (k _ _ _ (hf.put hN _) (hs _) (hO.newBlk cs ty) hm))
  ·cases h
 ·cases h
def nxX (τ : Tab) (N : Nat) (c : Cur) (fs : List Fr) (E : Env) (B : Kn) : Option (Array Oper × List Oper × List Fr × Env × Kn × Nat × Nat × List Value) :=
 match nxO τ N c fs E B with
 | some (all,⟨some d, .box ty x,_,_,_,none⟩,rest,fs,E,B) => match Nat.blt d N with
  | true => match evl E x with
   | some v => match cvs v with
    | some (_,cs) => match zqi d none B with
     | [] => some (all,rest,fs,E,[],d,ty,cs)
     | k :: B' => some (all,rest,fs,E,k :: B',d,ty,cs)
    | none => none
   | none => none
  | false => none
 | _ => none
theorem cvs_ok {v : Value} {g : Bool} {cs : List Value} (h : cvs v = some (g,cs)) : v.cells = cs.toArray := by
 cases v with
 | agg l =>
  obtain ⟨l⟩ := l
  cases ha : l.all one1 with
  | false => rw [cvs,ha] at h; cases h
  | true => rw [cvs,ha] at h; cases h; rfl
 | tuple l => cases h
 | _ => cases h; rfl
theorem bo [TabOk P τ] {ty : Nat} {cs : List Value} (h : nxX τ N c fs E B = some (all,rest,fs',E',B',d,ty,cs))
  (k : ∀ b,S P τ N R Q0 w0 F (.op all rest) fs' ((d,ptr b 0) :: E') B' (.blk b cs ty :: L) M) : S P τ N R Q0 w0 F c fs E B L M := by
 intro a w hf hB hO hm;unfold nxX at h
 split at h
 ·rename_i h0
  split at h
  ·rename_i hN
   split at h
   ·rename_i v hv
    split at h
    ·rename_i g cs1 hc
     refine znT h0 hf hB fun a hf hB => ?_;have hs := fun v => Kns.put hf hB hN (v := v) (k := none) (fun b h => by cases h);have hcs := cvs_ok hc
     split at h <;> (rename_i e; cases h; rw [e] at hs; exact znH (v := ptr w.heap.size 0) (w' := w.alloc (.cells cs.toArray ty)) rfl (by simp only [execOp]; rw [hf.ev hv]; unfold Instr.box newVar; rw [hcs]; simp [newRow,go_sem]) (k _ _ _ (hf.put hN _) (hs _) (hO.newBlk cs ty) hm))
    ·cases h
   ·cases h
  ·cases h
 ·cases h
def evP (τ : Tab) (E : Env) : Op → Option ((α : Type) × Option α × (α → Value))
 | .binOp o _ x y _ => match evl E x with
  | some (.int .i64 m) => match evl E y with
   | some (.int .i64 n) => match o with
    | .add => some ⟨Int,zq m n, .int .i64⟩
    | .sub => some ⟨Int,zbc m n, .int .i64⟩
    | .mul => some ⟨Int,ztZ m n, .int .i64⟩
    | .quo => some ⟨Int,zvq m n, .int .i64⟩
    | .rem => some ⟨Int,zxI m n, .int .i64⟩
    | _ => none
   | _ => none
  | some (.string ⟨⟨l⟩⟩) => match evl E y with
   | some (.string ⟨⟨m⟩⟩) => match o with
    | .add => some ⟨Str,zlz l m,fun l => str l⟩
    | _ => none
   | _ => none
  | _ => none
 | .index t x y => match ass τ.und t with
  | some .string => match evl E x with
   | some (.string ⟨⟨l⟩⟩) => match evl E y with
    | some (.int .i64 i) => some ⟨UInt8,sAt l i,fun c => zao c⟩
    | _ => none
   | _ => none
  | _ => none
 | .slice t x lo hi none => match ass τ.und t with
  | some .string => match evl E x with
   | some (.string ⟨⟨l⟩⟩) => match lo,hi with
    | some y,some z => match evl E y with
     | some (.int .i64 i) => match evl E z with
      | some (.int .i64 j) => some ⟨Str,zd0 l i j,fun l => str l⟩
      | _ => none
     | _ => none
    | some y,none => match evl E y with
     | some (.int .i64 i) => some ⟨Str,zaG l i,fun l => str l⟩
     | _ => none
    | none,some z => match evl E z with
     | some (.int .i64 j) => some ⟨Str,sTo l j,fun l => str l⟩
     | _ => none
    | none,none => none
   | _ => none
  | _ => none
 | _ => none
theorem evP_ok [hτ : TabOk P τ] {a : Act} {w : World} {dst : Option Nat} {op : Op} {t : Nat} {p : String} {af : Array Edge} {g : Option (Nat × Bool)} {m : Option α} {enc : α → Value} {x : α}
  (hf : Fits N E a) (h : evP τ E op = some ⟨α,m,enc⟩) (hm : m = some x) : (execOp a.eval ⟨dst,op,t,p,af,g⟩).run P w = .ok (.value (enc x)) w := by
 unfold evP at h
 split at h
 ·rename_i bo ti x y ty
  split at h
  ·rename_i m' hx
   split at h
   ·rename_i n hy
    split at h
    ·cases h; exact zvs hf hx hy hm
    ·cases h; exact zxJ hf hx hy hm
    ·cases h; exact ex_mul hf hx hy hm
    ·cases h; exact zAu hf hx hy hm
    ·cases h; exact zxK hf hx hy hm
    ·cases h
   ·cases h
  ·rename_i l hx
   split at h
   ·rename_i n hy
    split at h
    ·cases h; exact zxO hf hx hy hm
    ·cases h
   ·cases h
  ·cases h
 ·rename_i ti x y
  split at h
  ·rename_i ht
   split at h
   ·rename_i l hx
    split at h
    ·rename_i i hy
     cases h; exact zpX (hτ.und _ (zed ht)) hf hx hy hm
    ·cases h
   ·cases h
  ·cases h
 ·rename_i ti x lo hi
  split at h
  ·rename_i ht
   split at h
   ·rename_i l hx
    split at h
    ·rename_i y z
     split at h
     ·rename_i i hy
      split at h
      ·rename_i j hz
       cases h; exact zlS (hτ.und _ (zed ht)) hf hx hy hz hm
      ·cases h
     ·cases h
    ·rename_i y
     split at h
     ·rename_i i hy
      cases h; exact zi8 (hτ.und _ (zed ht)) hf hx hy hm
     ·cases h
    ·rename_i z
     split at h
     ·rename_i j hz
      cases h; exact zpY (hτ.und _ (zed ht)) hf hx hz hm
     ·cases h
    ·cases h
   ·cases h
  ·cases h
 ·cases h
def nxP (τ : Tab) (N : Nat) (c : Cur) (fs : List Fr) (E : Env) (B : Kn) : Option (Array Oper × List Oper × List Fr × Env × Kn × Nat × ((α : Type) × Option α × (α → Value))) :=
 match nxO τ N c fs E B with
 | some (all,⟨some d,op,_,_,_,none⟩,rest,fs,E,B) => match Nat.blt d N with
  | true => match evP τ E op with
   | some p => match zqi d none B with
    | [] => some (all,rest,fs,E,[],d,p)
    | k :: B' => some (all,rest,fs,E,k :: B',d,p)
   | none => none
  | false => none
 | _ => none
theorem bi [TabOk P τ] {m : Option α} {g : α → Option ρ} {enc : α → Value} (h : nxP τ N c fs E B = some (all,rest,fs',E',B',d,⟨α,m,enc⟩))
  (k : ∀ x,m = some x → S P τ N R Q0 w0 F (.op all rest) fs' ((d,enc x) :: E') B' L (g x)) : S P τ N R Q0 w0 F c fs E B L (m.bind g) := by
 intro a w hf hB hO hm;obtain ⟨x,hx,hm⟩ := ob hm;unfold nxP at h
 split at h
 ·rename_i h0
  split at h
  ·rename_i hN
   split at h
   ·rename_i p hp
    refine znT h0 hf hB fun a hf hB => ?_;have hs := Kns.put hf hB hN (v := enc x) (k := none) (fun b h => by cases h)
    split at h <;> (rename_i e; cases h; rw [e] at hs; exact zqj (by simp [Region.wanted]) (evP_ok hf hp hx) (k x hx _ w (hf.put hN _) hs hO hm))
   ·cases h
  ·cases h
 ·cases h
abbrev Ret {ρ : Type} (w0 : World) (V : ρ → Value) (R : ρ) : Ending → World → Prop := fun e w' => e = .returned (V R) ∧ Below w0.heap.size w0 w'
theorem nl (e sz : Nat) (k : S P τ N R Q0 w0 F c fs E B (.row (.slice none 0 0) e sz 0 [] :: L) M) : S P τ N R Q0 w0 F c fs E B L M :=
 fun a w hf hB hO hm => k a w hf hB (hO.nilRow e sz) hm
def nxC (τ : Tab) (N : Nat) (c : Cur) (fs : List Fr) (E : Env) (B : Kn) : Option (Array Oper × List Oper × List Fr × Env × Kn × Nat × Nat × List Value) :=
 match nxO τ N c fs E B with
 | some (all,⟨some d, .call ⟨.value (.func f),⟨xs⟩,_⟩,_,_,_,none⟩,rest,fs,E,B) => match Nat.blt d N with
  | true => match zsy E xs with
   | some vs => match zqi d none B with
    | [] => some (all,rest,fs,E,[],d,f,vs)
    | k :: B' => some (all,rest,fs,E,k :: B',d,f,vs)
   | none => none
  | false => none
 | _ => none
theorem zz1 {Q : Exit → Act → World → Prop} {a : Act} {w : World} {f t : Nat} {p : String} {af : Array Edge} {xs : List Operand} {ats : Array TypeId} {vs : List Value} {K : Ending → World → Prop} (hc : zc P f) (hf : Fits N E a) (hB : Kns B a) (hd : Nat.blt d N = true) (hv : zsy E xs = some vs)
  (hw : Calls P f vs.toArray w K) (k : ∀ e w',K e w' → ∃ v,e = .returned v ∧ ∀ a,Fits N ((d,v) :: E) a → Kns (zqi d none B) a → wpList P all Q rest a w') :
  wpList P all Q (⟨some d, .call ⟨.value (.func f),⟨xs⟩,ats⟩,t,p,af,none⟩ :: rest) a w := by
 have hx := zbU (w := w) (dst := some d) (t := t) (p := p) (af := af) (gd := none) (ats := ats) hc hf (args := ⟨xs⟩) hv;unfold wpList;rw [if_pos (by simp [Region.wanted])]
 left
 unfold Oper.wp;rw [hx,Oper.upon_enter];refine hw.mono fun e w' he => ?_;obtain ⟨v,rfl,hk⟩ := k e w' he;exact hk _ (hf.put hd _) (Kns.put hf hB hd fun b h => by cases h)
theorem zmI [TabOk P τ] {a : Act} {w : World} {f : Nat} {vs : List Value} {K : Ending → World → Prop} (hc : zc P f) (h : nxC τ N c fs E B = some (all,rest,fs',E',B',d,f,vs)) (hf : Fits N E a) (hB : Kns B a)
  (hw : Calls P f vs.toArray w K) (k : ∀ e w',K e w' → ∃ v,e = .returned v ∧ ∀ a,Fits N ((d,v) :: E') a → Kns B' a → wpList P all (QS P Q0 fs') rest a w') : wpU P Q0 c fs a w := by
 unfold nxC at h
 split at h
 ·rename_i h0
  split at h
  ·rename_i hN
   split at h
   ·rename_i p hp
    refine znT h0 hf hB fun a hf hB => ?_;have hs := fun v => Kns.put hf hB hN (v := v) (k := none) (fun b h => by cases h)
    split at h <;> (rename_i e; cases h; refine zz1 hc hf hB hN hp hw fun e1 w' he => ?_; rw [e]; exact k e1 w' he)
   ·cases h
  ·cases h
 ·cases h
theorem cl [TabOk P τ] {f : Nat} {vs : List Value} {m : Option α} {g : α → Option ρ} {enc : α → Value} (hc : zc P f) (h : nxC τ N c fs E B = some (all,rest,fs',E',B',d,f,vs))
  (hw : ∀ x w,m = some x → Own w0 F w L → Calls P f vs.toArray w (Ret w enc x))
  (k : ∀ x,m = some x → S P τ N R Q0 w0 F (.op all rest) fs' ((d,enc x) :: E') B' L (g x)) : S P τ N R Q0 w0 F c fs E B L (m.bind g) := by
 intro a w hf hB hO hm;obtain ⟨x,hx,hm⟩ := ob hm;exact zmI hc h hf hB (hw x w hx hO) fun e w' ⟨he,hb⟩ => ⟨_,he,fun a hf hB => k x hx a w' hf hB (hO.grow hb) hm⟩

def nxB (τ : Tab) (N : Nat) (c : Cur) (fs : List Fr) (E : Env) (B : Kn) : Option (Cur × List Fr × Env × Kn × Nat × Bool) :=
 match zh2 τ N far c fs E B with
 | (.co (.cond (.tmp s) x y),fs,E,B) => match look E s with
  | some (.bool b) => some (.co (.cond (.tmp s) x y),fs,E,B,s,b)
  | _ => none
 | (.op all (o :: rest),fs,E,B) => match o.guard with
  | some (j,_) => match nth all.toList j with
   | some ⟨some s,_,_,_,_,_⟩ => match look E s with
    | some (.bool b) => some (.op all (o :: rest),fs,E,B,s,b)
    | _ => none
   | _ => none
  | none => none
 | _ => none
theorem zCB [TabOk P τ] {a : Act} {w : World} {b : Bool} (h : nxB τ N c fs E B = some (c',fs',E',B',d,b)) (hf : Fits N E a) (hB : Kns B a)
  (k : ∀ a,Fits N E' a → Kns ((d,some b) :: B') a → wpU P Q0 c' fs' a w) : wpU P Q0 c fs a w := by
 have key : ∀ {s : Nat} {b : Bool} {a : Act} {E : Env} {B : Kn},Fits N E a → Kns B a → look E s = some (.bool b) → Kns ((s,some b) :: B) a := by
  intro s b a E B hf hB hs d' b' hd;simp only [lkB] at hd
  by_cases e : Nat.beq s d' = true
  ·have : s = d' := by simpa using e
   subst this;simp at hd; subst hd;exact hf.has _ _ hs
  ·simp only [e] at hd;exact hB _ _ hd
 unfold nxB at h
 split at h
 ·rename_i hd
  split at h
  ·rename_i hs
   cases h;exact zcJ hd hf hB fun a hf hB => k a hf (key hf hB hs)
  ·cases h
 ·rename_i hd
  split at h
  ·split at h
   ·split at h
    ·rename_i hs
     cases h;exact zcJ hd hf hB fun a hf hB => k a hf (key hf hB hs)
    ·cases h
   ·cases h
  ·cases h
 ·cases h
theorem br [TabOk P τ] {b : Bool} {A C : Option ρ} (h : nxB τ N c fs E B = some (c',fs',E',B',d,b))
  (k1 : b = true → S P τ N R Q0 w0 F c' fs' E' ((d,some true) :: B') L A) (k0 : b = false → S P τ N R Q0 w0 F c' fs' E' ((d,some false) :: B') L C) :
  S P τ N R Q0 w0 F c fs E B L (if b = true then A else C) := by
 intro a w hf hB hO hm;refine zCB h hf hB fun a hf hB => ?_
 cases b with
 | true => exact k1 rfl a w hf hB hO hm
 | false => exact k0 rfl a w hf hB hO (by simpa using hm)
theorem kn [TabOk P τ] {b b' : Bool} (hb : b = b') (h : nxB τ N c fs E B = some (c',fs',E',B',d,b))
  (k : S P τ N R Q0 w0 F c' fs' E' ((d,some b') :: B') L M) : S P τ N R Q0 w0 F c fs E B L M := by
 intro a w hf hB hO hm;subst hb;exact zCB h hf hB fun a hf hB => k a w hf hB hO hm

def zmJ (K : Act → World → Prop) : Nat → List Fr → Option (List Fr × Code × List Fr)
 | n, .sq y :: fs => match Nat.beq n fs.length with
  | true => some (.ct K :: fs,y,fs)
  | false => match zmJ K n fs with
   | some (l,z,r) => some (.sq y :: l,z,r)
   | none => none
 | n,f :: fs => match zmJ K n fs with
  | some (l,z,r) => some (f :: l,z,r)
  | none => none
 | _,[] => none
theorem zl3 {K : Act → World → Prop} {n : Nat} : ∀ {fs l r : List Fr} {y : Code},zmJ K n fs = some (l,y,r) → (∀ a w,K a w → y.wp P (QS P Q0 r) a w) → ∀ e a w,QS P Q0 l e a w → QS P Q0 fs e a w
 | [],_,_,_,h,_ => by simp [zmJ] at h
 | .sq y :: fs,l,r,z,h,hk => by
  unfold zmJ at h
  split at h
  ·cases h;intro e a w q
   cases e <;> first | exact hk _ _ q | exact q
  ·split at h
   ·rename_i h1
    cases h;have ih := zl3 h1 hk;intro e a w q
    cases e <;> first | exact Code.wp_mono ih q | exact ih _ _ _ q
   ·cases h
 | .ct K' :: fs,l,r,z,h,hk => by
  unfold zmJ at h
  split at h
  ·rename_i h1
   cases h;have ih := zl3 h1 hk;intro e a w q
   cases e <;> first | exact ih _ _ _ q | exact q
  ·cases h
 | .bk id :: fs,l,r,z,h,hk => by
  unfold zmJ at h
  split at h
  ·rename_i h1
   cases h;have ih := zl3 h1 hk;intro e a w q;cases e <;> first
    | exact ih _ _ _ q
    | (simp only [QS,Exit.inBlock] at q ⊢; split at q <;> first | (rename_i hh; rw [if_pos hh]; exact ih _ _ _ q) | (rename_i hh; rw [if_neg hh]; exact ih _ _ _ q))
  ·cases h
def nxJ (τ : Tab) (N : Nat) (K : Act → World → Prop) (n : Nat) (c : Cur) (fs : List Fr) (E : Env) (B : Kn) : Option (Cur × List Fr × Env × Kn × Code × List Fr) :=
 match zh2 τ N far c fs E B with
 | (c,fs,E,B) => match zmJ K n fs with
  | some (l,y,r) => some (c,l,E,B,y,r)
  | none => none
theorem zCC {o : Oper} {a : Act} {w : World} {K K' : Act → World → Prop} {Q Q' : Exit → Act → World → Prop} (h : ∀ a w,K a w → K' a w) (hq : ∀ e a w,Q e a w → Q' e a w) (hh : o.wp P a w K Q) : o.wp P a w K' Q' := by
 have hl : LetsOut Q → LetsOut Q' := fun ⟨a,w,q⟩ => ⟨a,w,hq _ _ _ q⟩
 unfold Oper.wp at *
 generalize (execOp a.eval o).run P w = r at *
 cases r with
 | ok n w' =>
  cases n <;> simp only [Oper.upon] at hh ⊢ <;>
   first
    | exact h _ _ hh
    | exact Calls.mono hh (fun e w'' he => by cases e <;> first | exact h _ _ he | exact hq _ _ _ he | exact hl he)
    | exact Rows.mono hh (fun _ _ he => h _ _ he)
 | halt x w' => cases x <;> simp only [Oper.upon] at hh ⊢ <;> first | exact hq _ _ _ hh | exact hh
theorem ztx {Q Q' : Exit → Act → World → Prop} (hq : ∀ e a w,Q e a w → Q' e a w) : ∀ {l : List Oper} {a : Act} {w : World},wpList P all Q l a w → wpList P all Q' l a w
 | [],a,w,h => hq _ _ _ h
 | o :: l,a,w,h => by
  unfold wpList at h ⊢
  split
  ·rename_i hw
   rw [if_pos hw] at h
   rcases h with h | ⟨h1,a,w,h2⟩
   ·left
    exact zCC (fun a w h => ztx hq h) hq h
   ·exact .inr ⟨h1,a,w,hq _ _ _ h2⟩
  ·rename_i hw
   rw [if_neg hw] at h;exact ztx hq h
theorem zxi (hq : ∀ e a w,QS P Q0 fs e a w → QS P Q0 fs' e a w) {a : Act} {w : World} (h : wpU P Q0 c fs a w) : wpU P Q0 c fs' a w := by
 cases c with
 | co c => exact Code.wp_mono hq h
 | op all rest => exact ztx hq h
 | no => exact hq _ _ _ h
 | ex id => exact hq _ _ _ h
 | rt => exact hq _ _ _ h
theorem jn [TabOk P τ] (n : Nat) (K : Act → World → Prop) {y : Code} {r : List Fr} (h : nxJ τ N K n c fs E B = some (c',fs',E',B',y,r))
  (k1 : S P τ N R Q0 w0 F c' fs' E' B' L M) (k2 : ∀ a w,K a w → y.wp P (QS P Q0 r) a w) : S P τ N R Q0 w0 F c fs E B L M := by
 intro a w hf hB hO hm;unfold nxJ at h
 split at h
 rename_i hd
 split at h
 ·rename_i h1
  cases h;exact zcJ hd hf hB fun a hf hB => zxi (zl3 h1 k2) (k1 a w hf hB hO hm)
 ·cases h
def zuk : Env → List Nat
 | [] => []
 | (k,_) :: E => k :: zuk E
def ziD (E : Env) : List Nat → Option Env
 | [] => some []
 | k :: ks => match look E k with
  | some v => match ziD E ks with
   | some l => some ((k,v) :: l)
   | none => none
  | none => none
theorem Fits.vals {a : Act} (hf : Fits N E a) : ∀ {ks : List Nat} {E' : Env},ziD E ks = some E' → Fits N E' a
 | [],E',h => by cases h; exact hf.nil
 | k :: ks,E',h => by
  unfold ziD at h
  split at h
  ·rename_i v hv
   split at h
   ·rename_i l hl
    cases h;exact hf.cons hv (hf.vals hl)
   ·cases h
  ·cases h
theorem Fits.sel {a : Act} (hf : Fits N E a) (h : ziD E (zuk E') = some E') : Fits N E' a := hf.vals h
theorem eo [TabOk P τ] {K : Act → World → Prop} (h : zh2 τ N far c fs E B = (.no, .ct K :: fs',E',B'))
  (k : ∀ a w,Fits N E' a → Own w0 F w L → M = some R → K a w) : S P τ N R Q0 w0 F c fs E B L M :=
 fun _ w hf hB hO hm => zcJ h hf hB fun a hf _ => k a w hf hO hm
abbrev Jp (N : Nat) (w0 : World) (F : List Nat) {ρ : Type} (R : ρ) (a : Act) (w : World) (E : Env) (L : List Res) (M : Option ρ) : Prop := Fits N E a ∧ Own w0 F w L ∧ M = some R
def znU (L : List Res) : List Nat → Option (List Res)
 | [] => some []
 | i :: is => match nth L i with
  | some r => match znU L is with
   | some l => some (r :: l)
   | none => none
  | none => none
theorem znV {L : List Res} : ∀ {is : List Nat} {l : List Res},znU L is = some l → pick L is = l
 | [],_,h => by cases h; rfl
 | i :: is,l,h => by
  unfold znU at h
  split at h
  ·rename_i r hr
   split at h
   ·rename_i l' hl
    cases h;rw [ziC] at hr;rw [pick,hr];dsimp only;rw [znV hl]
   ·cases h
  ·cases h
theorem en [TabOk P τ] {K : Act → World → Prop} (h : zh2 τ N far c fs E B = (.no, .ct K :: fs',E',B'))
  (k : ∀ a w,(∀ {E2},ziD E' (zuk E2) = some E2 → Jp N w0 F R a w E2 L M) → K a w) : S P τ N R Q0 w0 F c fs E B L M :=
 eo h fun a w hf hO hm => k a w fun h => ⟨hf.sel h,hO,hm⟩
theorem ec [TabOk P τ] (is : List Nat) {L2 : List Res} {K : Act → World → Prop} (h : zh2 τ N far c fs E B = (.no, .ct K :: fs',E',B')) (hd : zdj is = true) (hp : znU L is = some L2)
  (k : ∀ a w,(∀ {E2},ziD E' (zuk E2) = some E2 → Jp N w0 F R a w E2 L2 M) → K a w) : S P τ N R Q0 w0 F c fs E B L M :=
 eo h fun a w hf hO hm => k a w fun h => ⟨hf.sel h,by rw [← znV hp]; exact hO.choose is hd,hm⟩
def nxV (τ : Tab) (N : Nat) (K : Env → List Res → Act → World → Prop) (n : Nat) (ks is : List Nat) (L : List Res) (c : Cur) (fs : List Fr) (E : Env) (B : Kn) : Option (Cur × List Fr × Env × Kn × Code × List Fr × Env × List Res) :=
 match zh2 τ N far c fs E B with
 | (c,fs,E,B) => match ziD E ks with
  | some Ek => match znU L is with
   | some Lk => match zmJ (K Ek Lk) n fs with
    | some (l,y,r) => some (c,l,E,B,y,r,Ek,Lk)
    | none => none
   | none => none
  | none => none
theorem jv [TabOk P τ] (n : Nat) (ks is : List Nat) (K : (Env → List Res → Option ρ → Prop) → Env → List Res → Prop) {y : Code} {l r : List Fr} {Ek : Env} {Lk : List Res}
  (h : nxV τ N (fun Ek Lk a w => K (Jp N w0 F R a w) Ek Lk) n ks is L c fs E B = some (c',l,E',B',y,r,Ek,Lk))
  (k1 : S P τ N R Q0 w0 F c' l E' B' L M) (k2 : ∀ a w,K (Jp N w0 F R a w) Ek Lk → y.wp P (QS P Q0 r) a w) : S P τ N R Q0 w0 F c fs E B L M := by
 intro a w hf hB hO hm;unfold nxV at h
 split at h
 rename_i hd
 split at h
 ·split at h
  ·split at h
   ·rename_i h1
    cases h;exact zcJ hd hf hB fun a hf hB => zxi (zl3 h1 k2) (k1 a w hf hB hO hm)
   ·cases h
  ·cases h
 ·cases h
def nxW (τ : Tab) (N : Nat) (ks is : List Nat) (L : List Res) (c : Cur) (fs : List Fr) (E : Env) (B : Kn) : Option (Code × List Fr × Env × Kn × Env × List Res) :=
 match zh2 τ N far c fs E B with
 | (.co (.loop co),fs,E,B) => match ziD E ks with
  | some Ek => match znU L is with
   | some Lk => some (co,fs,E,B,Ek,Lk)
   | none => none
  | none => none
 | _ => none
theorem lv [TabOk P τ] (ks is : List Nat) (I : (Env → List Res → Option ρ → Prop) → Env → List Res → Nat → Prop) {co : Code} {Ek : Env} {Lk : List Res}
  (h : nxW τ N ks is L c fs E B = some (co,fs',E',B',Ek,Lk))
  (h0 : ∀ a w,(∀ {E2},ziD E' (zuk E2) = some E2 → Jp N w0 F R a w E2 L M) → I (Jp N w0 F R a w) Ek Lk fuel)
  (k : ∀ n a w,I (Jp N w0 F R a w) Ek Lk n → co.wp P (QS P Q0 (.ct (fun a w => ∃ m,m < n ∧ I (Jp N w0 F R a w) Ek Lk m) :: fs')) a w) : S P τ N R Q0 w0 F c fs E B L M := by
 intro a w hf hB hO hm;unfold nxW at h
 split at h
 ·rename_i hd
  split at h
  ·split at h
   ·cases h;exact zcJ hd hf hB fun a hf _ => zzP (fun n a w => I (Jp N w0 F R a w) Ek Lk n) (fun n a w hI => k n a w hI) fuel (h0 a w fun h => ⟨hf.sel h,hO,hm⟩)
   ·cases h
  ·cases h
 ·cases h
theorem ch (is : List Nat) {L2 : List Res} (hd : zdj is = true) (hp : znU L is = some L2) (k : S P τ N R Q0 w0 F c fs E B L2 M) : S P τ N R Q0 w0 F c fs E B L M :=
 fun a w hf hB hO hm => k a w hf hB (by rw [← znV hp]; exact hO.choose is hd) hm
def vsOf (E : Env) : List ResultVar → Option (List Value)
 | [] => some []
 | .tmp t :: rs => match look E t with
  | some v => match vsOf E rs with
   | some vs => some (v :: vs)
   | none => none
  | none => none
 | _ => none
theorem zv2 {w : World} : ∀ {rs : List ResultVar} {vs : List Value},vsOf E rs = some vs → ResV P w E rs vs
 | [],vs,h => by cases h; exact .nil
 | .tmp t :: rs,vs,h => by
  unfold vsOf at h
  split at h
  ·rename_i v hv
   split at h
   ·rename_i l hl
    cases h;exact .tmp hv (zv2 hl)
   ·cases h
  ·cases h
 | .cell _ _ :: _,_,h => by cases h
def nxR (τ : Tab) (N : Nat) (rs : List ResultVar) (c : Cur) (fs : List Fr) (E : Env) (B : Kn) : Option Value :=
 match zh2 τ N far c fs E B with
 | (.rt,[],E,_) => match vsOf E rs with
  | some vs => some (tup vs)
  | none => none
 | (.no,[],E,_) => match vsOf E rs with
  | some vs => some (tup vs)
  | none => none
 | _ => none
theorem rt [TabOk P τ] {fn : Func} {rs : List ResultVar} {r : ρ} {V : ρ → Value} (hr : fn.results = rs.toArray) (h : nxR τ N rs c fs E B = some (V r)) :
  S P τ N R (bodyPost P fn (Ret w0 V R)) w0 [] c fs E B L (some r) := by
 intro a w hf hB hO hm;obtain rfl := Option.some.inj hm;unfold nxR at h
 split at h
 ·rename_i hd
  split at h
  ·rename_i vs hv
   refine zcJ hd hf hB fun a hf _ => ?_;exact zfE (R := fun e w' => e = .returned (V r) ∧ Below w0.heap.size w0 w') hr hf (zv2 hv) ⟨by rw [Option.some.inj h],hO.below⟩
  ·cases h
 ·rename_i hd
  split at h
  ·rename_i vs hv
   refine zcJ hd hf hB fun a hf _ => ?_;exact zsD (R := fun e w' => e = .returned (V r) ∧ Below w0.heap.size w0 w') hr hf (zv2 hv) ⟨by rw [Option.some.inj h],hO.below⟩
  ·cases h
 ·cases h
end
end Go.Dk
end
section
namespace Go.Dk
open Go.RowKit Go.Dm
section
variable {P : Program} {τ : Tab} {N : Nat} {Q0 : Exit → Act → World → Prop} {w0 : World} {F : List Nat} {ρ α : Type} {R : ρ} {c : Cur} {fs fs' : List Fr} {E E' : Env} {B B' : Kn} {L : List Res} {all : Array Oper} {rest : List Oper} {d f : Nat} {vs : List Value} {m : Option α} {g : α → Option ρ}
theorem Own.cal {w w' : World} {L' : List Res} (h : Own w0 F w L) (h' : Own w [] w' L') (hn : zhY L' = true) : Own w0 F w' (L' ++ L) := h.call h' fun _ hr => zhZ hn hr
def part (n : Nat) (L : List Res) (is : List Nat) : List Res × List Res := ((pick L is).take n,(pick L is).drop n)
theorem Own.part {w : World} (h : Own w0 F w L) (is : List Nat) (n : Nat) (hd : zdj is = true) : Own w0 F w ((Dk.part n L is).1 ++ (Dk.part n L is).2) := by
 unfold Dk.part;rw [List.take_append_drop];exact h.choose is hd
def vsW (τ : Tab) (L : List Res) (E : Env) : List Nat → List ResultVar → Option (List Value × List (Nat × Nat))
 | _,[] => some ([],[])
 | js, .tmp t :: rs => match look E t with
  | some v => match vsW τ L E js rs with
   | some (vs,bs) => some (v :: vs,bs)
   | none => none
  | none => none
 | j :: js, .cell t ty :: rs => match look E t with
  | some (.pointer (some ⟨b,o,none⟩)) => match zqk L j with
   | some (b',cs) => match ldV τ cs ty o with
    | some v => match vsW τ L E js rs with
     | some (vs,bs) => some (v :: vs,(b',b) :: bs)
     | none => none
    | none => none
   | none => none
  | _ => none
 | [], .cell _ _ :: _ => none
def Eqs : List (Nat × Nat) → Prop
 | [] => True
 | p :: l => p.1 = p.2 ∧ Eqs l
theorem zrs [hτ : TabOk P τ] {w : World} (hO : Own w0 F w L) : ∀ {rs : List ResultVar} {js : List Nat} {vs : List Value} {bs : List (Nat × Nat)},vsW τ L E js rs = some (vs,bs) → Eqs bs → ResV P w E rs vs
 | [],js,vs,bs,h,_ => by
  unfold vsW at h;cases h; exact .nil
 | .tmp t :: rs,js,vs,bs,h,hb => by
  unfold vsW at h
  split at h
  ·rename_i v hv
   split at h
   ·rename_i l bl hl
    cases h;exact .tmp hv (zrs hO hl hb)
   ·cases h
  ·cases h
 | .cell t ty :: rs,[],vs,bs,h,_ => by
  unfold vsW at h;cases h
 | .cell t ty :: rs,j :: js,vs,bs,h,hb => by
  unfold vsW at h
  split at h
  ·rename_i b ofs hv
   split at h
   ·rename_i b' cs hc
    split at h
    ·rename_i v hld
     split at h
     ·rename_i l bl hl
      cases h;have hbb : b' = b := hb.1;subst hbb;have hS := zpE hO hc;refine .cell hv ?_ (zrs hO hl hb.2);unfold ldV at hld
      split at hld
      ·rename_i ha
       rw [ziC] at hld;refine zp4 (hτ.ag _ (zed ha)) ?_;have := hS.cell hld
       rwa [Nat.zero_add] at this
      ·rename_i ha
       split at hld
       ·rename_i n hn
        split at hld
        ·rename_i vs hvs
         cases hld;refine zp5 (hτ.ag _ (zed ha)) (hτ.sz _ (zed hn)) (zpF hvs).2 fun j v hj => ?_;have := hS.cells (zpF hvs).1 j v hj
         rwa [Nat.zero_add] at this
        ·cases hld
       ·cases hld
      ·cases hld
     ·cases h
    ·cases h
   ·cases h
  ·cases h
def nxMr (τ : Tab) (N : Nat) (rs : List ResultVar) (js : List Nat) (L : List Res) (c : Cur) (fs : List Fr) (E : Env) (B : Kn) : Option (List Value × List (Nat × Nat)) :=
 match zh2 τ N far c fs E B with
 | (.rt,[],E,_) => vsW τ L E js rs
 | (.no,[],E,_) => vsW τ L E js rs
 | _ => none
theorem rm [TabOk P τ] {fn : Func} {rs : List ResultVar} {r : ρ} {Pr : Ending → World → Prop} {ws : List Value} {bs : List (Nat × Nat)} (hr : fn.results = rs.toArray) (is js : List Nat) (h : nxMr τ N rs js L c fs E B = some (ws,bs))
  (hb : Eqs bs) (hd : zdj is = true) (k : ∀ w,Own w0 F w (pick L is) → r = R → Pr (.returned (tup ws)) w) : S P τ N R (bodyPost P fn Pr) w0 F c fs E B L (some r) := by
 intro a w hf hB hO hm;have hm := Option.some.inj hm;unfold nxMr at h
 split at h
 ·rename_i hdr
  exact zcJ hdr hf hB fun a hf _ => zfE (R := Pr) hr hf (zrs hO h hb) (k w (hO.choose is hd) hm)
 ·rename_i hdr
  exact zcJ hdr hf hB fun a hf _ => zsD (R := Pr) hr hf (zrs hO h hb) (k w (hO.choose is hd) hm)
 ·cases h
theorem rm0 [TabOk P τ] {fn : Func} {rs : List ResultVar} {r : ρ} {Pr : Ending → World → Prop} {ws : List Value} {bs : List (Nat × Nat)} (hr : fn.results = rs.toArray) (is js : List Nat) (h : nxMr τ N rs js L c fs E B = some (ws,bs))
  (hb : Eqs bs := by first | exact trivial | exact ⟨rfl,trivial⟩ | exact ⟨rfl,rfl,trivial⟩ | exact ⟨rfl,rfl,rfl,trivial⟩) (hd : zdj is = true := by rfl) (k : ∀ w,Own w0 F w (pick L is) → r = R → Pr (.returned (tup ws)) w := by intro _ hO h; cases h; first | exact ⟨rfl,hO⟩ | exact ⟨_,rfl,hO⟩ | exact ⟨_,_,rfl,hO⟩ | exact ⟨_,_,_,rfl,hO⟩ | exact ⟨_,_,_,_,rfl,hO⟩ | exact ⟨_,_,_,_,_,rfl,hO⟩ | exact ⟨_,_,_,_,_,_,rfl,hO⟩ | exact ⟨_,_,_,_,_,_,_,rfl,hO⟩ | exact ⟨_,_,_,_,_,_,_,_,rfl,hO⟩ | exact ⟨_,_,_,_,_,_,_,_,_,rfl,hO⟩ | exact ⟨_,_,_,_,_,_,_,_,_,_,rfl,hO⟩ | exact ⟨_,_,_,_,_,_,_,_,_,_,_,rfl,hO⟩ | exact ⟨_,_,_,_,_,_,_,_,_,_,_,_,rfl,hO⟩) : S P τ N R (bodyPost P fn Pr) w0 F c fs E B L (some r) := rm hr is js h hb hd k
theorem clg [TabOk P τ] {f : Nat} {vs : List Value} {α : Type} {m : Option α} {g : α → Option ρ} {enc : α → Value} {G : World → Prop} (hc : zc P f) (hg : ∀ {w},Own w0 F w L → G w) (h : nxC τ N c fs E B = some (all,rest,fs',E',B',d,f,vs))
  (hw : ∀ x w,G w → m = some x → Calls P f vs.toArray w (Ret w enc x))
  (k : ∀ x,m = some x → S P τ N R Q0 w0 F (.op all rest) fs' ((d,enc x) :: E') B' L (g x)) : S P τ N R Q0 w0 F c fs E B L (m.bind g) := cl hc h (fun x w hm hO => hw x w (hg hO) hm) k
theorem rb [TabOk P τ] {fn : Func} {rs : List ResultVar} {r : ρ} {V : ρ → Value} {ws : List Value} {bs : List (Nat × Nat)} (hr : fn.results = rs.toArray) (js : List Nat) (h : nxMr τ N rs js L c fs E B = some (ws,bs)) (hb : Eqs bs) (hv : tup ws = V r) : S P τ N R (bodyPost P fn (Ret w0 V R)) w0 [] c fs E B L (some r) := by
 intro a w hf hB hO hm;obtain rfl := Option.some.inj hm;have hR : Ret w0 V r (.returned (tup ws)) w := ⟨by rw [hv],hO.below⟩;unfold nxMr at h
 split at h
 ·rename_i hdr
  exact zcJ hdr hf hB fun a hf _ => zfE (R := Ret w0 V r) hr hf (zrs hO h hb) hR
 ·rename_i hdr
  exact zcJ hdr hf hB fun a hf _ => zsD (R := Ret w0 V r) hr hf (zrs hO h hb) hR
 ·cases h
theorem rb0 [TabOk P τ] {fn : Func} {rs : List ResultVar} {r : ρ} {V : ρ → Value} {ws : List Value} {bs : List (Nat × Nat)} (hr : fn.results = rs.toArray) (js : List Nat) (h : nxMr τ N rs js L c fs E B = some (ws,bs))
  (hb : Eqs bs := by first | exact trivial | exact ⟨rfl,trivial⟩ | exact ⟨rfl,rfl,trivial⟩ | exact ⟨rfl,rfl,rfl,trivial⟩) (hv : tup ws = V r := by rfl) : S P τ N R (bodyPost P fn (Ret w0 V R)) w0 [] c fs E B L (some r) := rb hr js h hb hv
theorem br0 [TabOk P τ] {c' : Cur} {b : Bool} {x y : Option ρ} (h : nxB τ N c fs E B = some (c',fs',E',B',d,b))
  (k1 : S P τ N R Q0 w0 F c' fs' E' ((d,some true) :: B') L x) (k0 : S P τ N R Q0 w0 F c' fs' E' ((d,some false) :: B') L y) : S P τ N R Q0 w0 F c fs E B L (if b = true then x else y) :=
 br h (fun _ => k1) fun _ => k0
theorem Own.addS {w : World} {a : Option Addr} {cs : List Value} (h : Own w [] w L) (hs : zH w a cs) (hr : ∀ r ∈ L,r.shared = true := by simp [Res.shared]) : Own w [] w (.shr a cs :: L) := h.addShr hs hr
theorem bu [TabOk P τ] {ty t : Nat} {p : String} {af : Array Edge} {parts : Array (Nat × Operand)} {us : List (Nat × Value)} (v : Value) (h : nxO τ N c fs E B = some (all,⟨some d, .build ty parts,t,p,af,none⟩,rest,fs',E',B')) (hd : Nat.blt d N = true) (hx : Dk.evps E' parts.toList = some us)
  (hb : ∀ w,(Instr.build ty us.toArray).run P w = .ok v w) {M : Option ρ} (k : S P τ N R Q0 w0 F (.op all rest) fs' ((d,v) :: E') (zqi d none B') L M) : S P τ N R Q0 w0 F c fs E B L M :=
 vl h hd (fun _ w hf _ => zp6 hf hx (hb w)) k
theorem bu0 [TabOk P τ] {ty t : Nat} {p : String} {af : Array Edge} {parts : Array (Nat × Operand)} {us : List (Nat × Value)} (v : Value) (h : nxO τ N c fs E B = some (all,⟨some d, .build ty parts,t,p,af,none⟩,rest,fs',E',B')) (hx : Dk.evps E' parts.toList = some us)
  {M : Option ρ} (k : S P τ N R Q0 w0 F (.op all rest) fs' ((d,v) :: E') (zqi d none B') L M) (hd : Nat.blt d N = true := by rfl) (hb : ∀ w,(Instr.build ty us.toArray).run P w = .ok v w := by intro w; kernel_rfl) : S P τ N R Q0 w0 F c fs E B L M := bu v h hd hx hb k
def runQ (τ : Tab) (N : Nat) : List Oper → Env → List Oper × Env
 | [],E => ([],E)
 | o :: l,E => match o.dst with
  | some d => match o.guard with
   | none => match evO τ E [] o.op with
    | some v => match Nat.blt d N with
     | true => runQ τ N l ((d,v) :: E)
     | false => (o :: l,E)
    | none => (o :: l,E)
   | some _ => (o :: l,E)
  | none => (o :: l,E)
theorem zbn [TabOk P τ] {ops : Array Oper} {C : World → Prop} {Qq : Act → Prop} : ∀ {l l' : List Oper} {E E' : Env} {a : Act},runQ τ N l E = (l',E') → Fits N E a → (∀ a,Fits N E' a → wpQuiet P ops C Qq l' a) → wpQuiet P ops C Qq l a
 | [],l',E,E',a,h,hf,k => by
  unfold runQ at h;cases h; exact k a hf
 | o :: l,l',E,E',a,h,hf,k => by
  unfold runQ at h
  split at h
  ·rename_i d hd
   split at h
   ·rename_i hg
    split at h
    ·rename_i v hv
     split at h
     ·rename_i hN
      exact zac (fun w _ => (zyi hf Kns.nil hv).1) hg hf hd hN fun a hf => zbn h hf k
     ·cases h; exact k a hf
    ·cases h; exact k a hf
   ·cases h; exact k a hf
  ·cases h; exact k a hf
theorem S.ent0 (τ : Tab) {fn : Func} {co : Code} {Rp : Ending → World → Prop} {M : Option ρ} (hf : P.funcs[f]? = some fn) (hb : fn.body = some co) (hN : fn.ntmps = N) (hv : Nat.ble vs.length N = true) (hm : M = some R)
  (h : S P τ N R (bodyPost P fn Rp) w0 [] (.co co) [] (params 0 vs) [] [] M) : Calls P f vs.toArray w0 Rp := S.enter τ hf hb hN hv h (Own.refl w0) hm
theorem cw0 [TabOk P τ] {V : α → Value} {Lr : α → List Res} {N0 : Nat} (hc : zc P f) (is : List Nat) (n : Nat) (Sh : List Res) (h : nxC τ N c fs E B = some (all,rest,fs',E',B',d,f,vs))
  (hw : ∀ x w,m = some x → Own w0 F w L → (∀ b ∈ fps (part n L is).1,N0 ≤ b) → Own w (fps (part n L is).1) w ((part n L is).1 ++ Sh) → Calls P f vs.toArray w fun e w' => e = .returned (V x) ∧ Own w (fps (part n L is).1) w' (Lr x))
  (hl : ∀ w,Own w0 F w L → zvl w (part n L is).2 Sh) (hF : ∀ b ∈ F,N0 ≤ b) (hN : N0 ≤ w0.heap.size)
  (k : ∀ x,m = some x → S P τ N R Q0 w0 F (.op all rest) fs' ((d,V x) :: E') [] (Lr x ++ (part n L is).2) (g x))
  (hd : zdj is = true := by rfl) (hU : zhY (part n L is).1 = true := by rfl) (hn : ∀ x,zhY (Lr x) = true := by intros; rfl) : S P τ N R Q0 w0 F c fs E B L (m.bind g) := by
 intro a w hf hB hO hm;obtain ⟨x,hx,hm⟩ := ob hm;have hch := hO.part is n hd;exact zmI hc h hf hB (hw x w hx hO (hch.far hU hF hN) (hch.lend hU (hl w hO))) fun e w' ⟨he,hO'⟩ => ⟨_,he,fun a hf _ => k x hx a w' hf Kns.nil (hch.back hU hO' (hn x)) hm⟩
theorem cm1 [TabOk P τ] {β0 : Type} {V : α → β0 → Value} {Lr : α → β0 → List Res} (hc : zc P f) (h : nxC τ N c fs E B = some (all,rest,fs',E',B',d,f,vs))
  (hw : ∀ x w,m = some x → Own w0 F w L → Calls P f vs.toArray w fun e w' => ∃ y0,e = .returned (V x y0) ∧ Own w [] w' (Lr x y0))
  (k : ∀ x,m = some x → ∀ y0,S P τ N R Q0 w0 F (.op all rest) fs' ((d,V x y0) :: E') [] (Lr x y0 ++ L) (g x)) (hn : ∀ x y0,zhY (Lr x y0) = true := by intros; rfl) : S P τ N R Q0 w0 F c fs E B L (m.bind g) := by
 intro a w hf hB hO hm;obtain ⟨x,hx,hm⟩ := ob hm;exact zmI hc h hf hB (hw x w hx hO) fun e w' ⟨y0,he,hO'⟩ => ⟨_,he,fun a hf _ => k x hx y0 a w' hf Kns.nil (hO.cal hO' (hn x y0)) hm⟩
theorem cm2 [TabOk P τ] {β0 β1 : Type} {V : α → β0 → β1 → Value} {Lr : α → β0 → β1 → List Res} (hc : zc P f) (h : nxC τ N c fs E B = some (all,rest,fs',E',B',d,f,vs))
  (hw : ∀ x w,m = some x → Own w0 F w L → Calls P f vs.toArray w fun e w' => ∃ y0 y1,e = .returned (V x y0 y1) ∧ Own w [] w' (Lr x y0 y1))
  (k : ∀ x,m = some x → ∀ y0 y1,S P τ N R Q0 w0 F (.op all rest) fs' ((d,V x y0 y1) :: E') [] (Lr x y0 y1 ++ L) (g x)) (hn : ∀ x y0 y1,zhY (Lr x y0 y1) = true := by intros; rfl) : S P τ N R Q0 w0 F c fs E B L (m.bind g) := by
 intro a w hf hB hO hm;obtain ⟨x,hx,hm⟩ := ob hm;exact zmI hc h hf hB (hw x w hx hO) fun e w' ⟨y0,y1,he,hO'⟩ => ⟨_,he,fun a hf _ => k x hx y0 y1 a w' hf Kns.nil (hO.cal hO' (hn x y0 y1)) hm⟩
theorem cw2 [TabOk P τ] {β0 β1 : Type} {V : α → β0 → β1 → Value} {Lr : α → β0 → β1 → List Res} {N0 : Nat} (hc : zc P f) (is : List Nat) (n : Nat) (Sh : List Res) (h : nxC τ N c fs E B = some (all,rest,fs',E',B',d,f,vs))
  (hw : ∀ x w,m = some x → Own w0 F w L → (∀ b ∈ fps (part n L is).1,N0 ≤ b) → Own w (fps (part n L is).1) w ((part n L is).1 ++ Sh) → Calls P f vs.toArray w fun e w' => ∃ y0 y1,e = .returned (V x y0 y1) ∧ Own w (fps (part n L is).1) w' (Lr x y0 y1))
  (hl : ∀ w,Own w0 F w L → zvl w (part n L is).2 Sh) (hF : ∀ b ∈ F,N0 ≤ b) (hN : N0 ≤ w0.heap.size)
  (k : ∀ x,m = some x → ∀ y0 y1,S P τ N R Q0 w0 F (.op all rest) fs' ((d,V x y0 y1) :: E') [] (Lr x y0 y1 ++ (part n L is).2) (g x))
  (hd : zdj is = true := by rfl) (hU : zhY (part n L is).1 = true := by rfl) (hn : ∀ x y0 y1,zhY (Lr x y0 y1) = true := by intros; rfl) : S P τ N R Q0 w0 F c fs E B L (m.bind g) := by
 intro a w hf hB hO hm;obtain ⟨x,hx,hm⟩ := ob hm;have hch := hO.part is n hd;exact zmI hc h hf hB (hw x w hx hO (hch.far hU hF hN) (hch.lend hU (hl w hO))) fun e w' ⟨y0,y1,he,hO'⟩ => ⟨_,he,fun a hf _ => k x hx y0 y1 a w' hf Kns.nil (hch.back hU hO' (hn x y0 y1)) hm⟩
theorem cm3 [TabOk P τ] {β0 β1 β2 : Type} {V : α → β0 → β1 → β2 → Value} {Lr : α → β0 → β1 → β2 → List Res} (hc : zc P f) (h : nxC τ N c fs E B = some (all,rest,fs',E',B',d,f,vs))
  (hw : ∀ x w,m = some x → Own w0 F w L → Calls P f vs.toArray w fun e w' => ∃ y0 y1 y2,e = .returned (V x y0 y1 y2) ∧ Own w [] w' (Lr x y0 y1 y2))
  (k : ∀ x,m = some x → ∀ y0 y1 y2,S P τ N R Q0 w0 F (.op all rest) fs' ((d,V x y0 y1 y2) :: E') [] (Lr x y0 y1 y2 ++ L) (g x)) (hn : ∀ x y0 y1 y2,zhY (Lr x y0 y1 y2) = true := by intros; rfl) : S P τ N R Q0 w0 F c fs E B L (m.bind g) := by
 intro a w hf hB hO hm;obtain ⟨x,hx,hm⟩ := ob hm;exact zmI hc h hf hB (hw x w hx hO) fun e w' ⟨y0,y1,y2,he,hO'⟩ => ⟨_,he,fun a hf _ => k x hx y0 y1 y2 a w' hf Kns.nil (hO.cal hO' (hn x y0 y1 y2)) hm⟩
theorem cw3 [TabOk P τ] {β0 β1 β2 : Type} {V : α → β0 → β1 → β2 → Value} {Lr : α → β0 → β1 → β2 → List Res} {N0 : Nat} (hc : zc P f) (is : List Nat) (n : Nat) (Sh : List Res) (h : nxC τ N c fs E B = some (all,rest,fs',E',B',d,f,vs))
  (hw : ∀ x w,m = some x → Own w0 F w L → (∀ b ∈ fps (part n L is).1,N0 ≤ b) → Own w (fps (part n L is).1) w ((part n L is).1 ++ Sh) → Calls P f vs.toArray w fun e w' => ∃ y0 y1 y2,e = .returned (V x y0 y1 y2) ∧ Own w (fps (part n L is).1) w' (Lr x y0 y1 y2))
  (hl : ∀ w,Own w0 F w L → zvl w (part n L is).2 Sh) (hF : ∀ b ∈ F,N0 ≤ b) (hN : N0 ≤ w0.heap.size)
  (k : ∀ x,m = some x → ∀ y0 y1 y2,S P τ N R Q0 w0 F (.op all rest) fs' ((d,V x y0 y1 y2) :: E') [] (Lr x y0 y1 y2 ++ (part n L is).2) (g x))
  (hd : zdj is = true := by rfl) (hU : zhY (part n L is).1 = true := by rfl) (hn : ∀ x y0 y1 y2,zhY (Lr x y0 y1 y2) = true := by intros; rfl) : S P τ N R Q0 w0 F c fs E B L (m.bind g) := by
 intro a w hf hB hO hm;obtain ⟨x,hx,hm⟩ := ob hm;have hch := hO.part is n hd;exact zmI hc h hf hB (hw x w hx hO (hch.far hU hF hN) (hch.lend hU (hl w hO))) fun e w' ⟨y0,y1,y2,he,hO'⟩ => ⟨_,he,fun a hf _ => k x hx y0 y1 y2 a w' hf Kns.nil (hch.back hU hO' (hn x y0 y1 y2)) hm⟩
theorem cm4 [TabOk P τ] {β0 β1 β2 β3 : Type} {V : α → β0 → β1 → β2 → β3 → Value} {Lr : α → β0 → β1 → β2 → β3 → List Res} (hc : zc P f) (h : nxC τ N c fs E B = some (all,rest,fs',E',B',d,f,vs))
  (hw : ∀ x w,m = some x → Own w0 F w L → Calls P f vs.toArray w fun e w' => ∃ y0 y1 y2 y3,e = .returned (V x y0 y1 y2 y3) ∧ Own w [] w' (Lr x y0 y1 y2 y3))
  (k : ∀ x,m = some x → ∀ y0 y1 y2 y3,S P τ N R Q0 w0 F (.op all rest) fs' ((d,V x y0 y1 y2 y3) :: E') [] (Lr x y0 y1 y2 y3 ++ L) (g x)) (hn : ∀ x y0 y1 y2 y3,zhY (Lr x y0 y1 y2 y3) = true := by intros; rfl) : S P τ N R Q0 w0 F c fs E B L (m.bind g) := by
 intro a w hf hB hO hm;obtain ⟨x,hx,hm⟩ := ob hm;exact zmI hc h hf hB (hw x w hx hO) fun e w' ⟨y0,y1,y2,y3,he,hO'⟩ => ⟨_,he,fun a hf _ => k x hx y0 y1 y2 y3 a w' hf Kns.nil (hO.cal hO' (hn x y0 y1 y2 y3)) hm⟩
theorem cw4 [TabOk P τ] {β0 β1 β2 β3 : Type} {V : α → β0 → β1 → β2 → β3 → Value} {Lr : α → β0 → β1 → β2 → β3 → List Res} {N0 : Nat} (hc : zc P f) (is : List Nat) (n : Nat) (Sh : List Res) (h : nxC τ N c fs E B = some (all,rest,fs',E',B',d,f,vs))
  (hw : ∀ x w,m = some x → Own w0 F w L → (∀ b ∈ fps (part n L is).1,N0 ≤ b) → Own w (fps (part n L is).1) w ((part n L is).1 ++ Sh) → Calls P f vs.toArray w fun e w' => ∃ y0 y1 y2 y3,e = .returned (V x y0 y1 y2 y3) ∧ Own w (fps (part n L is).1) w' (Lr x y0 y1 y2 y3))
  (hl : ∀ w,Own w0 F w L → zvl w (part n L is).2 Sh) (hF : ∀ b ∈ F,N0 ≤ b) (hN : N0 ≤ w0.heap.size)
  (k : ∀ x,m = some x → ∀ y0 y1 y2 y3,S P τ N R Q0 w0 F (.op all rest) fs' ((d,V x y0 y1 y2 y3) :: E') [] (Lr x y0 y1 y2 y3 ++ (part n L is).2) (g x))
  (hd : zdj is = true := by rfl) (hU : zhY (part n L is).1 = true := by rfl) (hn : ∀ x y0 y1 y2 y3,zhY (Lr x y0 y1 y2 y3) = true := by intros; rfl) : S P τ N R Q0 w0 F c fs E B L (m.bind g) := by
 intro a w hf hB hO hm;obtain ⟨x,hx,hm⟩ := ob hm;have hch := hO.part is n hd;exact zmI hc h hf hB (hw x w hx hO (hch.far hU hF hN) (hch.lend hU (hl w hO))) fun e w' ⟨y0,y1,y2,y3,he,hO'⟩ => ⟨_,he,fun a hf _ => k x hx y0 y1 y2 y3 a w' hf Kns.nil (hch.back hU hO' (hn x y0 y1 y2 y3)) hm⟩
theorem en0 [TabOk P τ] {K : Act → World → Prop} {M : Option ρ} (h : zh2 τ N far c fs E B = (.no, .ct K :: fs',E',B'))
  (k : ∀ a w,(∀ {E2 L' M'},M = M' → L = L' → ziD E' (zuk E2) = some E2 → Jp N w0 F R a w E2 L' M') → K a w := by intro _ _ j; (repeat apply Exists.intro); exact j rfl rfl rfl) : S P τ N R Q0 w0 F c fs E B L M :=
 en h fun a w j => k a w fun e1 e2 e3 => by rw [← e1, ← e2]; exact j e3
theorem el0 [TabOk P τ] {K : Act → World → Prop} {M : Option ρ} (h : zh2 τ N far c fs E B = (.no, .ct K :: fs',E',B'))
  (k : ∀ a w,(∀ {E2 L' M'},M = M' → L = L' → ziD E' (zuk E2) = some E2 → Jp N w0 F R a w E2 L' M') → K a w := by intro _ _ j; refine ⟨_,Nat.lt_succ_self _,?_⟩; (repeat apply Exists.intro); exact j rfl rfl rfl) : S P τ N R Q0 w0 F c fs E B L M :=
 en h fun a w j => k a w fun e1 e2 e3 => by rw [← e1, ← e2]; exact j e3
theorem ec0 [TabOk P τ] (is : List Nat) {L2 : List Res} {K : Act → World → Prop} {M : Option ρ} (h : zh2 τ N far c fs E B = (.no, .ct K :: fs',E',B')) (hd : zdj is = true) (hp : znU L is = some L2)
  (k : ∀ a w,(∀ {E2 L' M'},M = M' → L2 = L' → ziD E' (zuk E2) = some E2 → Jp N w0 F R a w E2 L' M') → K a w := by intro _ _ j; (repeat apply Exists.intro); exact j rfl rfl rfl) : S P τ N R Q0 w0 F c fs E B L M :=
 ec is h hd hp fun a w j => k a w fun e1 e2 e3 => by rw [← e1, ← e2]; exact j e3
theorem ecl [TabOk P τ] (is : List Nat) {L2 : List Res} {K : Act → World → Prop} {M : Option ρ} (h : zh2 τ N far c fs E B = (.no, .ct K :: fs',E',B')) (hd : zdj is = true) (hp : znU L is = some L2)
  (k : ∀ a w,(∀ {E2 L' M'},M = M' → L2 = L' → ziD E' (zuk E2) = some E2 → Jp N w0 F R a w E2 L' M') → K a w := by intro _ _ j; refine ⟨_,Nat.lt_succ_self _,?_⟩; (repeat apply Exists.intro); exact j rfl rfl rfl) : S P τ N R Q0 w0 F c fs E B L M :=
 ec is h hd hp fun a w j => k a w fun e1 e2 e3 => by rw [← e1, ← e2]; exact j e3
theorem lw [TabOk P τ] {M : Option ρ} (ks is : List Nat) (I : (Env → List Res → Option ρ → Prop) → Env → List Res → Nat → Prop) {co : Code} {Ek : Env} {Lk : List Res}
  (h : nxW τ N ks is L c fs E B = some (co,fs',E',B',Ek,Lk))
  (k : ∀ n a w,I (Jp N w0 F R a w) Ek Lk n → co.wp P (QS P Q0 (.ct (fun a w => ∃ m,m < n ∧ I (Jp N w0 F R a w) Ek Lk m) :: fs')) a w)
  (h0 : ∀ a w,(∀ {E2 L' M'},M = M' → L = L' → ziD E' (zuk E2) = some E2 → Jp N w0 F R a w E2 L' M') → I (Jp N w0 F R a w) Ek Lk fuel := by intro _ _ j; (repeat apply Exists.intro); exact j rfl rfl rfl) : S P τ N R Q0 w0 F c fs E B L M :=
 lv ks is I h (fun a w j => h0 a w fun e1 e2 e3 => by rw [← e1, ← e2]; exact j e3) k
theorem oJ0 (τ : Tab) {EE : Env} {LL : List Res} {MM : Option ρ} {y : Code} (k : S P τ N R Q0 w0 F (.co y) fs (EE) [] (LL) (MM)) : ∀ a w,(Jp N w0 F R a w (EE) (LL) (MM)) → y.wp P (QS P Q0 fs) a w :=
 fun a w ⟨hf,hO,hm⟩ => k a w hf Kns.nil hO hm
theorem oJ1 (τ : Tab) {β0 : Type} {EE : β0 → Env} {LL : β0 → List Res} {MM : β0 → Option ρ} {y : Code} (k : ∀ y0,S P τ N R Q0 w0 F (.co y) fs (EE y0) [] (LL y0) (MM y0)) : ∀ a w,(∃ y0,Jp N w0 F R a w (EE y0) (LL y0) (MM y0)) → y.wp P (QS P Q0 fs) a w :=
 fun a w ⟨y0,hf,hO,hm⟩ => k y0 a w hf Kns.nil hO hm
theorem lJ1 (τ : Tab) {β0 : Type} {EE : β0 → Env} {LL : β0 → List Res} {MM : Nat → β0 → Option ρ} {K : Nat → Act → World → Prop} {y : Code} (k : ∀ n, ∀ y0,S P τ N R Q0 w0 F (.co y) (.ct (fun a w => ∃ m,m < n + 1 ∧ K m a w) :: fs) (EE y0) [] (LL y0) (MM (n + 1) y0)) (hz : ∀ y0,MM 0 y0 = none := by intros; rfl) : ∀ n a w,(∃ y0,Jp N w0 F R a w (EE y0) (LL y0) (MM n y0)) → y.wp P (QS P Q0 (.ct (fun a w => ∃ m,m < n ∧ K m a w) :: fs)) a w
 | 0,_,_,⟨y0,_,_,hm⟩ => by rw [hz] at hm; cases hm
 | n + 1,a,w,⟨y0,hf,hO,hm⟩ => k n y0 a w hf Kns.nil hO hm
theorem oJ2 (τ : Tab) {β0 β1 : Type} {EE : β0 → β1 → Env} {LL : β0 → β1 → List Res} {MM : β0 → β1 → Option ρ} {y : Code} (k : ∀ y0 y1,S P τ N R Q0 w0 F (.co y) fs (EE y0 y1) [] (LL y0 y1) (MM y0 y1)) : ∀ a w,(∃ y0 y1,Jp N w0 F R a w (EE y0 y1) (LL y0 y1) (MM y0 y1)) → y.wp P (QS P Q0 fs) a w :=
 fun a w ⟨y0,y1,hf,hO,hm⟩ => k y0 y1 a w hf Kns.nil hO hm
theorem lJ2 (τ : Tab) {β0 β1 : Type} {EE : β0 → β1 → Env} {LL : β0 → β1 → List Res} {MM : Nat → β0 → β1 → Option ρ} {K : Nat → Act → World → Prop} {y : Code} (k : ∀ n, ∀ y0 y1,S P τ N R Q0 w0 F (.co y) (.ct (fun a w => ∃ m,m < n + 1 ∧ K m a w) :: fs) (EE y0 y1) [] (LL y0 y1) (MM (n + 1) y0 y1)) (hz : ∀ y0 y1,MM 0 y0 y1 = none := by intros; rfl) : ∀ n a w,(∃ y0 y1,Jp N w0 F R a w (EE y0 y1) (LL y0 y1) (MM n y0 y1)) → y.wp P (QS P Q0 (.ct (fun a w => ∃ m,m < n ∧ K m a w) :: fs)) a w
 | 0,_,_,⟨y0,y1,_,_,hm⟩ => by rw [hz] at hm; cases hm
 | n + 1,a,w,⟨y0,y1,hf,hO,hm⟩ => k n y0 y1 a w hf Kns.nil hO hm
theorem oJ3 (τ : Tab) {β0 β1 β2 : Type} {EE : β0 → β1 → β2 → Env} {LL : β0 → β1 → β2 → List Res} {MM : β0 → β1 → β2 → Option ρ} {y : Code} (k : ∀ y0 y1 y2,S P τ N R Q0 w0 F (.co y) fs (EE y0 y1 y2) [] (LL y0 y1 y2) (MM y0 y1 y2)) : ∀ a w,(∃ y0 y1 y2,Jp N w0 F R a w (EE y0 y1 y2) (LL y0 y1 y2) (MM y0 y1 y2)) → y.wp P (QS P Q0 fs) a w :=
 fun a w ⟨y0,y1,y2,hf,hO,hm⟩ => k y0 y1 y2 a w hf Kns.nil hO hm
theorem lJ3 (τ : Tab) {β0 β1 β2 : Type} {EE : β0 → β1 → β2 → Env} {LL : β0 → β1 → β2 → List Res} {MM : Nat → β0 → β1 → β2 → Option ρ} {K : Nat → Act → World → Prop} {y : Code} (k : ∀ n, ∀ y0 y1 y2,S P τ N R Q0 w0 F (.co y) (.ct (fun a w => ∃ m,m < n + 1 ∧ K m a w) :: fs) (EE y0 y1 y2) [] (LL y0 y1 y2) (MM (n + 1) y0 y1 y2)) (hz : ∀ y0 y1 y2,MM 0 y0 y1 y2 = none := by intros; rfl) : ∀ n a w,(∃ y0 y1 y2,Jp N w0 F R a w (EE y0 y1 y2) (LL y0 y1 y2) (MM n y0 y1 y2)) → y.wp P (QS P Q0 (.ct (fun a w => ∃ m,m < n ∧ K m a w) :: fs)) a w
 | 0,_,_,⟨y0,y1,y2,_,_,hm⟩ => by rw [hz] at hm; cases hm
 | n + 1,a,w,⟨y0,y1,y2,hf,hO,hm⟩ => k n y0 y1 y2 a w hf Kns.nil hO hm
theorem oJ4 (τ : Tab) {β0 β1 β2 β3 : Type} {EE : β0 → β1 → β2 → β3 → Env} {LL : β0 → β1 → β2 → β3 → List Res} {MM : β0 → β1 → β2 → β3 → Option ρ} {y : Code} (k : ∀ y0 y1 y2 y3,S P τ N R Q0 w0 F (.co y) fs (EE y0 y1 y2 y3) [] (LL y0 y1 y2 y3) (MM y0 y1 y2 y3)) : ∀ a w,(∃ y0 y1 y2 y3,Jp N w0 F R a w (EE y0 y1 y2 y3) (LL y0 y1 y2 y3) (MM y0 y1 y2 y3)) → y.wp P (QS P Q0 fs) a w :=
 fun a w ⟨y0,y1,y2,y3,hf,hO,hm⟩ => k y0 y1 y2 y3 a w hf Kns.nil hO hm
theorem lJ4 (τ : Tab) {β0 β1 β2 β3 : Type} {EE : β0 → β1 → β2 → β3 → Env} {LL : β0 → β1 → β2 → β3 → List Res} {MM : Nat → β0 → β1 → β2 → β3 → Option ρ} {K : Nat → Act → World → Prop} {y : Code} (k : ∀ n, ∀ y0 y1 y2 y3,S P τ N R Q0 w0 F (.co y) (.ct (fun a w => ∃ m,m < n + 1 ∧ K m a w) :: fs) (EE y0 y1 y2 y3) [] (LL y0 y1 y2 y3) (MM (n + 1) y0 y1 y2 y3)) (hz : ∀ y0 y1 y2 y3,MM 0 y0 y1 y2 y3 = none := by intros; rfl) : ∀ n a w,(∃ y0 y1 y2 y3,Jp N w0 F R a w (EE y0 y1 y2 y3) (LL y0 y1 y2 y3) (MM n y0 y1 y2 y3)) → y.wp P (QS P Q0 (.ct (fun a w => ∃ m,m < n ∧ K m a w) :: fs)) a w
 | 0,_,_,⟨y0,y1,y2,y3,_,_,hm⟩ => by rw [hz] at hm; cases hm
 | n + 1,a,w,⟨y0,y1,y2,y3,hf,hO,hm⟩ => k n y0 y1 y2 y3 a w hf Kns.nil hO hm
theorem oJ5 (τ : Tab) {β0 β1 β2 β3 β4 : Type} {EE : β0 → β1 → β2 → β3 → β4 → Env} {LL : β0 → β1 → β2 → β3 → β4 → List Res} {MM : β0 → β1 → β2 → β3 → β4 → Option ρ} {y : Code} (k : ∀ y0 y1 y2 y3 y4,S P τ N R Q0 w0 F (.co y) fs (EE y0 y1 y2 y3 y4) [] (LL y0 y1 y2 y3 y4) (MM y0 y1 y2 y3 y4)) : ∀ a w,(∃ y0 y1 y2 y3 y4,Jp N w0 F R a w (EE y0 y1 y2 y3 y4) (LL y0 y1 y2 y3 y4) (MM y0 y1 y2 y3 y4)) → y.wp P (QS P Q0 fs) a w :=
 fun a w ⟨y0,y1,y2,y3,y4,hf,hO,hm⟩ => k y0 y1 y2 y3 y4 a w hf Kns.nil hO hm
theorem lJ5 (τ : Tab) {β0 β1 β2 β3 β4 : Type} {EE : β0 → β1 → β2 → β3 → β4 → Env} {LL : β0 → β1 → β2 → β3 → β4 → List Res} {MM : Nat → β0 → β1 → β2 → β3 → β4 → Option ρ} {K : Nat → Act → World → Prop} {y : Code} (k : ∀ n, ∀ y0 y1 y2 y3 y4,S P τ N R Q0 w0 F (.co y) (.ct (fun a w => ∃ m,m < n + 1 ∧ K m a w) :: fs) (EE y0 y1 y2 y3 y4) [] (LL y0 y1 y2 y3 y4) (MM (n + 1) y0 y1 y2 y3 y4)) (hz : ∀ y0 y1 y2 y3 y4,MM 0 y0 y1 y2 y3 y4 = none := by intros; rfl) : ∀ n a w,(∃ y0 y1 y2 y3 y4,Jp N w0 F R a w (EE y0 y1 y2 y3 y4) (LL y0 y1 y2 y3 y4) (MM n y0 y1 y2 y3 y4)) → y.wp P (QS P Q0 (.ct (fun a w => ∃ m,m < n ∧ K m a w) :: fs)) a w
 | 0,_,_,⟨y0,y1,y2,y3,y4,_,_,hm⟩ => by rw [hz] at hm; cases hm
 | n + 1,a,w,⟨y0,y1,y2,y3,y4,hf,hO,hm⟩ => k n y0 y1 y2 y3 y4 a w hf Kns.nil hO hm
theorem oJ6 (τ : Tab) {β0 β1 β2 β3 β4 β5 : Type} {EE : β0 → β1 → β2 → β3 → β4 → β5 → Env} {LL : β0 → β1 → β2 → β3 → β4 → β5 → List Res} {MM : β0 → β1 → β2 → β3 → β4 → β5 → Option ρ} {y : Code} (k : ∀ y0 y1 y2 y3 y4 y5,S P τ N R Q0 w0 F (.co y) fs (EE y0 y1 y2 y3 y4 y5) [] (LL y0 y1 y2 y3 y4 y5) (MM y0 y1 y2 y3 y4 y5)) : ∀ a w,(∃ y0 y1 y2 y3 y4 y5,Jp N w0 F R a w (EE y0 y1 y2 y3 y4 y5) (LL y0 y1 y2 y3 y4 y5) (MM y0 y1 y2 y3 y4 y5)) → y.wp P (QS P Q0 fs) a w :=
 fun a w ⟨y0,y1,y2,y3,y4,y5,hf,hO,hm⟩ => k y0 y1 y2 y3 y4 y5 a w hf Kns.nil hO hm
theorem lJ6 (τ : Tab) {β0 β1 β2 β3 β4 β5 : Type} {EE : β0 → β1 → β2 → β3 → β4 → β5 → Env} {LL : β0 → β1 → β2 → β3 → β4 → β5 → List Res} {MM : Nat → β0 → β1 → β2 → β3 → β4 → β5 → Option ρ} {K : Nat → Act → World → Prop} {y : Code} (k : ∀ n, ∀ y0 y1 y2 y3 y4 y5,S P τ N R Q0 w0 F (.co y) (.ct (fun a w => ∃ m,m < n + 1 ∧ K m a w) :: fs) (EE y0 y1 y2 y3 y4 y5) [] (LL y0 y1 y2 y3 y4 y5) (MM (n + 1) y0 y1 y2 y3 y4 y5)) (hz : ∀ y0 y1 y2 y3 y4 y5,MM 0 y0 y1 y2 y3 y4 y5 = none := by intros; rfl) : ∀ n a w,(∃ y0 y1 y2 y3 y4 y5,Jp N w0 F R a w (EE y0 y1 y2 y3 y4 y5) (LL y0 y1 y2 y3 y4 y5) (MM n y0 y1 y2 y3 y4 y5)) → y.wp P (QS P Q0 (.ct (fun a w => ∃ m,m < n ∧ K m a w) :: fs)) a w
 | 0,_,_,⟨y0,y1,y2,y3,y4,y5,_,_,hm⟩ => by rw [hz] at hm; cases hm
 | n + 1,a,w,⟨y0,y1,y2,y3,y4,y5,hf,hO,hm⟩ => k n y0 y1 y2 y3 y4 y5 a w hf Kns.nil hO hm
theorem oJ7 (τ : Tab) {β0 β1 β2 β3 β4 β5 β6 : Type} {EE : β0 → β1 → β2 → β3 → β4 → β5 → β6 → Env} {LL : β0 → β1 → β2 → β3 → β4 → β5 → β6 → List Res} {MM : β0 → β1 → β2 → β3 → β4 → β5 → β6 → Option ρ} {y : Code} (k : ∀ y0 y1 y2 y3 y4 y5 y6,S P τ N R Q0 w0 F (.co y) fs (EE y0 y1 y2 y3 y4 y5 y6) [] (LL y0 y1 y2 y3 y4 y5 y6) (MM y0 y1 y2 y3 y4 y5 y6)) : ∀ a w,(∃ y0 y1 y2 y3 y4 y5 y6,Jp N w0 F R a w (EE y0 y1 y2 y3 y4 y5 y6) (LL y0 y1 y2 y3 y4 y5 y6) (MM y0 y1 y2 y3 y4 y5 y6)) → y.wp P (QS P Q0 fs) a w :=
 fun a w ⟨y0,y1,y2,y3,y4,y5,y6,hf,hO,hm⟩ => k y0 y1 y2 y3 y4 y5 y6 a w hf Kns.nil hO hm
theorem lJ7 (τ : Tab) {β0 β1 β2 β3 β4 β5 β6 : Type} {EE : β0 → β1 → β2 → β3 → β4 → β5 → β6 → Env} {LL : β0 → β1 → β2 → β3 → β4 → β5 → β6 → List Res} {MM : Nat → β0 → β1 → β2 → β3 → β4 → β5 → β6 → Option ρ} {K : Nat → Act → World → Prop} {y : Code} (k : ∀ n, ∀ y0 y1 y2 y3 y4 y5 y6,S P τ N R Q0 w0 F (.co y) (.ct (fun a w => ∃ m,m < n + 1 ∧ K m a w) :: fs) (EE y0 y1 y2 y3 y4 y5 y6) [] (LL y0 y1 y2 y3 y4 y5 y6) (MM (n + 1) y0 y1 y2 y3 y4 y5 y6)) (hz : ∀ y0 y1 y2 y3 y4 y5 y6,MM 0 y0 y1 y2 y3 y4 y5 y6 = none := by intros; rfl) : ∀ n a w,(∃ y0 y1 y2 y3 y4 y5 y6,Jp N w0 F R a w (EE y0 y1 y2 y3 y4 y5 y6) (LL y0 y1 y2 y3 y4 y5 y6) (MM n y0 y1 y2 y3 y4 y5 y6)) → y.wp P (QS P Q0 (.ct (fun a w => ∃ m,m < n ∧ K m a w) :: fs)) a w
 | 0,_,_,⟨y0,y1,y2,y3,y4,y5,y6,_,_,hm⟩ => by rw [hz] at hm; cases hm
 | n + 1,a,w,⟨y0,y1,y2,y3,y4,y5,y6,hf,hO,hm⟩ => k n y0 y1 y2 y3 y4 y5 y6 a w hf Kns.nil hO hm
theorem oJ8 (τ : Tab) {β0 β1 β2 β3 β4 β5 β6 β7 : Type} {EE : β0 → β1 → β2 → β3 → β4 → β5 → β6 → β7 → Env} {LL : β0 → β1 → β2 → β3 → β4 → β5 → β6 → β7 → List Res} {MM : β0 → β1 → β2 → β3 → β4 → β5 → β6 → β7 → Option ρ} {y : Code} (k : ∀ y0 y1 y2 y3 y4 y5 y6 y7,S P τ N R Q0 w0 F (.co y) fs (EE y0 y1 y2 y3 y4 y5 y6 y7) [] (LL y0 y1 y2 y3 y4 y5 y6 y7) (MM y0 y1 y2 y3 y4 y5 y6 y7)) : ∀ a w,(∃ y0 y1 y2 y3 y4 y5 y6 y7,Jp N w0 F R a w (EE y0 y1 y2 y3 y4 y5 y6 y7) (LL y0 y1 y2 y3 y4 y5 y6 y7) (MM y0 y1 y2 y3 y4 y5 y6 y7)) → y.wp P (QS P Q0 fs) a w :=
 fun a w ⟨y0,y1,y2,y3,y4,y5,y6,y7,hf,hO,hm⟩ => k y0 y1 y2 y3 y4 y5 y6 y7 a w hf Kns.nil hO hm
theorem lJ8 (τ : Tab) {β0 β1 β2 β3 β4 β5 β6 β7 : Type} {EE : β0 → β1 → β2 → β3 → β4 → β5 → β6 → β7 → Env} {LL : β0 → β1 → β2 → β3 → β4 → β5 → β6 → β7 → List Res} {MM : Nat → β0 → β1 → β2 → β3 → β4 → β5 → β6 → β7 → Option ρ} {K : Nat → Act → World → Prop} {y : Code} (k : ∀ n, ∀ y0 y1 y2 y3 y4 y5 y6 y7,S P τ N R Q0 w0 F (.co y) (.ct (fun a w => ∃ m,m < n + 1 ∧ K m a w) :: fs) (EE y0 y1 y2 y3 y4 y5 y6 y7) [] (LL y0 y1 y2 y3 y4 y5 y6 y7) (MM (n + 1) y0 y1 y2 y3 y4 y5 y6 y7)) (hz : ∀ y0 y1 y2 y3 y4 y5 y6 y7,MM 0 y0 y1 y2 y3 y4 y5 y6 y7 = none := by intros; rfl) : ∀ n a w,(∃ y0 y1 y2 y3 y4 y5 y6 y7,Jp N w0 F R a w (EE y0 y1 y2 y3 y4 y5 y6 y7) (LL y0 y1 y2 y3 y4 y5 y6 y7) (MM n y0 y1 y2 y3 y4 y5 y6 y7)) → y.wp P (QS P Q0 (.ct (fun a w => ∃ m,m < n ∧ K m a w) :: fs)) a w
 | 0,_,_,⟨y0,y1,y2,y3,y4,y5,y6,y7,_,_,hm⟩ => by rw [hz] at hm; cases hm
 | n + 1,a,w,⟨y0,y1,y2,y3,y4,y5,y6,y7,hf,hO,hm⟩ => k n y0 y1 y2 y3 y4 y5 y6 y7 a w hf Kns.nil hO hm
theorem oJ9 (τ : Tab) {β0 β1 β2 β3 β4 β5 β6 β7 β8 : Type} {EE : β0 → β1 → β2 → β3 → β4 → β5 → β6 → β7 → β8 → Env} {LL : β0 → β1 → β2 → β3 → β4 → β5 → β6 → β7 → β8 → List Res} {MM : β0 → β1 → β2 → β3 → β4 → β5 → β6 → β7 → β8 → Option ρ} {y : Code} (k : ∀ y0 y1 y2 y3 y4 y5 y6 y7 y8,S P τ N R Q0 w0 F (.co y) fs (EE y0 y1 y2 y3 y4 y5 y6 y7 y8) [] (LL y0 y1 y2 y3 y4 y5 y6 y7 y8) (MM y0 y1 y2 y3 y4 y5 y6 y7 y8)) : ∀ a w,(∃ y0 y1 y2 y3 y4 y5 y6 y7 y8,Jp N w0 F R a w (EE y0 y1 y2 y3 y4 y5 y6 y7 y8) (LL y0 y1 y2 y3 y4 y5 y6 y7 y8) (MM y0 y1 y2 y3 y4 y5 y6 y7 y8)) → y.wp P (QS P Q0 fs) a w :=
 fun a w ⟨y0,y1,y2,y3,y4,y5,y6,y7,y8,hf,hO,hm⟩ => k y0 y1 y2 y3 y4 y5 y6 y7 y8 a w hf Kns.nil hO hm
theorem lJ9 (τ : Tab) {β0 β1 β2 β3 β4 β5 β6 β7 β8 : Type} {EE : β0 → β1 → β2 → β3 → β4 → β5 → β6 → β7 → β8 → Env} {LL : β0 → β1 → β2 → β3 → β4 → β5 → β6 → β7 → β8 → List Res} {MM : Nat → β0 → β1 → β2 → β3 → β4 → β5 → β6 → β7 → β8 → Option ρ} {K : Nat → Act → World → Prop} {y : Code} (k : ∀ n, ∀ y0 y1 y2 y3 y4 y5 y6 y7 y8,S P τ N R Q0 w0 F (.co y) (.ct (fun a w => ∃ m,m < n + 1 ∧ K m a w) :: fs) (EE y0 y1 y2 y3 y4 y5 y6 y7 y8) [] (LL y0 y1 y2 y3 y4 y5 y6 y7 y8) (MM (n + 1) y0 y1 y2 y3 y4 y5 y6 y7 y8)) (hz : ∀ y0 y1 y2 y3 y4 y5 y6 y7 y8,MM 0 y0 y1 y2 y3 y4 y5 y6 y7 y8 = none := by intros; rfl) : ∀ n a w,(∃ y0 y1 y2 y3 y4 y5 y6 y7 y8,Jp N w0 F R a w (EE y0 y1 y2 y3 y4 y5 y6 y7 y8) (LL y0 y1 y2 y3 y4 y5 y6 y7 y8) (MM n y0 y1 y2 y3 y4 y5 y6 y7 y8)) → y.wp P (QS P Q0 (.ct (fun a w => ∃ m,m < n ∧ K m a w) :: fs)) a w
 | 0,_,_,⟨y0,y1,y2,y3,y4,y5,y6,y7,y8,_,_,hm⟩ => by rw [hz] at hm; cases hm
 | n + 1,a,w,⟨y0,y1,y2,y3,y4,y5,y6,y7,y8,hf,hO,hm⟩ => k n y0 y1 y2 y3 y4 y5 y6 y7 y8 a w hf Kns.nil hO hm
theorem lJ10 (τ : Tab) {β0 β1 β2 β3 β4 β5 β6 β7 β8 β9 : Type} {EE : β0 → β1 → β2 → β3 → β4 → β5 → β6 → β7 → β8 → β9 → Env} {LL : β0 → β1 → β2 → β3 → β4 → β5 → β6 → β7 → β8 → β9 → List Res} {MM : Nat → β0 → β1 → β2 → β3 → β4 → β5 → β6 → β7 → β8 → β9 → Option ρ} {K : Nat → Act → World → Prop} {y : Code} (k : ∀ n, ∀ y0 y1 y2 y3 y4 y5 y6 y7 y8 y9,S P τ N R Q0 w0 F (.co y) (.ct (fun a w => ∃ m,m < n + 1 ∧ K m a w) :: fs) (EE y0 y1 y2 y3 y4 y5 y6 y7 y8 y9) [] (LL y0 y1 y2 y3 y4 y5 y6 y7 y8 y9) (MM (n + 1) y0 y1 y2 y3 y4 y5 y6 y7 y8 y9)) (hz : ∀ y0 y1 y2 y3 y4 y5 y6 y7 y8 y9,MM 0 y0 y1 y2 y3 y4 y5 y6 y7 y8 y9 = none := by intros; rfl) : ∀ n a w,(∃ y0 y1 y2 y3 y4 y5 y6 y7 y8 y9,Jp N w0 F R a w (EE y0 y1 y2 y3 y4 y5 y6 y7 y8 y9) (LL y0 y1 y2 y3 y4 y5 y6 y7 y8 y9) (MM n y0 y1 y2 y3 y4 y5 y6 y7 y8 y9)) → y.wp P (QS P Q0 (.ct (fun a w => ∃ m,m < n ∧ K m a w) :: fs)) a w
 | 0,_,_,⟨y0,y1,y2,y3,y4,y5,y6,y7,y8,y9,_,_,hm⟩ => by rw [hz] at hm; cases hm
 | n + 1,a,w,⟨y0,y1,y2,y3,y4,y5,y6,y7,y8,y9,hf,hO,hm⟩ => k n y0 y1 y2 y3 y4 y5 y6 y7 y8 y9 a w hf Kns.nil hO hm
theorem oJ11 (τ : Tab) {β0 β1 β2 β3 β4 β5 β6 β7 β8 β9 β10 : Type} {EE : β0 → β1 → β2 → β3 → β4 → β5 → β6 → β7 → β8 → β9 → β10 → Env} {LL : β0 → β1 → β2 → β3 → β4 → β5 → β6 → β7 → β8 → β9 → β10 → List Res} {MM : β0 → β1 → β2 → β3 → β4 → β5 → β6 → β7 → β8 → β9 → β10 → Option ρ} {y : Code} (k : ∀ y0 y1 y2 y3 y4 y5 y6 y7 y8 y9 y10,S P τ N R Q0 w0 F (.co y) fs (EE y0 y1 y2 y3 y4 y5 y6 y7 y8 y9 y10) [] (LL y0 y1 y2 y3 y4 y5 y6 y7 y8 y9 y10) (MM y0 y1 y2 y3 y4 y5 y6 y7 y8 y9 y10)) : ∀ a w,(∃ y0 y1 y2 y3 y4 y5 y6 y7 y8 y9 y10,Jp N w0 F R a w (EE y0 y1 y2 y3 y4 y5 y6 y7 y8 y9 y10) (LL y0 y1 y2 y3 y4 y5 y6 y7 y8 y9 y10) (MM y0 y1 y2 y3 y4 y5 y6 y7 y8 y9 y10)) → y.wp P (QS P Q0 fs) a w :=
 fun a w ⟨y0,y1,y2,y3,y4,y5,y6,y7,y8,y9,y10,hf,hO,hm⟩ => k y0 y1 y2 y3 y4 y5 y6 y7 y8 y9 y10 a w hf Kns.nil hO hm
theorem lJ12 (τ : Tab) {β0 β1 β2 β3 β4 β5 β6 β7 β8 β9 β10 β11 : Type} {EE : β0 → β1 → β2 → β3 → β4 → β5 → β6 → β7 → β8 → β9 → β10 → β11 → Env} {LL : β0 → β1 → β2 → β3 → β4 → β5 → β6 → β7 → β8 → β9 → β10 → β11 → List Res} {MM : Nat → β0 → β1 → β2 → β3 → β4 → β5 → β6 → β7 → β8 → β9 → β10 → β11 → Option ρ} {K : Nat → Act → World → Prop} {y : Code} (k : ∀ n, ∀ y0 y1 y2 y3 y4 y5 y6 y7 y8 y9 y10 y11,S P τ N R Q0 w0 F (.co y) (.ct (fun a w => ∃ m,m < n + 1 ∧ K m a w) :: fs) (EE y0 y1 y2 y3 y4 y5 y6 y7 y8 y9 y10 y11) [] (LL y0 y1 y2 y3 y4 y5 y6 y7 y8 y9 y10 y11) (MM (n + 1) y0 y1 y2 y3 y4 y5 y6 y7 y8 y9 y10 y11)) (hz : ∀ y0 y1 y2 y3 y4 y5 y6 y7 y8 y9 y10 y11,MM 0 y0 y1 y2 y3 y4 y5 y6 y7 y8 y9 y10 y11 = none := by intros; rfl) : ∀ n a w,(∃ y0 y1 y2 y3 y4 y5 y6 y7 y8 y9 y10 y11,Jp N w0 F R a w (EE y0 y1 y2 y3 y4 y5 y6 y7 y8 y9 y10 y11) (LL y0 y1 y2 y3 y4 y5 y6 y7 y8 y9 y10 y11) (MM n y0 y1 y2 y3 y4 y5 y6 y7 y8 y9 y10 y11)) → y.wp P (QS P Q0 (.ct (fun a w => ∃ m,m < n ∧ K m a w) :: fs)) a w
 | 0,_,_,⟨y0,y1,y2,y3,y4,y5,y6,y7,y8,y9,y10,y11,_,_,hm⟩ => by rw [hz] at hm; cases hm
 | n + 1,a,w,⟨y0,y1,y2,y3,y4,y5,y6,y7,y8,y9,y10,y11,hf,hO,hm⟩ => k n y0 y1 y2 y3 y4 y5 y6 y7 y8 y9 y10 y11 a w hf Kns.nil hO hm
theorem oJ16 (τ : Tab) {β0 β1 β2 β3 β4 β5 β6 β7 β8 β9 β10 β11 β12 β13 β14 β15 : Type} {EE : β0 → β1 → β2 → β3 → β4 → β5 → β6 → β7 → β8 → β9 → β10 → β11 → β12 → β13 → β14 → β15 → Env} {LL : β0 → β1 → β2 → β3 → β4 → β5 → β6 → β7 → β8 → β9 → β10 → β11 → β12 → β13 → β14 → β15 → List Res} {MM : β0 → β1 → β2 → β3 → β4 → β5 → β6 → β7 → β8 → β9 → β10 → β11 → β12 → β13 → β14 → β15 → Option ρ} {y : Code} (k : ∀ y0 y1 y2 y3 y4 y5 y6 y7 y8 y9 y10 y11 y12 y13 y14 y15,S P τ N R Q0 w0 F (.co y) fs (EE y0 y1 y2 y3 y4 y5 y6 y7 y8 y9 y10 y11 y12 y13 y14 y15) [] (LL y0 y1 y2 y3 y4 y5 y6 y7 y8 y9 y10 y11 y12 y13 y14 y15) (MM y0 y1 y2 y3 y4 y5 y6 y7 y8 y9 y10 y11 y12 y13 y14 y15)) : ∀ a w,(∃ y0 y1 y2 y3 y4 y5 y6 y7 y8 y9 y10 y11 y12 y13 y14 y15,Jp N w0 F R a w (EE y0 y1 y2 y3 y4 y5 y6 y7 y8 y9 y10 y11 y12 y13 y14 y15) (LL y0 y1 y2 y3 y4 y5 y6 y7 y8 y9 y10 y11 y12 y13 y14 y15) (MM y0 y1 y2 y3 y4 y5 y6 y7 y8 y9 y10 y11 y12 y13 y14 y15)) → y.wp P (QS P Q0 fs) a w :=
 fun a w ⟨y0,y1,y2,y3,y4,y5,y6,y7,y8,y9,y10,y11,y12,y13,y14,y15,hf,hO,hm⟩ => k y0 y1 y2 y3 y4 y5 y6 y7 y8 y9 y10 y11 y12 y13 y14 y15 a w hf Kns.nil hO hm
theorem oJ17 (τ : Tab) {β0 β1 β2 β3 β4 β5 β6 β7 β8 β9 β10 β11 β12 β13 β14 β15 β16 : Type} {EE : β0 → β1 → β2 → β3 → β4 → β5 → β6 → β7 → β8 → β9 → β10 → β11 → β12 → β13 → β14 → β15 → β16 → Env} {LL : β0 → β1 → β2 → β3 → β4 → β5 → β6 → β7 → β8 → β9 → β10 → β11 → β12 → β13 → β14 → β15 → β16 → List Res} {MM : β0 → β1 → β2 → β3 → β4 → β5 → β6 → β7 → β8 → β9 → β10 → β11 → β12 → β13 → β14 → β15 → β16 → Option ρ} {y : Code} (k : ∀ y0 y1 y2 y3 y4 y5 y6 y7 y8 y9 y10 y11 y12 y13 y14 y15 y16,S P τ N R Q0 w0 F (.co y) fs (EE y0 y1 y2 y3 y4 y5 y6 y7 y8 y9 y10 y11 y12 y13 y14 y15 y16) [] (LL y0 y1 y2 y3 y4 y5 y6 y7 y8 y9 y10 y11 y12 y13 y14 y15 y16) (MM y0 y1 y2 y3 y4 y5 y6 y7 y8 y9 y10 y11 y12 y13 y14 y15 y16)) : ∀ a w,(∃ y0 y1 y2 y3 y4 y5 y6 y7 y8 y9 y10 y11 y12 y13 y14 y15 y16,Jp N w0 F R a w (EE y0 y1 y2 y3 y4 y5 y6 y7 y8 y9 y10 y11 y12 y13 y14 y15 y16) (LL y0 y1 y2 y3 y4 y5 y6 y7 y8 y9 y10 y11 y12 y13 y14 y15 y16) (MM y0 y1 y2 y3 y4 y5 y6 y7 y8 y9 y10 y11 y12 y13 y14 y15 y16)) → y.wp P (QS P Q0 fs) a w :=
 fun a w ⟨y0,y1,y2,y3,y4,y5,y6,y7,y8,y9,y10,y11,y12,y13,y14,y15,y16,hf,hO,hm⟩ => k y0 y1 y2 y3 y4 y5 y6 y7 y8 y9 y10 y11 y12 y13 y14 y15 y16 a w hf Kns.nil hO hm
theorem lJ17 (τ : Tab) {β0 β1 β2 β3 β4 β5 β6 β7 β8 β9 β10 β11 β12 β13 β14 β15 β16 : Type} {EE : β0 → β1 → β2 → β3 → β4 → β5 → β6 → β7 → β8 → β9 → β10 → β11 → β12 → β13 → β14 → β15 → β16 → Env} {LL : β0 → β1 → β2 → β3 → β4 → β5 → β6 → β7 → β8 → β9 → β10 → β11 → β12 → β13 → β14 → β15 → β16 → List Res} {MM : Nat → β0 → β1 → β2 → β3 → β4 → β5 → β6 → β7 → β8 → β9 → β10 → β11 → β12 → β13 → β14 → β15 → β16 → Option ρ} {K : Nat → Act → World → Prop} {y : Code} (k : ∀ n, ∀ y0 y1 y2 y3 y4 y5 y6 y7 y8 y9 y10 y11 y12 y13 y14 y15 y16,S P τ N R Q0 w0 F (.co y) (.ct (fun a w => ∃ m,m < n + 1 ∧ K m a w) :: fs) (EE y0 y1 y2 y3 y4 y5 y6 y7 y8 y9 y10 y11 y12 y13 y14 y15 y16) [] (LL y0 y1 y2 y3 y4 y5 y6 y7 y8 y9 y10 y11 y12 y13 y14 y15 y16) (MM (n + 1) y0 y1 y2 y3 y4 y5 y6 y7 y8 y9 y10 y11 y12 y13 y14 y15 y16)) (hz : ∀ y0 y1 y2 y3 y4 y5 y6 y7 y8 y9 y10 y11 y12 y13 y14 y15 y16,MM 0 y0 y1 y2 y3 y4 y5 y6 y7 y8 y9 y10 y11 y12 y13 y14 y15 y16 = none := by intros; rfl) : ∀ n a w,(∃ y0 y1 y2 y3 y4 y5 y6 y7 y8 y9 y10 y11 y12 y13 y14 y15 y16,Jp N w0 F R a w (EE y0 y1 y2 y3 y4 y5 y6 y7 y8 y9 y10 y11 y12 y13 y14 y15 y16) (LL y0 y1 y2 y3 y4 y5 y6 y7 y8 y9 y10 y11 y12 y13 y14 y15 y16) (MM n y0 y1 y2 y3 y4 y5 y6 y7 y8 y9 y10 y11 y12 y13 y14 y15 y16)) → y.wp P (QS P Q0 (.ct (fun a w => ∃ m,m < n ∧ K m a w) :: fs)) a w
 | 0,_,_,⟨y0,y1,y2,y3,y4,y5,y6,y7,y8,y9,y10,y11,y12,y13,y14,y15,y16,_,_,hm⟩ => by rw [hz] at hm; cases hm
 | n + 1,a,w,⟨y0,y1,y2,y3,y4,y5,y6,y7,y8,y9,y10,y11,y12,y13,y14,y15,y16,hf,hO,hm⟩ => k n y0 y1 y2 y3 y4 y5 y6 y7 y8 y9 y10 y11 y12 y13 y14 y15 y16 a w hf Kns.nil hO hm
theorem oJ18 (τ : Tab) {β0 β1 β2 β3 β4 β5 β6 β7 β8 β9 β10 β11 β12 β13 β14 β15 β16 β17 : Type} {EE : β0 → β1 → β2 → β3 → β4 → β5 → β6 → β7 → β8 → β9 → β10 → β11 → β12 → β13 → β14 → β15 → β16 → β17 → Env} {LL : β0 → β1 → β2 → β3 → β4 → β5 → β6 → β7 → β8 → β9 → β10 → β11 → β12 → β13 → β14 → β15 → β16 → β17 → List Res} {MM : β0 → β1 → β2 → β3 → β4 → β5 → β6 → β7 → β8 → β9 → β10 → β11 → β12 → β13 → β14 → β15 → β16 → β17 → Option ρ} {y : Code} (k : ∀ y0 y1 y2 y3 y4 y5 y6 y7 y8 y9 y10 y11 y12 y13 y14 y15 y16 y17,S P τ N R Q0 w0 F (.co y) fs (EE y0 y1 y2 y3 y4 y5 y6 y7 y8 y9 y10 y11 y12 y13 y14 y15 y16 y17) [] (LL y0 y1 y2 y3 y4 y5 y6 y7 y8 y9 y10 y11 y12 y13 y14 y15 y16 y17) (MM y0 y1 y2 y3 y4 y5 y6 y7 y8 y9 y10 y11 y12 y13 y14 y15 y16 y17)) : ∀ a w,(∃ y0 y1 y2 y3 y4 y5 y6 y7 y8 y9 y10 y11 y12 y13 y14 y15 y16 y17,Jp N w0 F R a w (EE y0 y1 y2 y3 y4 y5 y6 y7 y8 y9 y10 y11 y12 y13 y14 y15 y16 y17) (LL y0 y1 y2 y3 y4 y5 y6 y7 y8 y9 y10 y11 y12 y13 y14 y15 y16 y17) (MM y0 y1 y2 y3 y4 y5 y6 y7 y8 y9 y10 y11 y12 y13 y14 y15 y16 y17)) → y.wp P (QS P Q0 fs) a w :=
 fun a w ⟨y0,y1,y2,y3,y4,y5,y6,y7,y8,y9,y10,y11,y12,y13,y14,y15,y16,y17,hf,hO,hm⟩ => k y0 y1 y2 y3 y4 y5 y6 y7 y8 y9 y10 y11 y12 y13 y14 y15 y16 y17 a w hf Kns.nil hO hm
theorem lJ19 (τ : Tab) {β0 β1 β2 β3 β4 β5 β6 β7 β8 β9 β10 β11 β12 β13 β14 β15 β16 β17 β18 : Type} {EE : β0 → β1 → β2 → β3 → β4 → β5 → β6 → β7 → β8 → β9 → β10 → β11 → β12 → β13 → β14 → β15 → β16 → β17 → β18 → Env} {LL : β0 → β1 → β2 → β3 → β4 → β5 → β6 → β7 → β8 → β9 → β10 → β11 → β12 → β13 → β14 → β15 → β16 → β17 → β18 → List Res} {MM : Nat → β0 → β1 → β2 → β3 → β4 → β5 → β6 → β7 → β8 → β9 → β10 → β11 → β12 → β13 → β14 → β15 → β16 → β17 → β18 → Option ρ} {K : Nat → Act → World → Prop} {y : Code} (k : ∀ n, ∀ y0 y1 y2 y3 y4 y5 y6 y7 y8 y9 y10 y11 y12 y13 y14 y15 y16 y17 y18,S P τ N R Q0 w0 F (.co y) (.ct (fun a w => ∃ m,m < n + 1 ∧ K m a w) :: fs) (EE y0 y1 y2 y3 y4 y5 y6 y7 y8 y9 y10 y11 y12 y13 y14 y15 y16 y17 y18) [] (LL y0 y1 y2 y3 y4 y5 y6 y7 y8 y9 y10 y11 y12 y13 y14 y15 y16 y17 y18) (MM (n + 1) y0 y1 y2 y3 y4 y5 y6 y7 y8 y9 y10 y11 y12 y13 y14 y15 y16 y17 y18)) (hz : ∀ y0 y1 y2 y3 y4 y5 y6 y7 y8 y9 y10 y11 y12 y13 y14 y15 y16 y17 y18,MM 0 y0 y1 y2 y3 y4 y5 y6 y7 y8 y9 y10 y11 y12 y13 y14 y15 y16 y17 y18 = none := by intros; rfl) : ∀ n a w,(∃ y0 y1 y2 y3 y4 y5 y6 y7 y8 y9 y10 y11 y12 y13 y14 y15 y16 y17 y18,Jp N w0 F R a w (EE y0 y1 y2 y3 y4 y5 y6 y7 y8 y9 y10 y11 y12 y13 y14 y15 y16 y17 y18) (LL y0 y1 y2 y3 y4 y5 y6 y7 y8 y9 y10 y11 y12 y13 y14 y15 y16 y17 y18) (MM n y0 y1 y2 y3 y4 y5 y6 y7 y8 y9 y10 y11 y12 y13 y14 y15 y16 y17 y18)) → y.wp P (QS P Q0 (.ct (fun a w => ∃ m,m < n ∧ K m a w) :: fs)) a w
 | 0,_,_,⟨y0,y1,y2,y3,y4,y5,y6,y7,y8,y9,y10,y11,y12,y13,y14,y15,y16,y17,y18,_,_,hm⟩ => by rw [hz] at hm; cases hm
 | n + 1,a,w,⟨y0,y1,y2,y3,y4,y5,y6,y7,y8,y9,y10,y11,y12,y13,y14,y15,y16,y17,y18,hf,hO,hm⟩ => k n y0 y1 y2 y3 y4 y5 y6 y7 y8 y9 y10 y11 y12 y13 y14 y15 y16 y17 y18 a w hf Kns.nil hO hm
end
end Go.Dk
end
section
namespace Go.Dk
open Go.RowKit Go.Dm

def znP : List (List Res) → Nat → List Res
 | [],_ => []
 | [l],_ => l
 | l :: _ :: _,0 => l
 | _ :: m :: ms,k + 1 => znP (m :: ms) k
def sg (w0 : World) (F : List Nat) {S : Type} (Ls : S → List (List Res)) (k : Nat) (σ : S) (w : World) : Prop := Own w0 F w (znP (Ls σ) k)
def dAt {S : Type} (D : S → List DOp) (σ : S) (i : Nat) : DOp := match nth (D σ) i with
 | some d => d
 | none => ⟨[],none⟩
def vAt {S : Type} (D : S → List DOp) (σ : S) (i : Nat) : Value := match (dAt D σ i).v with
 | some (_,v) => v
 | none => undef
def Rng (p : Nat → Prop) : Nat → Nat → Prop
 | lo,0 => p lo
 | lo,n + 1 => p lo ∧ Rng p (lo + 1) n
theorem Rng.get {p : Nat → Prop} : ∀ {n lo : Nat},Rng p lo n → ∀ k,lo ≤ k → k ≤ lo + n → p k
 | 0,lo,h,k,h1,h2 => by
  have : k = lo := by omega
  subst this; exact h
 | n + 1,lo,⟨h,h'⟩,k,h1,h2 => by
  by_cases e : k = lo
  ·subst e; exact h
  ·exact Rng.get h' k (by omega) (by omega)
def zxf (l : List Oper) (es : List Nat) (i lo up : Nat) : Bool :=
 (match lo with
 | 0 => true
 | j + 1 => match nth es j with
  | some e => (before l i).any fun b => zch l e b
  | none => false) &&
 (match nth es up with
 | some e => (before l e).any fun b => zch l i b
 | none => true)
theorem zkN {l : List Oper} {es : List Nat} {i lo up k : Nat} (h : zxf l es i lo up = true) (hk : k ≤ es.length)
  (hmin : ∀ j (h : j < es.length),(before l i).any (fun b => zch l es[j] b) = true → j < k) (hmax : ∀ j (h : j < es.length),(before l es[j]).any (fun b => zch l i b) = true → k ≤ j) : lo ≤ k ∧ k ≤ up := by
 unfold zxf at h;rw [Bool.and_eq_true] at h;obtain ⟨h1,h2⟩ := h;constructor
 ·cases lo with
  | zero => omega
  | succ j =>
   simp only [ziC] at h1
   split at h1
   ·rename_i e he
    obtain ⟨hj,hj'⟩ := List.getElem?_eq_some_iff.1 he;exact hmin j hj (by rw [hj']; exact h1)
   ·cases h1
 ·rw [ziC] at h2
  split at h2
  ·rename_i e he
   obtain ⟨hj,hj'⟩ := List.getElem?_eq_some_iff.1 he;exact hmax up hj (by rw [hj']; exact h2)
  ·rename_i he
   have := List.getElem?_eq_none_iff.1 he;omega

section
variable {P : Program} {N : Nat} {Q : Exit → Act → World → Prop} {S : Type} {l : List Oper} {D : S → List DOp} {es : List Nat} {i s : Nat} {o : Oper} {w0 : World} {F : List Nat} {Ls : S → List (List Res)}

theorem sP {St : Nat → S → World → Prop} (hr : ∀ {σ a w},Fits N (dAt D σ i).E a → (execOp a.eval o).run P w = .ok (.value (vAt D σ i)) w)
  (h : es.idxOf? i = none := by rfl) (hd : ∀ σ,(D σ)[i]? = some (dAt D σ i) := by intro _; rfl) (hv : ∀ σ,(dAt D σ i).v = some (s,vAt D σ i) := by intro _; rfl) : zgf P N Q l St D es i o :=
 zsh h hd hv fun _ _ _ _ _ _ _ _ hf => hr hf
theorem sE {St : Nat → S → World → Prop} (τ : Tab) [TabOk P τ] (hx : ∀ σ,evO τ (dAt D σ i).E [] o.op = some (vAt D σ i) := by intro _; rfl)
  (h : es.idxOf? i = none := by rfl) (hd : ∀ σ,(D σ)[i]? = some (dAt D σ i) := by intro _; rfl) (hv : ∀ σ,(dAt D σ i).v = some (s,vAt D σ i) := by intro _; rfl) : zgf P N Q l St D es i o :=
 zsh h hd hv fun σ _ _ _ _ _ _ _ hf => (zyi hf Kns.nil (hx σ)).1
theorem sL (lo n : Nat) (hr : ∀ {σ a w},Fits N (dAt D σ i).E a → Rng (fun k => Own w0 F w (znP (Ls σ) k) → (execOp a.eval o).run P w = .ok (.value (vAt D σ i)) w) lo n)
  (hk : zxf l es i lo (lo + n) = true := by kernel_rfl) (h : es.idxOf? i = none := by rfl) (hd : ∀ σ,(D σ)[i]? = some (dAt D σ i) := by intro _; rfl) (hv : ∀ σ,(dAt D σ i).v = some (s,vAt D σ i) := by intro _; rfl) : zgf P N Q l (sg w0 F Ls) D es i o :=
 zsh h hd hv fun _ _ _ k hkl hmin hmax hst hf => (hr hf).get k (zkN hk hkl hmin hmax).1 (zkN hk hkl hmin hmax).2 hst
def ldAt (τ : Tab) (L : List Res) (j : Nat) (E : Env) : Op → Option (Nat × Nat × Value)
 | .load t x => match evl E x with
  | some (.pointer (some ⟨b,o,none⟩)) => match zqk L j with
   | some (b',cs) => match ldV τ cs t o with
    | some v => some (b',b,v)
    | none => none
   | none => none
  | _ => none
 | _ => none
theorem zDK {τ : Tab} [hτ : TabOk P τ] {L : List Res} {j b : Nat} {E : Env} {v : Value} {a : Act} {w : World} (h : ldAt τ L j E o.op = some (b,b,v)) (hf : Fits N E a) (hO : Own w0 F w L) : (execOp a.eval o).run P w = .ok (.value v) w := by
 obtain ⟨dst,op,t,p,af,gd⟩ := o;dsimp only at h;unfold ldAt at h
 split at h
 ·split at h
  ·rename_i b1 o1 hx
   split at h
   ·rename_i b2 cs hc
    split at h
    ·rename_i v1 hv
     cases h;have hS := zpE hO hc;unfold ldV at hv
     split at hv
     ·rename_i ha
      rw [ziC] at hv;exact zh (ob := 0) (hτ.ag _ (zed ha)) hS hv hf (by rw [Nat.zero_add]; exact hx)
     ·rename_i ha
      split at hv
      ·rename_i n hn
       split at hv
       ·rename_i vs hvs
        cases hv;exact zgo (ob := 0) (hτ.ag _ (zed ha)) (hτ.sz _ (zed hn)) hS (zpF hvs).1 (zpF hvs).2 hf (by rw [Nat.zero_add]; exact hx)
       ·cases hv
      ·cases hv
     ·cases hv
    ·cases h
   ·cases h
  ·cases h
 ·cases h
def zxg (τ : Tab) (Ls : List (List Res)) (E : Env) (op : Op) (v : Value) : Nat → List Nat → Prop
 | _,[] => True
 | k,j :: js => (∃ b,ldAt τ (znP Ls k) j E op = some (b,b,v)) ∧ zxg τ Ls E op v (k + 1) js
theorem zxg.get {τ : Tab} {Ls : List (List Res)} {E : Env} {op : Op} {v : Value} : ∀ {js : List Nat} {lo : Nat},zxg τ Ls E op v lo js → ∀ k,lo ≤ k → k < lo + js.length → ∃ j b,ldAt τ (znP Ls k) j E op = some (b,b,v)
 | [],lo,_,k,h1,h2 => by simp at h2; omega
 | j :: js,lo,⟨h,h'⟩,k,h1,h2 => by
  by_cases e : k = lo
  ·subst e; exact ⟨j,h⟩
  ·exact zxg.get h' k (by omega) (by simp at h2; omega)
theorem sD (τ : Tab) [TabOk P τ] (lo : Nat) (js : List Nat) (hl : ∀ σ,zxg τ (Ls σ) (dAt D σ i).E o.op (vAt D σ i) lo js := by intro _; repeat' first | exact trivial | exact ⟨_,rfl⟩ | refine ⟨?_,?_⟩)
  (hk : zxf l es i lo (lo + js.length - 1) = true := by kernel_rfl) (hn : Nat.blt 0 js.length = true := by rfl) (h : es.idxOf? i = none := by rfl) (hd : ∀ σ,(D σ)[i]? = some (dAt D σ i) := by intro _; rfl) (hv : ∀ σ,(dAt D σ i).v = some (s,vAt D σ i) := by intro _; rfl) : zgf P N Q l (sg w0 F Ls) D es i o :=
 zsh h hd hv fun σ _ _ k hkl hmin hmax hst hf => by
  obtain ⟨h1,h2⟩ := zkN hk hkl hmin hmax
  have hn' : 0 < js.length := by simpa [Nat.blt_eq] using hn
  obtain ⟨j,b,hj⟩ := (hl σ).get k h1 (by omega);exact zDK hj hf hst
theorem sC (j : Nat) {f : Nat} {vs : S → Array Value} (hx : ∀ {σ a w},Fits N (dAt D σ i).E a → (execOp a.eval o).run P w = .ok (.enter f (vs σ)) w)
  (hc : ∀ {σ w},Own w0 F w (znP (Ls σ) j) → Calls P f (vs σ) w fun e w' => ∃ σ',e = .returned (vAt D σ' i) ∧ sg w0 F Ls (j + 1) σ' w' ∧ zi3 (fun x y z => zch l i x = true ∨ y = z) 0 (D σ') (D σ))
  (h : es.idxOf? i = some j := by rfl) (hd : ∀ σ,(D σ)[i]? = some (dAt D σ i) := by intro _; rfl) (hv : ∀ σ,(dAt D σ i).v = some (s,vAt D σ i) := by intro _; rfl) (hdst : o.dst = some s := by rfl) : zgf P N Q l (sg w0 F Ls) D es i o :=
 zDU h hd hv hdst (fun _ _ _ _ hf => hx hf) fun _ _ hO => hc hO
theorem cR {e : Ending} {w' : World} {j : Nat} {σ : S} (σ' : S) (he : e = .returned (vAt D σ' i)) (hO : Own w0 F w' (znP (Ls σ') (j + 1)))
  (hag : zi3 (fun x y z => zch l i x = true ∨ y = z) 0 (D σ') (D σ) := by repeat' first | refine ⟨?_,?_⟩ | exact .inr rfl | exact .inl rfl | exact trivial) :
  ∃ σ',e = .returned (vAt D σ' i) ∧ sg w0 F Ls (j + 1) σ' w' ∧ zi3 (fun x y z => zch l i x = true ∨ y = z) 0 (D σ') (D σ) := ⟨σ',he,hO,hag⟩
theorem sV (j : Nat) (hr : ∀ {σ w},Own w0 F w (znP (Ls σ) j) → ∃ σ' w',sg w0 F Ls (j + 1) σ' w' ∧ zi3 (fun x y z => zch l i x = true ∨ y = z) 0 (D σ') (D σ) ∧ ∀ a,Fits N (dAt D σ i).E a → (execOp a.eval o).run P w = .ok (.value (vAt D σ' i)) w')
  (h : es.idxOf? i = some j := by rfl) (hd : ∀ σ,(D σ)[i]? = some (dAt D σ i) := by intro _; rfl) (hv : ∀ σ,(dAt D σ i).v = some (s,vAt D σ i) := by intro _; rfl) (hdst : o.dst = some s := by rfl) : zgf P N Q l (sg w0 F Ls) D es i o :=
 sS_val h hd hv hdst fun _ _ hO => hr hO
theorem sK (j : Nat) (hr : ∀ {σ w},Own w0 F w (znP (Ls σ) j) → ∃ σ' w',sg w0 F Ls (j + 1) σ' w' ∧ zi3 (fun x y z => zch l i x = true ∨ y = z) 0 (D σ') (D σ) ∧ ∀ a,Fits N (dAt D σ i).E a → (execOp a.eval o).run P w = .ok .skip w')
  (h : es.idxOf? i = some j := by rfl) (hd : ∀ σ,(D σ)[i]? = some (dAt D σ i) := by intro _; rfl) (hv : ∀ σ,(dAt D σ i).v = none := by intro _; rfl) (hdst : o.dst = none := by rfl) : zgf P N Q l (sg w0 F Ls) D es i o :=
 zDV h hd hv hdst fun _ _ hO => hr hO
theorem vR {w' : World} {j : Nat} {σ : S} {R : World → S → Prop} (σ' : S) (hO : Own w0 F w' (znP (Ls σ') (j + 1))) (hr : R w' σ')
  (hag : zi3 (fun x y z => zch l i x = true ∨ y = z) 0 (D σ') (D σ) := by repeat' first | refine ⟨?_,?_⟩ | exact .inr rfl | exact .inl rfl | exact trivial) :
  ∃ σ' w',sg w0 F Ls (j + 1) σ' w' ∧ zi3 (fun x y z => zch l i x = true ∨ y = z) 0 (D σ') (D σ) ∧ R w' σ' := ⟨σ',w',hO,hag,hr⟩
theorem sG (lo n : Nat) {f : Nat} {vs : S → Array Value} (hx : ∀ {σ a w},Fits N (dAt D σ i).E a → (execOp a.eval o).run P w = .ok (.enter f (vs σ)) w)
  (hc : ∀ {σ w},Rng (fun k => Own w0 F w (znP (Ls σ) k) → Calls P f (vs σ) w fun e w' => e = .returned (vAt D σ i) ∧ Below w.heap.size w w') lo n)
  (hk : zxf l es i lo (lo + n) = true := by kernel_rfl) (h : es.idxOf? i = none := by rfl) (hd : ∀ σ,(D σ)[i]? = some (dAt D σ i) := by intro _; rfl) (hv : ∀ σ,(dAt D σ i).v = some (s,vAt D σ i) := by intro _; rfl) : zgf P N Q l (sg w0 F Ls) D es i o :=
 zDT h hd hv (fun _ _ _ hf => hx hf) fun σ w k hkl hmin hmax hst =>
  (((hc (σ := σ) (w := w)).get k (zkN hk hkl hmin hmax).1 (zkN hk hkl hmin hmax).2) hst).mono fun _ _ h => ⟨h.1,Own.grow hst h.2⟩

variable {a : Act} {w : World} {L : List Res} {E : Env}
theorem Fits.all {E0 : Env} (hf : Fits N E a) (h : zoP (fun p => look E p.1 = some p.2) E0) : Fits N E0 a := by
 induction E0 with
 | nil => exact hf.nil
 | cons p E0 ih => exact hf.cons h.1 (ih h.2)
theorem dS {id : Nat} (E0 : Env) (Ls : S → List (List Res)) (D : S → List DOp) (σ0 : S) (es : List Nat) (hO : Own w0 F w L) (hf : Fits N E a)
  (hrun : Each (fun i o => zgf P N Q l (sg w0 F Ls) D es i o) 0 l)
  (k : ∀ σ a w,Fits N ((D σ).filterMap (·.v) ++ E0) a → Own w0 F w (znP (Ls σ) es.length) → Q .normal a w)
  (hL : znP (Ls σ0) 0 = L := by rfl) (hE : zoP (fun p => look E p.1 = some p.2) E0 := by repeat' first | exact trivial | refine ⟨rfl,?_⟩)
  (hm : P.follows .mixedOrders = true := by kernel_rfl) (hg : l.all (fun o => o.guard.isNone) = true := by rfl) (hdst : ∀ σ,l.map (·.dst) = (D σ).map (fun d => d.v.map (·.1)) := by intro _; rfl) (hN : ∀ σ,(D σ).all (fun d => match d.v with | some (s,_) => Nat.blt s N | none => true) = true := by intro _; rfl)
  (hu : ∀ σ,zum (D σ) = true := by intro _; rfl) (hlow : ztC l = true := by rfl) (hch : zlM l es = true := by rfl) (hnd : es.Nodup := by decide) (hes : es.all (fun e => Nat.blt e l.length) = true := by rfl)
  (henv : ∀ σ,Each (fun i d => zoP (fun p => zqn l (D σ) E0 i p.1 = some p.2) d.E) 0 (D σ) := by intro _; repeat' first | exact trivial | exact rfl | refine ⟨?_,?_⟩) : (Code.region id l.toArray true).wp P Q a w :=
 zz2 hm (sg w0 F Ls) D σ0 es hg hdst hN hu hlow hch hnd hes (show Own w0 F w.drew (znP (Ls σ0) 0) from hL ▸ hO.drew) (hf.all hE) henv hrun fun σ a w hf hO => k σ a w hf hO
theorem gS {ps : List Nat} {j s : Nat} {c c' : Bool} {u : Bool} (hu : u = c') (hg : o.guard = some (j,c) := by rfl) (hd : ∀ σ,(D σ)[i]? = some (dAt D σ i) := by intro _; rfl) (hs : (l[j]?).bind (·.dst) = some s := by rfl) (hl : ∀ σ,look (dAt D σ i).E s = some (.bool u) := by intro _; rfl) (hp : (c' == c) = !(ps.any (Nat.beq i)) := by rfl) : zre N l D ps i o :=
 g_some (u := fun _ => u) hg hd hs hl fun _ => by rw [hu]; exact hp
theorem gN {ps : List Nat} (hg : o.guard = none := by rfl) (hp : ps.any (Nat.beq i) = false := by rfl) : zre N l D ps i o := g_none hg hp
theorem nP {p : Prop} {ps : List Nat} (h : p) (hp : ps.any (Nat.beq i) = false := by rfl) : ps.any (Nat.beq i) = true ∨ (ps.any (Nat.beq i) = false ∧ p) := .inr ⟨hp,h⟩
theorem dG {id : Nat} (E0 : Env) (Ls : S → List (List Res)) (D : S → List DOp) (σ0 : S) (es ps : List Nat) (hO : Own w0 F w L) (hf : Fits N E a) (hgd : Each (fun i o => zre N l D ps i o) 0 l)
  (hrun : Each (fun i o => ps.any (Nat.beq i) = true ∨ (ps.any (Nat.beq i) = false ∧ zgf P N Q l (sg w0 F Ls) D es i o)) 0 l)
  (k : ∀ σ a w,Fits N ((D σ).filterMap (·.v) ++ E0) a → Own w0 F w (znP (Ls σ) es.length) → Q .normal a w)
  (hL : znP (Ls σ0) 0 = L := by rfl) (hE : zoP (fun p => look E p.1 = some p.2) E0 := by repeat' first | exact trivial | refine ⟨rfl,?_⟩)
  (hm : P.follows .mixedOrders = true := by kernel_rfl) (hps : ∀ σ,Each (fun i (od : Oper × DOp) => ps.any (Nat.beq i) = false ∨ (es.any (Nat.beq i) = false ∧ od.2.v = od.1.dst.map fun s => (s,undef))) 0 (l.zip (D σ)) := by intro _; repeat' first | exact .inl rfl | exact .inr ⟨rfl,rfl⟩ | exact trivial | refine ⟨?_,?_⟩)
  (hdst : ∀ σ,l.map (·.dst) = (D σ).map (fun d => d.v.map (·.1)) := by intro _; rfl) (hN : ∀ σ,(D σ).all (fun d => match d.v with | some (s,_) => Nat.blt s N | none => true) = true := by intro _; rfl)
  (hu : ∀ σ,zum (D σ) = true := by intro _; rfl) (hlow : ztC l = true := by rfl) (hch : zlM l es = true := by rfl) (hnd : es.Nodup := by decide) (hes : es.all (fun e => Nat.blt e l.length) = true := by rfl)
  (henv : ∀ σ,Each (fun i d => zoP (fun p => zqn l (D σ) E0 i p.1 = some p.2) d.E) 0 (D σ) := by intro _; repeat' first | exact trivial | exact rfl | refine ⟨?_,?_⟩) : (Code.region id l.toArray true).wp P Q a w :=
 zz3 hm (sg w0 F Ls) D σ0 es ps hgd hps hdst hN hu hlow hch hnd hes (show Own w0 F w.drew (znP (Ls σ0) 0) from hL ▸ hO.drew) (hf.all hE) henv hrun fun σ a w hf hO => k σ a w hf hO
end
end Go.Dk
end
section
namespace Go.Dk
open Go.RowKit Go.Dm
section
variable {P : Program} {Q : Exit → Act → World → Prop} {a : Act} {w w' w0 : World} {N : Nat} {E : Env} {F : List Nat} {L K : List Res}
variable {ops : Array Oper} {rest : List Oper} {t t' ty d : Nat} {p : String} {af : Array Edge} {x y : Operand}

theorem zi2.append {s : Option Addr × Nat × Nat} {y : List Value} (hs : zqh w s.1 y) (hc : s.2.1 ≤ s.2.2) : ∀ {ss : List (Option Addr × Nat × Nat)} {xs : List (List Value)},zi2 w ss xs → zi2 w (ss ++ [s]) (xs ++ [y])
 | [],[],_ => ⟨⟨hs,hc⟩,trivial⟩
 | [],_ :: _,h => h.elim
 | _ :: _,[],h => h.elim
 | _ :: _,_ :: _,⟨h1,h2⟩ => ⟨h1,zi2.append hs hc h2⟩
theorem zi2.get : ∀ {ss : List (Option Addr × Nat × Nat)} {xs : List (List Value)},zi2 w ss xs → ∀ (i : Nat) (x : List Value),xs[i]? = some x → ∃ s,ss[i]? = some s ∧ zqh w s.1 x ∧ s.2.1 ≤ s.2.2
 | [],[],_,i,x,h => by simp at h
 | [],_ :: _,h,_,_,_ => h.elim
 | _ :: _,[],h,_,_,_ => h.elim
 | s :: ss,y :: xs,⟨h1,h2⟩,0,x,h => by simp at h; subst h; exact ⟨s,by simp,h1⟩
 | s :: ss,y :: xs,⟨h1,h2⟩,i + 1,x,h => by
  obtain ⟨s',h3,h4⟩ := zi2.get h2 i x (by simpa using h);exact ⟨s',by simpa using h3,h4⟩
end
end Go.Dk
end
section
namespace Go.Dk
open Go.RowKit Go.Dm
structure Sub (α A : Type) where
 fp : α → A → List Nat
 ok : World → α → A → Prop
 lt : ∀ {w : World} {x : α} {a : A},ok w x a → ∀ b ∈ fp x a,b < w.heap.size
 mono : ∀ {w w' : World} {x : α} {a : A},ok w x a → w.heap.size ≤ w'.heap.size → (∀ b ∈ fp x a,w'.heap[b]? = w.heap[b]?) → ok w' x a
structure DE (α A : Type) extends Sub α A where
 enc : α → A → List Value
def zd1 {α A : Type} (d : DE α A) : List α → List A → List Value
 | x :: xs,a :: gs => d.enc x a ++ zd1 d xs gs
 | _,_ => []
def zsa {α A : Type} (d : DE α A) : List α → List A → List Nat
 | x :: xs,a :: gs => d.fp x a ++ zsa d xs gs
 | _,_ => []
def zom {α A : Type} (d : DE α A) (w : World) : List α → List A → Prop
 | [],[] => True
 | x :: xs,a :: gs => d.ok w x a ∧ zom d w xs gs
 | _,_ => False
def zho {α A : Type} (d : DE α A) (w : World) (ad : Option Addr) (c : Nat) (xs : List α) (gs : List A) : Prop := zH w ad (zd1 d xs gs) ∧ xs.length ≤ c ∧ zom d w xs gs
def fpD {α A : Type} (d : DE α A) (ad : Option Addr) (xs : List α) (gs : List A) : List Nat := zpc ad (zd1 d xs gs) ++ zsa d xs gs
section
variable {α A B β : Type} {d : DE α A} {w w' : World} {ad : Option Addr} {c : Nat} {xs : List α} {gs : List A}
theorem zon : ∀ {xs : List α} {gs : List A},zom d w xs gs → ∀ b ∈ zsa d xs gs,b < w.heap.size
 | [],[],_,b,hb => by cases hb
 | [],_ :: _,h,_,_ => h.elim
 | _ :: _,[],h,_,_ => h.elim
 | x :: xs,a :: gs,h,b,hb => by
  rcases List.mem_append.1 hb with hb | hb
  ·exact d.lt h.1 b hb
  ·exact zon h.2 b hb
theorem zmU (hs : w.heap.size ≤ w'.heap.size) : ∀ {xs : List α} {gs : List A},zom d w xs gs → (∀ b ∈ zsa d xs gs,w'.heap[b]? = w.heap[b]?) → zom d w' xs gs
 | [],[],_,_ => trivial
 | [],_ :: _,h,_ => h.elim
 | _ :: _,[],h,_ => h.elim
 | x :: xs,a :: gs,h,hb => ⟨d.mono h.1 hs fun b hm => hb b (List.mem_append_left _ hm),zmU hs h.2 fun b hm => hb b (List.mem_append_right _ hm)⟩
theorem zkt : ∀ {xs : List α} {gs : List A},zom d w xs gs → gs.length = xs.length
 | [],[],_ => rfl
 | [],_ :: _,h => h.elim
 | _ :: _,[],h => h.elim
 | _ :: _,_ :: _,h => by rw [List.length_cons,List.length_cons,zkt h.2]
theorem zrp {z : α} {a : A} : ∀ {xs : List α} {gs : List A},gs.length = xs.length → zsa d (xs ++ [z]) (gs ++ [a]) = zsa d xs gs ++ d.fp z a
 | [],[],_ => by simp [zsa]
 | [],_ :: _,h => by simp at h
 | _ :: _,[],h => by simp at h
 | x :: xs,b :: gs,h => by
  simp only [List.cons_append,zsa,List.append_assoc];rw [zrp (by simpa using h)]
theorem zpM {z : α} {a : A} (hz : d.ok w z a) : ∀ {xs : List α} {gs : List A},zom d w xs gs → zom d w (xs ++ [z]) (gs ++ [a])
 | [],[],_ => ⟨hz,trivial⟩
 | [],_ :: _,h => h.elim
 | _ :: _,[],h => h.elim
 | _ :: _,_ :: _,h => ⟨h.1,zpM hz h.2⟩
theorem zoo {z : α} {a : A} : ∀ {xs : List α} {gs : List A},gs.length = xs.length → zd1 d (xs ++ [z]) (gs ++ [a]) = zd1 d xs gs ++ d.enc z a
 | [],[],_ => by simp [zd1]
 | [],_ :: _,h => by simp at h
 | _ :: _,[],h => by simp at h
 | x :: xs,b :: gs,h => by
  simp only [List.cons_append,zd1,List.append_assoc];rw [zoo (by simpa using h)]
theorem ztP {sz : Nat} (hsz : ∀ x a,(d.enc x a).length = sz) : ∀ {xs : List α} {gs : List A},gs.length = xs.length → (zd1 d xs gs).length = xs.length * sz
 | [],[],_ => by simp [zd1]
 | [],_ :: _,h => by simp at h
 | _ :: _,[],h => by simp at h
 | x :: xs,a :: gs,h => by
  rw [zd1,List.length_append,hsz,ztP hsz (by simpa using h),List.length_cons,Nat.add_mul,Nat.one_mul,Nat.add_comm]
theorem zho.lt (h : zho d w ad c xs gs) : ∀ b ∈ fpD d ad xs gs,b < w.heap.size := by
 intro b hb
 rcases List.mem_append.1 hb with hb | hb
 ·exact zv1 h.1 hb
 ·exact zon h.2.2 b hb
theorem zho.mono (h : zho d w ad c xs gs) (hs : w.heap.size ≤ w'.heap.size) (hb : ∀ b ∈ fpD d ad xs gs,w'.heap[b]? = w.heap[b]?) : zho d w' ad c xs gs :=
 ⟨zv0 h.1 hs fun b e => hb b (List.mem_append_left _ e),h.2.1,zmU hs h.2.2 fun b e => hb b (List.mem_append_right _ e)⟩
theorem Own.atD {w0 : World} {L : List Res} (hO : Own w0 [] w L) (h : zho d w0 ad c xs gs) : zho d w ad c xs gs := h.mono hO.size fun b hb => hO.frame b (h.lt b hb) (by simp)
theorem zho.nil (d : DE α A) (w : World) (c : Nat) : zho d w none c [] [] := ⟨rfl,Nat.zero_le _,trivial⟩
def Sub.row (en : β → List Value) (get : α → List β) : Sub α (Option Addr × Nat) where
 fp x a := zpc a.1 (cells en (get x))
 ok w x a := zH w a.1 (cells en (get x)) ∧ (get x).length ≤ a.2
 lt h b hb := zv1 h.1 hb
 mono h hs hb := ⟨zv0 h.1 hs hb,h.2⟩
def Sub.deep (d : DE β B) (get : α → List β) : Sub α ((Option Addr × Nat) × List B) where
 fp x a := fpD d a.1.1 (get x) a.2
 ok w x a := zho d w a.1.1 a.1.2 (get x) a.2
 lt h b hb := h.lt b hb
 mono h hs hb := h.mono hs hb
def Sub.and (s : Sub α A) (t : Sub α B) : Sub α (A × B) where
 fp x a := s.fp x a.1 ++ t.fp x a.2
 ok w x a := s.ok w x a.1 ∧ t.ok w x a.2
 lt h b hb := by
  rcases List.mem_append.1 hb with hb | hb
  ·exact s.lt h.1 b hb
  ·exact t.lt h.2 b hb
 mono h hs hb := ⟨s.mono h.1 hs fun b e => hb b (List.mem_append_left _ e),t.mono h.2 hs fun b e => hb b (List.mem_append_right _ e)⟩
def zuu (d : DE α A) (v : Value) (e sz : Nat) (xs : List α) (gs : List A) (w : World) : Prop :=
 w.ownsRow 0 e sz v xs.length (zd1 d xs gs) ∧ zom d w xs gs ∧ ∀ b,v.ownBlock = some b → b ∉ zsa d xs gs
abbrev zhP (d : DE α A) (v : Value) (e sz : Nat) (xs : List α) (gs : List A) : Res := .gen (v.ownBlock.toList ++ zsa d xs gs) (zuu d v e sz xs gs)
theorem zuu.holds {v : Value} {e sz : Nat} (h : zuu d v e sz xs gs w) : (zhP d v e sz xs gs).holds w 0 := by
 refine ⟨h,fun b hb => ?_,fun w1 w2 h hs hb => ⟨zyh h.1 fun b e => hb b (List.mem_append_left _ (by rw [e]; simp)),zmU hs h.2.1 fun b e => hb b (List.mem_append_right _ e),h.2.2⟩⟩
 rcases List.mem_append.1 hb with hb | hb
 ·exact zyg h.1 (by simpa using hb)
 ·exact zon h.2.1 b hb
theorem zuu.sees {e sz : Nat} (h : zuu d (.slice ad xs.length c) e sz xs gs w) : zho d w ad c xs gs := by
 refine ⟨zmH h.1,?_,h.2.1⟩;obtain ⟨_,⟨h1,h2⟩ | ⟨g,cap,cur,hv,_,_,hle,_⟩⟩ := h.1
 ·simp at h1; omega
 ·simp at hv; omega
theorem Own.getD {w0 : World} {F : List Nat} {L : List Res} {e sz i : Nat} (hO : Own w0 F w L) (hi : L[i]? = some (zhP d (.slice ad xs.length c) e sz xs gs)) : zho d w ad c xs gs := (hO.get hi).1.sees
theorem zD1 {e sz : Nat} (h : zuu d (.slice ad xs.length c) e sz xs gs w) : ∀ b ∈ fpD d ad xs gs,b ∈ (zhP d (.slice ad xs.length c) e sz xs gs).fp := by
 intro b hb
 rcases List.mem_append.1 hb with hb | hb
 ·refine List.mem_append_left _ ?_;have e := (zjj hb).2;obtain ⟨_,⟨h1,h2⟩ | ⟨g,cap,cur,hv,_⟩⟩ := h.1
  ·simp at h1; rw [h1.1] at e; cases e
  ·simp at hv; rw [hv.1] at e ⊢; simp at e; simp [Value.ownBlock,e]
 ·exact List.mem_append_right _ hb
end
section
variable {P : Program} {Q : Exit → Act → World → Prop} {a : Act} {w w' w0 : World} {N : Nat} {E : Env} {F : List Nat} {L K : List Res} {α A β : Type} {d : DE α A}
variable {ops : Array Oper} {rest : List Oper} {t t' ty s : Nat} {p : String} {af : Array Edge} {x y : Operand}
theorem Own.takes {R0 R' : Res} {Lc : List Res} {ob : Option Nat} (h : Own w0 F w (R0 :: (Lc ++ K))) (h0 : R0.shared = false) (hc : zhY Lc = true) (hg : w.grownBy w' ob) (hob : ∀ b,ob = some b → b ∈ R0.fp)
  (hs' : R'.shared = false) (hfp : ∀ b ∈ R'.fp,b ∈ R0.fp ∨ b ∈ fps Lc ∨ b = w.heap.size) (hh : R'.holds w' 0) : Own w0 F w' (R' :: K) := by
 obtain ⟨s1,s2⟩ := List.pairwise_cons.1 h.sep;obtain ⟨_,s3,s4⟩ := List.pairwise_append.1 s2;have f0 := h.fresh R0 (by simp) h0;have hkeep : ∀ b,b < w.heap.size → ob ≠ some b → w'.heap[b]? = w.heap[b]? := fun b h1 h2 => hg.block b h1 fun e => h2 e.symm
 have apK : ∀ k ∈ K, ∀ b,b ∈ k.fp → b ∉ R0.fp ∧ b ∉ fps Lc := by
  intro k hk b hb;refine ⟨fun e => ?_,fun e => ?_⟩
  ·rcases s1 k (by simp [hk]) with ⟨h2,_⟩ | h2
   ·rw [h0] at h2; cases h2
   ·exact h2 b e hb
  ·obtain ⟨r,hr,hbr⟩ := zkf.1 e
   rcases s4 r hr k hk with ⟨h2,_⟩ | h2
   ·rw [zhZ hc hr] at h2; cases h2
   ·exact h2 b hbr hb
 refine ⟨hg.os.trans h.os,hg.tape.trans h.tape,hg.output.trans h.output,Nat.le_trans h.size hg.size,?_,?_,?_,?_⟩
 ·intro b h1 h2;refine (hkeep b (Nat.lt_of_lt_of_le h1 h.size) fun e => ?_).trans (h.frame b h1 h2)
  rcases f0 b (hob b e) with h3 | h3
  ·exact h2 h3
  ·omega
 ·intro r hr
  rcases List.mem_cons.1 hr with rfl | hr
  ·exact hh
  ·exact Res.holds_of (h.holds r (by simp [hr])) hg.size fun b hb => hkeep b (Res.fp_lt (h.holds r (by simp [hr])) hb) fun e => (apK r hr b hb).1 (hob b e)
 ·intro r hr hs b hb
  rcases List.mem_cons.1 hr with rfl | hr
  ·rcases hfp b hb with h1 | h1 | h1
   ·exact f0 b h1
   ·obtain ⟨q,hq,hbq⟩ := zkf.1 h1;exact h.fresh q (by simp [hq]) (zhZ hc hq) b hbq
   ·subst h1; exact .inr h.size
  ·exact h.fresh r (by simp [hr]) hs b hb
 ·refine List.pairwise_cons.2 ⟨fun k hk => .inr fun b h1 h2 => ?_,s3⟩;obtain ⟨k1,k2⟩ := apK k hk b h2
  rcases hfp b h1 with h3 | h3 | h3
  ·exact k1 h3
  ·exact k2 h3
  ·have := Res.fp_lt (h.holds k (by simp [hk])) h2;omega
def Tk (s : Sub α A) (w : World) (x : α) (a : A) (Lc : List Res) : Prop := s.ok w x a ∧ ∀ b ∈ s.fp x a,b ∈ fps Lc
theorem zxA (L : List Res) : ∀ (a b : List Nat),pick L (a ++ b) = pick L a ++ pick L b
 | [],_ => rfl
 | i :: a,b => by
  rw [List.cons_append,pick,pick,zxA L a b];cases L[i]? <;> rfl
theorem zmV {e sz bytes i c c2 : Nat} {ad : Option Addr} {b2 o2 : Nat} {xs : List α} {gs : List A} {z : α} {za : A} {Lc : List Res} (he : Elem P t' e sz bytes) (hsz : ∀ x a,(d.enc x a).length = sz) (js is : List Nat)
  (hd0 : zdj (i :: (js ++ is)) = true) (hi : nth L i = some (zhP d (.slice ad xs.length c) e sz xs gs)) (hp1 : znU L js = some Lc) (hp2 : znU L is = some K) (hc : zhY Lc = true)
  (hsub : ∀ w,(∀ r ∈ Lc,r.holds w 0) → Tk d.toSub w z za Lc)
  (hS : ∀ w,Own w0 F w L → zH w (some ⟨b2,o2,none⟩) (d.enc z za)) (h1 : ∀ u ∈ d.enc z za,u.oneCell' = true) (hfit : zJ xs.length 1 bytes = true)
  (hf : Fits N E a) (hd : Nat.blt s N = true) (hx : evl E x = some (.slice ad xs.length c)) (hy : evl E y = some (.slice (some ⟨b2,o2,none⟩) 1 c2)) (hO : Own w0 F w L)
  (k : ∀ a ad c w,Fits N ((s, .slice ad (xs ++ [z]).length c) :: E) a → Own w0 F w (zhP d (.slice ad (xs ++ [z]).length c) e sz (xs ++ [z]) (gs ++ [za]) :: K) → wpList P ops Q rest a w) :
  wpList P ops Q ({ dst := some s,op := .call { callee := .builtin .append,args := #[x,y],argTypes := #[t',t'] },type := t,pos := p,after := af,guard := none } :: rest) a w := by
 obtain ⟨hu,⟨ti,zv,hti,hz,hs1,hs2,hzs⟩,hpos⟩ := he;have hC := hO.choose (i :: (js ++ is)) hd0
 have hpk : pick L (i :: (js ++ is)) = zhP d (.slice ad xs.length c) e sz xs gs :: (Lc ++ K) := by
  rw [ziC] at hi;rw [pick,hi];dsimp only;rw [zxA,znV hp1,znV hp2]
 rw [hpk] at hC;have hN : zuu d (.slice ad xs.length c) e sz xs gs w := (hC.holds (zhP d (.slice ad xs.length c) e sz xs gs) (by simp)).1;have hlen := zkt hN.2.1;simp only [zJ,Bool.and_eq_true,decide_eq_true_eq] at hfit
 have hadd : ∀ j,(⟨b2,o2,none⟩ : Addr).add j = ⟨b2,o2 + j,none⟩ := by intro j; unfold Addr.add; split <;> simp_all
 obtain ⟨ad',c',w',hr,h2,h3,h4⟩ := zf9 (P := P) (w := w) t' t e ti zv sz bytes hu hti hz hs1 hs2 hzs hpos (.slice ad xs.length c) xs.length (zd1 d xs gs) hN.1 ⟨b2,o2,none⟩ 1 c2 (d.enc z za) (by rw [hsz,Nat.one_mul])
  (fun j u hj => by rw [hadd]; exact (hS w hO).at hj) h1 (by unfold maxLen; omega) hfit.2
 have hxv := hf.ev hx;have hyv := hf.ev hy
 have e1 : xs.length + 1 = (xs ++ [z]).length := by simp
 obtain ⟨g1,g2⟩ := hsub w fun r hr => hC.holds r (by simp [hr])
 have sepC : ∀ b,b ∈ (zhP d (.slice ad xs.length c) e sz xs gs).fp → b ∉ fps Lc := by
  intro b hb hm;obtain ⟨r,hr,hbr⟩ := zkf.1 hm
  rcases (List.pairwise_cons.1 hC.sep).1 r (by simp [hr]) with ⟨q,_⟩ | q
  ·cases q
  ·exact q b hb hbr
 have own1 : ∀ b,(Value.slice ad xs.length c).ownBlock = some b → b ∈ (zhP d (.slice ad xs.length c) e sz xs gs).fp := fun b hb => List.mem_append_left _ (by rw [hb]; simp);have zlt := d.lt g1
 have hnew : zuu d (.slice ad' (xs ++ [z]).length c') e sz (xs ++ [z]) (gs ++ [za]) w' := by
  refine ⟨?_,zpM (d.mono g1 h3.size fun b hb => h3.block b (zlt b hb) fun e => sepC b (own1 b e.symm) (g2 b hb)) (zmU h3.size hN.2.1 fun b hb => h3.block b (zon hN.2.1 b hb) fun e => hN.2.2 b e.symm hb),?_⟩
  ·rw [zoo hlen, ← e1]; exact h2
  ·intro b hb hm;rw [← e1] at hb;rw [zrp hlen] at hm
   rcases h4 with h5 | h5
   ·rw [h5] at hb
    rcases List.mem_append.1 hm with hm | hm
    ·exact hN.2.2 b hb hm
    ·exact sepC b (own1 b hb) (g2 b hm)
   ·rw [h5] at hb;obtain rfl := Option.some.inj hb
    rcases List.mem_append.1 hm with hm | hm
    ·have := zon hN.2.1 _ hm; omega
    ·have := zlt w.heap.size hm; omega
 have hO' : Own w0 F w' (zhP d (.slice ad' (xs ++ [z]).length c') e sz (xs ++ [z]) (gs ++ [za]) :: K) := by
  refine hC.takes rfl hc h3 own1 rfl (fun b hb => ?_) hnew.holds
  rcases List.mem_append.1 hb with hb | hb
  ·rw [← e1] at hb
   rcases h4 with h5 | h5
   ·rw [h5] at hb; exact .inl (List.mem_append_left _ hb)
   ·rw [h5] at hb; simp at hb; exact .inr (.inr hb)
  ·rw [zrp hlen] at hb
   rcases List.mem_append.1 hb with hb | hb
   ·exact .inl (List.mem_append_right _ hb)
   ·exact .inr (.inl (g2 b hb))
 refine znH (v := .slice ad' (xs.length + 1) c') (w' := w') rfl ?_ (k _ ad' c' w' (by rw [← e1]; exact hf.put hd _) hO');simp only [execOp,resolve,invoke,builtin,Sem.run_bind,Sem.run_pure,Result.andThen_ok,List.map_toArray,List.map_cons,List.map_nil,hxv,hyv,hr]
theorem tk_row {en : β → List Value} {q : Option Addr} {n c e sz : Nat} {l : List β} (h : (Res.row (.slice q n c) e sz n (cells en l)).holds w 0) (hn : n = l.length) : (zH w q (cells en l) ∧ l.length ≤ c) ∧ ∀ b ∈ zpc q (cells en l),b ∈ (Res.row (.slice q n c) e sz n (cells en l)).fp := by
 refine ⟨⟨zmH h,?_⟩,fun b hb => ?_⟩
 ·obtain ⟨_,⟨h1,h2⟩ | ⟨g,cap,cur,hv,_,_,hle,_⟩⟩ := h
  ·simp at h1; omega
  ·simp at hv; omega
 ·have e := (zjj hb).2
  cases q with
  | none => cases e
  | some x =>
   obtain ⟨_,⟨h1,h2⟩ | ⟨g,cap,cur,hv,_⟩⟩ := h
   ·simp at h1
   ·simp at hv; simp at e; rw [hv.1] at e ⊢; simp at e; simp [Res.fp,Value.ownBlock,e]
theorem Own.nilD (h : Own w0 F w L) (d : DE α A) (e sz : Nat) : Own w0 F w (zhP d (.slice none 0 0) e sz [] [] :: L) := by
 refine ⟨h.os,h.tape,h.output,h.size,h.frame,?_,?_,?_⟩
 ·intro r hr
  rcases List.mem_cons.1 hr with rfl | hr
  ·exact zuu.holds ⟨⟨by simp [zd1], .inl ⟨rfl,rfl⟩⟩,trivial,fun b hb => by simp [Value.ownBlock] at hb⟩
  ·exact h.holds r hr
 ·intro r hr hs b hb
  rcases List.mem_cons.1 hr with rfl | hr
  ·simp [zhP,Res.fp,Value.ownBlock,zsa] at hb
  ·exact h.fresh r hr hs b hb
 ·exact List.pairwise_cons.2 ⟨fun s _ => .inr fun b h1 _ => by simp [zhP,Res.fp,Value.ownBlock,zsa] at h1,h.sep⟩
theorem nD {τ : Tab} {ρ : Type} {R : ρ} {Q0 : Exit → Act → World → Prop} {c : Cur} {fs : List Fr} {B : Kn} {M : Option ρ} (d : DE α A) (e sz : Nat) (k : S P τ N R Q0 w0 F c fs E B (zhP d (.slice none 0 0) e sz [] [] :: L) M) : S P τ N R Q0 w0 F c fs E B L M :=
 fun a w hf hB hO hm => k a w hf hB (hO.nilD d e sz) hm
theorem zpN : ∀ {xs : List α} {gs : List A},gs.length = xs.length → cells (fun q : α × A => d.enc q.1 q.2) (xs.zip gs) = zd1 d xs gs
 | [],[],_ => rfl
 | [],_ :: _,h => by simp at h
 | _ :: _,[],h => by simp at h
 | x :: xs,a :: gs,h => by
  have := zpN (xs := xs) (gs := gs) (by simpa using h);rw [List.zip_cons_cons,zd1, ← this]; rfl
theorem zrq : ∀ {xs : List α} {gs : List A},zom d w xs gs → ∀ (i : Nat) (z : α) (za : A),xs[i]? = some z → gs[i]? = some za → d.ok w z za
 | [],_,_,i,z,za,h,_ => by simp at h
 | _ :: _,[],h,_,_,_,_,_ => h.elim
 | x :: xs,b :: gs,hh,0,z,za,h1,h2 => by simp at h1 h2; subst h1; subst h2; exact hh.1
 | x :: xs,b :: gs,hh,i + 1,z,za,h1,h2 => zrq hh.2 i z za (by simpa using h1) (by simpa using h2)
theorem zy8 {sz e c : Nat} {ad : Option Addr} {xs : List α} {gs : List A} {m : Int} {z : α} (t : TypeId) (ht : P.underlying t = some (.slice e)) (hn : za3 P e = some sz) (hpos : 0 < sz) (hsz : ∀ x a,(d.enc x a).length = sz)
  (h : zho d w ad c xs gs) (hr : lAt xs m = some z) :
  ∃ b o za,(∀ w,(Instr.indexAt t (.slice ad xs.length c) (int m)).run P w = .ok (ptr b o) w) ∧ (∀ w,zho d w ad c xs gs → zH w (some ⟨b,o,none⟩) (d.enc z za)) ∧ (∀ w,zho d w ad c xs gs → d.ok w z za) ∧ d.ok w z za := by
 have hlen := zkt h.2.2
 have hzl : (xs.zip gs).length = xs.length := by simp [hlen]
 unfold lAt at hr
 split at hr
 ·rename_i h0
  obtain ⟨i,rfl⟩ : ∃ i : Nat,m = (i : Int) := ⟨m.toNat,by omega⟩
  have hz : xs[i]? = some z := by simpa using hr
  have hi : i < gs.length := by rw [hlen]; exact (List.getElem?_eq_some_iff.1 hz).1
  have hza : gs[i]? = some gs[i] := List.getElem?_eq_getElem hi
  have hl : lAt (xs.zip gs) (i : Int) = some (z,gs[i]) := by rw [lAt]; simp [List.getElem?_zip_eq_some,hz]
  obtain ⟨b,o,h1,h2⟩ := zgp (P := P) (enc := fun q : α × A => d.enc q.1 q.2) (sz := sz) (c := c) t ht hn hpos (fun _ => hsz _ _) (by rw [zpN hlen]; exact h.1) hl;rw [hzl] at h1;exact ⟨b,o,gs[i],h1,fun w hw => h2 w (by rw [zpN hlen]; exact hw.1),fun w hw => zrq hw.2.2 i z _ hz hza,zrq h.2.2 i z _ hz hza⟩
 ·cases hr
theorem Tk.row {en : β → List Value} {get : α → List β} {q : Option Addr} {c e sz : Nat} {x : α} {Lc : List Res} (j : Nat) (hj : Lc[j]? = some (.row (.slice q (get x).length c) e sz (get x).length (cells en (get x)))) (h : ∀ r ∈ Lc,r.holds w 0) : Tk (.row en get) w x (q,c) Lc := by
 have hm := List.mem_of_getElem? hj;obtain ⟨h1,h2⟩ := tk_row (h _ hm) rfl;exact ⟨h1,fun b hb => zkf.2 ⟨_,hm,h2 b hb⟩⟩
theorem Tk.nil {en : β → List Value} {get : α → List β} {x : α} {Lc : List Res} (h : get x = []) : Tk (.row en get) w x (none,0) Lc :=
 ⟨⟨by show cells en (get x) = []; rw [h]; rfl,by rw [h]; exact Nat.zero_le _⟩,fun b hb => by have := (zjj hb).2; cases this⟩
theorem Tk.deep {B : Type} {d : DE β B} {get : α → List β} {q : Option Addr} {c e sz : Nat} {gs : List B} {x : α} {Lc : List Res} (j : Nat) (hj : Lc[j]? = some (zhP d (.slice q (get x).length c) e sz (get x) gs)) (h : ∀ r ∈ Lc,r.holds w 0) : Tk (.deep d get) w x ((q,c),gs) Lc := by
 have hm := List.mem_of_getElem? hj;have hh : zuu d (.slice q (get x).length c) e sz (get x) gs w := (h _ hm).1;exact ⟨hh.sees,fun b hb => zkf.2 ⟨_,hm,zD1 hh b hb⟩⟩
theorem Tk.nilD {B : Type} {d : DE β B} {get : α → List β} {x : α} {Lc : List Res} (h : get x = []) : Tk (.deep d get) w x ((none,0),[]) Lc :=
 ⟨by show zho d w none 0 (get x) []; rw [h]; exact zho.nil d w 0,fun b hb => by
  have hb : b ∈ fpD d none (get x) [] := hb
  rw [h] at hb; cases hb⟩
theorem Tk.and {B : Type} {s : Sub α A} {t : Sub α B} {x : α} {a : A} {b : B} {Lc : List Res} (h1 : Tk s w x a Lc) (h2 : Tk t w x b Lc) : Tk (.and s t) w x (a,b) Lc :=
 ⟨⟨h1.1,h2.1⟩,fun c hc => (List.mem_append.1 hc).elim (h1.2 c) (h2.2 c)⟩
end
end Go.Dk
end
section
namespace Go.Dk
open Go.RowKit Go.Dm Go.ChangeShapes Go.WideShapes Go.Deep

section
variable {H : Type} {enc : TypeId × Value → H} {P : Program}

def zAp (P : Program) (t : TypeId) {α : Type} (en : α → List Value) (good : α → Prop) : Prop :=
 ∀ {H : Type} (enc : TypeId × Value → H) (w : World) (base : Nat) (spare : Nat → Bool) (held : Bool) (fuel : Nat) (cs : List Value) (x : DataW H × List MemPlace),DataW.trod enc P w base spare held fuel t cs = some x → ∃ a,cs = en a ∧ good a

theorem zzf {t : TypeId} (ht : P.underlying t = some .string) : zAp P t (fun s : Str => [str s]) (fun s => s.length ≤ maxLen) := by
 intro H enc w base spare held fuel cs x h;obtain ⟨s,rfl,_,hs⟩ := DataW.trod_string ht h;obtain ⟨⟨l⟩⟩ := s;exact ⟨l,rfl,hs⟩

theorem zwl (b off k : Nat) : (⟨b,off,none⟩ : Addr).add k = ⟨b,off + k,none⟩ := by
 unfold Addr.add
 by_cases h : k = 0
 ·subst h; simp
 ·simp [h]
theorem zzg {w : World} {base n j : Nat} {a : Addr} {cs : List Value} {v : Value} (hc : w.cells? base a n = some cs) (hj : cs[j]? = some v) : w.cell? (a.add j) = some v := by
 obtain ⟨_,hlen,hcell⟩ := World.cells?_some hc
 have hjl : j < n := by rw [← hlen]; exact (List.getElem?_eq_some_iff.1 hj).1
 rw [hcell j hjl,hj]
theorem zxD {w : World} {a : Addr} {v : Value} (h : w.cell? a = some v) : a.spot = none ∧ a.block < w.heap.size := by
 unfold World.cell? at h
 split at h
 ·rename_i hb
  refine ⟨?_,(Array.getElem?_eq_some_iff.1 hb).1⟩
  cases hs : a.spot with
  | none => rfl
  | some x => rw [hs] at h; simp at h
 ·cases h
theorem zxE {w : World} {base : Nat} {spare : Nat → Bool} {held : Bool} {fuel : Nat} {t e : TypeId} {v : Value} {x : DataW H × List MemPlace} {α A : Type} {d : DE α A} {Q : DataW H → α → Prop} {sz : Nat}
  (ht : P.underlying t = some (.slice e)) (hC : P.cellsOf e = sz) (hsz : ∀ x a,(d.enc x a).length = sz) (hpos : 0 < sz)
  (ho : ∀ fuel cs x,DataW.trod enc P w base spare held fuel e cs = some x → ∃ z a,cs = d.enc z a ∧ d.ok w z a ∧ Q x.1 z) (hf : DataW.trod enc P w base spare held fuel t [v] = some x) :
  ∃ (ad : Option Addr) (xs : List α) (gs : List A) (c : Nat),v = .slice ad xs.length c ∧ zho d w ad c xs gs ∧ ((∃ E S,x.1 = .slice E S ∧ E.length = xs.length ∧ ∀ (i : Nat) z D,xs[i]? = some z → E[i]? = some D → Q D z) ∨ xs = []) := by
 rcases open_slice ht hf with ⟨hcs,_⟩ | ⟨a,len,cap,m,n,D,Pl,hcs,hb,hl,hm,hmm,hx,hel⟩
 ·simp at hcs;subst hcs;exact ⟨none,[],[],0,rfl,zho.nil d w 0, .inr rfl⟩
 ·simp at hcs;subst hcs
  have hmm' : len ≤ m := by rw [hmm]; split <;> omega
  have hex : ∀ i,i < len → ∃ z za,(∀ j v,(d.enc z za)[j]? = some v → w.cell? ((a.add (i * sz)).add j) = some v) ∧ d.ok w z za ∧ Q (D i) z := by
   intro i hi;obtain ⟨cs',hc,htr⟩ := hel i (by omega);obtain ⟨z,za,rfl,hz,hq⟩ := ho _ _ _ htr;rw [hC] at hc;exact ⟨z,za,fun j v hj => zzg hc hj,hz,hq⟩
  have hall : ∀ k,k ≤ len → ∃ (xs : List α) (gs : List A),xs.length = k ∧ zom d w xs gs ∧ (∀ (i : Nat) z,xs[i]? = some z → Q (D i) z) ∧ ∀ (i : Nat) v,(zd1 d xs gs)[i]? = some v → ∃ q j,i = q * sz + j ∧ w.cell? ((a.add (q * sz)).add j) = some v := by
   intro k
   induction k with
   | zero => intro _; exact ⟨[],[],rfl,trivial,by simp,by simp [zd1]⟩
   | succ k ih =>
    intro hk;obtain ⟨xs,gs,hxl,hs,hq,hcl⟩ := ih (by omega);obtain ⟨z,za,hz1,hz2,hz3⟩ := hex k (by omega);have hlen := zkt hs;refine ⟨xs ++ [z],gs ++ [za],by simp [hxl],zpM hz2 hs,fun i y hy => ?_,fun i v hv => ?_⟩
    ·by_cases hi : i < xs.length
     ·rw [List.getElem?_append_left hi] at hy; exact hq i y hy
     ·rw [List.getElem?_append_right (by omega)] at hy
      have hik : i = k := by
       have := (List.getElem?_eq_some_iff.1 hy).1;simp at this; omega
      subst hik;rw [hxl] at hy;simp at hy;subst hy; exact hz3
    ·rw [zoo hlen] at hv;have hcl' := ztP hsz hlen
     by_cases hi : i < (zd1 d xs gs).length
     ·rw [List.getElem?_append_left hi] at hv; exact hcl i v hv
     ·rw [List.getElem?_append_right (by omega)] at hv;refine ⟨k,i - k * sz,?_,hz1 _ v (by rw [hcl',hxl] at hv; exact hv)⟩;rw [hcl',hxl] at hi; omega
  obtain ⟨xs,gs,hxl,hs,hq,hcl⟩ := hall len (Nat.le_refl _);have hlen := zkt hs;refine ⟨some a,xs,gs,cap,by rw [hxl],⟨?_,by rw [hxl]; exact hl,hs⟩, .inl ⟨_,_,congrArg Prod.fst hx,by simp [hxl],fun i z E hz hE => ?_⟩⟩
  ·by_cases hne : zd1 d xs gs = []
   ·exact .inl hne
   ·have h0 : ∃ v,(zd1 d xs gs)[0]? = some v := ⟨_,List.getElem?_eq_getElem (List.length_pos_iff.2 hne)⟩;obtain ⟨v0,hv0⟩ := h0;obtain ⟨q,j,hqj,hc0⟩ := hcl 0 v0 hv0
    have hq0 : q = 0 := by
     rcases Nat.eq_zero_or_pos q with h | h
     ·exact h
     ·have : 1 * sz ≤ q * sz := Nat.mul_le_mul_right _ h;omega
    subst hq0
    have hj0 : j = 0 := by omega
    subst hj0
    have ea : (a.add (0 * sz)).add 0 = a := by rw [Nat.zero_mul]; unfold Addr.add; simp
    rw [ea] at hc0;obtain ⟨hsp,hlt⟩ := zxD hc0;refine .inr ⟨hsp,hlt,fun i v hv => ?_⟩;obtain ⟨q,j,hqj,hc⟩ := hcl i v hv;obtain ⟨b,off,spot⟩ := a;simp only at hsp; subst hsp;rw [zwl,zwl] at hc;rw [hqj, ← Nat.add_assoc]; exact hc
  ·have hi : i < len := by rw [← hxl]; exact (List.getElem?_eq_some_iff.1 hz).1
   have : E = D i := by
    rw [List.getElem?_map,List.getElem?_range hi] at hE;simpa using hE.symm
   rw [this]; exact hq i z hz
def DE.flat {α : Type} (en : α → List Value) : DE α Unit where
 fp _ _ := []
 ok _ _ _ := True
 lt _ b hb := by cases hb
 mono _ _ _ := trivial
 enc x _ := en x
theorem zsv {α : Type} {en : α → List Value} : ∀ {xs : List α} {gs : List Unit},gs.length = xs.length → zd1 (DE.flat en) xs gs = cells en xs
 | [],[],_ => rfl
 | [],_ :: _,h => by simp at h
 | _ :: _,[],h => by simp at h
 | x :: xs,a :: gs,h => by
  have e : cells en (x :: xs) = en x ++ cells en xs := rfl;rw [zd1,zsv (by simpa using h),e]; rfl
theorem zzh {w : World} {base : Nat} {spare : Nat → Bool} {held : Bool} {fuel : Nat} {t e : TypeId} {v : Value} {x : DataW H × List MemPlace} {α : Type} {en : α → List Value} {good : α → Prop} {sz : Nat}
  (ht : P.underlying t = some (.slice e)) (hC : P.cellsOf e = sz) (hsz : ∀ a,(en a).length = sz) (hpos : 0 < sz) (ho : zAp P e en good) (hf : DataW.trod enc P w base spare held fuel t [v] = some x) :
  ∃ (ad : Option Addr) (xs : List α) (c : Nat),v = .slice ad xs.length c ∧ zH w ad (cells en xs) ∧ xs.length ≤ c ∧ (∀ x ∈ xs,good x) ∧ ((∃ E S,x.1 = .slice E S ∧ E.length = xs.length) ∨ xs = []) := by
 obtain ⟨ad,xs,gs,c,rfl,hs,hg⟩ := zxE (d := DE.flat en) (Q := fun _ z => good z) ht hC (fun x _ => hsz x) hpos (fun fuel cs x h => by
  obtain ⟨z,rfl,hz⟩ := ho _ _ _ _ _ _ _ _ h
  exact ⟨z,(),rfl,trivial,hz⟩) hf
 refine ⟨ad,xs,c,rfl,?_,hs.2.1,fun z hz => ?_,?_⟩
 ·rw [← zsv (zkt hs.2.2)]; exact hs.1
 ·rcases hg with ⟨E,S,_,hl,hq⟩ | rfl
  ·obtain ⟨i,hi,rfl⟩ := List.mem_iff_getElem.1 hz;exact hq i _ E[i] (List.getElem?_eq_getElem hi) (List.getElem?_eq_getElem (by omega))
  ·cases hz
 ·rcases hg with ⟨E,S,h1,h2,_⟩ | h
  ·exact .inl ⟨E,S,h1,h2⟩
  ·exact .inr h
theorem zzi {w : World} {r : Reach} {b0 : Nat} {t e : TypeId} {v : Value} {d : DataW H} {ps : List MemPlace} {α : Type} {en : α → List Value} {good : α → Prop} {sz : Nat}
  (ht : P.underlying t = some (.slice e)) (hC : P.cellsOf e = sz) (hsz : ∀ a,(en a).length = sz) (ho : zAp P e en good)
  (hval : Value.okWide P w r b0 t v) (hd : DataW.Trod enc P w 0 (fun _ => true) true t v d ps) (hpos : 0 < sz := by decide) :
  ∃ (ad : Option Addr) (xs : List α) (c : Nat),v = .slice ad xs.length c ∧ zH w ad (cells en xs) ∧ xs.length ≤ c ∧ (∀ x ∈ xs,good x) ∧ ((∃ E S,d = .slice E S ∧ E.length = xs.length) ∨ xs = []) := by
 obtain ⟨ad,len,cap,rfl⟩ := okWide_slice ht hval;obtain ⟨fuel,hf⟩ := hd;exact zzh ht hC hsz hpos ho (by simpa [Value.cells] using hf)
theorem zoU (hl : laidOutB P = true) {W W' : World} (hb : Below W.heap.size W W') : ∀ {ts : List TypeId} {vs : List Value} {ds : List (DataW H)} {ps : List MemPlace},
  ts.all (fun t => P.readableRec t && decide (t < P.types.size)) = true → DataW.TrodAll enc P W 0 (fun _ => true) true ts vs ds ps → DataW.TrodAll enc P W' 0 (fun b => decide (b < W.heap.size)) true ts vs ds ps
 | [],vs,ds,ps,_,h => by
  obtain ⟨rfl,rfl,rfl⟩ := trodAll_nil h;exact trodAll_mk0
 | t :: ts,vs,ds,ps,ht,h => by
  obtain ⟨v,vs',d,ds',p,q,rfl,rfl,rfl,h0,h1⟩ := trodAll_cons h;simp only [List.all_cons,Bool.and_eq_true,decide_eq_true_eq] at ht
  have lt : ∀ x ∈ p,x.block < W.heap.size := by obtain ⟨m,hm⟩ := h0; exact DataW.trod_lt m _ _ _ hm
  exact trodAll_cons_mk (Below.trod hl ht.1.1 ht.1.2 h0 hb lt) (zoU hl hb (by simpa using ht.2) h1)

theorem zpS {x : String × DataW Unit} {rest : List (String × DataW Unit)} {w : World} (h : laidMet P (x :: rest) w) : laidMet P rest w := by
 obtain ⟨ps,hl,hn,hc⟩ := h;obtain ⟨n,d⟩ := x;obtain ⟨g,t,cs,fuel,p,q,h1,h2,h3,h4,h5,rfl⟩ := hl;exact ⟨q,h5,(List.nodup_append.1 hn).2.1,fun b off hb => hc b off (List.mem_append_right _ hb)⟩
theorem zpT {C : Checked} {os : Os} {f : FuncId} {fn : Func} {s : OpenSpec} {k : (H : Type) → List (DataW H) → Bool} (hk : s.cond = some k) {conds : List PathCond} {apart : Bool} {X : World → Prop} (modest : Bool) (w0 : World) (args : Array Value) (fuel : Nat) (hos : w0.os = os)
  (hsh : (w0.forCall (fun _ _ => 0) ⟨#[],args,[]⟩).Shaped C.prog)
  (hok : Input.okWideB C.prog (w0.forCall (fun _ _ => 0) ⟨#[],args,[]⟩) f ⟨#[],args,[]⟩ = true)
  {x : List (DataW H) × List (DataW H) × List MemPlace} (hx : DataW.whole enc C.prog (w0.forCall (fun _ _ => 0) ⟨#[],args,[]⟩).memory fn.params.toList s.vars apart args.toList fuel = some x)
  (hconds : conds.all (PathCond.test C.prog ⟨fn.params.toList,x.1,s.bare.plain.varTypes C.prog,x.2.1⟩) = true) (hkk : k H (x.1 ++ x.2.1) = true)
  (hsz : s.bare.sizedB enc C.prog fn apart (w0.forCall (fun _ _ => 0) ⟨#[],args,[]⟩).memory args fuel = true)
  (hX : X (w0.forCall (fun _ _ => 0) ⟨#[],args,[]⟩).memory) :
  ∃ (w : World) (tape : Tape) (i : Input),w.os = os ∧ (w.forCall tape i).Shaped C.prog ∧ i.vars = [] ∧ Input.okWide C.prog (w.forCall tape i) .any w.heap.size f i ∧
   ((s.pre enc C.prog fn conds apart (w.forCall tape i).memory i.args ∧ X (w.forCall tape i).memory) ∧ sizedMet enc C.prog fn s apart (w.forCall tape i).memory i.args) ∧ ({ modest := modest } : Assume).holds C.prog (lone (Frame.enter C.prog f i.args .normal) [] (w.forCall tape i)) :=
 ⟨w0,fun _ _ => 0,⟨#[],args,[]⟩,hos,hsh,(Input.okWide_of_okWideB (base := 0) hok).1,(Input.okWide_of_okWideB hok).2,
  ⟨⟨(OpenSpec.pre_some hk conds apart _ _).2 ⟨x.1,x.2.1,x.2.2,DataW.Whole_of_whole hx,hconds,hkk⟩,hX⟩,sizedMet_of_sizedB hsz⟩,by
  simp only [Assume.holds]
  exact ⟨by simp,by simp,fun _ => Modest.zero,by simp,by simp⟩⟩
theorem zpU {a : Assume} {C : Checked} {os : Os} {f : FuncId} {fn : Func} {s : OpenSpec} {k : (H : Type) → List (DataW H) → Bool} (hk : s.cond = some k) {F : Stop.Interp} {conds : List PathCond} {apart fresh handsOn again : Bool} {X : World → Prop}
  (hX : ∀ (w : World) (tape : Tape) (i : Input),X (w.forCall tape i).memory → X (w.forCall tape i))
  (own : ownKnob C.prog.godebug = none) (started : os.Started) (noInit : C.prog.inits.idxOf? f = none) (hfn : C.prog.funcs[f]? = some fn)
  (witness : ∃ (w : World) (tape : Tape) (i : Input),w.os = os ∧ (w.forCall tape i).Shaped C.prog ∧ i.vars = [] ∧ Input.okWide C.prog (w.forCall tape i) .any w.heap.size f i ∧
   ((s.pre enc C.prog fn conds apart (w.forCall tape i).memory i.args ∧ X (w.forCall tape i).memory) ∧ sizedMet enc C.prog fn s apart (w.forCall tape i).memory i.args) ∧ a.holds C.prog (lone (Frame.enter C.prog f i.args .normal) [] (w.forCall tape i)))
  (contract : ∀ (W : World) (base : Nat) (args : Array Value) (ds gs : List (DataW H)) (before : List MemPlace),
   (∀ (j : Nat) t v,fn.params[j]? = some t → args[j]? = some v → Value.okWide C.prog W .any base t v) →
   DataW.Whole enc C.prog fn.params.toList s.vars apart W args.toList ds gs before → k H (ds ++ gs) = true → W.ShapedOpen C.prog → X W →
   Calls C.prog f args W fun e W' => ∃ v,e = .returned v ∧ (s.at F).post enc C.prog fn apart fresh handsOn again W args v W') :
  ReturnsInHanded a C os f .any (fun w args => (s.pre enc C.prog fn conds apart w args ∧ X w) ∧ sizedMet enc C.prog fn s apart w args) ((s.at F).post enc C.prog fn apart fresh handsOn again) := by
 refine returnsInHanded_of_calls own started noInit witness ?_;intro w tape i _ hsh _ hok hpre _;obtain ⟨_,_,_,fn',hfn',_,_,_,_,hval⟩ := hok;obtain rfl : fn' = fn := Option.some.inj (hfn'.symm.trans hfn);obtain ⟨ds,gs,before,hw,_,hkk⟩ := (OpenSpec.pre_some hk conds apart _ _).1 hpre.1.1;refine (contract (w.forCall tape i) w.heap.size i.args ds gs before hval (DataW.Whole.of_heap (w' := w.forCall tape i) (by rfl) hw) hkk hsh (hX _ _ _ hpre.1.2)).mono fun e W' ⟨v,he,hp⟩ => ?_;subst he;exact ChangeSpec.post_blind hp
end
end Go.Dk
end
section
set_option linter.unusedVariables false
set_option linter.unusedSimpArgs false
namespace Go.Proofs
open Go.Dk Go.Dm Go.RowKit

theorem zAG {P : Program} {w0 w : World} {n : String} {g : Nat} (hg : P.globalNamed n = some g) (h : w.heap[g]? = w0.heap[g]?) : w.var? P n = w0.var? P n := by
 unfold World.var?;rw [hg];simp only [Option.bind_some,h]
def zo (w : World) : Prop := 6 ≤ w.heap.size ∧ (∃ m,w.cell? ⟨0,0,none⟩ = some (.int .i64 m))
def zfF (F : List Nat) : Prop := ∀ b ∈ F,6 ≤ b
theorem zad : zfF [] := fun b hb => by cases hb
theorem zo.same {w0 w : World} (h : zo w0) (hs : w0.heap.size ≤ w.heap.size) (hf : ∀ g,g < 6 → w.heap[g]? = w0.heap[g]?) : zo w := by
 obtain ⟨h0,⟨m,hm0⟩⟩ := h;exact ⟨Nat.le_trans h0 hs,⟨m,(World.cell?_of_block (w := w0) (a := ⟨0,0,none⟩) (hf 0 (by omega))).trans hm0⟩⟩
theorem zo.low {w0 w : World} {B : Nat} (h : zo w0) (hB : 6 ≤ B) (hb : Below B w0 w) : zo w :=
 h.same hb.size fun g hg => hb.block g (by omega)
theorem zo.size {w : World} (h : zo w) : 6 ≤ w.heap.size := h.1
theorem zo.max {w : World} (h : zo w) : (∃ m,w.cell? ⟨0,0,none⟩ = some (.int .i64 m)) := h.2
theorem zo.own {w0 w : World} {F : List Nat} {L : List Res} (h : zo w0) (hF : zfF F) (hO : Own w0 F w L) : zo w :=
 h.same hO.size fun g hg => hO.frame g (by have := h.size; omega) (fun hm => absurd (hF g hm) (by omega))
theorem zo.o {w0 w : World} {L : List Res} (h : zo w0) (hO : Own w0 [] w L) : zo w := h.own zad hO
def za2 (w : World) : Prop := zo w ∧ Go.Lib.TabIs Tryz.prog w "internal/strconv.uint64pow10" .u64 Go.Lib.pow10Tab
theorem za2.same {w0 w : World} (h : za2 w0) (hs : w0.heap.size ≤ w.heap.size) (hf : ∀ g,g < 6 → w.heap[g]? = w0.heap[g]?) : za2 w := by
 obtain ⟨h,hp⟩ := h;exact ⟨h.same hs hf,by unfold Go.Lib.TabIs at hp ⊢; rw [← hp]; exact zAG (show Tryz.prog.globalNamed "internal/strconv.uint64pow10" = some 3 by kernel_rfl) (hf 3 (by omega))⟩
theorem za2.low {w0 w : World} {B : Nat} (h : za2 w0) (hB : 6 ≤ B) (hb : Below B w0 w) : za2 w :=
 h.same hb.size fun g hg => hb.block g (by omega)
theorem za2.size {w : World} (h : za2 w) : 6 ≤ w.heap.size := h.1.size
theorem za2.own {w0 w : World} {F : List Nat} {L : List Res} (h : za2 w0) (hF : zfF F) (hO : Own w0 F w L) : za2 w :=
 h.same hO.size fun g hg => hO.frame g (by have := h.size; omega) (fun hm => absurd (hF g hm) (by omega))
theorem za2.o {w0 w : World} {L : List Res} (h : za2 w0) (hO : Own w0 [] w L) : za2 w := h.own zad hO
def zcx (x : api_Attr) : List Value := [str x.Name,str x.Value, .bool x.Has]
def zb (x : api_Field) : List Value := [str x.Name,str x.Value]
def zi (x : UInt8) : List Value := [zao x]
def zmp (x : Int) : List Value := [int x]
def zd (x : Str) : List Value := [str x]
def zp : DE api_Message ((Option Addr × Nat) × (Option Addr × Nat)) := ⟨(.and (.row zb fun x => x.Head.Fields) (.row zb fun x => x.Trailers)),fun x a => [int x.Head.Kind,str x.Head.Method,str x.Head.Target,int x.Head.Code,str x.Head.Reason,int x.Head.Minor, .slice a.1.1 x.Head.Fields.length a.1.2,int x.Frame.Kind,int x.Frame.N,str x.Body, .slice a.2.1 x.Trailers.length a.2.2]⟩
def zO : DE (List api_Message) (((Option Addr × Nat) × List ((Option Addr × Nat) × (Option Addr × Nat)))) := ⟨(.deep zp fun x => x),fun x a => [.slice a.1.1 x.length a.1.2]⟩
def zt0 (x : api_Head) (p0 : Option Addr) (c0 : Nat) : List Value := [int x.Kind,str x.Method,str x.Target,int x.Code,str x.Reason,int x.Minor, .slice p0 x.Fields.length c0]
def zir (x : api_Head) (p0 : Option Addr) (c0 : Nat) : Value := .agg #[int x.Kind,str x.Method,str x.Target,int x.Code,str x.Reason,int x.Minor, .slice p0 x.Fields.length c0]
def zis : Value := .agg #[int 0,str [],str [],int 0,str [],int 0, .slice none 0 0]
def cT40 (x : api_Message) (p0 : Option Addr) (c0 : Nat) (p1 : Option Addr) (c1 : Nat) : List Value := [int x.Head.Kind,str x.Head.Method,str x.Head.Target,int x.Head.Code,str x.Head.Reason,int x.Head.Minor, .slice p0 x.Head.Fields.length c0,int x.Frame.Kind,int x.Frame.N,str x.Body, .slice p1 x.Trailers.length c1]
def znh (x : api_Message) (p0 : Option Addr) (c0 : Nat) (p1 : Option Addr) (c1 : Nat) : Value := .agg #[int x.Head.Kind,str x.Head.Method,str x.Head.Target,int x.Head.Code,str x.Head.Reason,int x.Head.Minor, .slice p0 x.Head.Fields.length c0,int x.Frame.Kind,int x.Frame.N,str x.Body, .slice p1 x.Trailers.length c1]
def zww : Value := .agg #[int 0,str [],str [],int 0,str [],int 0, .slice none 0 0,int 0,int 0,str [], .slice none 0 0]
def aT63 (x : ref22_Read) (p0 : Option Addr) (c0 : Nat) (p1 : Option Addr) (c1 : Nat) : Value := .agg #[int x.M.Head.Kind,str x.M.Head.Method,str x.M.Head.Target,int x.M.Head.Code,str x.M.Head.Reason,int x.M.Head.Minor, .slice p0 x.M.Head.Fields.length c0,int x.M.Frame.Kind,int x.M.Frame.N,str x.M.Body, .slice p1 x.M.Trailers.length c1,int x.N,int x.Err]
def cT86 (x : ref16_Fate) (p0 : Option Addr) (c0 : Nat) : List Value := [int x.At,int x.Err,int x.Head.Kind,str x.Head.Method,str x.Head.Target,int x.Head.Code,str x.Head.Reason,int x.Head.Minor, .slice p0 x.Head.Fields.length c0]
def aT86 (x : ref16_Fate) (p0 : Option Addr) (c0 : Nat) : Value := .agg #[int x.At,int x.Err,int x.Head.Kind,str x.Head.Method,str x.Head.Target,int x.Head.Code,str x.Head.Reason,int x.Head.Minor, .slice p0 x.Head.Fields.length c0]
def zT86 : Value := .agg #[int 0,int 0,int 0,str [],str [],int 0,str [],int 0, .slice none 0 0]
def cT89 (x : ref21_Fate) (p0 : Option Addr) (c0 : Nat) : List Value := [int x.At,int x.Err,str x.Body, .slice p0 x.Trailers.length c0,int x.Kept]
def aT89 (x : ref21_Fate) (p0 : Option Addr) (c0 : Nat) : Value := .agg #[int x.At,int x.Err,str x.Body, .slice p0 x.Trailers.length c0,int x.Kept]
def zT89 : Value := .agg #[int 0,int 0,str [], .slice none 0 0,int 0]
def zAI (x : ref19_Fate) (p0 : Option Addr) (c0 : Nat) : Value := .agg #[int x.At,int x.Err,str x.Body, .slice p0 x.Trailers.length c0,int x.Line]
def zli (x : accum_Accum) (p0 : Option Addr) (c0 : Nat) (p1 : Option Addr) (c1 : Nat) : List Value := [int x.f_kind,int x.f_limit, .slice p0 x.f_buf.length c0,int x.f_from, .bool x.f_took,int x.f_bad, .bool x.f_whole,int x.f_got.Kind,str x.f_got.Method,str x.f_got.Target,int x.f_got.Code,str x.f_got.Reason,int x.f_got.Minor, .slice p1 x.f_got.Fields.length c1]
def zwx (x : api_Target) : List Value := [int x.Kind,str x.Scheme,int x.Host.Kind,str x.Host.Name,int x.Host.Port,str x.Path,str x.Query, .bool x.HasQuery]
def zdY (x : api_Target) : Value := .agg #[int x.Kind,str x.Scheme,int x.Host.Kind,str x.Host.Name,int x.Host.Port,str x.Path,str x.Query, .bool x.HasQuery]
def zuJ : Value := .agg #[int 0,str [],int 0,str [],int 0,str [],str [], .bool false]
def zgm (x : dechunk_Decoder) (p0 : Option Addr) (c0 : Nat) (p1 : Option Addr) (c1 : Nat) : List Value := [int x.f_limit,int x.f_at, .slice p0 x.f_line.length c0,int x.f_left,int x.f_sum,int x.f_spent, .slice p1 x.f_trailers.length c1]
def FA (t i n : Nat) : Prop := ∀ b o w,(Instr.fieldAt t (ptr b o) i).run Tryz.prog w = .ok (ptr b (o + n)) w
theorem ykf {t i n : Nat} (h : FA t i n := by intro _ _ _; kernel_rfl) : FA t i n := h
theorem ag_101 : zeP Tryz.prog 101 = some false := by kernel_rfl
theorem zsE : zeP Tryz.prog 110 = some true := by kernel_rfl
theorem ag_112 : zeP Tryz.prog 112 = some false := by kernel_rfl
theorem ag_139 : zeP Tryz.prog 139 = some true := by kernel_rfl
theorem zAJ : zeP Tryz.prog 141 = some false := by kernel_rfl
theorem ag_146 : zeP Tryz.prog 146 = some false := by kernel_rfl
theorem ag_173 : zeP Tryz.prog 173 = some false := by kernel_rfl
theorem ag_175 : zeP Tryz.prog 175 = some true := by kernel_rfl
theorem ag_188 : zeP Tryz.prog 188 = some true := by kernel_rfl
theorem ag_192 : zeP Tryz.prog 192 = some true := by kernel_rfl
theorem ag_199 : zeP Tryz.prog 199 = some false := by kernel_rfl
theorem ag_211 : zeP Tryz.prog 211 = some false := by kernel_rfl
theorem ag_217 : zeP Tryz.prog 217 = some true := by kernel_rfl
theorem zAK : zeP Tryz.prog 23 = some false := by kernel_rfl
theorem ag_236 : zeP Tryz.prog 236 = some true := by kernel_rfl
theorem ag_24 : zeP Tryz.prog 24 = some false := by kernel_rfl
theorem ag_244 : zeP Tryz.prog 244 = some false := by kernel_rfl
theorem ag_247 : zeP Tryz.prog 247 = some true := by kernel_rfl
theorem ag_28 : zeP Tryz.prog 28 = some true := by kernel_rfl
theorem zkB : zeP Tryz.prog 3 = some false := by kernel_rfl
theorem ag_30 : zeP Tryz.prog 30 = some false := by kernel_rfl
theorem ag_32 : zeP Tryz.prog 32 = some false := by kernel_rfl
theorem ag_327 : zeP Tryz.prog 327 = some true := by kernel_rfl
theorem zAL : zeP Tryz.prog 33 = some false := by kernel_rfl
theorem ag_35 : zeP Tryz.prog 35 = some true := by kernel_rfl
theorem ag_36 : zeP Tryz.prog 36 = some false := by kernel_rfl
theorem zAM : zeP Tryz.prog 38 = some true := by kernel_rfl
theorem ag_4 : zeP Tryz.prog 4 = some false := by kernel_rfl
theorem zyD : zeP Tryz.prog 40 = some true := by kernel_rfl
theorem ag_5 : zeP Tryz.prog 5 = some false := by kernel_rfl
theorem ag_63 : zeP Tryz.prog 63 = some true := by kernel_rfl
theorem ag_86 : zeP Tryz.prog 86 = some true := by kernel_rfl
theorem ag_89 : zeP Tryz.prog 89 = some true := by kernel_rfl
theorem zdp : zeP Tryz.prog 9 = some false := by kernel_rfl
theorem znx : ∀ w,(Instr.alloc 110 true (.tuple #[])).run Tryz.prog w = .ok (ptr w.heap.size 0) (w.alloc (.cells [str [],str []].toArray 110)) := fun w => by kernel_rfl
theorem zvv : ∀ w,(Instr.alloc 139 true (.tuple #[])).run Tryz.prog w = .ok (ptr w.heap.size 0) (w.alloc (.cells [int 0,int 0,str [], .slice none 0 0,int 0].toArray 139)) := fun w => by kernel_rfl
theorem zit : ∀ w,(Instr.alloc 175 true (.tuple #[])).run Tryz.prog w = .ok (ptr w.heap.size 0) (w.alloc (.cells [int 0,str [],int 0].toArray 175)) := fun w => by kernel_rfl
theorem zja : ∀ w,(Instr.alloc 188 true (.tuple #[])).run Tryz.prog w = .ok (ptr w.heap.size 0) (w.alloc (.cells [int 0,str [],int 0,str [],int 0,str [],str [], .bool false].toArray 188)) := fun w => by kernel_rfl
theorem zxR : ∀ w,(Instr.alloc 192 true (.tuple #[])).run Tryz.prog w = .ok (ptr w.heap.size 0) (w.alloc (.cells [int 0,int 0,int 0].toArray 192)) := fun w => by kernel_rfl
theorem zAN : ∀ w,(Instr.alloc 217 true (.tuple #[])).run Tryz.prog w = .ok (ptr w.heap.size 0) (w.alloc (.cells [.pointer none,int 0].toArray 217)) := fun w => by kernel_rfl
theorem zxS : ∀ w,(Instr.alloc 236 true (.tuple #[])).run Tryz.prog w = .ok (ptr w.heap.size 0) (w.alloc (.cells [str [],str [], .bool false].toArray 236)) := fun w => by kernel_rfl
theorem zxT : ∀ w,(Instr.alloc 247 true (.tuple #[])).run Tryz.prog w = .ok (ptr w.heap.size 0) (w.alloc (.cells [.pointer none].toArray 247)) := fun w => by kernel_rfl
theorem zyE : ∀ w,(Instr.alloc 28 true (.tuple #[])).run Tryz.prog w = .ok (ptr w.heap.size 0) (w.alloc (.cells [.slice none 0 0,int 0,int 0].toArray 28)) := fun w => by kernel_rfl
theorem al_327 : ∀ w,(Instr.alloc 327 true (.tuple #[])).run Tryz.prog w = .ok (ptr w.heap.size 0) (w.alloc (.cells [.pointer none].toArray 327)) := fun w => by kernel_rfl
theorem zkb : ∀ w,(Instr.alloc 35 true (.tuple #[])).run Tryz.prog w = .ok (ptr w.heap.size 0) (w.alloc (.cells [int 0,str [],str [],int 0,str [],int 0, .slice none 0 0].toArray 35)) := fun w => by kernel_rfl
theorem zny : ∀ w,(Instr.alloc 38 true (.tuple #[])).run Tryz.prog w = .ok (ptr w.heap.size 0) (w.alloc (.cells [int 0,int 0].toArray 38)) := fun w => by kernel_rfl
theorem zrv : ∀ w,(Instr.alloc 40 true (.tuple #[])).run Tryz.prog w = .ok (ptr w.heap.size 0) (w.alloc (.cells [int 0,str [],str [],int 0,str [],int 0, .slice none 0 0,int 0,int 0,str [], .slice none 0 0].toArray 40)) := fun w => by kernel_rfl
theorem al_63 : ∀ w,(Instr.alloc 63 true (.tuple #[])).run Tryz.prog w = .ok (ptr w.heap.size 0) (w.alloc (.cells [int 0,str [],str [],int 0,str [],int 0, .slice none 0 0,int 0,int 0,str [], .slice none 0 0,int 0,int 0].toArray 63)) := fun w => by kernel_rfl
theorem al_86 : ∀ w,(Instr.alloc 86 true (.tuple #[])).run Tryz.prog w = .ok (ptr w.heap.size 0) (w.alloc (.cells [int 0,int 0,int 0,str [],str [],int 0,str [],int 0, .slice none 0 0].toArray 86)) := fun w => by kernel_rfl
theorem zAO : ∀ w,(Instr.alloc 89 true (.tuple #[])).run Tryz.prog w = .ok (ptr w.heap.size 0) (w.alloc (.cells [int 0,int 0,str [], .slice none 0 0,int 0].toArray 89)) := fun w => by kernel_rfl
theorem zC4 : (Tryz.prog.info? 5).map (fun i => (i.zero,i.size,i.bytes)) = some (some (.int .u8 0),1,1) := by kernel_rfl
theorem zAP : ElemB Tryz.prog 141 9 5 := ⟨Tryz.underlying141,Tryz.underlying9,by obtain ⟨i,h0,h1,h2,h3⟩ := info_parts zC4; exact ⟨i,h0,h1,h2,h3⟩⟩
theorem ei_141 : (Tryz.prog.info? 5).map (fun i => (i.zero,i.size,i.bytes)) = some (some (zao 0),1,1) := by kernel_rfl
theorem zxU : Elem Tryz.prog 141 5 1 1 := ⟨Tryz.underlying141,by obtain ⟨i,h0,h1,h2,h3⟩ := info_parts ei_141; exact ⟨i,_,h0,h1,h2,h3,rfl⟩,by decide⟩
theorem ei_180 : (Tryz.prog.info? 3).map (fun i => (i.zero,i.size,i.bytes)) = some (some (int 0),1,8) := by kernel_rfl
theorem el_180 : Elem Tryz.prog 180 3 1 8 := ⟨Tryz.underlying180,by obtain ⟨i,h0,h1,h2,h3⟩ := info_parts ei_180; exact ⟨i,_,h0,h1,h2,h3,rfl⟩,by decide⟩
theorem ei_194 : (Tryz.prog.info? 236).map (fun i => (i.zero,i.size,i.bytes)) = some (some (.agg #[str [],str [], .bool false]),3,40) := by kernel_rfl
theorem zAQ : Elem Tryz.prog 194 236 3 40 := ⟨Tryz.underlying194,by obtain ⟨i,h0,h1,h2,h3⟩ := info_parts ei_194; exact ⟨i,_,h0,h1,h2,h3,rfl⟩,by decide⟩
theorem ei_23 : (Tryz.prog.info? 40).map (fun i => (i.zero,i.size,i.bytes)) = some (some (.agg #[int 0,str [],str [],int 0,str [],int 0, .slice none 0 0,int 0,int 0,str [], .slice none 0 0]),11,152) := by kernel_rfl
theorem zAR : Elem Tryz.prog 23 40 11 152 := ⟨Tryz.underlying23,by obtain ⟨i,h0,h1,h2,h3⟩ := info_parts ei_23; exact ⟨i,_,h0,h1,h2,h3,rfl⟩,by decide⟩
theorem ei_30 : (Tryz.prog.info? 9).map (fun i => (i.zero,i.size,i.bytes)) = some (some (str []),1,16) := by kernel_rfl
theorem znz : Elem Tryz.prog 30 9 1 16 := ⟨Tryz.underlying30,by obtain ⟨i,h0,h1,h2,h3⟩ := info_parts ei_30; exact ⟨i,_,h0,h1,h2,h3,rfl⟩,by decide⟩
theorem ei_33 : (Tryz.prog.info? 110).map (fun i => (i.zero,i.size,i.bytes)) = some (some (.agg #[str [],str []]),2,32) := by kernel_rfl
theorem zsF : Elem Tryz.prog 33 110 2 32 := ⟨Tryz.underlying33,by obtain ⟨i,h0,h1,h2,h3⟩ := info_parts ei_33; exact ⟨i,_,h0,h1,h2,h3,rfl⟩,by decide⟩
theorem ei_43 : (Tryz.prog.info? 23).map (fun i => (i.zero,i.size,i.bytes)) = some (some (.slice none 0 0),1,24) := by kernel_rfl
theorem el_43 : Elem Tryz.prog 43 23 1 24 := ⟨Tryz.underlying43,by obtain ⟨i,h0,h1,h2,h3⟩ := info_parts ei_43; exact ⟨i,_,h0,h1,h2,h3,rfl⟩,by decide⟩
theorem zC5 (d : Nat) (x y : api_Field) (w : World) : (Op.equalIn (d + 2) 110 (.agg #[str x.Name,str x.Value]) (.agg #[str y.Name,str y.Value])).run Tryz.prog w = .ok (x == y) w := by
 obtain ⟨x0,x1⟩ := x;obtain ⟨y0,y1⟩ := y;show (Op.equalIn (d + 1 + 1) 110 _ _).run _ _ = _;rw [run_equalIn_struct w (d + 1) 110 _ _ (by kernel_rfl) (by kernel_rfl)]
 have e : ((⟨x0,x1⟩ : api_Field) == ⟨y0,y1⟩) = decide (x0 = y0 ∧ x1 = y1) := by
  show decide (_ = _) = _;exact decide_eq_decide.2 (by simp)
 rw [e];simp only [Program.fieldsOf,Tryz.underlying110,Op.eqFields];simp [part,Tryz.isAgg9,Tryz.underlying9,run_equalIn_string,run_equalIn_bool',run_equalIn_int,zpp,Result.andThen,zsf]
 by_cases h0 : x0 = y0 <;> by_cases h1 : x1 = y1 <;> simp [h0,h1]
theorem eq_110 (x y : api_Field) (w : World) : (Op.equalIn 10000 110 (.agg #[str x.Name,str x.Value]) (.agg #[str y.Name,str y.Value])).run Tryz.prog w = .ok (x == y) w := zC5 9998 x y w
theorem eqd_38 (d : Nat) (x y : api_Frame) (w : World) : (Op.equalIn (d + 2) 38 (.agg #[int x.Kind,int x.N]) (.agg #[int y.Kind,int y.N])).run Tryz.prog w = .ok (x == y) w := by
 obtain ⟨x0,x1⟩ := x;obtain ⟨y0,y1⟩ := y;show (Op.equalIn (d + 1 + 1) 38 _ _).run _ _ = _;rw [run_equalIn_struct w (d + 1) 38 _ _ (by kernel_rfl) (by kernel_rfl)]
 have e : ((⟨x0,x1⟩ : api_Frame) == ⟨y0,y1⟩) = decide (x0 = y0 ∧ x1 = y1) := by
  show decide (_ = _) = _;exact decide_eq_decide.2 (by simp)
 rw [e];simp only [Program.fieldsOf,Tryz.underlying38,Op.eqFields];simp [part,Tryz.isAgg3,Tryz.underlying3,Tryz.isAgg36,Tryz.underlying36,run_equalIn_string,run_equalIn_bool',run_equalIn_int,zpp,Result.andThen,zsf]
 by_cases h0 : x0 = y0 <;> by_cases h1 : x1 = y1 <;> simp [h0,h1]
theorem eq_38 (x y : api_Frame) (w : World) : (Op.equalIn 10000 38 (.agg #[int x.Kind,int x.N]) (.agg #[int y.Kind,int y.N])).run Tryz.prog w = .ok (x == y) w := eqd_38 9998 x y w
theorem zAS : FA 103 0 0 := ykf
theorem zAT : FA 103 1 1 := ykf
theorem zAU : FA 110 0 0 := ykf
theorem zAV : FA 110 1 1 := ykf
theorem zAW : FA 115 0 0 := ykf
theorem zAX : FA 115 1 1 := ykf
theorem zAY : FA 139 0 0 := ykf
theorem zAZ : FA 139 1 1 := ykf
theorem zA0 : FA 139 2 2 := ykf
theorem zA1 : FA 139 3 3 := ykf
theorem zA2 : FA 139 4 4 := ykf
theorem zA3 : FA 143 0 0 := ykf
theorem zA4 : FA 143 1 1 := ykf
theorem zA5 : FA 143 2 2 := ykf
theorem zA6 : FA 143 3 3 := ykf
theorem zA7 : FA 143 4 4 := ykf
theorem zA8 : FA 143 5 5 := ykf
theorem zA9 : FA 143 6 6 := ykf
theorem zBa : FA 143 7 7 := ykf
theorem zBb : FA 150 0 0 := ykf
theorem zBc : FA 150 1 1 := ykf
theorem zBd : FA 150 2 3 := ykf
theorem zBe : FA 150 3 4 := ykf
theorem zBf : FA 150 4 5 := ykf
theorem zBg : FA 156 0 0 := ykf
theorem zBh : FA 156 1 1 := ykf
theorem zBi : FA 162 0 0 := ykf
theorem zBj : FA 162 1 1 := ykf
theorem zBk : FA 162 2 2 := ykf
theorem zBl : FA 175 0 0 := ykf
theorem zBm : FA 175 1 1 := ykf
theorem zBn : FA 175 2 2 := ykf
theorem zBo : FA 188 1 1 := ykf
theorem zBp : FA 188 2 2 := ykf
theorem zBq : FA 188 3 5 := ykf
theorem zBr : FA 188 4 6 := ykf
theorem zBs : FA 188 5 7 := ykf
theorem zBt : FA 192 0 0 := ykf
theorem zBu : FA 192 1 1 := ykf
theorem zBv : FA 192 2 2 := ykf
theorem zBw : FA 201 0 0 := ykf
theorem zBx : FA 201 1 1 := ykf
theorem zBy : FA 201 2 2 := ykf
theorem zBz : FA 201 3 3 := ykf
theorem zBA : FA 201 4 4 := ykf
theorem zBB : FA 201 5 5 := ykf
theorem zBC : FA 201 6 6 := ykf
theorem zBD : FA 217 0 0 := ykf
theorem zBE : FA 217 1 1 := ykf
theorem zBF : FA 236 1 1 := ykf
theorem zBG : FA 236 2 2 := ykf
theorem zBH : FA 247 0 0 := ykf
theorem zBI : FA 263 0 0 := ykf
theorem zBJ : FA 277 0 0 := ykf
theorem zBK : FA 277 1 1 := ykf
theorem zC6 : FA 28 0 0 := ykf
theorem zC7 : FA 28 1 1 := ykf
theorem zC8 : FA 28 2 2 := ykf
theorem zBL : FA 285 0 0 := ykf
theorem zBM : FA 285 1 1 := ykf
theorem zBN : FA 285 2 2 := ykf
theorem zBO : FA 285 3 3 := ykf
theorem zBP : FA 324 0 0 := ykf
theorem zBQ : FA 324 1 1 := ykf
theorem zBR : FA 327 0 0 := ykf
theorem zC9 : FA 35 0 0 := ykf
theorem zDa : FA 35 1 1 := ykf
theorem zDb : FA 35 2 2 := ykf
theorem zDc : FA 35 3 3 := ykf
theorem zDd : FA 35 4 4 := ykf
theorem zyF : FA 35 5 5 := ykf
theorem zyG : FA 35 6 6 := ykf
theorem zDe : FA 38 0 0 := ykf
theorem zDf : FA 38 1 1 := ykf
theorem zDg : FA 40 0 0 := ykf
theorem zDh : FA 40 1 7 := ykf
theorem zDi : FA 40 2 9 := ykf
theorem zDj : FA 40 3 10 := ykf
theorem zyH : FA 59 0 0 := ykf
theorem zyI : FA 59 1 1 := ykf
theorem zyJ : FA 59 2 2 := ykf
theorem zyK : FA 59 3 3 := ykf
theorem zDk : FA 63 0 0 := ykf
theorem zDl : FA 63 1 11 := ykf
theorem zDm : FA 63 2 12 := ykf
theorem zyL : FA 86 0 0 := ykf
theorem zDn : FA 86 1 1 := ykf
theorem zDo : FA 86 2 2 := ykf
theorem zDp : FA 89 0 0 := ykf
theorem zDq : FA 89 1 1 := ykf
theorem zDr : FA 89 2 2 := ykf
theorem zDs : FA 89 3 3 := ykf
theorem sz_101 : za3 Tryz.prog 101 = some 1 := by kernel_rfl
theorem zlA : za3 Tryz.prog 110 = some 2 := by kernel_rfl
theorem sz_139 : za3 Tryz.prog 139 = some 5 := by kernel_rfl
theorem sz_141 : za3 Tryz.prog 141 = some 1 := by kernel_rfl
theorem sz_146 : za3 Tryz.prog 146 = some 1 := by kernel_rfl
theorem zBS : za3 Tryz.prog 173 = some 1 := by kernel_rfl
theorem zBT : za3 Tryz.prog 175 = some 3 := by kernel_rfl
theorem zq0 : za3 Tryz.prog 188 = some 8 := by kernel_rfl
theorem sz_192 : za3 Tryz.prog 192 = some 3 := by kernel_rfl
theorem sz_199 : za3 Tryz.prog 199 = some 1 := by kernel_rfl
theorem zBU : za3 Tryz.prog 217 = some 2 := by kernel_rfl
theorem sz_23 : za3 Tryz.prog 23 = some 1 := by kernel_rfl
theorem sz_236 : za3 Tryz.prog 236 = some 3 := by kernel_rfl
theorem sz_24 : za3 Tryz.prog 24 = some 1 := by kernel_rfl
theorem sz_247 : za3 Tryz.prog 247 = some 1 := by kernel_rfl
theorem sz_28 : za3 Tryz.prog 28 = some 3 := by kernel_rfl
theorem sz_3 : za3 Tryz.prog 3 = some 1 := by kernel_rfl
theorem sz_30 : za3 Tryz.prog 30 = some 1 := by kernel_rfl
theorem sz_327 : za3 Tryz.prog 327 = some 1 := by kernel_rfl
theorem sz_33 : za3 Tryz.prog 33 = some 1 := by kernel_rfl
theorem zBV : za3 Tryz.prog 35 = some 7 := by kernel_rfl
theorem zBW : za3 Tryz.prog 38 = some 2 := by kernel_rfl
theorem sz_4 : za3 Tryz.prog 4 = some 1 := by kernel_rfl
theorem zrw : za3 Tryz.prog 40 = some 11 := by kernel_rfl
theorem sz_5 : za3 Tryz.prog 5 = some 1 := by kernel_rfl
theorem sz_63 : za3 Tryz.prog 63 = some 13 := by kernel_rfl
theorem sz_86 : za3 Tryz.prog 86 = some 9 := by kernel_rfl
theorem zBX : za3 Tryz.prog 89 = some 5 := by kernel_rfl
theorem zex : za3 Tryz.prog 9 = some 1 := by kernel_rfl
def tb : Tab := ⟨[(9, .string),(23, .slice 40),(30, .slice 9),(33, .slice 110),(43, .slice 23),(141, .slice 5),(180, .slice 3)],[(28,0,0),(28,1,1),(28,2,2),(35,0,0),(35,1,1),(35,2,2),(35,3,3),(35,4,4),(35,5,5),(35,6,6),(38,0,0),(38,1,1),(40,0,0),(40,1,7),(40,2,9),(40,3,10),(59,0,0),(59,1,1),(59,2,2),(59,3,3),(63,0,0),(63,1,11),(63,2,12),(86,0,0),(86,1,1),(86,2,2),(89,0,0),(89,1,1),(89,2,2),(89,3,3),(103,0,0),(103,1,1),(110,0,0),(110,1,1),(115,0,0),(115,1,1),(139,0,0),(139,1,1),(139,2,2),(139,3,3),(139,4,4),(143,0,0),(143,1,1),(143,2,2),(143,3,3),(143,4,4),(143,5,5),(143,6,6),(143,7,7),(150,0,0),(150,1,1),(150,2,3),(150,3,4),(150,4,5),(156,0,0),(156,1,1),(162,0,0),(162,1,1),(162,2,2),(175,0,0),(175,1,1),(175,2,2),(188,1,1),(188,2,2),(188,3,5),(188,4,6),(188,5,7),(192,0,0),(192,1,1),(192,2,2),(201,0,0),(201,1,1),(201,2,2),(201,3,3),(201,4,4),(201,5,5),(201,6,6),(217,0,0),(217,1,1),(236,1,1),(236,2,2),(247,0,0),(263,0,0),(277,0,0),(277,1,1),(285,0,0),(285,1,1),(285,2,2),(285,3,3),(324,0,0),(324,1,1),(327,0,0)],[(3,false),(4,false),(9,false),(23,false),(24,false),(28,true),(30,false),(32,false),(33,false),(35,true),(36,false),(38,true),(40,true),(63,true),(86,true),(89,true),(101,false),(110,true),(112,false),(139,true),(141,false),(146,false),(173,false),(175,true),(188,true),(192,true),(199,false),(211,false),(217,true),(236,true),(244,false),(247,true),(327,true)],[(3,1),(4,1),(9,1),(23,1),(24,1),(28,3),(30,1),(33,1),(35,7),(38,2),(40,11),(63,13),(86,9),(89,5),(101,1),(110,2),(139,5),(141,1),(146,1),(173,1),(175,3),(188,8),(192,3),(199,1),(217,2),(236,3),(247,1),(327,1)]⟩
instance : TabOk Tryz.prog tb := ⟨znS ⟨Tryz.underlying9,⟨Tryz.underlying23,⟨Tryz.underlying30,⟨Tryz.underlying33,⟨Tryz.underlying43,⟨Tryz.underlying141,⟨Tryz.underlying180,trivial⟩⟩⟩⟩⟩⟩⟩,znS ⟨zC6,⟨zC7,⟨zC8,⟨zC9,⟨zDa,⟨zDb,⟨zDc,⟨zDd,⟨zyF,⟨zyG,⟨zDe,⟨zDf,⟨zDg,⟨zDh,⟨zDi,⟨zDj,⟨zyH,⟨zyI,⟨zyJ,⟨zyK,⟨zDk,⟨zDl,⟨zDm,⟨zyL,⟨zDn,⟨zDo,⟨zDp,⟨zDq,⟨zDr,⟨zDs,⟨zAS,⟨zAT,⟨zAU,⟨zAV,⟨zAW,⟨zAX,⟨zAY,⟨zAZ,⟨zA0,⟨zA1,⟨zA2,⟨zA3,⟨zA4,⟨zA5,⟨zA6,⟨zA7,⟨zA8,⟨zA9,⟨zBa,⟨zBb,⟨zBc,⟨zBd,⟨zBe,⟨zBf,⟨zBg,⟨zBh,⟨zBi,⟨zBj,⟨zBk,⟨zBl,⟨zBm,⟨zBn,⟨zBo,⟨zBp,⟨zBq,⟨zBr,⟨zBs,⟨zBt,⟨zBu,⟨zBv,⟨zBw,⟨zBx,⟨zBy,⟨zBz,⟨zBA,⟨zBB,⟨zBC,⟨zBD,⟨zBE,⟨zBF,⟨zBG,⟨zBH,⟨zBI,⟨zBJ,⟨zBK,⟨zBL,⟨zBM,⟨zBN,⟨zBO,⟨zBP,⟨zBQ,⟨zBR,trivial⟩⟩⟩⟩⟩⟩⟩⟩⟩⟩⟩⟩⟩⟩⟩⟩⟩⟩⟩⟩⟩⟩⟩⟩⟩⟩⟩⟩⟩⟩⟩⟩⟩⟩⟩⟩⟩⟩⟩⟩⟩⟩⟩⟩⟩⟩⟩⟩⟩⟩⟩⟩⟩⟩⟩⟩⟩⟩⟩⟩⟩⟩⟩⟩⟩⟩⟩⟩⟩⟩⟩⟩⟩⟩⟩⟩⟩⟩⟩⟩⟩⟩⟩⟩⟩⟩⟩⟩⟩⟩⟩⟩,znS ⟨zkB,⟨ag_4,⟨zdp,⟨zAK,⟨ag_24,⟨ag_28,⟨ag_30,⟨ag_32,⟨zAL,⟨ag_35,⟨ag_36,⟨zAM,⟨zyD,⟨ag_63,⟨ag_86,⟨ag_89,⟨ag_101,⟨zsE,⟨ag_112,⟨ag_139,⟨zAJ,⟨ag_146,⟨ag_173,⟨ag_175,⟨ag_188,⟨ag_192,⟨ag_199,⟨ag_211,⟨ag_217,⟨ag_236,⟨ag_244,⟨ag_247,⟨ag_327,trivial⟩⟩⟩⟩⟩⟩⟩⟩⟩⟩⟩⟩⟩⟩⟩⟩⟩⟩⟩⟩⟩⟩⟩⟩⟩⟩⟩⟩⟩⟩⟩⟩⟩,znS ⟨sz_3,⟨sz_4,⟨zex,⟨sz_23,⟨sz_24,⟨sz_28,⟨sz_30,⟨sz_33,⟨zBV,⟨zBW,⟨zrw,⟨sz_63,⟨sz_86,⟨zBX,⟨sz_101,⟨zlA,⟨sz_139,⟨sz_141,⟨sz_146,⟨zBS,⟨zBT,⟨zq0,⟨sz_192,⟨sz_199,⟨zBU,⟨sz_236,⟨sz_247,⟨sz_327,trivial⟩⟩⟩⟩⟩⟩⟩⟩⟩⟩⟩⟩⟩⟩⟩⟩⟩⟩⟩⟩⟩⟩⟩⟩⟩⟩⟩⟩⟩
theorem c_6 : zc Tryz.prog 6 := ⟨Tryz.f6,Tryz.func6,rfl,by kernel_rfl⟩
theorem c_7 : zc Tryz.prog 7 := ⟨Tryz.f7,Tryz.func7,rfl,by kernel_rfl⟩
theorem c_9 : zc Tryz.prog 9 := ⟨Tryz.f9,Tryz.func9,rfl,by kernel_rfl⟩
theorem c_10 : zc Tryz.prog 10 := ⟨Tryz.f10,Tryz.func10,rfl,by kernel_rfl⟩
theorem c_11 : zc Tryz.prog 11 := ⟨Tryz.f11,Tryz.func11,rfl,by kernel_rfl⟩
theorem c_12 : zc Tryz.prog 12 := ⟨Tryz.f12,Tryz.func12,rfl,by kernel_rfl⟩
theorem c_19 : zc Tryz.prog 19 := ⟨Tryz.f19,Tryz.func19,rfl,by kernel_rfl⟩
theorem c_20 : zc Tryz.prog 20 := ⟨Tryz.f20,Tryz.func20,rfl,by kernel_rfl⟩
theorem c_21 : zc Tryz.prog 21 := ⟨Tryz.f21,Tryz.func21,rfl,by kernel_rfl⟩
theorem c_22 : zc Tryz.prog 22 := ⟨Tryz.f22,Tryz.func22,rfl,by kernel_rfl⟩
theorem c_23 : zc Tryz.prog 23 := ⟨Tryz.f23,Tryz.func23,rfl,by kernel_rfl⟩
theorem c_31 : zc Tryz.prog 31 := ⟨Tryz.f31,Tryz.func31,rfl,by kernel_rfl⟩
theorem c_35 : zc Tryz.prog 35 := ⟨Tryz.f35,Tryz.func35,rfl,by kernel_rfl⟩
theorem c_37 : zc Tryz.prog 37 := ⟨Tryz.f37,Tryz.func37,rfl,by kernel_rfl⟩
theorem c_38 : zc Tryz.prog 38 := ⟨Tryz.f38,Tryz.func38,rfl,by kernel_rfl⟩
theorem c_39 : zc Tryz.prog 39 := ⟨Tryz.f39,Tryz.func39,rfl,by kernel_rfl⟩
theorem c_40 : zc Tryz.prog 40 := ⟨Tryz.f40,Tryz.func40,rfl,by kernel_rfl⟩
theorem c_41 : zc Tryz.prog 41 := ⟨Tryz.f41,Tryz.func41,rfl,by kernel_rfl⟩
theorem c_42 : zc Tryz.prog 42 := ⟨Tryz.f42,Tryz.func42,rfl,by kernel_rfl⟩
theorem c_43 : zc Tryz.prog 43 := ⟨Tryz.f43,Tryz.func43,rfl,by kernel_rfl⟩
theorem c_44 : zc Tryz.prog 44 := ⟨Tryz.f44,Tryz.func44,rfl,by kernel_rfl⟩
theorem c_45 : zc Tryz.prog 45 := ⟨Tryz.f45,Tryz.func45,rfl,by kernel_rfl⟩
theorem c_60 : zc Tryz.prog 60 := ⟨Tryz.f60,Tryz.func60,rfl,by kernel_rfl⟩
theorem c_61 : zc Tryz.prog 61 := ⟨Tryz.f61,Tryz.func61,rfl,by kernel_rfl⟩
theorem c_62 : zc Tryz.prog 62 := ⟨Tryz.f62,Tryz.func62,rfl,by kernel_rfl⟩
theorem c_65 : zc Tryz.prog 65 := ⟨Tryz.f65,Tryz.func65,rfl,by kernel_rfl⟩
theorem c_66 : zc Tryz.prog 66 := ⟨Tryz.f66,Tryz.func66,rfl,by kernel_rfl⟩
theorem c_67 : zc Tryz.prog 67 := ⟨Tryz.f67,Tryz.func67,rfl,by kernel_rfl⟩
theorem c_68 : zc Tryz.prog 68 := ⟨Tryz.f68,Tryz.func68,rfl,by kernel_rfl⟩
theorem c_69 : zc Tryz.prog 69 := ⟨Tryz.f69,Tryz.func69,rfl,by kernel_rfl⟩
theorem c_70 : zc Tryz.prog 70 := ⟨Tryz.f70,Tryz.func70,rfl,by kernel_rfl⟩
theorem c_71 : zc Tryz.prog 71 := ⟨Tryz.f71,Tryz.func71,rfl,by kernel_rfl⟩
theorem c_72 : zc Tryz.prog 72 := ⟨Tryz.f72,Tryz.func72,rfl,by kernel_rfl⟩
theorem c_73 : zc Tryz.prog 73 := ⟨Tryz.f73,Tryz.func73,rfl,by kernel_rfl⟩
theorem c_74 : zc Tryz.prog 74 := ⟨Tryz.f74,Tryz.func74,rfl,by kernel_rfl⟩
theorem c_75 : zc Tryz.prog 75 := ⟨Tryz.f75,Tryz.func75,rfl,by kernel_rfl⟩
theorem c_76 : zc Tryz.prog 76 := ⟨Tryz.f76,Tryz.func76,rfl,by kernel_rfl⟩
theorem c_77 : zc Tryz.prog 77 := ⟨Tryz.f77,Tryz.func77,rfl,by kernel_rfl⟩
theorem c_78 : zc Tryz.prog 78 := ⟨Tryz.f78,Tryz.func78,rfl,by kernel_rfl⟩
theorem c_79 : zc Tryz.prog 79 := ⟨Tryz.f79,Tryz.func79,rfl,by kernel_rfl⟩
theorem c_80 : zc Tryz.prog 80 := ⟨Tryz.f80,Tryz.func80,rfl,by kernel_rfl⟩
theorem c_84 : zc Tryz.prog 84 := ⟨Tryz.f84,Tryz.func84,rfl,by kernel_rfl⟩
theorem c_85 : zc Tryz.prog 85 := ⟨Tryz.f85,Tryz.func85,rfl,by kernel_rfl⟩
theorem zxV : zc Tryz.prog 86 := ⟨Tryz.f86,Tryz.func86,rfl,by kernel_rfl⟩
theorem c_87 : zc Tryz.prog 87 := ⟨Tryz.f87,Tryz.func87,rfl,by kernel_rfl⟩
theorem c_88 : zc Tryz.prog 88 := ⟨Tryz.f88,Tryz.func88,rfl,by kernel_rfl⟩
theorem c_89 : zc Tryz.prog 89 := ⟨Tryz.f89,Tryz.func89,rfl,by kernel_rfl⟩
theorem c_90 : zc Tryz.prog 90 := ⟨Tryz.f90,Tryz.func90,rfl,by kernel_rfl⟩
theorem c_91 : zc Tryz.prog 91 := ⟨Tryz.f91,Tryz.func91,rfl,by kernel_rfl⟩
theorem c_93 : zc Tryz.prog 93 := ⟨Tryz.f93,Tryz.func93,rfl,by kernel_rfl⟩
theorem c_94 : zc Tryz.prog 94 := ⟨Tryz.f94,Tryz.func94,rfl,by kernel_rfl⟩
theorem c_95 : zc Tryz.prog 95 := ⟨Tryz.f95,Tryz.func95,rfl,by kernel_rfl⟩
theorem c_96 : zc Tryz.prog 96 := ⟨Tryz.f96,Tryz.func96,rfl,by kernel_rfl⟩
theorem c_97 : zc Tryz.prog 97 := ⟨Tryz.f97,Tryz.func97,rfl,by kernel_rfl⟩
theorem c_98 : zc Tryz.prog 98 := ⟨Tryz.f98,Tryz.func98,rfl,by kernel_rfl⟩
theorem c_99 : zc Tryz.prog 99 := ⟨Tryz.f99,Tryz.func99,rfl,by kernel_rfl⟩
theorem c_100 : zc Tryz.prog 100 := ⟨Tryz.f100,Tryz.func100,rfl,by kernel_rfl⟩
theorem zyM : zc Tryz.prog 101 := ⟨Tryz.f101,Tryz.func101,rfl,by kernel_rfl⟩
theorem zBY : zc Tryz.prog 102 := ⟨Tryz.f102,Tryz.func102,rfl,by kernel_rfl⟩
theorem c_103 : zc Tryz.prog 103 := ⟨Tryz.f103,Tryz.func103,rfl,by kernel_rfl⟩
theorem c_104 : zc Tryz.prog 104 := ⟨Tryz.f104,Tryz.func104,rfl,by kernel_rfl⟩
theorem zBZ : zc Tryz.prog 105 := ⟨Tryz.f105,Tryz.func105,rfl,by kernel_rfl⟩
theorem zB0 : zc Tryz.prog 106 := ⟨Tryz.f106,Tryz.func106,rfl,by kernel_rfl⟩
theorem c_107 : zc Tryz.prog 107 := ⟨Tryz.f107,Tryz.func107,rfl,by kernel_rfl⟩
theorem c_108 : zc Tryz.prog 108 := ⟨Tryz.f108,Tryz.func108,rfl,by kernel_rfl⟩
theorem c_109 : zc Tryz.prog 109 := ⟨Tryz.f109,Tryz.func109,rfl,by kernel_rfl⟩
theorem c_110 : zc Tryz.prog 110 := ⟨Tryz.f110,Tryz.func110,rfl,by kernel_rfl⟩
theorem c_111 : zc Tryz.prog 111 := ⟨Tryz.f111,Tryz.func111,rfl,by kernel_rfl⟩
theorem c_112 : zc Tryz.prog 112 := ⟨Tryz.f112,Tryz.func112,rfl,by kernel_rfl⟩
theorem c_113 : zc Tryz.prog 113 := ⟨Tryz.f113,Tryz.func113,rfl,by kernel_rfl⟩
theorem c_114 : zc Tryz.prog 114 := ⟨Tryz.f114,Tryz.func114,rfl,by kernel_rfl⟩
theorem c_115 : zc Tryz.prog 115 := ⟨Tryz.f115,Tryz.func115,rfl,by kernel_rfl⟩
theorem c_116 : zc Tryz.prog 116 := ⟨Tryz.f116,Tryz.func116,rfl,by kernel_rfl⟩
theorem c_117 : zc Tryz.prog 117 := ⟨Tryz.f117,Tryz.func117,rfl,by kernel_rfl⟩
theorem c_118 : zc Tryz.prog 118 := ⟨Tryz.f118,Tryz.func118,rfl,by kernel_rfl⟩
theorem zyN : zc Tryz.prog 121 := ⟨Tryz.f121,Tryz.func121,rfl,by kernel_rfl⟩
theorem c_122 : zc Tryz.prog 122 := ⟨Tryz.f122,Tryz.func122,rfl,by kernel_rfl⟩
theorem c_123 : zc Tryz.prog 123 := ⟨Tryz.f123,Tryz.func123,rfl,by kernel_rfl⟩
theorem c_124 : zc Tryz.prog 124 := ⟨Tryz.f124,Tryz.func124,rfl,by kernel_rfl⟩
theorem c_132 : zc Tryz.prog 132 := ⟨Tryz.f132,Tryz.func132,rfl,by kernel_rfl⟩
theorem zB1 : zc Tryz.prog 133 := ⟨Tryz.f133,Tryz.func133,rfl,by kernel_rfl⟩
theorem zB2 : zc Tryz.prog 134 := ⟨Tryz.f134,Tryz.func134,rfl,by kernel_rfl⟩
theorem c_135 : zc Tryz.prog 135 := ⟨Tryz.f135,Tryz.func135,rfl,by kernel_rfl⟩
theorem c_136 : zc Tryz.prog 136 := ⟨Tryz.f136,Tryz.func136,rfl,by kernel_rfl⟩
theorem zB3 : zc Tryz.prog 140 := ⟨Tryz.f140,Tryz.func140,rfl,by kernel_rfl⟩
theorem c_141 : zc Tryz.prog 141 := ⟨Tryz.f141,Tryz.func141,rfl,by kernel_rfl⟩
theorem c_142 : zc Tryz.prog 142 := ⟨Tryz.f142,Tryz.func142,rfl,by kernel_rfl⟩
theorem c_143 : zc Tryz.prog 143 := ⟨Tryz.f143,Tryz.func143,rfl,by kernel_rfl⟩
theorem c_144 : zc Tryz.prog 144 := ⟨Tryz.f144,Tryz.func144,rfl,by kernel_rfl⟩
theorem c_145 : zc Tryz.prog 145 := ⟨Tryz.f145,Tryz.func145,rfl,by kernel_rfl⟩
theorem c_146 : zc Tryz.prog 146 := ⟨Tryz.f146,Tryz.func146,rfl,by kernel_rfl⟩
theorem c_147 : zc Tryz.prog 147 := ⟨Tryz.f147,Tryz.func147,rfl,by kernel_rfl⟩
theorem c_148 : zc Tryz.prog 148 := ⟨Tryz.f148,Tryz.func148,rfl,by kernel_rfl⟩
theorem c_149 : zc Tryz.prog 149 := ⟨Tryz.f149,Tryz.func149,rfl,by kernel_rfl⟩
theorem c_150 : zc Tryz.prog 150 := ⟨Tryz.f150,Tryz.func150,rfl,by kernel_rfl⟩
theorem zuK : zc Tryz.prog 151 := ⟨Tryz.f151,Tryz.func151,rfl,by kernel_rfl⟩
theorem c_152 : zc Tryz.prog 152 := ⟨Tryz.f152,Tryz.func152,rfl,by kernel_rfl⟩
theorem zB4 : zc Tryz.prog 153 := ⟨Tryz.f153,Tryz.func153,rfl,by kernel_rfl⟩
theorem c_154 : zc Tryz.prog 154 := ⟨Tryz.f154,Tryz.func154,rfl,by kernel_rfl⟩
theorem c_155 : zc Tryz.prog 155 := ⟨Tryz.f155,Tryz.func155,rfl,by kernel_rfl⟩
theorem c_156 : zc Tryz.prog 156 := ⟨Tryz.f156,Tryz.func156,rfl,by kernel_rfl⟩
theorem c_157 : zc Tryz.prog 157 := ⟨Tryz.f157,Tryz.func157,rfl,by kernel_rfl⟩
theorem c_158 : zc Tryz.prog 158 := ⟨Tryz.f158,Tryz.func158,rfl,by kernel_rfl⟩
theorem c_159 : zc Tryz.prog 159 := ⟨Tryz.f159,Tryz.func159,rfl,by kernel_rfl⟩
theorem zuL : zc Tryz.prog 160 := ⟨Tryz.f160,Tryz.func160,rfl,by kernel_rfl⟩
theorem zyO : zc Tryz.prog 161 := ⟨Tryz.f161,Tryz.func161,rfl,by kernel_rfl⟩
theorem ziZ : zc Tryz.prog 162 := ⟨Tryz.f162,Tryz.func162,rfl,by kernel_rfl⟩
theorem zwy : zc Tryz.prog 163 := ⟨Tryz.f163,Tryz.func163,rfl,by kernel_rfl⟩
theorem c_164 : zc Tryz.prog 164 := ⟨Tryz.f164,Tryz.func164,rfl,by kernel_rfl⟩
theorem c_165 : zc Tryz.prog 165 := ⟨Tryz.f165,Tryz.func165,rfl,by kernel_rfl⟩
theorem c_166 : zc Tryz.prog 166 := ⟨Tryz.f166,Tryz.func166,rfl,by kernel_rfl⟩
theorem zwz : zc Tryz.prog 167 := ⟨Tryz.f167,Tryz.func167,rfl,by kernel_rfl⟩
theorem zyP : zc Tryz.prog 168 := ⟨Tryz.f168,Tryz.func168,rfl,by kernel_rfl⟩
theorem zsG : zc Tryz.prog 169 := ⟨Tryz.f169,Tryz.func169,rfl,by kernel_rfl⟩
theorem zyQ : zc Tryz.prog 170 := ⟨Tryz.f170,Tryz.func170,rfl,by kernel_rfl⟩
theorem zuM : zc Tryz.prog 171 := ⟨Tryz.f171,Tryz.func171,rfl,by kernel_rfl⟩
theorem c_174 : zc Tryz.prog 174 := ⟨Tryz.f174,Tryz.func174,rfl,by kernel_rfl⟩
theorem zyR : zc Tryz.prog 175 := ⟨Tryz.f175,Tryz.func175,rfl,by kernel_rfl⟩
theorem c_180 : zc Tryz.prog 180 := ⟨Tryz.f180,Tryz.func180,rfl,by kernel_rfl⟩
theorem c_181 : zc Tryz.prog 181 := ⟨Tryz.f181,Tryz.func181,rfl,by kernel_rfl⟩
theorem c_182 : zc Tryz.prog 182 := ⟨Tryz.f182,Tryz.func182,rfl,by kernel_rfl⟩
theorem c_183 : zc Tryz.prog 183 := ⟨Tryz.f183,Tryz.func183,rfl,by kernel_rfl⟩
theorem c_184 : zc Tryz.prog 184 := ⟨Tryz.f184,Tryz.func184,rfl,by kernel_rfl⟩
theorem c_185 : zc Tryz.prog 185 := ⟨Tryz.f185,Tryz.func185,rfl,by kernel_rfl⟩
theorem c_186 : zc Tryz.prog 186 := ⟨Tryz.f186,Tryz.func186,rfl,by kernel_rfl⟩
theorem zuN : zc Tryz.prog 189 := ⟨Tryz.f189,Tryz.func189,rfl,by kernel_rfl⟩
theorem c_190 : zc Tryz.prog 190 := ⟨Tryz.f190,Tryz.func190,rfl,by kernel_rfl⟩
theorem c_191 : zc Tryz.prog 191 := ⟨Tryz.f191,Tryz.func191,rfl,by kernel_rfl⟩
theorem c_192 : zc Tryz.prog 192 := ⟨Tryz.f192,Tryz.func192,rfl,by kernel_rfl⟩
theorem c_193 : zc Tryz.prog 193 := ⟨Tryz.f193,Tryz.func193,rfl,by kernel_rfl⟩
theorem c_194 : zc Tryz.prog 194 := ⟨Tryz.f194,Tryz.func194,rfl,by kernel_rfl⟩
theorem c_195 : zc Tryz.prog 195 := ⟨Tryz.f195,Tryz.func195,rfl,by kernel_rfl⟩
theorem zwA : zc Tryz.prog 196 := ⟨Tryz.f196,Tryz.func196,rfl,by kernel_rfl⟩
theorem c_197 : zc Tryz.prog 197 := ⟨Tryz.f197,Tryz.func197,rfl,by kernel_rfl⟩
theorem c_198 : zc Tryz.prog 198 := ⟨Tryz.f198,Tryz.func198,rfl,by kernel_rfl⟩
theorem c_199 : zc Tryz.prog 199 := ⟨Tryz.f199,Tryz.func199,rfl,by kernel_rfl⟩
theorem c_200 : zc Tryz.prog 200 := ⟨Tryz.f200,Tryz.func200,rfl,by kernel_rfl⟩
theorem c_201 : zc Tryz.prog 201 := ⟨Tryz.f201,Tryz.func201,rfl,by kernel_rfl⟩
theorem c_202 : zc Tryz.prog 202 := ⟨Tryz.f202,Tryz.func202,rfl,by kernel_rfl⟩
theorem c_206 : zc Tryz.prog 206 := ⟨Tryz.f206,Tryz.func206,rfl,by kernel_rfl⟩
theorem c_207 : zc Tryz.prog 207 := ⟨Tryz.f207,Tryz.func207,rfl,by kernel_rfl⟩
theorem zsH : zc Tryz.prog 208 := ⟨Tryz.f208,Tryz.func208,rfl,by kernel_rfl⟩
theorem zwB : zc Tryz.prog 209 := ⟨Tryz.f209,Tryz.func209,rfl,by kernel_rfl⟩
theorem c_210 : zc Tryz.prog 210 := ⟨Tryz.f210,Tryz.func210,rfl,by kernel_rfl⟩
theorem c_212 : zc Tryz.prog 212 := ⟨Tryz.f212,Tryz.func212,rfl,by kernel_rfl⟩
theorem zwC : zc Tryz.prog 213 := ⟨Tryz.f213,Tryz.func213,rfl,by kernel_rfl⟩
theorem c_214 : zc Tryz.prog 214 := ⟨Tryz.f214,Tryz.func214,rfl,by kernel_rfl⟩
theorem zB5 : zc Tryz.prog 217 := ⟨Tryz.f217,Tryz.func217,rfl,by kernel_rfl⟩
theorem c_218 : zc Tryz.prog 218 := ⟨Tryz.f218,Tryz.func218,rfl,by kernel_rfl⟩
theorem c_219 : zc Tryz.prog 219 := ⟨Tryz.f219,Tryz.func219,rfl,by kernel_rfl⟩
theorem c_220 : zc Tryz.prog 220 := ⟨Tryz.f220,Tryz.func220,rfl,by kernel_rfl⟩
theorem c_221 : zc Tryz.prog 221 := ⟨Tryz.f221,Tryz.func221,rfl,by kernel_rfl⟩
theorem c_222 : zc Tryz.prog 222 := ⟨Tryz.f222,Tryz.func222,rfl,by kernel_rfl⟩
theorem c_225 : zc Tryz.prog 225 := ⟨Tryz.f225,Tryz.func225,rfl,by kernel_rfl⟩
theorem c_226 : zc Tryz.prog 226 := ⟨Tryz.f226,Tryz.func226,rfl,by kernel_rfl⟩
theorem c_227 : zc Tryz.prog 227 := ⟨Tryz.f227,Tryz.func227,rfl,by kernel_rfl⟩
theorem c_228 : zc Tryz.prog 228 := ⟨Tryz.f228,Tryz.func228,rfl,by kernel_rfl⟩
theorem c_231 : zc Tryz.prog 231 := ⟨Tryz.f231,Tryz.func231,rfl,by kernel_rfl⟩
theorem c_232 : zc Tryz.prog 232 := ⟨Tryz.f232,Tryz.func232,rfl,by kernel_rfl⟩
theorem c_240 : zc Tryz.prog 240 := ⟨Tryz.f240,Tryz.func240,rfl,by kernel_rfl⟩
theorem c_241 : zc Tryz.prog 241 := ⟨Tryz.f241,Tryz.func241,rfl,by kernel_rfl⟩
theorem zB6 : zc Tryz.prog 242 := ⟨Tryz.f242,Tryz.func242,rfl,by kernel_rfl⟩
theorem c_243 : zc Tryz.prog 243 := ⟨Tryz.f243,Tryz.func243,rfl,by kernel_rfl⟩
theorem c_244 : zc Tryz.prog 244 := ⟨Tryz.f244,Tryz.func244,rfl,by kernel_rfl⟩
theorem c_245 : zc Tryz.prog 245 := ⟨Tryz.f245,Tryz.func245,rfl,by kernel_rfl⟩
theorem zB7 : zc Tryz.prog 247 := ⟨Tryz.f247,Tryz.func247,rfl,by kernel_rfl⟩
theorem c_249 : zc Tryz.prog 249 := ⟨Tryz.f249,Tryz.func249,rfl,by kernel_rfl⟩
theorem c_250 : zc Tryz.prog 250 := ⟨Tryz.f250,Tryz.func250,rfl,by kernel_rfl⟩
theorem c_251 : zc Tryz.prog 251 := ⟨Tryz.f251,Tryz.func251,rfl,by kernel_rfl⟩
theorem c_252 : zc Tryz.prog 252 := ⟨Tryz.f252,Tryz.func252,rfl,by kernel_rfl⟩
theorem c_253 : zc Tryz.prog 253 := ⟨Tryz.f253,Tryz.func253,rfl,by kernel_rfl⟩
theorem c_257 : zc Tryz.prog 257 := ⟨Tryz.f257,Tryz.func257,rfl,by kernel_rfl⟩
theorem c_263 : zc Tryz.prog 263 := ⟨Tryz.f263,Tryz.func263,rfl,by kernel_rfl⟩
theorem c_264 : zc Tryz.prog 264 := ⟨Tryz.f264,Tryz.func264,rfl,by kernel_rfl⟩
theorem zwD : zc Tryz.prog 266 := ⟨Tryz.f266,Tryz.func266,rfl,by kernel_rfl⟩
theorem c_268 : zc Tryz.prog 268 := ⟨Tryz.f268,Tryz.func268,rfl,by kernel_rfl⟩
theorem c_269 : zc Tryz.prog 269 := ⟨Tryz.f269,Tryz.func269,rfl,by kernel_rfl⟩
theorem c_273 : zc Tryz.prog 273 := ⟨Tryz.f273,Tryz.func273,rfl,by kernel_rfl⟩
theorem c_274 : zc Tryz.prog 274 := ⟨Tryz.f274,Tryz.func274,rfl,by kernel_rfl⟩
theorem c_277 : zc Tryz.prog 277 := ⟨Tryz.f277,Tryz.func277,rfl,by kernel_rfl⟩
theorem c_278 : zc Tryz.prog 278 := ⟨Tryz.f278,Tryz.func278,rfl,by kernel_rfl⟩
theorem c_280 : zc Tryz.prog 280 := ⟨Tryz.f280,Tryz.func280,rfl,by kernel_rfl⟩
theorem c_281 : zc Tryz.prog 281 := ⟨Tryz.f281,Tryz.func281,rfl,by kernel_rfl⟩
theorem c_282 : zc Tryz.prog 282 := ⟨Tryz.f282,Tryz.func282,rfl,by kernel_rfl⟩
abbrev yl4 (x : accum_Accum) (p0 : Option Addr) (c0 : Nat) (p1 : Option Addr) (c1 : Nat) : List Value := [int x.f_kind,int x.f_limit, .slice p0 x.f_buf.length c0,int x.f_from, .bool x.f_took,int x.f_bad, .bool x.f_whole,int x.f_got.Kind,str x.f_got.Method,str x.f_got.Target,int x.f_got.Code,str x.f_got.Reason,int x.f_got.Minor, .slice p1 x.f_got.Fields.length c1]
abbrev yv6 (x : api_Host) : Value := .agg #[int x.Kind,str x.Name,int x.Port]
abbrev yl6 (x : api_Host) : List Value := [int x.Kind,str x.Name,int x.Port]
abbrev yl8 (x : api_Target) : List Value := [int x.Kind,str x.Scheme,int x.Host.Kind,str x.Host.Name,int x.Host.Port,str x.Path,str x.Query, .bool x.HasQuery]
abbrev yl14 (x : dechunk_Decoder) (p0 : Option Addr) (c0 : Nat) (p1 : Option Addr) (c1 : Nat) : List Value := [int x.f_limit,int x.f_at, .slice p0 x.f_line.length c0,int x.f_left,int x.f_sum,int x.f_spent, .slice p1 x.f_trailers.length c1]
abbrev yv18 (x : api_Attr) : Value := .agg #[str x.Name,str x.Value, .bool x.Has]
abbrev yl18 (x : api_Attr) : List Value := [str x.Name,str x.Value, .bool x.Has]
abbrev yl20 (x : api_Message) (p0 : Option Addr) (c0 : Nat) (p1 : Option Addr) (c1 : Nat) : List Value := [int x.Head.Kind,str x.Head.Method,str x.Head.Target,int x.Head.Code,str x.Head.Reason,int x.Head.Minor, .slice p0 x.Head.Fields.length c0,int x.Frame.Kind,int x.Frame.N,str x.Body, .slice p1 x.Trailers.length c1]
abbrev zt1 (x : stream_reader) : List Value := [str x.f_s,int x.f_at,int x.f_limit, .bool x.f_ended]
abbrev yv28 (x : ref19_line) : Value := .agg #[int x.N,int x.Bad,int x.Err]
abbrev yl28 (x : ref19_line) : List Value := [int x.N,int x.Bad,int x.Err]
abbrev yv36 (x : ref23_Row) (p0 : Option Addr) (c0 : Nat) : Value := .agg #[.slice p0 x.L.length c0,int x.N,int x.Err]
end Go.Proofs
end
section
namespace Go.Proofs
open Go.Dk Go.Dm Go.RowKit
theorem zka (s : Str) (c : UInt8) (R : Int) (w0 : World) (hG : zo w0) (hm : strings_IndexByte s c = some R) :
  Calls Tryz.prog 214 #[str s,zao c] w0 fun e w' => e = .returned (int R) ∧ Below w0.heap.size w0 w' := by
 refine (Tryz.strings_IndexByte ⟨s.toArray⟩ c.toNat w0).mono fun e w' ⟨he,hw⟩ => ?_;subst he hw;refine ⟨?_,Below.refl _ _⟩;unfold strings_IndexByte at hm;rw [zwJ] at hm;cases hm;simp
theorem zj2 (s t : Str) (R : Int) (w0 : World) (hG : zo w0) (hm : strings_Index s t = some R) :
  Calls Tryz.prog 198 #[str s,str t] w0 fun e w' => e = .returned (int R) ∧ Below w0.heap.size w0 w' := by
 unfold strings_Index at hm
 split at hm
 ·rename_i hs
  obtain ⟨m,hg⟩ := hG.max;refine (Tryz.strings_Index ⟨s.toArray⟩ ⟨t.toArray⟩ m w0 hs hg).mono fun e w' ⟨he,hw⟩ => ?_;subst he hw;rw [zs0] at hm;cases hm;exact ⟨rfl,Below.refl _ _⟩
 ·cases hm
theorem zjr (s t : Str) (R : Str × Str × Bool) (w0 : World) (hG : zo w0) (hm : strings_Cut s t = some R) :
  Calls Tryz.prog 168 #[str s,str t] w0 fun e w' => e = .returned (.tuple #[str R.1,str R.2.1, .bool R.2.2]) ∧ Below w0.heap.size w0 w' := by
 unfold strings_Cut at hm
 split at hm
 ·rename_i hs
  obtain ⟨m,hg⟩ := hG.max;refine (Tryz.strings_Cut ⟨s.toArray⟩ ⟨t.toArray⟩ m w0 hs hg).mono fun e w' ⟨he,n,hw⟩ => ?_;subst he hw;cases hm;exact ⟨rfl,⟨rfl,rfl,rfl,Nat.le_refl _,fun _ _ => rfl⟩⟩
 ·cases hm
theorem zku (s cs : Str) (R : Int) (w0 : World) (hG : zo w0) (hm : strings_IndexAny s cs = some R) :
  Calls Tryz.prog 157 #[str s,str cs] w0 fun e w' => e = .returned (int R) ∧ Below w0.heap.size w0 w' := by
 unfold strings_IndexAny at hm
 split at hm
 ·rename_i hs
  refine (zvG Tryz.lays153 (by kernel_rfl) ⟨s.toArray⟩ ⟨cs.toArray⟩ w0 hs.1 hs.2.1 (fun j b hb => ?_)).mono fun e w' ⟨he,hw⟩ => ?_
  ·have := List.all_eq_true.1 hs.2.2 b (List.mem_of_getElem? hb);simpa using this
  ·subst he;rw [zx0] at hm;cases hm;exact ⟨rfl,hw⟩
 ·cases hm
theorem zoH (n b : Int) (R : Str) (w0 : World) (hG : za2 w0) (hm : zgb n b = some R) :
  Calls Tryz.prog 156 #[int n,int b] w0 fun e w' => e = .returned (str R) ∧ Below w0.heap.size w0 w' := by
 unfold zgb at hm
 split at hm
 ·rename_i h
  obtain ⟨h1,rfl⟩ := h;obtain ⟨h2,h3⟩ := zlh.1 h1;cases hm;refine (Tryz.strconv_FormatInt_10 n h2 h3 w0 hG.2).mono fun e w' ⟨he,k,os,hw⟩ => ?_;subst he hw;exact ⟨rfl,Lib.below_grow _ _ (Nat.le_refl _) _ _⟩
 ·cases hm
theorem zmX (s sep : Str) (R : List Str) (w0 : World) (hG : zo w0) (hm : strings_Split s sep = some R) :
  Calls Tryz.prog 199 #[str s,str sep] w0 fun e w' => ∃ (p0 : Option Addr) (c0 : Nat),e = .returned (.slice p0 R.length c0) ∧ Own w0 [] w' [.row (.slice p0 R.length c0) 9 1 R.length (cells zd R)] := by
 unfold strings_Split at hm
 split at hm
 ·rename_i hs
  obtain ⟨m,hg⟩ := hG.max;refine (Tryz.strings_Split ⟨s.toArray⟩ ⟨sep.toArray⟩ m w0 hs.1 hg hs.2).mono fun e w' ⟨he,hw⟩ => ?_;subst he hw;have hlen := Go.Lib.splitB_all ⟨sep.toArray⟩ hs.2 0 _ ⟨s.toArray⟩ rfl;have hdat := Go.Lib.splitB_data ⟨sep.toArray⟩ 0 (Go.Lib.countB ⟨s.toArray⟩ ⟨sep.toArray⟩) ⟨s.toArray⟩
  have hR : R = (Go.Lib.splitB ⟨sep.toArray⟩ 0 (Go.Lib.countB ⟨s.toArray⟩ ⟨sep.toArray⟩) ⟨s.toArray⟩).map (·.data.toList) := by
   rw [hdat]; exact (Option.some.inj hm).symm
  have hRl : R.length = Go.Lib.countB ⟨s.toArray⟩ ⟨sep.toArray⟩ + 1 := by rw [hR,List.length_map,hlen]
  have hcells : (Go.Lib.splitB ⟨sep.toArray⟩ 0 (Go.Lib.countB ⟨s.toArray⟩ ⟨sep.toArray⟩) ⟨s.toArray⟩).map Value.string = cells zd R := by
   rw [hR];generalize Go.Lib.splitB _ _ _ _ = l
   induction l with
   | nil => rfl
   | cons x l ih => obtain ⟨⟨x⟩⟩ := x; rw [List.map_cons,List.map_cons,ih]; rfl
  have hle := Go.Lib.countB_le ⟨sep.toArray⟩ hs.2 _ ⟨s.toArray⟩ (Nat.le_refl _);have hsz : (⟨s.toArray⟩ : ByteArray).size = s.length := rfl;have hO := (Own.refl w0).newRow (cells zd R) 9 1 R.length (zfp (enc := zd) (sz := 1) (fun _ => rfl) R) (by unfold maxLen; omega);rw [hcells, ← hRl];exact ⟨_,_,rfl,hO⟩
 ·cases hm
theorem znn (s cs : Str) (R : Str) (w0 : World) (hG : zo w0) (hm : zfq s cs = some R) :
  Calls Tryz.prog 88 #[str s,str cs] w0 fun e w' => e = .returned (str R) ∧ Below w0.heap.size w0 w' := by
 unfold zfq at hm
 split at hm
 ·rename_i hs
  refine (Any.strings_Trim_laid Tryz.lays160 (by kernel_rfl) ⟨s.toArray⟩ ⟨cs.toArray⟩ w0 (Nat.le_trans (Nat.le_of_lt hs.1) (by decide)) hs.2.1 (fun j b hb => ?_)).mono fun e w' ⟨he,hw⟩ => ?_
  ·have := List.all_eq_true.1 hs.2.2 b (List.mem_of_getElem? hb);simpa using this
  ·subst he;cases hm;exact ⟨rfl,hw⟩
 ·cases hm
end Go.Proofs
end
