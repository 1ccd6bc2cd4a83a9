/- Walks by evaluation: regions that draw their order. Over any program. Walks by evaluation: code. Over any program. Walks -/
import Derived.Test.YtlehfmpjckapdaaGreatDoorYRg
import Derived.Test.YtlehfmpjckapdaaGreatDoorP0
import Derived.Test.YtlehfmpjckapdaaGreatDoorYRun
set_option linter.unusedVariables false
set_option linter.unusedSimpArgs false
section
namespace Go.Rk
open Go.RowKit Go.Dm Go.Dk
variable {τ:Nat→Type}
variable {all:List Oper}
section
variable {R α:Type}
noncomputable def zlj (q:R→List (Nat × α)):List R→Nat→(Nat→Bool)→List (Nat × α)→List (Nat × α)
 | [],_,_,B=>B
 | r::rs,i,f,B=>zlj q rs (i+1) f (if f i=true then q r++B else B)
noncomputable def ziX (q:R→List (Nat × α)):List R→Nat→(Nat→Bool)→Nat→Option α
 | [],_,_,_=>none
 | r::rs,i,f,t=>match ziX q rs (i+1) f t with
  | some v=>some v
  | none=>if f i=true then asc (q r) t else none
theorem zkw (q:R→List (Nat × α)):∀(rs:List R) (i:Nat) (f:Nat→Bool) (B:List (Nat × α)) (t:Nat),asc (zlj q rs i f B) t=match ziX q rs i f t with
  | some v=>some v
  | none=>asc B t
 | [],_,_,_,_=>rfl
 | r :: rs,i,f,B,t=>by
  simp only [zlj,ziX];rw [zkw q rs (i+1) f _ t]
  cases ziX q rs (i+1) f t with
  | some v=>rfl
  | none =>
   by_cases a:f i=true
   ·simp only [a,if_true]
    first
     | (rw [znD]; done)
     | (rw [znD]; cases asc (q r) t<;>rfl)
   ·simp only [a,if_false,Bool.false_eq_true]
def wr (l:List (Nat × α)) (t:Nat):Prop:=∃v,asc l t=some v
theorem zgs (q:R→List (Nat × α)) {f f':Nat→Bool} {t:Nat}:∀(rs:List R) (i:Nat),(∀j r,rs[j]? = some r→wr (q r) t→f (i+j)=f' (i+j))→ziX q rs i f t=ziX q rs i f' t
 | [],_,_=>rfl
 | r::rs,i,h=>by
  simp only [ziX]
  rw [zgs q (f:=f) (f':=f') (t:=t) rs (i+1) fun j r' a b=>by
   have:=h (j+1) r' (by simpa using a) b
   rwa [show i+(j+1)=i+1+j by omega] at this]
  cases ziX q rs (i+1) f' t with
  | some v=>rfl
  | none =>
   cases ha:asc (q r) t with
   | none=>simp
   | some v =>
    have:=h 0 r rfl ⟨v,ha⟩;simp only [Nat.add_zero] at this;simp [this]
theorem zzZ (q:R→List (Nat × α)) {f:Nat→Bool} {t:Nat}:∀(rs:List R) (i:Nat),(∀j r,rs[j]? = some r→wr (q r) t→f (i+j)=false)→ziX q rs i f t=none
 | [],_,_=>rfl
 | r::rs,i,h=>by
  simp only [ziX]
  rw [zzZ q rs (i+1) fun j r' a b=>by
   have:=h (j+1) r' (by simpa using a) b
   rwa [show i+(j+1)=i+1+j by omega] at this]
  cases ha:asc (q r) t with
  | none=>simp
  | some v=>simp [show f i=false from h 0 r rfl ⟨v,ha⟩]
theorem zuT (q:R→List (Nat × α)) {f:Nat→Bool} {t:Nat} {v:α}:∀(rs:List R) (i k:Nat) (r:R),rs[k]? = some r→f (i+k)=true→asc (q r) t=some v→(∀j r',rs[j]? = some r'→wr (q r') t→k<j→f (i+j)=false)→ziX q rs i f t=some v
 | [],_,_,_,a,_,_,_=>by simp at a
 | r0::rs,i,0,r,a,b,d,h=>by
  simp at a;subst a;simp only [ziX]
  rw [zzZ q rs (i+1) fun j r' c e=>by
   have:=h (j+1) r' (by simpa using c) e (by omega)
   rwa [show i+(j+1)=i+1+j by omega] at this]
  simp only [Nat.add_zero] at b;simp [b,d]
 | r0::rs,i,k+1,r,a,b,d,h=>by
  simp only [ziX]
  rw [zuT q rs (i+1) k r (by simpa using a) (by rwa [show i+1+k=i+(k+1) by omega]) d fun j r' c e g=>by
   have:=h (j+1) r' (by simpa using c) e (by omega)
   rwa [show i+(j+1)=i+1+j by omega] at this]
end
theorem zuU:∀(L:Hp τ) (i:Nat),lk L i=match asc L i with
  | some r=>r
  | none => .gone
 | [],_=>rfl
 | (k,v)::L,i=>by
  simp only [zvo,znK,zdO,zcp]
  cases Nat.beq k i with
  | true=>rfl
  | false=>exact zuU L i
theorem zIi {U:Hp τ} {i:Nat}:wr U i↔i∈kys U:=by
 constructor
 ·rintro ⟨v,h⟩;exact List.mem_map.2 ⟨_,znE h,rfl⟩
 ·intro h
  induction U with
  | nil=>cases h
  | cons p U b =>
   by_cases e:p.1=i
   ·exact ⟨p.2,by obtain ⟨k,v⟩:=p; simp at e; subst e; simp [zdO,zcp]⟩
   ·obtain ⟨k,v⟩:=p
    rcases List.mem_cons.1 h with h|h
    ·exact (e h.symm).elim
    ·obtain ⟨u,a⟩:=b h;exact ⟨u,by simp only [zdO,zcp]; rw [zcL.2 e]; exact a⟩
def zDT (all:List Oper) (i:Nat):List Nat:=match all[i]? with
 | none=>[]
 | some o=>(o.after.toList.filter (Region.binds .any)).map (·.on)
theorem zuV:∀(l:List Oper) (P:List (List Nat)) (k:Nat),k<P.length→ziW (zir P l) k=ziW P k
 | [],P,k,_=>rfl
 | o::l,P,k,a=>by
  unfold zir;rw [zuV l _ k (by simp; omega),zgV,zgV,List.getElem?_append_left a]
theorem zxb:∀(l:List Oper) (P:List (List Nat)) (j:Nat) (o:Oper),l[j]? = some o→∃P',P'.length=P.length+j∧(∀k,k<P.length+j→ziW P' k=ziW (zir P l) k)∧ziW (zir P l) (P.length+j)=some (zBh P' o)
 | [],P,j,o,h=>by simp at h
 | o'::l,P,0,o,h=>by
  simp at h;subst h;refine ⟨P,rfl,fun k b=>?_,?_⟩
  ·rw [zuV (o'::l) P k (by omega)]
  ·unfold zir;rw [zuV l _ _ (by simp),zgV];simp
 | o'::l,P,j+1,o,h=>by
  unfold zir;obtain ⟨P',h1,h2,a⟩:=zxb l (P++[zBh P o']) j o (by simpa using h);simp only [List.length_append,List.length_singleton] at h1 h2 a;refine ⟨P',by omega,fun k b=>h2 k (by omega),?_⟩;rw [show P.length+(j+1)=P.length+1+j by omega];exact a
theorem zz0 {f:Nat→Bool} (m:∀j,f j=true→∀e∈zDT all j,f e=true):∀(j:Nat) (l:List Nat),ziW (zir [] all) j=some l→(∀e∈zDT all j,f e=true)→∀e∈l,f e=true:=by
 intro j
 induction j using Nat.strongRecOn with
 | _ j n =>
  intro l i u e b
  have s:j<all.length:=by
   rcases Nat.lt_or_ge j all.length with h|h
   ·exact h
   ·exfalso
    have c:∀(l:List Oper) (P:List (List Nat)),(zir P l).length=P.length+l.length:=by
     intro l
     induction l with
     | nil=>intro P; rfl
     | cons o l n=>intro P; unfold zir; rw [n]; simp; omega
    rw [zgV] at i;have:=(List.getElem?_eq_some_iff.1 i).1;rw [c] at this;simp at this; omega
  obtain ⟨v,h1,h2,r⟩:=zxb all [] j all[j] (List.getElem?_eq_getElem s);simp only [List.length_nil,Nat.zero_add] at h1 h2 r;rw [r] at i;cases i;unfold zBh at b;obtain ⟨p,q,b⟩:=List.mem_flatMap.1 b
  have k:p.on∈zDT all j:=by
   unfold zDT;rw [List.getElem?_eq_getElem s];exact List.mem_map.2 ⟨p,q,rfl⟩
  have g:=u _ k
  rcases List.mem_cons.1 b with rfl|b
  ·exact g
  ·split at b
   ·rename_i t a
    have d:p.on<j:=by
     rw [zgV] at a;have:=(List.getElem?_eq_some_iff.1 a).1;omega
    rw [h2 _ d] at a;exact n _ d t a (m _ g) e b
   ·cases b
structure Rec (τ:Nat→Type) where
 o:Oper
 W:zad τ
 E:zad τ
 L:Hp τ
 lo:Nat
 hi:Nat
 v:XV τ
 g:List (XV τ)
 ls:List Oper
 U:Hp τ
 t:List Nat
 run:Bool
def Rec.ne (r:Rec τ):zad τ:=zI9 r.ls r.o.dst r.v r.g
section
variable {ρ:Type} {X:Cx τ} {w0 w w':World} {h0 h h':Fz} {F:List Nat} {o:Oper} {E E' Eb:zad τ} {L L2:Hp τ} {ν ν':Vn τ} {φ φ':Nat→List Nat} {nid nid':Nat} {r:ρ} {a:Act}
structure RecOk (X:Cx τ) (w0:World) (h0:Fz) (F:List Nat) (all:List Oper) (Eb:zad τ) (q:Rec τ):Prop where
 refw:Ref Eb q.W
 ref:Ref Eb q.E
 up:q.lo≤q.hi
 dst:dOk X.n q.o.dst=true
 want:∀(h:Fz) (ν:Vn τ) (a:Act),zeL X h ν a (gdR all q.o.guard) q.W→Region.wanted q.o (yielded all.toArray a.tmps)=q.run
 gv:∀x∈q.g,zkm x=true
 pass:q.run=false→q.U=[]∧q.v = .un
 does:q.run=true→Ok1 X w0 h0 F q.o q.E q.L q.lo q.v q.U q.t q.hi
def zuw (X:Cx τ) (w0:World) (h0:Fz) (F:List Nat) (all:List Oper):List Oper→zad τ→Hp τ→Nat→List (Rec τ)→zad τ→Hp τ→Nat→Prop
 | [],b,L,nid,[],c,d,a=>c=b∧d=L∧a=nid
 | o::l,b,L,nid,q::e,c,d,a=>q.o=o∧q.L=L∧q.lo=nid∧RecOk X w0 h0 F all b q∧zuw X w0 h0 F all l (q.ne++b) (q.U++L) q.hi e c d a
 | _,_,_,_,_,_,_,_=>False
def drs (all:List Oper):Nat→List (Rec τ)→List Dr
 | _,[]=>[]
 | i,q::a=>⟨i,q.o.dst,zeN all q.o,(if q.run=true then q.t++kys q.U else []),kys q.U⟩::drs all (i+1) a
theorem zMl {op:OpF τ ρ} (j:zv9 X w0 h0 F op) {all:List Oper} {K:zad τ→Hp τ→Nat→Option ρ}:∀{l:List Oper} {i:Nat} {R:List Dr} {E q:zad τ} {L:Hp τ} {nid:Nat},zBi op X all i l R E L nid K=some r→Ref q E →
  ∃p c n b k,zuw X w0 h0 F all l q L nid p c n b∧Ref c k∧zvq all ((drs all i p).reverse++R)=true∧K k n b=some r
 | [],i,R,E,q,L,nid,e,s=>by
  unfold zBi hi at e;obtain ⟨h1,e⟩:=zg0 e;exact ⟨[],q,L,nid,E,⟨rfl,rfl,rfl⟩,s,h1,e⟩
 | o::l,i,R,E,q,L,nid,e,s=>by
  unfold zBi at e;obtain ⟨hd,e⟩:=zg0 e;obtain ⟨m,A,e,x,G⟩:=ztK e;have f:=s.trans x;have d:∀(h:Fz) (ν:Vn τ) (a:Act),zeL X h ν a (gdR all o.guard) E→Region.wanted o (yielded all.toArray a.tmps)=m:=fun h ν a=>G X h ν a o rfl
  cases m with
  | false =>
   simp only [Bool.false_eq_true,if_false] at e;rw [zFb] at e;obtain ⟨p,c,n,b,k,h1,h2,w,y⟩:=zMl j e (f.app _);refine ⟨⟨o,E,A,L,nid,nid,.un,[],[],[],[],false⟩::p,c,n,b,k,⟨rfl,rfl,rfl,⟨s,f,Nat.le_refl _,hd,d,(fun _ h=>by cases h),fun _=>⟨rfl,rfl⟩,fun h=>by cases h⟩,h1⟩,h2,?_,y⟩;simpa [drs,kys] using w
  | true =>
   simp only [if_true] at e;obtain ⟨v,g,U,t,C,B,z,D,u⟩:=j _ _ _ _ _ _ e;simp only [zwG] at B;obtain ⟨p,c,n,b,k,h1,h2,w,y⟩:=zMl j B (f.app _);refine ⟨⟨o,E,A,L,nid,C,v,g,l,U,t,true⟩::p,c,n,b,k,⟨rfl,rfl,rfl,⟨s,f,z,hd,d,D,(fun h=>by cases h),fun _=>u⟩,h1⟩,h2,?_,y⟩;simpa [drs] using w
theorem ztr {R α:Type} (q:R→List (Nat × α)) {f:Nat→Bool}:∀(rs:List R) (i:Nat) (B:List (Nat × α)),(∀j,i≤j→f j=false)→zlj q rs i f B=B
 | [],_,_,_=>rfl
 | r::rs,i,B,h=>by
  simp only [zlj];rw [h i (Nat.le_refl _)];exact ztr q rs (i+1) B fun j a=>h j (by omega)
theorem zz1 {R α:Type} (q:R→List (Nat × α)) {f:Nat→Bool} {t:Nat} {v:α}:∀(rs:List R) (i:Nat),ziX q rs i f t=some v→∃j r,rs[j]? = some r∧f (i+j)=true∧asc (q r) t=some v
 | [],_,h=>by cases h
 | r::rs,i,h=>by
  simp only [ziX] at h
  cases hl:ziX q rs (i+1) f t with
  | some u =>
   rw [hl] at h;cases h;obtain ⟨j,r',h1,h2,b⟩:=zz1 q rs (i+1) hl;exact ⟨j+1,r',by simpa using h1,by rwa [show i+(j+1)=i+1+j by omega],b⟩
  | none =>
   rw [hl] at h
   by_cases a:f i=true
   ·simp only [a,if_true] at h;exact ⟨0,r,rfl,a,h⟩
   ·simp [a] at h
theorem zuw.get {all:List Oper}:∀{l:List Oper} {e:zad τ} {L:Hp τ} {nid:Nat} {b:List (Rec τ)} {g:zad τ} {m:Hp τ} {a:Nat} (k:Nat),zuw X w0 h0 F all l e L nid b g m a →
  nid≤a∧b.length=l.length∧g=zlj Rec.ne b k (fun _=>true) e∧m=zlj Rec.U b k (fun _=>true) L ∧
  (∀(i:Nat) (q:Rec τ),b[i]? = some q→l[i]? = some q.o∧q.L=zlj Rec.U b k (fun j=>Nat.blt j (k+i)) L∧RecOk X w0 h0 F all (zlj Rec.ne b k (fun j=>Nat.blt j (k+i)) e) q∧nid≤q.lo∧q.hi≤a) ∧
  (∀(i j:Nat) (q d:Rec τ),b[i]? = some q→b[j]? = some d→i<j→q.hi≤d.lo)
 | [],e,L,nid,[],g,m,a,k,h=>by
  obtain ⟨rfl,rfl,rfl⟩:=h;exact ⟨Nat.le_refl _,rfl,rfl,rfl,fun i q c=>by simp at c,fun i j q d c=>by simp at c⟩
 | o :: l,e,L,nid,q::b,g,m,a,k,h=>by
  obtain ⟨rfl,x,rfl,n,hc⟩:=h;obtain ⟨s,w,E,D,r,y⟩:=zuw.get (k+1) hc;refine ⟨Nat.le_trans n.up s,by simp [w],?_,?_,fun i d c=>?_,fun i j A t h1 h2 z=>?_⟩
  ·simp only [zlj,if_true]; exact E
  ·simp only [zlj,if_true]; exact D
  ·cases i with
   | zero =>
    simp at c;subst c
    have v:∀{α:Type} (f:Rec τ→List (Nat × α)) (B:List (Nat × α)),zlj f (q::b) k (fun j=>Nat.blt j (k+0)) B=B:=fun f B=>ztr f _ _ _ fun j G=>by
     rw [← Bool.not_eq_true,Nat.blt_eq]; omega
    refine ⟨rfl,by rw [v]; exact x,by rw [v]; exact n,Nat.le_refl _,s⟩
   | succ i =>
    obtain ⟨C,a2,a3,a4,a5⟩:=r i d (by simpa using c)
    have u:Nat.blt k (k+(i+1))=true:=by rw [Nat.blt_eq]; omega
    have p:k+(i+1)=k+1+i:=by omega
    refine ⟨by simpa using C,?_,?_,Nat.le_trans n.up a4,a5⟩
    ·simp only [zlj,u,if_true]; rw [p]; exact a2
    ·simp only [zlj,u,if_true]; rw [p]; exact a3
  ·cases j with
   | zero=>omega
   | succ j =>
    cases i with
    | zero =>
     simp at h1;subst h1;exact (r j t (by simpa using h2)).2.2.2.1
    | succ i=>exact y i j A t (by simpa using h1) (by simpa using h2) (by omega)
 | [],_,_,_,_::_,_,_,_,_,h=>h.elim
 | _::_,_,_,_,[],_,_,_,_,h=>h.elim
theorem zJR {all:List Oper}:∀{a:List (Rec τ)} (k i:Nat) (q:Rec τ),a[i]? = some q→(⟨k+i,q.o.dst,zeN all q.o,(if q.run=true then q.t++kys q.U else []),kys q.U⟩:Dr)∈drs all k a
 | [],_,_,_,h=>by simp at h
 | q0::a,k,0,q,h=>by simp at h; subst h; exact List.mem_cons_self ..
 | q0::a,k,i+1,q,h=>by
  have:=zJR (all:=all) (k+1) i q (by simpa using h);rw [show k+1+i=k+(i+1) by omega] at this;exact List.mem_cons_of_mem _ this
theorem zJS {q : Rec τ} {t:Nat} {x:XV τ} (j:∀y∈q.g,zkm y=true) (h:asc q.ne t=some x):q.o.dst=some t∨(zkm x=true∧20000≤t∧t<40000)∨(zkm x=true∧∃d:Nat,q.o.dst=some d∧t=20000+d):=by
  unfold Rec.ne zI9 at h
  have a:∀{d:Option Nat},asc (zwV q.g q.ls d []) t=some x→(zkm x=true∧20000≤t∧t<40000)∨(zkm x=true∧∃c:Nat,d=some c∧t=20000+c):=by
    intro d e;unfold zwV at e
    split at e
    · rename_i y i
      have b:=j y (by rw [i]; exact List.mem_singleton.2 rfl)
      cases d with
      | none =>
        simp only [zdO,zcp] at e
        cases hb:Nat.beq (30000+q.ls.length%10000) t with
        | true =>
          rw [hb] at e; cases e
          have:30000+q.ls.length%10000=t:=by simpa using hb
          exact .inl ⟨b,by omega,by omega⟩
        | false=>rw [hb] at e; cases e
      | some d =>
        simp only [zdO,zcp] at e
        cases hb:Nat.beq (20000+d) t with
        | true =>
          rw [hb] at e; cases e
          have:20000+d=t:=by simpa using hb
          exact .inr ⟨b,d,rfl,this.symm⟩
        | false=>rw [hb] at e; cases e
    · cases e
  unfold putT at h
  split at h
  · rename_i d hd
    simp only [zdO,zcp] at h
    cases hb:Nat.beq d t with
    | true =>
      have:d=t:=by simpa using hb
      subst this;exact .inl hd
    | false => rw [hb] at h; rw [hd] at h; rcases a h with h1|⟨h1,c,h2,f⟩
               · exact .inr (.inl h1)
               · exact .inr (.inr ⟨h1,c,by rw [hd]; exact h2,f⟩)
  · rename_i hd
    rw [hd] at h
    rcases a h with h1|⟨h1,c,h2,f⟩
    · exact .inr (.inl h1)
    · cases h2
theorem zIj {l m:List Nat} {i:Nat} (h1:i∈l) (h2:i∈m):meets l m=true:=by
 cases m with
 | nil=>cases h2
 | cons j m=>exact (zKy _ _).trans (List.any_eq_true.2 ⟨i,h1,zeP.2 h2⟩)
theorem zGg {R:List Dr} (h:zvq all R=true):(∀a∈R, ∀b∈R,a.i=b.i∨ztl a b=false∨tied (zir [] all) a.i b.i=true)∧∀a∈R, ∃l,ziW (zir [] all) a.i=some l∧∀j∈l,j<a.i:=by
 unfold zvq at h;simp only [zzl,Bool.and_eq_true,List.all_eq_true,Bool.or_eq_true] at h;obtain ⟨h1,h2⟩:=h;refine ⟨fun a d b e=>?_,fun a d=>?_⟩
 ·rcases h1 a d b e with c|c
  ·exact .inl (by simpa using c)
  ·split at c
   ·simp only [Bool.or_eq_true,Bool.not_eq_true'] at c;exact .inr c
   ·simp only [Bool.or_eq_true,Bool.not_eq_true'] at c;exact .inr c.symm
 ·have:=h2 a d
  split at this
  ·rename_i l g
   exact ⟨l,g,fun j f=>by simpa using List.all_eq_true.1 this j f⟩
  ·cases this
theorem zKQ {P:List (List Nat)} {i j:Nat} (h:tied P i j=true):(∃l,ziW P i=some l∧j∈l)∨(∃l,ziW P j=some l∧i∈l):=by
 unfold tied at h;simp only [Bool.or_eq_true] at h
 rcases h with h|h
 ·left
  split at h
  ·rename_i l a; exact ⟨l,a,zeP.1 h⟩
  ·cases h
 ·right
  split at h
  ·rename_i l a; exact ⟨l,a,zeP.1 h⟩
  ·cases h
theorem zz2 {o:Oper} {t:Nat} (h:t∈zeN all o):t<20000∨40000≤t:=by
 have key:∀{s t:Nat},t∈(bif Nat.blt s gh then [s] else [])→t<20000:=by
  intro s t h
  cases hb:Nat.blt s gh with
  | true =>
   rw [hb] at h
   have:s<gh:=by simpa using hb
   have h:t∈[s]:=h;rw [List.mem_singleton.1 h];unfold gh at this; omega
  | false=>rw [hb] at h; cases h
 unfold zeN at h
 rcases List.mem_append.1 h with h|h
 ·unfold rdO at h;obtain ⟨x,_,a⟩:=List.mem_flatMap.1 h;unfold zxU at a
  split at a
  ·exact .inl (key a)
  ·rw [List.mem_singleton.1 a]; unfold gb; omega
  ·cases a
 ·unfold gdR at h
  split at h
  ·split at h
   ·exact .inl (key h)
   ·cases h
  ·cases h
theorem zzc (a:List (Rec τ)) (i:Nat) (f:Nat→Bool) (L:Hp τ) (k:Nat):lk (zlj Rec.U a i f L) k=match ziX Rec.U a i f k with
  | some v=>v
  | none=>lk L k:=by
 rw [zuU,zkw,zuU];cases ziX Rec.U a i f k<;>rfl
theorem zsz {R α:Type} (q:R→List (Nat × α)):∀(rs:List R) (i:Nat) (f:Nat→Bool) (B:List (Nat × α)),zlj q rs i f B=zlj q rs i f []++B
 | [],_,_,_=>rfl
 | r::rs,i,f,B=>by
  simp only [zlj];rw [zsz q rs (i+1) f (if f i=true then q r++B else B),zsz q rs (i+1) f (if f i=true then q r++[] else [])]
  split<;>simp
theorem zCT (hm:X.P.follows .mixedOrders=true) (hN:X.n≤gh) {id:Nat} {l:List Oper} {s:List (Rec τ)} {Eb' E':zad τ} {L':Hp τ} {T:List Nat} (hch:zuw X w0 h0 F l l E L nid s Eb' L' nid') (hrf:Ref Eb' E') (hok:zvq l ((drs l 0 s).reverse++[])=true)
  (hTT:∀q∈s,q.run=true→∀k∈q.t,k∈T) {L2:Hp τ} {ν0:Vn τ} {hh0:Fz} {φ0:Nat→List Nat} {a:Act} {w:World} {Q:Exit→Act→World→Prop} (hnod0:a.defers=[]) (hsize0:a.tmps.size=X.n) (M0:Mem X.P X.G w0 h0 F L2 w ν0 hh0 φ0) (hE0:zcr X hh0 ν0 a E)
  (hL2:∀k∈T,lk L2 k=lk L k) (hn0:∀k,nid≤k→k<nid'→ν0 k=none)
  (hQ:∀ν' h' φ' a' w',a'.defers=[]→a'.tmps.size=X.n→Mem X.P X.G w0 h0 F (zlj Rec.U s 0 (fun _=>true) []++L2) w' ν' h' φ'→ν0.le ν'→hh0.le h'→zdM ν0 ν' nid nid'→zcr X h' ν' a' E'→Q .normal a' w'):(Code.region id l.toArray true).wp X.P Q a w:=by
 obtain ⟨c1,c2,c3,c4,c5,c6⟩:=zuw.get 0 hch;obtain ⟨hcl2,hah⟩:=zGg hok
 have hdr:∀(j:Nat) (q:Rec τ),s[j]? = some q→(⟨j,q.o.dst,zeN l q.o,(if q.run=true then q.t++kys q.U else []),kys q.U⟩:Dr)∈((drs l 0 s).reverse++[]):=by
  intro j q I;have:=zJR (all:=l) 0 j q I;rw [Nat.zero_add] at this;simpa using this
 have A:∀(j:Nat) (q:Rec τ),s[j]? = some q→RecOk X w0 h0 F l (zlj Rec.ne s 0 (fun k=>Nat.blt k j) E) q:=fun j q I=>by
  have:=(c5 j q I).2.2.1;simpa using this
 refine zBk hm (fun b a w=>b.size=l.length∧(∀j,b.getD j false=true→∀e∈zDT l j,b.getD e false=true)∧a.defers=[]∧a.tmps.size=X.n ∧
  ∃ν h φ,Mem X.P X.G w0 h0 F (zlj Rec.U s 0 (fun j=>b.getD j false) L2) w ν h φ∧zcr X h ν a (zlj Rec.ne s 0 (fun j=>b.getD j false) E)∧ν0.le ν∧hh0.le h ∧
   ∀k, ν k≠none→ν0 k≠none∨∃j q,s[j]? = some q∧b.getD j false=true∧q.lo≤k∧k<q.hi) ?_ ?_ ?_ ?_
 ·rintro b a w ⟨h,_⟩; simpa using h
 ·have hf:∀j,(Array.replicate l.toArray.size false).getD j false=false:=by
   intro j;simp [Array.getD_eq_getD_getElem?,Array.getElem?_replicate]
   split<;>simp
  refine ⟨by simp,fun j hj=>(by rw [hf] at hj; cases hj),hnod0,hsize0, ν0,hh0, φ0,?_,?_,Vn.le.refl _,Fz.le.refl _,fun k hk => .inl hk⟩
  ·rw [ztr _ _ _ _ fun j _=>hf j]; exact M0.drew
  ·rw [ztr _ _ _ _ fun j _=>hf j]; exact hE0
 ·rintro b a w i ⟨hls,hcl,W,C, ν,h, φ,M,hE,hle1,hle2,hν⟩ hi
  have hi':i<l.length∧b.getD i true=false∧∀e∈zDT l i,b.getD e false=true:=by
   unfold Region.ready at hi;simp only [List.mem_filter,List.mem_range,Bool.and_eq_true,Bool.not_eq_true',List.size_toArray] at hi;refine ⟨hi.1,hi.2.1,fun e he=>?_⟩;have h2:=hi.2.2
   have hoi:l.toArray[i]? = some (l[i]'hi.1):=by simp [hi.1]
   rw [hoi] at h2;simp only [Option.map_some,Option.getD_some,Array.all_eq_true'] at h2;unfold zDT at he;rw [List.getElem?_eq_getElem hi.1] at he;simp only [List.mem_map,List.mem_filter] at he;obtain ⟨ed,⟨hed,hb⟩,rfl⟩:=he;have:=h2 ed (by simpa using hed);simpa [hb] using this
  obtain ⟨hil,hiu,hpre⟩:=hi'
  have hfi:b.getD i false=false:=by
   have h1:i<b.size:=by omega
   simp [Array.getD_eq_getD_getElem?,h1] at hiu ⊢;exact hiu
  have hqi:i<s.length:=by omega
  obtain ⟨q,I⟩:∃q,s[i]? = some q:=⟨_,List.getElem?_eq_getElem hqi⟩;obtain ⟨ho,hL,hR,hlo,hhi⟩:=c5 i q I;rw [Nat.zero_add] at hL hR;have hcl':∀j,b.getD j false=true→∀e∈zDT l j,b.getD e false=true:=hcl
  have hT2:∀(j:Nat) (q':Rec τ),s[j]? = some q'→j≠i→(ztl ⟨i,q.o.dst,zeN l q.o,(if q.run=true then q.t++kys q.U else []),kys q.U⟩ ⟨j,q'.o.dst,zeN l q'.o,(if q'.run=true then q'.t++kys q'.U else []),kys q'.U⟩=true)→b.getD j false=Nat.blt j i:=by
   intro j q' D hne hcla;obtain ⟨li1,hli1,hlt1⟩:=hah _ (hdr i q I);obtain ⟨lj1,hlj1,hlt2⟩:=hah _ (hdr j q' D)
   have htied:tied (zir [] l) i j=true:=by
    rcases hcl2 _ (hdr i q I) _ (hdr j q' D) with h1|h1|h1
    ·exact (hne h1.symm).elim
    ·rw [h1] at hcla; cases hcla
    ·exact h1
   rcases zKQ htied with ⟨l1,h1,h2⟩|⟨l1,h1,h2⟩
   ·have hf:=zz0 (f:=fun k=>b.getD k false) hcl' i l1 h1 hpre j h2;have h1':ziW (zir [] l) i=some li1:=hli1;rw [h1] at h1';cases h1';have:=hlt1 j h2
    have hbl:Nat.blt j i=true:=by rw [Nat.blt_eq]; exact this
    rw [hbl]; exact hf
   ·have h1':ziW (zir [] l) j=some lj1:=hlj1;rw [h1] at h1';cases h1';have hlt:i<j:=hlt2 i h2
    have hbl:Nat.blt j i=false:=by rw [← Bool.not_eq_true,Nat.blt_eq]; omega
    rw [hbl]
    cases hfj:b.getD j false with
    | false=>rfl
    | true =>
     have:b.getD i false=true:=zz0 (f:=fun k=>b.getD k false) hcl' j _ h1 (hcl' j hfj) i h2;rw [hfi] at this; cases this
  have hii:Nat.blt i i=false:=by rw [← Bool.not_eq_true,Nat.blt_eq]; omega
  have hclD:∀{q':Rec τ} {d:Nat},q'.o.dst=some d→d∈zeN l q.o→∀j:Nat,ztl ⟨i,q.o.dst,zeN l q.o,(if q.run=true then q.t++kys q.U else []),kys q.U⟩ ⟨j,q'.o.dst,zeN l q'.o,(if q'.run=true then q'.t++kys q'.U else []),kys q'.U⟩=true:=by
   intro q' d hd hm j;simp only [ztl,hd,zeP.2 hm,Bool.true_or,Bool.or_true]
  have hclE:∀{q':Rec τ} {d:Nat},q'.o.dst=some d→q.o.dst=some d→∀j:Nat,ztl ⟨i,q.o.dst,zeN l q.o,(if q.run=true then q.t++kys q.U else []),kys q.U⟩ ⟨j,q'.o.dst,zeN l q'.o,(if q'.run=true then q'.t++kys q'.U else []),kys q'.U⟩=true:=by
   intro q' d hd hd2 j;simp only [ztl,hd,hd2,Nat.beq_refl,Bool.or_true]
  have hclU:∀{q':Rec τ} {k:Nat},q.run=true→k∈kys q'.U→(k∈q.t∨k∈kys q.U)→∀j:Nat,ztl ⟨i,q.o.dst,zeN l q.o,(if q.run=true then q.t++kys q.U else []),kys q.U⟩ ⟨j,q'.o.dst,zeN l q'.o,(if q'.run=true then q'.t++kys q'.U else []),kys q'.U⟩=true:=by
   intro q' k K hk hk2 j;simp only [ztl,K,if_true];rw [zIj (i:=k) hk (List.mem_append.2 hk2),Bool.true_or]
  have hreads:zeL X h ν a (zeN l q.o) (zlj Rec.ne s 0 (fun k=>Nat.blt k i) E):=by
   intro t ht x R;refine hE t x ?_;rw [zkw] at R ⊢;rw [← zgs Rec.ne (f:=fun j=>b.getD j false) (f':=fun k=>Nat.blt k i) (t:=t) s 0 ?_] at R
   ·exact R
   ·intro j q' D Z;rw [Nat.zero_add]
    by_cases c:j=i
    ·subst c; rw [hfi,hii]
    ·obtain ⟨y,hy⟩:=Z;refine hT2 j q' D c ?_
     rcases zJS (A j q' D).gv hy with h1|⟨_,h1,h2⟩|⟨_,d,h1,h2⟩
     ·exact hclD h1 ht j
     ·rcases zz2 ht with O|O<;>omega
     ·have p:=(A j q' D).dst;rw [h1] at p;have hdl2:d<X.n:=Nat.le_of_ble_eq_true p;have hN2:X.n≤9000:=hN
      have h4:t<40000:=by omega
      rcases zz2 ht with O|O
      ·omega
      ·omega
  have N:∀j,(b.setIfInBounds i true).getD j false=(b.getD j false||Nat.beq j i):=by
   intro j
   have h1:i<b.size:=by omega
   by_cases c:j=i
   ·subst c;simp [Array.getD_eq_getD_getElem?,h1]
   ·have:Nat.beq j i=false:=zcL.2 c;simp [Array.getD_eq_getD_getElem?,Ne.symm c,this]
  have g:∀j,j≠i→(b.setIfInBounds i true).getD j false=b.getD j false:=fun j hj=>by rw [N,zcL.2 hj,Bool.or_false]
  have H:(b.setIfInBounds i true).getD i false=true:=by rw [N]; simp
  have hcl3:∀j,(b.setIfInBounds i true).getD j false=true→∀e∈zDT l j,(b.setIfInBounds i true).getD e false=true:=by
   intro j hj e he
   have hle:∀e,b.getD e false=true→(b.setIfInBounds i true).getD e false=true:=fun e h=>by rw [N,h]; rfl
   by_cases c:j=i
   ·subst c; exact hle e (hpre e he)
   ·rw [g j c] at hj; exact hle e (hcl j hj e he)
  have henv:∀{a':Act} {h':Fz} {ν':Vn τ},zcr X h' ν' a' (q.ne++zlj Rec.ne s 0 (fun j=>b.getD j false) E)→zcr X h' ν' a' (zlj Rec.ne s 0 (fun j=>(b.setIfInBounds i true).getD j false) E):=by
   intro a' h' ν' hE2 t x R
   by_cases hgv:zkm x=true
   ·exact zzi hgv
   ·refine hE2 t x ?_;rw [zkw] at R;rw [znD,zkw]
    have hreal:∀{j:Nat} {q':Rec τ},s[j]? = some q'→∀y,asc q'.ne t=some y→zkm y=false→q'.o.dst=some t:=by
     intro j q' D y hy hg
     rcases zJS (A j q' D).gv hy with h1|⟨h1,_⟩|⟨h1,_⟩
     ·exact h1
     ·rw [h1] at hg; cases hg
     ·rw [h1] at hg; cases hg
    cases hlk:ziX Rec.ne s 0 (fun j=>(b.setIfInBounds i true).getD j false) t with
    | some y =>
     rw [hlk] at R;cases R;obtain ⟨j,q',D,hfj,hy⟩:=zz1 Rec.ne s 0 hlk;rw [Nat.zero_add] at hfj;have hdj:=hreal D x hy (by simpa using hgv)
     cases hne:asc q.ne t with
     | some z =>
      have h1:q.o.dst=some t:=by
       rcases zJS (A i q I).gv hne with h1|⟨h1,h2,O⟩|⟨_,d,h2,O⟩
       ·exact h1
       ·have p:=(A j q' D).dst;rw [hdj] at p
        have p:t<X.n:=by simpa [dOk] using p
        unfold gh at hN; omega
       ·have p:=(A j q' D).dst;rw [hdj] at p
        have p:t<X.n:=by simpa [dOk] using p
        unfold gh at hN; omega
      have S:=zuT Rec.ne (f:=fun j=>(b.setIfInBounds i true).getD j false) (t:=t) s 0 i q I (by rw [Nat.zero_add]; exact H) hne fun J q2 m Z hlt=>by
       rw [Nat.zero_add,g J (by omega)];obtain ⟨y2,hy2⟩:=Z
       have hd2:q2.o.dst=some t:=by
        rcases zJS (A J q2 m).gv hy2 with h2|⟨_,h2,O⟩|⟨_,d,h2,O⟩
        ·exact h2
        ·have p:=(A i q I).dst;rw [h1] at p
         have p:t<X.n:=by simpa [dOk] using p
         unfold gh at hN; omega
        ·have p:=(A i q I).dst;rw [h1] at p
         have p:t<X.n:=by simpa [dOk] using p
         unfold gh at hN; omega
       rw [hT2 J q2 m (by omega) (hclE hd2 h1 J), ← Bool.not_eq_true,Nat.blt_eq];omega
      rw [hlk] at S;cases S;rfl
     | none =>
      rw [zgs Rec.ne (f:=fun j=>b.getD j false) (f':=fun j=>(b.setIfInBounds i true).getD j false) (t:=t) s 0 (fun J q2 m Z=>by
       rw [Nat.zero_add]
       by_cases c:J=i
       ·subst c;rw [I] at m;cases m;obtain ⟨z,Y⟩:=Z;rw [hne] at Y; cases Y
       ·rw [g J c]),hlk]
    | none =>
     rw [hlk] at R
     have hni:asc q.ne t=none:=by
      cases Y:asc q.ne t with
      | none=>rfl
      | some z =>
       exfalso
       have:∀(rs:List (Rec τ)) (k:Nat) (q':Rec τ),rs[k]? = some q'→∀(i0:Nat) (f:Nat→Bool),f (i0+k)=true→asc q'.ne t=some z→ziX Rec.ne rs i0 f t≠none:=by
        intro rs
        induction rs with
        | nil=>intro k q' h; simp at h
        | cons r rs ih =>
         intro k q' hk i0 f hf Y;simp only [ziX]
         cases hl:ziX Rec.ne rs (i0+1) f t with
         | some v=>simp
         | none =>
          cases k with
          | zero =>
           simp at hk; subst hk;simp only [Nat.add_zero] at hf;simp [hf,Y]
          | succ k=>exact (ih k q' (by simpa using hk) (i0+1) f (by rwa [show i0+1+k=i0+(k+1) by omega]) Y hl).elim
       exact this s i q I 0 _ (by rw [Nat.zero_add]; exact H) Y hlk
     rw [hni]
     rw [zgs Rec.ne (f:=fun j=>b.getD j false) (f':=fun j=>(b.setIfInBounds i true).getD j false) (t:=t) s 0 (fun J q2 m Z=>by
       rw [Nat.zero_add]
       by_cases c:J=i
       ·subst c;rw [I] at m;cases m;obtain ⟨z,Y⟩:=Z;rw [hni] at Y; cases Y
       ·rw [g J c]),hlk]
     exact R
  have hsz2:(b.setIfInBounds i true).size=l.length:=by simpa using hls
  have hol:l.toArray[i]? = some q.o:=by simpa using ho
  unfold wpOp;rw [hol];dsimp only;have V:=A i q I;rw [V.want h ν a (fun t ht x R=>(Ref.on (l:=zeN l q.o) V.refw hreads) t (by unfold zeN; exact List.mem_append_right _ ht) x R)]
  cases K:q.run with
  | false =>
   obtain ⟨hU,hv⟩:=V.pass K;rw [if_neg (by simp)];refine ⟨hsz2,hcl3,by rw [ztM]; exact W,by rw [zqi]; exact C, ν,h, φ,M.congr fun k=>?_,henv ?_,hle1,hle2,fun k hk=>?_⟩
   ·rw [zzc,zzc]
    rw [zgs Rec.U (f:=fun j=>(b.setIfInBounds i true).getD j false) (f':=fun j=>b.getD j false) (t:=k) s 0 fun J q2 m Z=>by
     rw [Nat.zero_add]
     by_cases c:J=i
     ·subst c;rw [I] at m;cases m;obtain ⟨z,Y⟩:=Z;rw [hU] at Y; cases Y
     ·rw [g J c]]
   ·unfold Rec.ne;rw [hv];exact ztL hN V.dst C V.gv rfl fun t x R _=>hE t x R
   ·rcases hν k hk with h1|⟨j,q',h1,h2,O⟩
    ·exact .inl h1
    ·exact .inr ⟨j,q',h1,by rw [N,h2]; rfl,O⟩
  | true =>
   rw [if_pos rfl]
   left
   refine V.does K _ ν h φ a w _ Q W M (fun t ht x R=>(Ref.on (l:=zeN l q.o) V.ref hreads) t (by unfold zeN; exact List.mem_append_left _ ht) x R) (fun k hk=>?_) (fun k h1 h2=>?_) fun ν' h' φ' w' u M' hν' hh hfr hv=>?_
   ·rw [hL,zzc,zzc,hL2 k (hTT q (List.mem_of_getElem? I) K k hk)]
    rw [zgs Rec.U (f:=fun j=>b.getD j false) (f':=fun k=>Nat.blt k i) (t:=k) s 0 fun J q2 m Z=>by
     rw [Nat.zero_add]
     by_cases c:J=i
     ·subst c; rw [hfi,hii]
     ·exact hT2 J q2 m c (hclU K (zIi.1 Z) (.inl hk) J)]
   ·cases hνk:ν k with
    | none=>rfl
    | some y =>
     exfalso
     rcases hν k (by rw [hνk]; simp) with O|⟨j,q',O,h4,h5,h6⟩
     ·exact O (hn0 k (by omega) (by omega))
     ·rcases Nat.lt_trichotomy j i with hj|hj|hj
      ·have:=c6 j i q' q O I hj; omega
      ·subst hj; rw [hfi] at h4; cases h4
      ·have:=c6 i j q q' I O hj; omega
   ·refine ⟨hsz2,hcl3,by rw [ztM]; exact W,by rw [zqi]; exact C, ν',h', φ',M'.congr fun k=>?_,henv ?_,hle1.trans hν',hle2.trans hh,fun k hk=>?_⟩
    ·rw [zuU,zuU,zkw,znD,zkw]
     cases hUk:asc q.U k with
     | some z =>
      have S:=zuT Rec.U (f:=fun j=>(b.setIfInBounds i true).getD j false) (t:=k) s 0 i q I (by rw [Nat.zero_add]; exact H) hUk fun J q2 m Z hlt=>by
       rw [Nat.zero_add,g J (by omega),hT2 J q2 m (by omega) (hclU K (zIi.1 Z) (.inr (zIi.1 ⟨z,hUk⟩)) J), ← Bool.not_eq_true,Nat.blt_eq];omega
      rw [S]
     | none =>
      rw [zgs Rec.U (f:=fun j=>(b.setIfInBounds i true).getD j false) (f':=fun j=>b.getD j false) (t:=k) s 0 fun J q2 m Z=>by
       rw [Nat.zero_add]
       by_cases c:J=i
       ·subst c;rw [I] at m;cases m;obtain ⟨z,Y⟩:=Z;rw [hUk] at Y; cases Y
       ·rw [g J c]]
    ·exact ztL hN V.dst C V.gv hv fun t x R _=>(hE.le hh hν') t x R
    ·by_cases hk0:ν k=none
     ·obtain ⟨h1,h2⟩:=hfr k hk0 hk;exact .inr ⟨i,q,I,H,h1,h2⟩
     ·rcases hν k hk0 with h1|⟨j,q',h1,h2,O⟩
      ·exact .inl h1
      ·exact .inr ⟨j,q',h1,by rw [N,h2]; rfl,O⟩
 ·rintro b a w ⟨hls,hcl,W,C, ν,h, φ,M,hE,hle1,hle2,hν⟩ hr
  have hall:∀i,i<l.length→b.getD i false=true:=by
   intro i
   induction i using Nat.strongRecOn with
   | _ i ih =>
    intro hi
    cases hb:b.getD i false with
    | true=>rfl
    | false =>
     exfalso
     have hmem:i∈Region.ready .any l.toArray b:=by
      unfold Region.ready;simp only [List.mem_filter,List.mem_range,Bool.and_eq_true,Bool.not_eq_true',List.size_toArray]
      have h1:i<b.size:=by omega
      refine ⟨hi,by simpa [Array.getD_eq_getD_getElem?,h1] using hb,?_⟩
      have hoi:l.toArray[i]? = some l[i]:=by simp [hi]
      rw [hoi];simp only [Option.map_some,Option.getD_some,Array.all_eq_true'];intro e he
      cases hbe:Region.binds .any e with
      | false=>rfl
      | true =>
       have hlt:e.on<i:=by
        have hqi:i<s.length:=by omega
        obtain ⟨l1,h2,O⟩:=hah _ (hdr i _ (List.getElem?_eq_getElem hqi));obtain ⟨P',_,_,h4⟩:=zxb l [] i l[i] (List.getElem?_eq_getElem hi);simp only [List.length_nil,Nat.zero_add] at h4;have h2:ziW (zir [] l) i=some l1:=h2;rw [h4] at h2;cases h2;refine O e.on ?_;unfold zBh;refine List.mem_flatMap.2 ⟨e,List.mem_filter.2 ⟨by simpa using he,hbe⟩,List.mem_cons_self ..⟩
       simpa using ih e.on hlt (by omega)
     rw [hr] at hmem;cases hmem
  have hcong:∀{α:Type} (f:Rec τ→List (Nat × α)) (B:List (Nat × α)) (t:Nat),asc (zlj f s 0 (fun j=>b.getD j false) B) t=asc (zlj f s 0 (fun _=>true) B) t:=by
   intro α f B t
   rw [zkw,zkw,zgs f (f:=fun j=>b.getD j false) (f':=fun _=>true) (t:=t) s 0 fun j q I _=>by
    rw [Nat.zero_add];refine hall j ?_;have:=(List.getElem?_eq_some_iff.1 I).1
    omega]
  refine hQ ν h φ a w W C (M.congr fun k=>?_) hle1 hle2 (fun k h1 h2=>?_) (hrf.env (fun t x R=>hE t x ?_))
  ·rw [← zsz,zuU,zuU,hcong]
  ·rcases hν k h2 with O|⟨j,q,O,h4,h5,h6⟩
   ·exact (O h1).elim
   ·have:=(c5 j q O).2.2.2; omega
  ·rw [hcong, ← c3]; exact R
theorem zPn (z:X.P.follows .mixedOrders=true) {op:OpF τ ρ} (i:zv9 X w0 h0 F op) (C:X.n≤gh) {id:Nat} {l:List Oper} {Q:Exit→Act→World→Prop} {K:zad τ→Hp τ→Nat→Option ρ}
  (I:∀E L nid a w,K E L nid=some r→St X w0 h0 F E L nid a w→Q .normal a w) (e:zBi op X l 0 l [] E L nid K=some r) (s:St X w0 h0 F E L nid a w):(Code.region id l.toArray true).wp X.P Q a w:=by
 obtain ⟨H,v,B,b,u,c,m,f,d⟩:=zMl i e (Ref.refl E);obtain ⟨J,_,_,D,_,_⟩:=zuw.get 0 c;obtain ⟨ν,h, φ,M,G,hn⟩:=s.st;refine zCT z C c m f (T:=H.flatMap (·.t)) (fun q p _ k o=>List.mem_flatMap.2 ⟨q,p,o⟩) s.nodef s.size M G (fun _ _=>rfl) (fun k h1 _=>hn k h1) fun ν' h' φ' A w' h1 h2 x _ _ j g=>?_;refine I u B b A w' d ⟨h1,h2, ν',h', φ',by rw [D,zsz]; exact x,g,fun k o=>?_⟩
 cases hνk:ν' k with
 | none=>rfl
 | some y =>
  have:=j k (hn k (by omega)) (by rw [hνk]; simp);omega
end
end Go.Rk
end
section
namespace Go.Rk
open Go.RowKit Go.Dm Go.Dk
variable {τ:Nat→Type}
variable {t:Nat}
section
variable {ρ:Type} {X:Cx τ} {w0 w w':World} {h0 h h' H:Fz} {F:List Nat} {E E' Eb:zad τ} {L L2:Hp τ} {ν ν':Vn τ} {φ φ':Nat→List Nat} {nid nid':Nat} {r:ρ} {a:Act}
def SlV (X:Cx τ) (a:Act) (t:Nat) (ty:Ty) (v:Value):Prop:=(Nat.blt t gh=true→(∀x y,ty ≠ .pr x y)→a.tmps[t]? = some v)∧(gb≤t→v=ptr (t-gb) 0)∧(gh≤t→t<20000→v=X.fx (t-gh))
def SlVs (X:Cx τ) (a:Act):Pl→List Value→Prop
 | [],vs=>vs=[]
 | (t,ty)::l,vs=>∃v us,vs=v::us∧SlV X a t ty v∧SlVs X a l us
theorem zKv {G:Sig τ} {t:Ty} {A:XV τ} {q:t.den τ × List Nat × List Nat} (k:resX G L t A=some q):(∀x y,t ≠ .pr x y)→zkm A=false:=by
 intro a;unfold resX at k
 split at k
 ·rfl
 ·rfl
 ·rfl
 ·exact (a _ _ rfl).elim
 ·cases k
theorem zKw (M:Mem X.P X.G w0 h0 F L w ν h φ) (g:zcr X h ν a E) (f:h.le H):∀{l:Pl} {p:DP τ l.ts} {m n:List Nat},leaf X.G E L l=some (p,m,n)→(∀b∈fps φ n,H b=w.heap[b]?)→nod m=true→∃vs,TrXs X.P X.G H w l.ts p vs (fps φ m)∧SlVs X a l vs
 | [],p,m,n,e,_,_=>by cases e; exact ⟨[],.nil,rfl⟩
 | (t,ty)::l,p,m,n,e,i,hn=>by
  unfold leaf at e
  split at e
  ·rename_i A k
   split at e
   ·rename_i x D I d
    split at e
    ·rename_i q K J j
     cases e;obtain ⟨r,B,y⟩:=zvM hn;obtain ⟨v,h1,h2,o,z⟩:=g t A k;obtain ⟨vs,s,u⟩:=zKw M g f j (fun b c=>i b (by rw [zfy]; exact List.mem_append_right _ c)) B;refine ⟨v::vs,?_,v,vs,rfl,⟨fun C a2=>h2 C (zKv d a2),o,z⟩,u⟩;rw [zfy];refine .cons ty _ _ v vs _ _ ?_ ?_ (M.fps_dis y)
     ·rw [DP.hd_mk]; exact zJL (L:=L) M f d (fun _ _=>rfl) ⟨fun _ _=>rfl,fun b c=>i b (by rw [zfy]; exact List.mem_append_left _ c)⟩ r h1
     ·rw [DP.tl_mk]; exact s
    ·cases e
   ·cases e
  ·cases e
theorem zHM {P:Program} (r:X.P=P):∀{l:Pl} {p:DP τ l.ts} {nid:Nat} {E:zad τ} {L:Hp τ} {c:Nat} {vs:List Value} {fp:List Nat} {L0:Hp τ} {ν:Vn τ} {φ:Nat→List Nat},zC9 X.G l p nid=(E,L,c)→Mem X.P X.G w0 h0 F L0 w ν h φ→TrXs X.P X.G h w l.ts p vs fp→SlVs X a l vs →
  zhJ w0 h F φ fp→(∀i,nid≤i→i<c→ν i=none)→nid≤c∧∃ν' φ',Adds X.P X.G w0 h0 F L0 w ν h φ L nid c fp ν' φ'∧zcr X h ν' a E
 | [],p,nid,E,L,c,vs,fp,L0, ν, φ,e,M,n,m,j,hn=>by
  cases e;exact ⟨Nat.le_refl _, ν, φ,(Grew.nil M _ _).adds,fun t x e=>by cases e⟩
 | (t,ty)::l,p,nid,E,L,c,vs,fp,L0, ν, φ,e,M,n,m,j,hn=>by
  unfold zC9 at e
  split at e
  rename_i A U o h1
  split at e
  rename_i s C u h2
  cases e;obtain ⟨v,us,rfl,s1,s2⟩:=m
  cases n with
  | cons _ _ _ _ _ f f' B t2 hd =>
   have z:=zvN h1;have g:o≤c:=packE_le h2;obtain ⟨_, ν1, φ1,A1,H⟩:=zHM r h2 M t2 s2 (j.sub fun b d=>List.mem_append_right _ d) (fun i a b=>hn i (by omega) b)
   obtain ⟨ν2, φ2,A2,q⟩:=zza A1.mem h1 B (fun i a b=>by
    cases e:ν1 i with
    | none=>rfl
    | some y =>
     have:=A1.fresh i (hn i a (by omega)) (by rw [e]; simp)
     omega) (zhJ.adds A1 (j.sub fun b d=>List.mem_append_left _ d) hd)
   refine ⟨by omega, ν2, φ2,Adds.seq A1 A2 z g,fun t' x e=>?_⟩;simp only [zdO,zcp] at e
   cases d:Nat.beq t t' with
   | true =>
    rw [d] at e;cases e
    have:t=t':=by simpa using d
    subst this;refine ⟨v,q,fun D a2=>s1.1 D fun x y k=>?_,s1.2⟩;subst k;cases h1;cases a2
   | false =>
    rw [d] at e;exact (H t' x e).le (Fz.le.refl _) A2.le
where
 packE_le:∀{l:Pl} {p:DP τ l.ts} {nid:Nat} {E:zad τ} {L:Hp τ} {c:Nat},zC9 X.G l p nid=(E,L,c)→nid≤c
 | [],p,nid,E,L,c,e=>by cases e; exact Nat.le_refl _
 | (t,ty)::l,p,nid,E,L,c,e=>by
  unfold zC9 at e
  split at e
  rename_i A U o h1
  split at e
  rename_i s C u h2
  cases e;exact Nat.le_trans (zvN h1) (packE_le h2)
theorem zJu (d:zth X.P X.G h) (c:∀p∈X.G.gl,True):zcr X h ν a (glE X.G.gl):=by
 intro t x e;obtain ⟨p,hp,b⟩:=List.mem_map.1 (znE e);cases b;obtain ⟨vs,h1,h2⟩:=d.1 p hp;refine ⟨ptr p.1 0,⟨p.1,0,vs,rfl,h1,h2⟩,fun h=>?_,fun _=>by rw [Nat.add_sub_cancel_left],fun h1 h2=>?_⟩
 ·exfalso
  simp only [Nat.blt_eq,gb,gh] at h;omega
 ·exfalso
  simp only [gb] at h2;omega
theorem zcr.app (h1:zcr X h ν a E) (h2:zcr X h ν a E'):zcr X h ν a (E++E'):=by
 intro t x e;rw [znD] at e
 cases b:asc E t with
 | some y=>rw [b] at e; cases e; exact h1 t _ b
 | none=>rw [b] at e; exact h2 t x e
def SameV (X:Cx τ) (w0:World) (h0:Fz) (F:List Nat) (w:World) (a:Act) (E:zad τ) (L:Hp τ) (s t:Nat):Prop:=∀(h:Fz) (ν:Vn τ) (φ:Nat→List Nat) x,Mem X.P X.G w0 h0 F L w ν h φ→zcr X h ν a E→alV E L t=some x→zj0 X h ν a s x
theorem zHN (M:Mem X.P X.G w0 h0 F L w ν h φ) (b:zcr X h ν a E):∀{al:List (Nat × Nat)},(∀p∈al,SameV X w0 h0 F w a E L p.1 p.2)→zcr X h ν a (alias E L al)
 | [],_=>b
 | (s,t)::al,c=>by
  have d:=zHN M b (al:=al) fun p hp=>c p (List.mem_cons_of_mem _ hp);unfold alias
  split
  ·rename_i v f
   intro t' x e;simp only [zdO,zcp] at e
   cases hb:Nat.beq s t' with
   | true =>
    rw [hb] at e;cases e
    have:s=t':=by simpa using hb
    subst this;exact c _ (List.mem_cons_self ..) h ν φ _ M b f
   | false=>rw [hb] at e; exact d t' x e
  ·exact d
theorem Mem.none (M:Mem X.P X.G w0 h0 F L w ν h φ) (d:h.le H) (c:H.on w) (a:∀b,H b≠none→h b≠none∨b∈F∨w0.heap.size≤b):Mem X.P X.G w0 h0 F [] w (fun _=>Option.none) H (fun _=>[]) :=
 ⟨M.os,M.tape,M.output,M.size,M.frame,M.le.trans d,c,fun b e=>by
  rcases a b e with h1|h1
  ·exact M.new b h1
  ·exact .inr h1,fun _=>rfl,(fun _ _ _ h=>by cases h),(fun _ _ h=>by cases h),M.gl.le d,M.fp⟩
theorem zOC {x y:XV τ} {v u:Value} (a:zyc (some x) (some y)=true) (e:XOk X.P X.G h ν x v) (f:XOk X.P X.G h ν y u):v=u:=by
 unfold zyc at a
 split at a
 ·rename_i i j h1 h2
  cases h1; cases h2
  have:i=j:=by simpa using a
  subst this;obtain ⟨g,m,c,a2,_⟩:=e;obtain ⟨k,l,b,d,_⟩:=f;rw [c] at b;cases b;rw [a2,d]
 ·rename_i i j h1 h2
  cases h1; cases h2
  have:i=j:=by simpa using a
  subst this;obtain ⟨_,_,_,_,c,a2⟩:=e;obtain ⟨_,_,_,_,b,d⟩:=f;rw [c] at b;cases b;rw [a2,d]
 ·cases a
theorem zOD {x y:XV τ} (a:zyc (some x) (some y)=true):zkm x=false∧zkm y=false:=by
 refine ⟨?_,?_⟩
 ·cases x<;>first|rfl|(simp [zyc] at a)
 ·cases y<;>first|rfl|(cases x<;>simp [zyc] at a; done)|(exfalso; unfold zyc at a; split at a<;>first|(rename_i b; cases b; done)|(rename_i _ b; cases b; done)|cases a)
def SlU (X:Cx τ) (a:Act) (t:Nat) (v:Value):Prop:=(Nat.blt t gh=true→a.tmps[t]? = some v)∧(gb≤t→v=ptr (t-gb) 0)∧(gh≤t→t<20000→v=X.fx (t-gh))
theorem SlU.one {u v:Value} (h1:SlU X a t u) (h2:SlU X a t v) (b:t<20000):u=v:=by
 cases hg:Nat.blt t gh with
 | true =>
  have d:=h1.1 hg;rw [h2.1 hg] at d;exact (Option.some.inj d).symm
 | false =>
  have c:gh≤t:=by
   have:¬ t<gh:=by rw [← Nat.blt_eq,hg]; simp
   omega
  rw [h1.2.2 c b,h2.2.2 c b]
theorem zj0.u {x:XV τ} (b:zj0 X h ν a t x) (c:zkm x=false):∃v,XOk X.P X.G h ν x v∧SlU X a t v :=
 let ⟨v,h1,h2,h3,h4⟩:=b; ⟨v,h1,fun h=>h2 h c,h3,h4⟩
def AlU (X:Cx τ) (w:World) (a:Act) (t:Nat) (v:Value):Prop:=match t/100000 with
 | 0=>SlU X a t v
 | o+1=>∃b vs ti,SlU X a (t%100000) (ptr b 0)∧w.heap[b]? = some (.cells vs ti (0,0))∧vs[o]? = some v
theorem zHO {P:Program} {G:Sig τ}:∀{cs:List (CV τ)} {vs:List Value} {o:Nat} {c:CV τ},CVs P G h ν cs vs→ziW cs o=some c→∃v,vs[o]? = some v∧zdg P G h ν c v
 | [],_,_,_,_,e=>by cases e
 | d::cs,_,0,c,⟨v,us,rfl,h1,_⟩,e=>by cases e; exact ⟨v,rfl,h1⟩
 | d::cs,_,o+1,c,⟨v,us,rfl,_,h2⟩,e=>zHO (cs:=cs) (vs:=us) h2 e
theorem zOE (M:Mem X.P X.G w0 h0 F L w ν h φ) (f:zcr X h ν a E) {t:Nat} {x:XV τ} (p:zkm x=false) (e:alV E L t=some x):∃v,XOk X.P X.G h ν x v∧AlU X w a t v:=by
 unfold alV at e;unfold AlU
 split at e
 ·rename_i h0
  obtain ⟨v,h1,h2⟩:=(f t x e).u p;rw [h0];exact ⟨v,h1,h2⟩
 ·rename_i o r
  split at e
  ·rename_i i hi
   split at e
   ·rename_i ti cs n
    split at e
    ·rename_i c hc
     cases e;obtain ⟨k,h1,h2⟩:=(f _ _ hi).u rfl;have g:=M.res i;rw [n] at g;obtain ⟨b,q,vs,l,_,m,z⟩:=g;obtain ⟨u,A,d,y,_⟩:=h1;rw [l] at d;cases d;obtain rfl:k=ptr b 0:=y;obtain ⟨v,j,s⟩:=zHO z hc;rw [r];exact ⟨v,s,b,vs.toArray,ti,h2,m,by simpa using j⟩
    ·cases e
   ·cases e
  ·cases e
theorem AlU.one {u v:Value} (h1:AlU X w a t u) (h2:AlU X w a t v) (c:t%100000<20000):u=v:=by
 unfold AlU at h1 h2
 split at h1
 ·rename_i h0
  rw [h0] at h2
  have:t<100000:=by omega
  rw [Nat.mod_eq_of_lt this] at c;exact h1.one h2 c
 ·rename_i o i
  rw [i] at h2;obtain ⟨b,vs,ti,g,h,l⟩:=h1;obtain ⟨m,j,k,f,e,d⟩:=h2;have:=g.one f c;cases this;rw [h] at e;cases e;rw [l] at d;exact Option.some.inj d
theorem zOF (M:Mem X.P X.G w0 h0 F L w ν h φ) (d:zcr X h ν a E) {al:List (Nat × Nat)} (e:alike E L al=true):∀p∈al,p.2%100000<20000∧∃v,SlU X a p.1 v∧AlU X w a p.2 v:=by
 intro p hp;have b:=List.all_eq_true.1 e p hp;simp only [Bool.and_eq_true,Nat.blt_eq] at b;obtain ⟨c,b⟩:=b
 cases h1:asc E p.1 with
 | none=>rw [h1] at b; cases b
 | some x =>
  cases h2:alV E L p.2 with
  | none=>rw [h1,h2] at b; simp [zyc] at b
  | some y =>
   rw [h1,h2] at b;obtain ⟨i,g⟩:=zOD b;obtain ⟨v,j,a2⟩:=(d _ _ h1).u i;obtain ⟨u,f,k⟩:=zOE M d g h2;have:=zOC b j f;subst this;exact ⟨c,v,a2,k⟩
theorem zOG {l:Pl} {al:List (Nat × Nat)} {f:DP τ l.ts→Option ρ} (s:St X w0 h0 F E L nid a w) (e:zHS X.G l al f E L=some r) :
  ∃p,f p=some r∧∀(K:zad τ→Hp τ→Nat→Option ρ),zDa X.G l al p K=some r→∃O P d,K O P d=some r∧St X w0 h0 F O P d a w:=by
 unfold zHS hi at e
 split at e
 ·rename_i p m n Y
  obtain ⟨c,e⟩:=zg0 e;simp only [Bool.and_eq_true] at c;obtain ⟨⟨o,t⟩,D⟩:=c;refine ⟨p,e,fun K C=>?_⟩;obtain ⟨ν,h, φ,M,Q,hn⟩:=s.st;obtain ⟨vs,V,U⟩:=zKw M Q (M.lend_le n) Y (fun b c=>zqA c) o;have g:=M.fps_dis (zw7 t);unfold zDa hi at C
  split at C
  rename_i E1 L1 n1 hp
  have M0:=M.none (M.lend_le n) (zvL M.on) (fun b c=>by
   by_cases z:b∈fps φ n
   ·obtain ⟨i,_,hi⟩:=zeZ.1 z;exact .inr (M.out i b hi).2
   ·rw [zkt z] at c; exact .inl c)
  have j:zhJ w0 (zrV h w (fps φ n)) F (fun _=>[]) (fps φ m):=fun b c=>by
   obtain ⟨i,_,hi⟩:=zeZ.1 c;refine ⟨(fun _ h=>by cases h),?_,(M.out i b hi).2⟩;rw [zkt (g b c)]; exact (M.out i b hi).1
  obtain ⟨_, ν', φ',A,I⟩:=zHM (X:=X) rfl hp M0 V U j (fun _ _ _=>rfl);have B:=A.mem;rw [List.append_nil] at B;refine ⟨_,_,_,C,s.nodef,s.size, ν',_, φ',B,(zHN B I fun q S=>?_).app (zJu M0.gl fun _ _=>trivial),fun i hi=>?_⟩
  ·obtain ⟨J,v,R,a2⟩:=zOF M Q D q S;intro h2 ν2 φ2 x M2 N T
   by_cases k:zkm x=true
   ·exact zzi k
   ·obtain ⟨u,W,Z⟩:=zOE M2 N (by simpa using k) T;have H:=Z.one a2 J;subst H;exact ⟨u,W,fun h _=>R.1 h,R.2⟩
  ·cases e:ν' i with
   | none=>rfl
   | some y =>
    have:=A.fresh i rfl (by rw [e]; simp);omega
 ·cases e
theorem zKx {c:CV τ} (hc:evC E (.tmp t)=some c):asc E t=some (.c c):=by
 have hc:(match (bif Nat.blt t gh then asc E t else none) with
  | some (.c c)=>some c
  | _=>none)=some c:=hc
 cases b:Nat.blt t gh with
 | false=>rw [b] at hc; cases hc
 | true =>
  rw [b] at hc;dsimp only [cond_true] at hc
  split at hc
  ·rename_i d a
   cases hc;exact a
  ·cases hc
def exT:Ex→Exit
 | .no => .normal
 | .ex id => .exit id
 | .rt => .ret
def KOk (X:Cx τ) (w0:World) (h0:Fz) (F:List Nat) (K:Kx τ ρ) (Q:Exit→Act→World→Prop) (r:ρ):Prop:=∀e E L nid a w,K e E L nid=some r→St X w0 h0 F E L nid a w→Q (exT e) a w
theorem KOk.thn {K:Kx τ ρ} {Q:Exit→Act→World→Prop} {next:Act→World→Prop} {K0:zad τ→Hp τ→Nat→Option ρ} (hK:KOk X w0 h0 F K Q r) (h0':∀E L nid a w,K0 E L nid=some r→St X w0 h0 F E L nid a w→next a w) :
  KOk X w0 h0 F (fun e E L nid=>match e with
   | .no=>K0 E L nid
   | e=>K e E L nid) (Exit.then next Q) r:=by
 intro e E L nid a w he s
 cases e with
 | no=>exact h0' E L nid a w he s
 | ex id=>exact hK (.ex id) E L nid a w he s
 | rt=>exact hK .rt E L nid a w he s
def Hn.dep:Hn τ ρ→Nat
 | .q _ b=>b.dep+1
 | _=>0
theorem exX_ok (hm:X.P.follows .mixedOrders=true) {op:OpF τ ρ} (N:zv9 X w0 h0 F op) (Z:X.n≤gh) (c:Code):∀(hn:Hn τ ρ) (K:Kx τ ρ) (Q:Exit→Act→World→Prop) (E:zad τ) (L:Hp τ) (nid:Nat) (a:Act) (w:World),
  exX op X c hn E L nid K=some r→hn.giv=zis op X c hn K→KOk X w0 h0 F K Q r→St X w0 h0 F E L nid a w→c.wp X.P Q a w:=by
 induction c with
 | skip =>
  intro hn K Q E L nid a w e _ g s;exact wp_skip (g .no E L nid a w e s)
 | region id ops d =>
  intro hn K Q E L nid a w e _ g s;obtain ⟨l⟩:=ops
  cases d with
  | true=>exact zPn hm N Z (fun E L nid a w h s=>g .no E L nid a w h s) e s
  | false=>exact wp_region_list (zFc N Z (fun E L nid a w h s=>g .no E L nid a w h s) e s)
 | seq x y I C =>
  intro hn K Q E L nid a w e z g s
  have two:∀(h1 h2:Hn τ ρ),exX op X x h1 E L nid (zKz op X y h2 K)=some r→h1.giv=zis op X x h1 (zKz op X y h2 K)→h2.giv=zis op X y h2 K→(Code.seq x y).wp X.P Q a w:=by
   intro h1 h2 e A B;refine wp_seq (I h1 _ _ E L nid a w e A (g.thn fun E L nid a w u s=>C h2 K Q E L nid a w u B g s) s)
  cases hn with
  | e=>exact two .e .e e rfl rfl
  | q h1 h2 =>
   have o:(h1.giv,h2.giv)=(zis op X x h1 (zKz op X y h2 K),zis op X y h2 K):=z
   injection o with A B
   exact two h1 h2 e A B
  | n k h1 =>
   cases k with
   | zero=>exact two .e .e e rfl rfl
   | succ k =>
    cases k with
    | zero=>exact two .e h1 e rfl z
    | succ k=>exact two .e (.n (k+1) h1) e rfl z
  | w l al f h1=>exact two .e .e e rfl rfl
  | j l al f h1 h2 =>
   have o:(f,h1.giv,h2.giv)=((fun t=>zDa X.G l al t fun E L nid=>exX op X y h2 E L nid K),zis op X x h1 (zHT X l al f K),zis op X y h2 K):=z
   injection o with g0 g12
   injection g12 with A B
   refine wp_seq (I h1 (zHT X l al f K) _ E L nid a w e A (g.thn fun E L nid a w u s=>?_) s);obtain ⟨p,hp,J⟩:=zOG s u;have H:=congrFun g0 p;rw [hp] at H;obtain ⟨W,T,D,V,S⟩:=J _ H.symm;exact C h2 K Q W T D a w V B g S
 | cond c x y I C =>
  intro hn K Q E L nid a w e z g s
  have A:hn.fst.giv=zis op X x hn.fst K:=by
   cases hn with
   | q h1 h2 =>
    have o:(h1.giv,h2.giv)=(zis op X x h1 K,zis op X y h2 K):=z
    injection o with A _
   | _=>rfl
  have B:hn.sn2.giv=zis op X y hn.sn2 K:=by
   cases hn with
   | q h1 h2 =>
    have o:(h1.giv,h2.giv)=(zis op X x h1 K,zis op X y h2 K):=z
    injection o with _ B
   | _=>rfl
  obtain ⟨ν,h, φ,M,hE,hnn⟩:=s.st;obtain ⟨Ea,O,Y⟩:=zef a s.nodef;unfold exX at e
  split at e
  ·rename_i b hc
   obtain ⟨v,h1,h2⟩:=zB Y (hE.on _) hc;obtain rfl:v=_:=h2
   cases b with
   | true=>exact wp_cond_true (O.ev h1) (I hn.fst K Q E L nid a w e A g s)
   | false=>exact wp_cond_false (O.ev h1) (C hn.sn2 K Q E L nid a w e B g s)
  ·rename_i b hc
   obtain ⟨v,h1,h2⟩:=zB Y (hE.on _) hc;obtain rfl:v=_:=h2
   split at e
   ·rename_i t
    have ha:asc E t=some (.c (.b b)):=zKx hc
    cases b with
    | true =>
     rw [if_pos rfl] at e;exact wp_cond_true (O.ev h1) (I hn.fst K Q _ L nid a w e A g (s.ref ((Ref.refl E).known ha)))
    | false =>
     rw [if_neg (by simp)] at e;exact wp_cond_false (O.ev h1) (C hn.sn2 K Q _ L nid a w e B g (s.ref ((Ref.refl E).known ha)))
   ·cases e
  ·cases e
 | block id c R =>
  intro hn K Q E L nid a w e z g s;refine wp_block (R hn (blkK id K) _ E L nid a w e z (fun e E L nid a w u s=>?_) s)
  cases e with
  | no=>exact g .no E L nid a w u s
  | rt=>exact g .rt E L nid a w u s
  | ex i =>
   unfold blkK at u;simp only at u
   cases hb:Nat.beq i id with
   | true =>
    rw [hb] at u
    have:i=id:=by simpa using hb
    subst this;exact zC5 (g .no E L nid a w u s)
   | false =>
    rw [hb] at u;exact zC6 hb (g (.ex i) E L nid a w u s)
 | loop c R =>
  intro hn K Q E L nid a w e z g s
  cases hn with
  | w l al f h1 =>
   have o:((fun n t=>f (n+1) t),(fun t=>f 0 t),fun n=>(h1 n).giv)=((fun n t=>zDa X.G l al t fun E L nid=>exX op X c (h1 n) E L nid (zHT X l al (f n) K)),(fun _=>none),fun n=>zis op X c (h1 n) (zHT X l al (f n) K)):=z
   injection o with g0 g12
   injection g12 with A B
   have key:∀(n:Nat) (a:Act) (w:World),(∃E L nid,zHS X.G l al (f n) E L=some r∧St X w0 h0 F E L nid a w)→c.wp X.P (Exit.then (fun a' w'=>∃m,m<n∧∃E L nid,zHS X.G l al (f m) E L=some r∧St X w0 h0 F E L nid a' w') Q) a w:=by
    rintro n a w ⟨E,L,nid,u,s⟩;obtain ⟨p,hp,J⟩:=zOG s u
    cases n with
    | zero =>
     have:=congrFun A p;rw [hp] at this; cases this
    | succ n =>
     have H:=congrFun (congrFun g0 n) p;rw [hp] at H;obtain ⟨W,T,D,V,S⟩:=J _ H.symm;exact R (h1 n) (zHT X l al (f n) K) _ W T D a w V (congrFun B n) (g.thn fun E L nid a w u s=>⟨n,Nat.lt_succ_self n,E,L,nid,u,s⟩) S
   exact zLx (fun n a w=>∃E L nid,zHS X.G l al (f n) E L=some r∧St X w0 h0 F E L nid a w) key fuel ⟨E,L,nid,e,s⟩
  | e=>cases e
  | n k h1=>cases e
  | j l al f h1 h2=>cases e
  | q h1 h2 =>
   have key:∀(hn:Hn τ ρ) (E:zad τ) (L:Hp τ) (nid:Nat) (a:Act) (w:World),lpU (fun h E L nid K=>exX op X c h E L nid K) hn E L nid K=some r→hn.giv=lpR (fun h E L nid K=>exX op X c h E L nid K) (fun h K=>zis op X c h K) hn K→St X w0 h0 F E L nid a w→Code.rounds X.P c Q hn.dep a w:=by
    intro hn
    induction hn with
    | q h1 h2 _ U =>
     intro E L nid a w e z s;have o:(h1.giv,h2.giv)=(zis op X c h1 (lpK (fun h E L nid K=>exX op X c h E L nid K) h2 K),lpR (fun h E L nid K=>exX op X c h E L nid K) (fun h K=>zis op X c h K) h2 K):=z
     injection o with A B
     exact R h1 (lpK (fun h E L nid K=>exX op X c h E L nid K) h2 K) _ E L nid a w e A (g.thn fun E L nid a w u s=>U E L nid a w u B s) s
    | _=>intro E L nid a w e; cases e
   exact wp_loop_rounds _ (key (.q h1 h2) E L nid a w e z s)
 | exit id =>
  intro hn K Q E L nid a w e _ g s;exact wp_exit (g (.ex id) E L nid a w e s)
 | ret =>
  intro hn K Q E L nid a w e _ g s;exact wp_ret (g .rt E L nid a w e s)
 | rangeFunc _ _ _ _ _ _=>intro hn K Q E L nid a w e; cases e
 | scope _ _=>intro hn K Q E L nid a w e; cases e
 | label _=>intro hn K Q E L nid a w e; cases e
 | goto _=>intro hn K Q E L nid a w e; cases e
 | refuse _=>intro hn K Q E L nid a w e; cases e
end
end Go.Rk
end
section
namespace Go.Rk
open Go.RowKit Go.Dm Go.Dk
variable {τ:Nat→Type}
section
variable {ρ:Type} {X:Cx τ} {w0 w w':World} {h0 h h' H:Fz} {F:List Nat} {E E' Eb:zad τ} {L L2:Hp τ} {ν ν':Vn τ} {φ φ':Nat→List Nat} {nid nid':Nat} {a:Act}
theorem zGh {P:Program} {α:Type} {f:α→Sem Value}:∀{l:List α} {vs:List Value},l.length=vs.length→(∀(i:Nat) x v,l[i]? = some x→vs[i]? = some v→(f x).run P w = .ok v w)→(l.mapM f).run P w = .ok vs w
 | [],[],_,_=>by simp
 | x::l,v::vs,c,h=>by
  have h1:=h 0 x v rfl rfl;have h2:=zGh (f:=f) (l:=l) (vs:=vs) (by simpa using c) fun i x v a b=>h (i+1) x v (by simpa using a) (by simpa using b);simp [List.mapM_cons,h1,h2,Result.andThen]
 | [],_::_,h,_=>by simp at h
 | _::_,[],h,_=>by simp at h
def rv1 (tmps:Array Value):ResultVar→Sem Value
 | .tmp t=>pure (tmps.getD t undef)
 | .cell a t=>do loadVar t (← asAddr (tmps.getD a undef))
theorem zIk (fn:Func) (tmps:Array Value):results fn tmps=(do
  let vs ← fn.results.mapM (rv1 tmps)
  pure (if h:vs.size=1 then vs[0] else .tuple vs)):=by
 unfold results
 have:(fun x=>match x with
  | ResultVar.tmp t=>pure (tmps.getD t undef)
  | ResultVar.cell a t=>do loadVar t (← asAddr (tmps.getD a undef)))=rv1 tmps:=funext fun x=>by cases x<;>rfl
 rw [← this];rfl
theorem zx6 {fn:Func} {rv:List ResultVar} {tmps:Array Value} {vs:List Value} (a:fn.results=⟨rv⟩) (b:rv.length=vs.length) (h:∀(i:Nat) x v,rv[i]? = some x→vs[i]? = some v→(rv1 tmps x).run X.P w = .ok v w):(results fn tmps).run X.P w = .ok (zzQ vs) w:=by
 have h1:=zGh (P:=X.P) (w:=w) b h
 have h2:(fn.results.mapM (rv1 tmps)).run X.P w = .ok vs.toArray w:=by
  rw [a];simp [h1,Result.andThen]
 have c:∀u:List Value,(if h:u.toArray.size=1 then u.toArray[0] else Value.tuple u.toArray)=zzQ u:=by
  intro u
  match u with
  | []=>rfl
  | [v]=>rfl
  | v::d::u=>rfl
 rw [zIk,Sem.run_bind,h2];simp only [Result.andThen_ok,Sem.run_pure,c]
theorem zzd (M:Mem X.P X.G w0 h0 F L w ν h φ) (I:zcr X h ν a E):∀{rv:List ResultVar} {xs:List (XV τ)},ztm X E L rv=some xs→(∀y∈xs,zkm y=false)→∃vs:List Value,rv.length=vs.length∧vs.length=xs.length∧(∀(i:Nat) x v,rv[i]? = some x→vs[i]? = some v→(rv1 a.tmps x).run X.P w = .ok v w)∧∀(i:Nat) A v,xs[i]? = some A→vs[i]? = some v→XOk X.P X.G h ν A v
 | [],xs,e,_=>by cases e; exact ⟨[],rfl,rfl,(fun i x v h=>by simp at h),fun i A v h=>by simp at h⟩
 | .tmp t::rv,xs,e,g=>by
  unfold ztm at e;obtain ⟨r,e⟩:=zg0 e
  split at e
  ·rename_i A J
   split at e
   ·rename_i As s
    cases e;obtain ⟨vs,h1,h2,K,R⟩:=zzd M I s fun y Q=>g y (List.mem_cons_of_mem _ Q);obtain ⟨v,N,p,_⟩:=I t A J;have p:=p r (g A (List.mem_cons_self ..));refine ⟨v::vs,by simp [h1],by simp [h2],fun i x u m f=>?_,fun i B u z f=>?_⟩
    ·cases i with
     | zero =>
      simp at m f;subst m; subst f;simp [rv1,Array.getD_eq_getD_getElem?,p]
     | succ i=>exact K i x u (by simpa using m) (by simpa using f)
    ·cases i with
     | zero=>simp at z f; subst z; subst f; exact N
     | succ i=>exact R i B u (by simpa using z) (by simpa using f)
   ·cases e
  ·cases e
 | .cell t ty::rv,xs,e,g=>by
  unfold ztm at e;obtain ⟨r,e⟩:=zg0 e
  split at e
  ·rename_i id J
   split at e
   ·rename_i bt cs Y
    split at e
    ·rename_i n hn
     split at e
     ·rename_i A d
      split at e
      ·rename_i As s
       cases e;obtain ⟨vs,h1,h2,K,R⟩:=zzd M I s fun y Q=>g y (List.mem_cons_of_mem _ Q);obtain ⟨pv,N,p,_⟩:=I t _ J;have p:=p r rfl;obtain ⟨b,q,us,hν,rfl,_,hh,T,U⟩:=zFg M N Y
       have S:∃u,(loadVar ty ⟨b,0,none⟩).run X.P w = .ok u w∧XOk X.P X.G h ν A u:=by
        unfold zHQ at d
        split at d
        ·rename_i l k
         obtain ⟨H,V⟩:=T.cut k;have D:=zA1 k
         split at d
         ·rename_i C
          cases d;refine ⟨_,zvS (zxJ C) (zgp hn) (vs:=(us.drop 0).take n) (by rw [H.len,D]) (fun j v hj=>?_),_,rfl,H⟩;have:=U.cells (o:=0) (n:=n) rfl j v hj;simpa using this
         ·rename_i C
          split at d
          ·rename_i c
           cases d;obtain ⟨u,us',Z,W,_⟩:=H;refine ⟨u,zvR (zxJ C) (U.cell (o:=0) ?_),W⟩
           have:((us.drop 0).take n)[0]? = some u:=by rw [Z]; rfl
           rw [List.getElem?_take] at this
           split at this
           ·simpa using this
           ·cases this
          ·cases d
         ·cases d
        ·cases d
       obtain ⟨u,H,V⟩:=S;refine ⟨u::vs,by simp [h1],by simp [h2],fun i x O m f=>?_,fun i B O z f=>?_⟩
       ·cases i with
        | zero =>
         simp at m f;subst m; subst f;simp [rv1,Array.getD_eq_getD_getElem?,p,asAddr,H,Result.andThen]
        | succ i=>exact K i x O (by simpa using m) (by simpa using f)
       ·cases i with
        | zero=>simp at z f; subst z; subst f; exact V
        | succ i=>exact R i B O (by simpa using z) (by simpa using f)
      ·cases e
     ·cases e
    ·cases e
   ·cases e
  ·cases e
theorem zGi (k:zcr X h ν a E):∀{b:List Nat} {xs:List (XV τ)},zDb E b=some xs→xs.length=b.length∧∀(i:Nat) A v,xs[i]? = some A→(b.map X.fx)[i]? = some v→XOk X.P X.G h ν A v
 | [],xs,e=>by cases e; exact ⟨rfl,fun i A v h=>by simp at h⟩
 | j :: b,xs,e=>by
  unfold zDb at e;obtain ⟨d,e⟩:=zg0 e
  split at e
  ·rename_i A l
   split at e
   ·rename_i q f
    cases e;obtain ⟨h1,h2⟩:=zGi k f;obtain ⟨v,m,_,_,n⟩:=k _ A l
    have o:j<gh:=by simpa using d
    have p:v=X.fx j:=by
     have:=n (Nat.le_add_right ..) (by unfold gh at o ⊢; omega)
     rwa [Nat.add_sub_cancel_left] at this
    subst p;refine ⟨by simp [h1],fun i B u g c=>?_⟩
    cases i with
    | zero=>simp at g c; subst g; subst c; exact m
    | succ i=>exact h2 i B u (by simpa using g) (by simpa using c)
   ·cases e
  ·cases e
theorem zGj:∀{ts:List Ty} {p:DP τ ts} {i0:Nat} {nid:Nat} {E:zad τ} {L:Hp τ} {c:Nat} {vs:List Value} {fp:List Nat} {L0:Hp τ} {ν:Vn τ} {φ:Nat→List Nat},zDc X.G i0 ts p nid=(E,L,c)→Mem X.P X.G w0 h0 F L0 w ν h φ→TrXs X.P X.G h w ts p vs fp→(∀(j:Nat) v,vs[j]? = some v→a.tmps[i0+j]? = some v) →
  i0+ts.length≤gh→zhJ w0 h F φ fp→(∀i,nid≤i→i<c→ν i=none)→nid≤c∧(∃ν' φ',Adds X.P X.G w0 h0 F L0 w ν h φ L nid c fp ν' φ'∧zcr X h ν' a E)∧∀t x,asc E t=some x→i0≤t∧t<i0+ts.length
 | [],p,i0,nid,E,L,c,vs,fp,L0, ν, φ,e,M,n,l,g,m,hn=>by
  cases e;exact ⟨Nat.le_refl _,⟨ν, φ,(Grew.nil M _ _).adds,fun t x e=>by cases e⟩,fun t x e=>by cases e⟩
 | ty::ts,p,i0,nid,E,L,c,vs,fp,L0, ν, φ,e,M,n,l,g,m,hn=>by
  unfold zDc at e
  split at e
  rename_i A U o h1
  split at e
  rename_i s D u h2
  cases e;simp only [List.length_cons] at g
  cases n with
  | cons _ _ _ v us f f' C t2 hd =>
   have B:=zvN h1;have k:o≤c:=packP_le h2;obtain ⟨_,⟨ν1, φ1,A1,H⟩,r⟩:=zGj h2 M t2 (fun j v z=>by have:=l (j+1) v (by simpa using z); rwa [show i0+(j+1)=i0+1+j by omega] at this) (by omega) (m.sub fun b d=>List.mem_append_right _ d) (fun i a b=>hn i (by omega) b)
   obtain ⟨ν2, φ2,A2,q⟩:=zza A1.mem h1 C (fun i a b=>by
    cases e:ν1 i with
    | none=>rfl
    | some y =>
     have:=A1.fresh i (hn i a (by omega)) (by rw [e]; simp)
     omega) (zhJ.adds A1 (m.sub fun b d=>List.mem_append_left _ d) hd)
   refine ⟨by omega,⟨ν2, φ2,Adds.seq A1 A2 B k,fun t' x e=>?_⟩,fun t' x e=>?_⟩
   ·simp only [zdO,zcp] at e
    cases d:Nat.beq i0 t' with
    | true =>
     rw [d] at e;cases e
     have:i0=t':=by simpa using d
     subst this;refine ⟨v,q,fun _ _=>?_,fun h=>?_,fun h=>?_⟩
     ·have:=l 0 v rfl; rwa [Nat.add_zero] at this
     ·exfalso; unfold gb at h; unfold gh at g; omega
     ·exfalso; omega
    | false =>
     rw [d] at e;exact (H t' x e).le (Fz.le.refl _) A2.le
   ·simp only [zdO,zcp] at e;simp only [List.length_cons]
    cases d:Nat.beq i0 t' with
    | true =>
     have:i0=t':=by simpa using d
     omega
    | false =>
     rw [d] at e;have:=r t' x e;omega
where
 packP_le:∀{ts:List Ty} {p:DP τ ts} {i0 nid:Nat} {E:zad τ} {L:Hp τ} {c:Nat},zDc X.G i0 ts p nid=(E,L,c)→nid≤c
 | [],p,i0,nid,E,L,c,e=>by cases e; exact Nat.le_refl _
 | ty::ts,p,i0,nid,E,L,c,e=>by
  unfold zDc at e
  split at e
  rename_i A U o h1
  split at e
  rename_i s D u h2
  cases e;exact Nat.le_trans (zvN h1) (packP_le h2)
theorem TrXs.len {P:Program} {G:Sig τ}:∀{ts:List Ty} {q:DP τ ts} {vs:List Value} {fp:List Nat},TrXs P G h w ts q vs fp→vs.length=ts.length
 | _,_,_,_,.nil=>rfl
 | _,_,_,_,.cons _ _ _ _ _ _ _ _ h2 _=>by simp [h2.len]
theorem zGk {G:Sig τ}:∀{ts:List Ty} {b:List (XV τ)} {q:DP τ ts × List Nat × List Nat},zti G L ts b=some q→(∀t∈ts, ∀x y,t ≠ .pr x y)→∀y∈b,zkm y=false
 | [],[],_,_,_,y,a=>by cases a
 | t::ts,A::b,q,e,hp,y,a=>by
  unfold zti at e
  split at e
  ·rename_i x l m d
   split at e
   ·rename_i g c
    rcases List.mem_cons.1 a with rfl|a
    ·exact zKv d (hp t (List.mem_cons_self ..))
    ·exact zGk c (fun t f=>hp t (List.mem_cons_of_mem _ f)) y a
   ·cases e
  ·cases e
 | [],_::_,_,e,_,_,_=>by cases e
 | _::_,[],_,e,_,_,_=>by cases e
theorem zz4 {vs:List Value} {X:Cx τ} {a:Act} {E:zad τ} {h:Fz} {ν:Vn τ} (d:zcr (X.w (bkV vs)) h ν a E) (b:∀(j:Nat) x,asc E j=some x→zkm x=false→XOk X.P X.G h ν x (vs.getD j undef)):∀{i:List Nat},zcr (X.w (bkV vs)) h ν a (gho E i)
 | []=>fun t x e=>by cases e
 | j :: i=>by
  unfold gho
  split
  ·rename_i v f
   split
   ·rename_i c hc
    cases hb:Nat.blt j gh with
    | false=>exact zz4 d b
    | true =>
     intro t x e;simp only [cond_true,zdO,zcp] at e
     cases g:Nat.beq (gh+j) t with
     | false=>rw [g] at e; exact zz4 d b t x e
     | true =>
      rw [g] at e;cases e
      have:gh+j=t:=by simpa using g
      subst this
      have k:j<gh:=by simpa using hb
      have m:zkm v=false:=by
       cases v with
       | gv t x=>cases l:j/32<;>rw [l] at hc<;>cases hc
       | _=>rfl
      refine ⟨bkV vs j,zvO (b _ _ f m) hc,fun h=>?_,fun h=>?_,fun _ _=>?_⟩
      ·exfalso; rw [Nat.blt_eq] at h; omega
      ·exfalso; unfold gb gh at *; omega
      ·show _=bkV vs (gh+j-gh); rw [Nat.add_sub_cancel_left]
   ·exact zz4 d b
  ·exact zz4 d b
def noPr:Ty→Bool
 | .pr _ _=>false
 | _=>true
structure FnOkk (X:Cx τ) (f:FuncId) (fn:Func) (c:Code) (rv:List ResultVar) (k:Con τ):Prop where
 at_:X.P.funcs[f]? = some fn
 body:fn.body=some c
 name:(fn.name == "runtime.NumGoroutine")=false
 size:fn.ntmps=X.n
 small:X.n≤gh
 pars:k.ps.length≤X.n
 rs:fn.results=⟨rv⟩
 pr:k.rs.all noPr=true
theorem zPr {f:FuncId} {fn:Func} {c:Code} {rv:List ResultVar} {k:Con τ} {hn:Hn τ (DP τ k.rs)} {op:(Nat→Value)→OpF τ (DP τ k.rs)} (hm:X.P.follows .mixedOrders=true) (hop:∀fx w0 h0 F,zv9 (X.w fx) w0 h0 F (op fx)) (d:FnOkk X f fn c rv k) (hF:zui X k c rv hn op):COk X.P X.G f k:=by
 refine ⟨⟨fn,d.at_,by rw [d.body]; rfl,d.name⟩,fun h w p r vs fp Q hfp hon z D hr=>?_⟩;refine calls_of_wp d.at_ d.body ?_;have J:=congrFun hF (bkV vs)
 injection J with K f2
 have K:=congrFun K p;rw [hr] at K;unfold entX at K
 split at K
 rename_i E0 L0 n0 hp
 have hlen:=z.len
 have M0:Mem (X.w (bkV vs)).P (X.w (bkV vs)).G w h fp [] w (fun _=>none) h (fun _=>[]) :=
  ⟨rfl,rfl,rfl,Nat.le_refl _,fun _ _ _=>rfl,Fz.le.refl _,hon,fun b g => .inl g,fun _=>rfl,(fun _ _ _ h=>by cases h),(fun _ _ h=>by cases h),Q,hfp⟩
 have O:∀(j:Nat) v,vs[j]? = some v→(vs.toArray++Array.replicate (fn.ntmps-vs.toArray.size) undef)[0+j]? = some v:=by
  intro j v Z;rw [Nat.zero_add,Array.getElem?_append_left (by simpa using (List.getElem?_eq_some_iff.1 Z).1)];simpa using Z
 obtain ⟨_,⟨ν', φ',A,C⟩,hk⟩:=zGj (X:=X.w (bkV vs)) (a:=⟨vs.toArray++Array.replicate (fn.ntmps-vs.toArray.size) undef,[]⟩) hp M0 z O (by have:=d.pars; have:=d.small; simp only [Nat.zero_add]; exact Nat.le_trans d.pars d.small) (fun b g=>⟨(fun _ h=>by cases h),D b g,.inl g⟩) (fun _ _ _=>rfl)
 have Y:(vs.toArray++Array.replicate (fn.ntmps-vs.toArray.size) undef).size=X.n:=by
  have:=d.pars;have:=d.size
  simp; omega
 have hS:St (X.w (bkV vs)) w h fp ((gho E0 k.bk++E0)++glE X.G.gl) L0 n0 ⟨vs.toArray++Array.replicate (fn.ntmps-vs.toArray.size) undef,[]⟩ w:=by
  refine ⟨rfl,Y, ν',h, φ',by have:=A.mem; rwa [List.append_nil] at this,((zz4 C fun j x hx hg=>?_).app C).app (zJu Q fun _ _=>trivial),fun i hi=>?_⟩
  ·obtain ⟨v,b1,b2,_⟩:=C j x hx;have Z:=hk j x hx
   have hjg:j<gh:=by have:=d.pars; have:=d.small; omega
   have I:=b2 (by rw [Nat.blt_eq]; exact hjg) hg
   have R:j<vs.length:=by omega
   have h3:=O j _ (List.getElem?_eq_getElem R);rw [Nat.zero_add] at h3;rw [h3] at I;cases I;rw [List.getD_eq_getElem?_getD,List.getElem?_eq_getElem R];exact b1
  ·cases e:ν' i with
   | none=>rfl
   | some y =>
    have:=A.fresh i rfl (by rw [e]; simp);omega
 refine exX_ok (X:=X.w (bkV vs)) (w0:=w) (h0:=h) (F:=fp) hm (hop _ _ _ _) d.small c hn _ (bodyPost X.P fn _) _ L0 n0 _ w K.symm f2 ?_ hS
 intro e E L nid a w' u s
 have key:∀{xs H:List (XV τ)} {l m:List Nat},ztm (X.w (bkV vs)) E L rv=some xs→zDb E k.bk=some H→zti X.G L k.rs (xs++H)=some (r,l,m)→(Nat.beq xs.length k.nr&&(nod l&&zy8 l m))=true →
   a.defers=[]∧∃v,(results fn a.tmps).run X.P w' = .ok v w'∧∃h' rs fp',Ending.returned v = .returned (zzQ (rs.take k.nr))∧Left h w fp h' w' fp'∧TrXs X.P X.G h' w' k.rs r rs fp'∧rs.drop k.nr=k.bk.map (bkV vs):=by
  intro xs H l m ho g o B;simp only [Bool.and_eq_true,Nat.beq_eq] at B;obtain ⟨hnr,S,U⟩:=B;obtain ⟨ν,h1, φ,M,hE,_⟩:=s.st
  have W:=zGk o fun t ht x y e=>by
   have:=List.all_eq_true.1 d.pr t ht;rw [e] at this; cases this
  obtain ⟨vals,o1,o2,o3,o4⟩:=zzd M hE ho fun y hy=>W y (List.mem_append_left _ hy);obtain ⟨b1,b2⟩:=zGi hE g
  have N:∀(i:Nat) (A:XV τ) (v:Value),(xs++H)[i]? = some A→(vals++k.bk.map (bkV vs))[i]? = some v→XOk X.P X.G h1 ν A v:=by
   intro i A v V I
   by_cases hi:i<xs.length
   ·rw [List.getElem?_append_left hi] at V;rw [List.getElem?_append_left (by omega)] at I;exact o4 i A v V I
   ·rw [List.getElem?_append_right (by omega)] at V;rw [List.getElem?_append_right (by omega),o2] at I;exact b2 _ A v V I
  have z:=zzR (L:=L) M (M.lend_le m) o (fun _ _=>rfl) (M.look fun _ _=>rfl) S (by simp [o2,b1]) N;refine ⟨s.nodef,zzQ vals,zx6 (X:=X) d.rs o1 o3,zrV h1 w' (fps φ m),_,fps φ l,?_,⟨M.os,M.tape,M.output,M.size,M.frame,M.le.trans (M.lend_le m),zvL M.on,fun b g=>?_,fun b g=>?_⟩,z,?_⟩
  ·rw [List.take_append_of_le_length (by omega),List.take_of_length_le (by omega)]
  ·by_cases T:b∈fps φ m
   ·obtain ⟨i,_,hi⟩:=zeZ.1 T;exact .inr (M.out i b hi).2
   ·rw [zkt T] at g; exact M.new b g
  ·obtain ⟨i,_,hi⟩:=zeZ.1 g;rw [zkt (M.fps_dis (zw7 U) b g)];exact M.out i b hi
  ·rw [List.drop_append,List.drop_eq_nil_of_le (by omega),List.nil_append,show k.nr-vals.length=0 by omega,List.drop_zero]
 have fin:(match ztm (X.w (bkV vs)) E L rv with
  | some vs=>match zDb E k.bk with
   | some H=>match zti X.G L k.rs (vs++H) with
    | some (p,l,m)=>bc (Nat.beq vs.length k.nr&&(nod l&&zy8 l m)) (some p) none
    | none=>none
   | none=>none
  | none=>none)=some r→a.defers=[]∧∃v,(results fn a.tmps).run X.P w' = .ok v w'∧∃h' rs fp',Ending.returned v = .returned (zzQ (rs.take k.nr))∧Left h w fp h' w' fp'∧TrXs X.P X.G h' w' k.rs r rs fp'∧rs.drop k.nr=k.bk.map (bkV vs):=by
  intro u
  split at u
  ·rename_i xs ho
   split at u
   ·rename_i H g
    split at u
    ·rename_i q l m o
     obtain ⟨B,u⟩:=zg0 u;cases u;exact key ho g o B
    ·cases u
   ·cases u
  ·cases u
 cases e with
 | ex id=>cases u
 | no=>exact fin u
 | rt=>exact fin u
end
end Go.Rk
end
section
namespace Go.Rk
open Go.RowKit Go.Dm Go.Dk
noncomputable section
variable {τ:Nat→Type} {ρ:Type}
abbrev Kz (τ:Nat→Type) (ρ:Type):=Ex→zad τ→Hp τ→List Nat→Nat→Option ρ
def frN {α:Type} (n:Nat) (k:Nat→α):α:=match n with
 | 0=>k 0
 | n+1=>k (n+1)
def ap {α:Type} (U L:List α):List α:=List.rec (motive:=fun _=>List α) L (fun x _ a=>x::a) U
theorem ap_eq {α:Type} (U L:List α):ap U L=U++L:=by
 induction U with
 | nil=>rfl
 | cons x U a=>show x::ap U L=_; rw [a]; rfl
def opsZ (op:OpF τ ρ) (n:Nat) (all:List Oper):List Oper→zad τ→Hp τ→List Nat→Nat→(zad τ→Hp τ→List Nat→Nat→Option ρ)→Option ρ
 | [],E,L,T,nid,K=>K E L T nid
 | o::l,E,L,T,nid,K=>bc (dOk n o.dst) (zxT all E o.guard
   (fun E=>op E L nid (fun v g U t nid=>frN nid fun nid=>opsZ op n all l (zC8 l o.dst v g E) (ap U L) (ap t T) nid K) o.op)
   fun E=>opsZ op n all l (unT E o.dst) L T nid K) none
def zA5 (op:OpF τ ρ) (n:Nat) (all:List Oper):Nat→List Oper→List Dr→zad τ→Hp τ→List Nat→Nat→(zad τ→Hp τ→List Nat→Nat→Option ρ)→Option ρ
 | _,[],R,E,L,T,nid,K=>bc (zvq all R) (K E L T nid) none
 | i,o::l,R,E,L,T,nid,K=>bc (dOk n o.dst) (zxT all E o.guard
   (fun E=>op E L nid (fun v g U t nid=>frN nid fun nid=>zA5 op n all (i+1) l (⟨i,o.dst,zeN all o,ap t (kys U),kys U⟩::R) (zC8 l o.dst v g E) (ap U L) (ap t T) nid K) o.op)
   fun E=>zA5 op n all (i+1) l (⟨i,o.dst,zeN all o,[],[]⟩::R) (unT E o.dst) L T nid K) none
def bsM (s k:Nat):Bool:=Nat.beq (Nat.land (Nat.shiftRight s k) 1) 1
def bsA (s k:Nat):Nat:=Nat.lor s (Nat.shiftLeft 1 k)
theorem zJp (s k:Nat):bsM s k=s.testBit k:=by
 have h1:Nat.land (Nat.shiftRight s k) 1=(s >>> k)%2:=Nat.and_one_is_mod (s >>> k);unfold bsM;rw [h1,Nat.testBit_eq_decide_div_mod_eq,Nat.shiftRight_eq_div_pow]
 cases Nat.mod_two_eq_zero_or_one (s/2^k) with
 | inl h=>rw [h]; rfl
 | inr h=>rw [h]; rfl
theorem zQj (s k j:Nat):bsM (bsA s k) j=(bsM s j||Nat.beq k j):=by
 rw [zJp,zJp]
 have h1:bsA s k=s ||| (1 <<< k):=rfl
 rw [h1,Nat.testBit_or,Nat.one_shiftLeft,Nat.testBit_two_pow]
 cases a:Nat.beq k j with
 | true=>rw [decide_eq_true (by simpa using a)]
 | false=>rw [decide_eq_false (fun e=>by subst e; simp at a)]
theorem zOp (j:Nat):bsM 0 j=false:=by rw [zJp]; exact Nat.zero_testBit j
def Bsr (s:Nat) (l:List Nat):Prop:=∀k,bsM s k=mem l k
theorem Bsr.nil:Bsr 0 []:=fun k=>by rw [zOp]; rfl
theorem Bsr.cons {s:Nat} {l:List Nat} (h:Bsr s l) (k:Nat):Bsr (bsA s k) (k::l):=fun j=>by
  rw [zQj,h j];rw [mem_cons]
  have:Nat.beq k j=Nat.beq j k:=by
    cases a:Nat.beq k j with
    | true => have:k=j:=by simpa using a
              subst this; exact a.symm
    | false =>
      cases hc:Nat.beq j k with
      | false=>rfl
      | true => have:j=k:=by simpa using hc
                subst this; rw [hc] at a; cases a
  rw [this,Bool.or_comm]
def cmU (lo hi:Nat):List Nat→Hp τ→Hp τ
 | _,[]=>[]
 | sn,(k,v)::U=>bif mem sn k then cmU lo hi sn U else match v with
  | .gone=>bif Nat.ble lo k&&Nat.blt k hi then cmU lo hi (k::sn) U else (k,.gone)::cmU lo hi (k::sn) U
  | v=>(k,v)::cmU lo hi (k::sn) U
def zA6 (lo hi:Nat):Nat→Hp τ→Hp τ
 | _,[]=>[]
 | s,(k,v)::U=>bif bsM s k then zA6 lo hi s U else match v with
  | .gone=>bif Nat.ble lo k&&Nat.blt k hi then zA6 lo hi (bsA s k) U else (k,.gone)::zA6 lo hi (bsA s k) U
  | v=>(k,v)::zA6 lo hi (bsA s k) U
theorem zFq {lo hi:Nat}:∀{U:Hp τ} {s:Nat} {sn:List Nat},Bsr s sn→zA6 lo hi s U=cmU lo hi sn U
 | [],_,_,_=>rfl
 | (k,v)::U,s,sn,h=>by
  unfold zA6 cmU;rw [h k,zFq h,zFq (h.cons k)]
def dd (lo hi:Nat):List Nat→List Nat→List Nat
 | _,[]=>[]
 | sn,t::T=>bif mem sn t||(Nat.ble lo t&&Nat.blt t hi) then dd lo hi sn T else t::dd lo hi (t::sn) T
def ddb (lo hi:Nat):Nat→List Nat→List Nat
 | _,[]=>[]
 | s,t::T=>bif bsM s t||(Nat.ble lo t&&Nat.blt t hi) then ddb lo hi s T else t::ddb lo hi (bsA s t) T
theorem zJq {lo hi:Nat}:∀{T:List Nat} {s:Nat} {sn:List Nat},Bsr s sn→ddb lo hi s T=dd lo hi sn T
 | [],_,_,_=>rfl
 | t::T,s,sn,h=>by
  unfold ddb dd;rw [h t,zJq h,zJq (h.cons t)]
def nodB:Nat→List Nat→Bool
 | _,[]=>true
 | s,i::l=>bif bsM s i then false else nodB (bsA s i) l
theorem zKm:∀{l:List Nat} {s:Nat} {sn:List Nat},Bsr s sn→nodB s l=true→nod l=true∧∀i∈l,i∉sn
 | [],_,_,_,_=>⟨rfl,fun i h=>by cases h⟩
 | i :: l,s,sn,h,e=>by
  unfold nodB at e
  cases b:bsM s i with
  | true=>rw [b] at e; cases e
  | false =>
   rw [b] at e;obtain ⟨h1,h2⟩:=zKm (h.cons i) e;have d:i∉l:=fun hi=>h2 i hi (List.mem_cons_self ..);refine ⟨?_,fun j a g=>?_⟩
   ·unfold nod;rw [h1]
    cases hm:mem l i with
    | false=>rfl
    | true =>
     obtain ⟨j,a,c⟩:=List.any_eq_true.1 (ztR _ _▸hm)
     have:i=j:=by simpa using c
     subst this;exact (d a).elim
   ·rcases List.mem_cons.1 a with rfl|a
    ·have f:=h j;rw [b] at f
     have:mem sn j=true:=by rw [ztR]; exact List.any_eq_true.2 ⟨j,g,by simp⟩
     rw [this] at f;cases f
    ·exact h2 j a (List.mem_cons_of_mem _ g)
def bsL:List Nat→Nat
 | []=>0
 | i::l=>bsA (bsL l) i
theorem zOr:∀l:List Nat,Bsr (bsL l) l
 | []=>Bsr.nil
 | i::l=>(zOr l).cons i
def zOs (l m:List Nat):Bool:=match m with
 | []=>true
 | m=>(fun s=>zCL l fun i => !bsM s i) (bsL m)
theorem zOt {l m:List Nat} (h:zOs l m=true):zy8 l m=true:=by
 cases m with
 | nil=>rw [zBd,List.all_eq_true]; intro i _; rfl
 | cons j m =>
  have h:(zCL l fun i => !bsM (bsL (j::m)) i)=true:=h;rw [zzl] at h;rw [zBd];rw [List.all_eq_true] at h ⊢;intro i hi;rw [← zOr (j::m) i];exact h i hi
def cmT (lo hi:Nat) (L:Hp τ) (T:List Nat):List Nat:=bif zCL L fun p=>Nat.blt p.1 lo then ddb lo hi 0 T else T
def gvB:XV τ→Bool
 | .gv _ _=>true
 | _=>false
def Cx.wn (X:Cx τ) (n:Nat):Cx τ:=⟨X.P,X.G,X.ty,X.cs,n,X.fx⟩
def nfE:List Nat→zad τ→(zad τ→Option ρ)→Option ρ
 | _,[],K=>K []
 | sn,(t,v)::E,K=>bc (mem sn t) (nfE sn E K) (nfE (t::sn) E fun E=>K ((t,v)::E))
def argE:Nat→List (XV τ)→zad τ
 | _,[]=>[]
 | i,v::vs=>(i,v)::argE (i+1) vs
def zHC:Nat→List Nat→Bool
 | _,[]=>true
 | k,i::l=>bif Nat.blt k i then zHC i l else false
def nodF:List Nat→Bool
 | []=>true
 | i::l=>bif zHC i l then true else nodB 0 (i::l)
theorem zKn:∀{l:List Nat} {k:Nat},zHC k l=true→∀j∈l,k<j
 | [],_,_,j,a=>by cases a
 | i::l,k,h,j,a=>by
  unfold zHC at h
  cases b:Nat.blt k i with
  | false=>rw [b] at h; cases h
  | true =>
   rw [b] at h
   have c:k<i:=by simpa using b
   rcases List.mem_cons.1 a with rfl|a
   ·exact c
   ·exact Nat.lt_trans c (zKn h j a)
theorem zHD:∀{l:List Nat} {k:Nat},zHC k l=true→nod (k::l)=true
 | l,k,h=>by
  have d:mem l k=false:=by
   cases hc:mem l k with
   | false=>rfl
   | true =>
    obtain ⟨j,c,a⟩:=List.any_eq_true.1 (ztR _ _▸hc);have:=zKn h j c;simp at a;omega
  unfold nod;rw [d]
  cases l with
  | nil=>rfl
  | cons i l =>
   unfold zHC at h
   cases b:Nat.blt k i with
   | false=>rw [b] at h; cases h
   | true=>rw [b] at h; simpa using zHD h
theorem zOu {l:List Nat} (h:nodF l=true):nod l=true:=by
 cases l with
 | nil=>rfl
 | cons i l =>
  replace h:(bif zHC i l then true else nodB 0 (i::l))=true:=h
  cases a:zHC i l with
  | true=>exact zHD a
  | false=>rw [a] at h; exact (zKm Bsr.nil h).1
def zwL (X:Cx τ) (L:Hp τ) (nid:Nat) (K:Nx τ ρ) (f:FuncId) (avs:List (XV τ)) (z:Option ρ):zy7 τ→Option ρ
 | []=>z
 | (g,k)::cs=>bc (Nat.beq g f) (match zti X.G L k.ps avs with
 | some (p,l,m)=>bc (nodF l&&zOs l m)
   (match (bif k.rs.any (znc X.G depth) then freeze L m else some []) with
   | some Z=>match roots avs k.bk with
    | some rs=>bc (nod (zwU rs)&&(zwU rs).all (mem l)) (match k.m p with
     | some r=>resK X.G (zBg k.nr rs) k.rs r nid fun vs U a=>match zCN vs with
      | some v=>K v [.gv (prT k.rs) (DP.pr k.rs r)] (U++(zpd l++Z)) (l++m) a
      | none=>none
     | none=>zwL X L nid K f avs z cs) z
    | none=>z
   | none=>z)
   (zwL X L nid K f avs z cs)
 | none=>zwL X L nid K f avs z cs) (zwL X L nid K f avs z cs)
def zCG (E:zad τ):List ResultVar→List Nat
 | []=>[]
 | .tmp _::rs=>zCG E rs
 | .cell t _::rs=>match asc E t with
  | some (.c (.pt id 0))=>id::zCG E rs
  | _=>zCG E rs
inductive Bt (α:Type) where
 | nil
 | lf (k:Nat) (v:α)
 | nd (k:Nat) (a b:Bt α)
def Bt.get {α:Type}:Bt α→Nat→Option α
 | .nil,_=>none
 | .lf k v,f=>bif Nat.beq k f then some v else none
 | .nd k a b,f=>bif Nat.blt f k then a.get f else b.get f
structure FnS (P:Program) where
 f:FuncId
 fn:Func
 ok:P.funcs[f]? = some fn
def fnS {P:Program} {f:FuncId} {fn:Func} (h:P.funcs[f]? = some fn):FnS P:=⟨f,fn,h⟩
structure Zx (X:Cx τ) where
 ct:FuncId→zy7 τ
 ft:Bt (FnS X.P)
abbrev InF (τ:Nat→Type) (ρ:Type):=Nat→Code→zad τ→Hp τ→List Nat→Nat→Kz τ ρ→Option ρ
def inl (X:Cx τ) (Z:Zx X) (b:InF τ ρ) (L:Hp τ) (nid:Nat) (K:Nx τ ρ) (f:FuncId) (avs:List (XV τ)) (T:List Nat):Option ρ:=match Z.ft.get f with
 | some s=>bc (Nat.beq s.f f) (match s.fn.body with
  | some c=>bc (Nat.ble avs.length s.fn.ntmps&&Nat.ble s.fn.ntmps gh) (b s.fn.ntmps c (argE 0 avs++glE X.G.gl) L T nid fun e E L' T a=>match e with
   | .ex _=>none
   | _=>match ztm X E L' s.fn.results.toList with
    | some vs=>bc (vs.any gvB) none (match zCN vs with
     | some v=>K v [] (zA6 nid a 0 (L'.take (L'.length-L.length))) (cmT nid a L (zCG E s.fn.results.toList++T)) a
     | none=>none)
    | none=>none) none
  | none=>none) none
 | none=>none
def zJr (E:zad τ):List Operand→Option (List (CV τ))
 | []=>some []
 | x::xs=>match evC E x with
  | some c=>match zJr E xs with
   | some cs=>some (c::cs)
   | none=>none
  | none=>none
def z1B (P:Program) (a:TypeId):Bool:=match P.info? a with
 | some i=>match i.zero with
  | some _=>Nat.beq i.size 1
  | none=>false
 | none=>false
def zA7 (E:zad τ):Nat→List (Nat × Operand)→Option (List (CV τ))
 | _,[]=>some []
 | k,(i,x)::ps=>bif Nat.beq i k then (match evC E x with
  | some c=>match zA7 E (k+1) ps with
   | some cs=>some (c::cs)
   | none=>none
  | none=>none) else none
def vwB:AR τ→Bool
 | .vw _ _ _ _ _=>true
 | .sb _ _=>true
 | _=>false
def ixZ (X:Cx τ) (L:Hp τ) (nid:Nat) (K:Nx τ ρ) (id:Nat) (a:TypeId) (m:Int):Option ρ:=match lk L id with
 | .vw i k e lo xs=>match lk L i with
  | .row _ _ _ b=>bc (Nat.beq k b&&szE X a e) ((lAt xs m).bind fun z=>K (.c (.oe i k (lo+m.toNat:Nat) e z 0)) [] [] [id,i] nid) none
  | _=>none
 | .sb i n=>match szO X.P a with
  | some 1=>if 0≤m∧m<n then K (.c (.pt i m.toNat)) [] [] [id] nid else none
  | _=>none
 | _=>none
def opZ (X:Cx τ) (Z:Zx X) (e:InF τ ρ):OpF τ ρ:=fun E L nid K o=>match o with
 | .binOp b t x y u=>match evX E y with
  | some (.c .n0)=>match X.P.underlying t with
   | some (.slice _)=>match evC E x with
    | some c=>match nilZ X.G L c with
     | some (z,ids)=>match okX (eqO b z) with
      | some v=>K v [] [] ids nid
      | none=>none
     | none=>none
    | none=>none
   | _=>none
  | _=>opX X E L nid K (.binOp b t x y u)
 | .call ⟨.value f,⟨args⟩,ats⟩=>match evC E f with
  | some (.fn g)=>match zvp E args with
   | some avs=>zwL X L nid K g avs (inl X Z e L nid K g avs []) (Z.ct g)
   | none=>none
  | some (.cf id)=>match lk L id with
   | .clo g bs cs=>match zvp E args with
    | some avs=>zwL X L nid (fun v g U t n=>K v g U ([id]++t) n) g (bs.map .c++(avs++cs.map .c)) (inl X Z e L nid K g (bs.map .c++(avs++cs.map .c)) [id]) (Z.ct g)
    | none=>none
   | _=>none
  | _=>opX X E L nid K o
 | .indexAddr t x y=>match evC E x with
  | some (.os id)=>bc (vwB (lk L id)) (match elO X.P t with
   | some a=>match evC E y with
    | some (.i m)=>ixZ X L nid K id a m
    | _=>none
   | none=>none) (opX X E L nid K (.indexAddr t x y))
  | _=>opX X E L nid K (.indexAddr t x y)
 | .call ⟨.builtin .len,⟨[x]⟩,⟨[t]⟩⟩=>match evC E x with
  | some (.os id)=>match lk L id with
   | .sb _ n=>match elO X.P t with
    | some _=>K (.c (.i (n:Int))) [] [] [id] nid
    | none=>none
   | _=>opX X E L nid K (.call ⟨.builtin .len,⟨[x]⟩,⟨[t]⟩⟩)
  | _=>opX X E L nid K (.call ⟨.builtin .len,⟨[x]⟩,⟨[t]⟩⟩)
 | .makeFunc (.func f) ⟨fs⟩ ⟨d⟩=>match zJr E fs with
  | some bs=>match zJr E d with
   | some cs=>K (.c (.cf nid)) [] [(nid,.clo f bs cs)] [] (nid+1)
   | none=>none
  | none=>none
 | .buildSlice t n ⟨ps⟩=>match elO X.P t with
  | some a=>match asc X.ty a with
   | some _=>opX X E L nid K (.buildSlice t n ⟨ps⟩)
   | none=>bc (z1B X.P a) (match zA7 E 0 ps with
    | some cs=>bc (Nat.beq cs.length n&&Nat.ble n 65536) (K (.c (.os (nid+1))) [] [(nid+1,.sb nid n),(nid,.blk a cs)] [] (nid+2)) none
    | none=>none) none
  | none=>none
 | o=>opX X E L nid K o
def inZ (X:Cx τ) (Z:Zx X):Nat→InF τ ρ
 | 0,_,_,_,_,_,_,_=>none
 | k+1,n,c,E,L,T,nid,K=>match c with
  | .skip=>K .no E L T nid
  | .region _ ⟨l⟩ d=>bc d (zA5 (opZ X Z (inZ X Z k)) n l 0 l [] E L T nid (K .no)) (opsZ (opZ X Z (inZ X Z k)) n l l E L T nid (K .no))
  | .seq x y=>inZ X Z k n x E L T nid fun e E L T nid=>match e with
   | .no=>inZ X Z k n y E L T nid K
   | e=>K e E L T nid
  | .cond c x y=>match evC E c with
   | some (.k b)=>bc b (inZ X Z k n x E L T nid K) (inZ X Z k n y E L T nid K)
   | some (.b b)=>match c with
    | .tmp s=>if b=true then inZ X Z k n x ((s,.c (.k true))::E) L T nid K else inZ X Z k n y ((s,.c (.k false))::E) L T nid K
    | _=>none
   | _=>none
  | .block id c=>inZ X Z k n c E L T nid fun e E L T nid=>match e with
   | .ex i=>bc (Nat.beq i id) (K .no E L T nid) (K (.ex i) E L T nid)
   | e=>K e E L T nid
  | .loop c=>inZ X Z k n c E L T nid fun e E L T nid=>match e with
   | .no=>nfE [] E fun E=>inZ X Z k n (.loop c) E L T nid K
   | e=>K e E L T nid
  | .exit id=>K (.ex id) E L T nid
  | .ret=>K .rt E L T nid
  | _=>none
def zrun (X:Cx τ) (Z:Zx X) (k:Nat) (f:FuncId) (avs:List (XV τ)):Option Bool:=inl X Z (inZ X Z k) [] 0 (fun v _ _ _ _=>match v with
 | .c (.b b)=>some b
 | .c (.k b)=>some b
 | _=>none) f avs []
end
end Go.Rk
end
section
namespace Go.Rk
open Go.RowKit Go.Dm Go.Dk
variable {τ:Nat→Type}
variable {T:List Nat} {e:Ex}
section
variable {ρ:Type} {X:Cx τ} {w0 w w':World} {h0 h h' H:Fz} {F:List Nat} {E E' Eb:zad τ} {L L2:Hp τ} {ν ν':Vn τ} {φ φ':Nat→List Nat} {nid nid':Nat} {r:ρ} {a:Act}
theorem zL6 {α:Type} (n:Nat) (k:Nat→α):frN n k=k n:=by cases n<;>rfl
def OkC (X:Cx τ) (w0:World) (h0:Fz) (F:List Nat) (W:(Exit→Act→World→Prop)→Act→World→Prop) (E:zad τ) (L:Hp τ) (nid:Nat) (e:Ex) (f:zad τ) (U:Hp τ) (T:List Nat) (b:Nat):Prop :=
 ∀(d:Hp τ) (ν:Vn τ) (h:Fz) (φ:Nat→List Nat) (a:Act) (w:World) (Q:Exit→Act→World→Prop),a.defers=[]→a.tmps.size=X.n→Mem X.P X.G w0 h0 F d w ν h φ→zcr X h ν a E →
  (∀i∈T,lk d i=lk L i)→(∀i,nid≤i→i<b→ν i=none) →
  (∀ν' h' φ' c w',c.defers=[]→c.tmps.size=X.n→Mem X.P X.G w0 h0 F (U++d) w' ν' h' φ'→ν.le ν'→h.le h'→zdM ν ν' nid b→zcr X h' ν' c f→Q (exT e) c w')→W Q a w
theorem zDN {U L a:Hp τ} {i:Nat} (h:lk a i=lk L i):lk (U++a) i=lk (U++L) i:=by
 by_cases hi:i∈kys U
 ·rw [zhs _ hi,zhs _ hi]
 ·rw [zdh _ hi,zdh _ hi,h]
theorem zGb {a b c:Nat} (d:zdM ν ν' a b) (hn:∀i,a≤i→i<c→ν i=none) (f:a≤b):∀i,b≤i→i<c→ν' i=none:=by
 intro i h1 h2
 cases e:ν' i with
 | none=>rfl
 | some y =>
  have:=d i (hn i (by omega) h2) (by rw [e]; simp);omega
theorem zCP {ν'':Vn τ} {a b c:Nat} (h1:zdM ν ν' a b) (h2:zdM ν' ν'' b c) (d:a≤b) (e:b≤c):zdM ν ν'' a c:=h1.trans h2 d e
theorem OkC.seq {W v A:(Exit→Act→World→Prop)→Act→World→Prop} {H y:zad τ} {l C:Hp τ} {D x:List Nat} {k q:Nat} (h1:OkC X w0 h0 F v E L nid .no H l D k) (h2:OkC X w0 h0 F A H (l++L) k e y C x q) (B:nid≤k) (N:k≤q)
  (K:∀Q a w,v (Exit.then (A Q) Q) a w→W Q a w):OkC X w0 h0 F W E L nid e y (C++l) (x++D) q:=by
 intro G ν h φ a w Q hd J M S z hn I;refine K Q a w (h1 G ν h φ a w _ hd J M S (fun i hi=>z i (List.mem_append_right _ hi)) (fun i a b=>hn i a (by omega)) fun ν' h' φ' P w' m u O hν R j r=>?_);refine h2 (l++G) ν' h' φ' P w' Q m u O r (fun i hi=>zDN (z i (List.mem_append_left _ hi))) (zGb j hn B) fun ν'' n φ'' o p g d t hν' s c f=>?_;exact I ν'' n φ'' o p g d (by rw [List.append_assoc]; exact t) (hν.trans hν') (R.trans s) (zCP j c B N) f
theorem OkC.out {W j:(Exit→Act→World→Prop)→Act→World→Prop} {m:zad τ} {n:Hp τ} {l:List Nat} {k:Nat} {e o:Ex} (h1:OkC X w0 h0 F j E L nid e m n l k)
  (s:∀Q a w,(∀c,(∀b w',Q (exT o) b w'→c (exT e) b w')→j c a w)→W Q a w):OkC X w0 h0 F W E L nid o m n l k:=by
 intro x ν h φ a w Q hd r M y t hn q;exact s Q a w fun c p=>h1 x ν h φ a w c hd r M y t hn fun ν' h' φ' b w' d g u hν v i f=>p b w' (q ν' h' φ' b w' d g u hν v i f)
theorem OkC.nil {W:(Exit→Act→World→Prop)→Act→World→Prop} (d:∀Q a w,Q (exT e) a w→W Q a w):OkC X w0 h0 F W E L nid e E [] [] nid :=
 fun _ ν h φ a w Q hd c M f _ _ b=>d Q a w (b ν h φ a w hd c M (Vn.le.refl _) (Fz.le.refl _) (zdM.refl _ _ _) f)
theorem OkC.ref {W:(Exit→Act→World→Prop)→Act→World→Prop} {b:zad τ} {U:Hp τ} (c:Ref E E') (h1:OkC X w0 h0 F W E' L nid e b U T nid'):OkC X w0 h0 F W E L nid e b U T nid' :=
 fun f ν h φ a w Q hd d M g=>h1 f ν h φ a w Q hd d M (c.env g)
theorem zDO {op:OpF τ ρ} (f:zv9 X w0 h0 F op) (G:X.n≤gh) {all:List Oper}:∀{l:List Oper} {E:zad τ} {L:Hp τ} {C:List Nat} {nid:Nat} {K:zad τ→Hp τ→List Nat→Nat→Option ρ},opsZ op X.n all l E L C nid K=some r →
  ∃j U T c,K j (U++L) (T++C) c=some r∧nid≤c∧OkC X w0 h0 F (fun Q a w=>wpList X.P all.toArray Q l a w) E L nid .no j U T c
 | [],E,L,C,nid,K,e=>⟨E,[],[],nid,e,Nat.le_refl _,OkC.nil fun Q a w h=>h⟩
 | o::l,E,L,C,nid,K,e=>by
  unfold opsZ at e;obtain ⟨hd,e⟩:=zg0 e;obtain ⟨m,E1,e,hr,hw⟩:=ztK e
  cases m with
  | false =>
   simp only [Bool.false_eq_true,if_false] at e;rw [zFb] at e;obtain ⟨j,U,T,W,V,Z,g3⟩:=zDO f G e;refine ⟨j,U,T,W,V,Z,fun H ν h φ a w Q d p M k D hn I=>?_⟩;have b:=hw X h ν a o rfl (k.on _);show wpList X.P all.toArray Q (o::l) a w;unfold wpList;rw [b];simp only [Bool.false_eq_true,if_false];refine g3 H ν h φ _ w Q (by rw [ztM]; exact d) (by rw [zqi]; exact p) M ?_ D hn I;exact ztL G hd p (fun _ h=>by cases h) rfl fun t x e _=>hr.env k t x e
  | true =>
   simp only [if_true] at e;obtain ⟨v,g,U1,N,n1,e1,A,hg,O⟩:=f _ _ _ _ _ _ e;simp only [zL6] at e1;simp only [zwG,ap_eq] at e1;obtain ⟨j,U,T,W,V,Z,g3⟩:=zDO f G e1;refine ⟨j,U++U1,T++N,W,by rw [List.append_assoc,List.append_assoc]; exact V,by omega,fun H ν h φ a w Q d p M k D hn I=>?_⟩;have b:=hw X h ν a o rfl (k.on _);show wpList X.P all.toArray Q (o::l) a w;unfold wpList;rw [b];simp only [if_true]
   left
   refine O H ν h φ a w _ Q d M ((hr.env k).on _) (fun i hi=>D i (List.mem_append_right _ hi)) (fun i h1 h2=>hn i h1 (by omega)) fun ν' h' φ' w' u M' hν hh B hv=>?_;refine g3 (U1++H) ν' h' φ' _ w' Q (by rw [ztM]; exact d) (by rw [zqi]; exact p) M' (ztL G hd p hg hv fun t x e _=>((hr.env k).le hh hν) t x e) (fun i hi=>zDN (D i (List.mem_append_left _ hi))) (zGb B hn A) fun ν'' J φ'' R S z s M'' hν' Y q y=>?_;exact I ν'' J φ'' R S z s (by rw [List.append_assoc]; exact M'') (hν.trans hν') (hh.trans Y) (zCP B q A Z) y
theorem zH8 {op:OpF τ ρ} (s:zv9 X w0 h0 F op) {all:List Oper} {K:zad τ→Hp τ→List Nat→Nat→Option ρ}:∀{l:List Oper} {i:Nat} {R:List Dr} {E z:zad τ} {L:Hp τ} {B:List Nat} {nid:Nat},zA5 op X.n all i l R E L B nid K=some r→Ref z E →
  ∃u d x b w T,zuw X w0 h0 F all l z L nid u d x b∧Ref d w∧zvq all ((drs all i u).reverse++R)=true∧K w x (T++B) b=some r∧∀q∈u,q.run=true→∀k∈q.t,k∈T
 | [],i,R,E,z,L,B,nid,e,A=>by
  unfold zA5 at e;obtain ⟨h1,e⟩:=zg0 e;exact ⟨[],z,L,nid,E,[],⟨rfl,rfl,rfl⟩,A,h1,e,fun q j=>by cases j⟩
 | o::l,i,R,E,z,L,B,nid,e,A=>by
  unfold zA5 at e;obtain ⟨hd,e⟩:=zg0 e;obtain ⟨m,O,e,I,S⟩:=ztK e;have p:=A.trans I;have f:∀(h:Fz) (ν:Vn τ) (a:Act),zeL X h ν a (gdR all o.guard) E→Region.wanted o (yielded all.toArray a.tmps)=m:=fun h ν a=>S X h ν a o rfl
  cases m with
  | false =>
   simp only [Bool.false_eq_true,if_false] at e;rw [zFb] at e;obtain ⟨u,d,x,b,w,T,h1,h2,H,J,D⟩:=zH8 s e (p.app _);refine ⟨⟨o,E,O,L,nid,nid,.un,[],[],[],[],false⟩::u,d,x,b,w,T,⟨rfl,rfl,rfl,⟨A,p,Nat.le_refl _,hd,f,(fun _ h=>by cases h),fun _=>⟨rfl,rfl⟩,fun h=>by cases h⟩,h1⟩,h2,?_,J,fun q j c k C=>?_⟩
   ·simpa [drs,kys] using H
   ·rcases List.mem_cons.1 j with rfl|j
    ·cases c
    ·exact D q j c k C
  | true =>
   simp only [if_true] at e;obtain ⟨v,g,U,y,P,N,M,Q,G⟩:=s _ _ _ _ _ _ e;simp only [zL6] at N;simp only [zwG,ap_eq] at N;obtain ⟨u,d,x,b,w,T,h1,h2,H,J,D⟩:=zH8 s N (p.app _);refine ⟨⟨o,E,O,L,nid,P,v,g,l,U,y,true⟩::u,d,x,b,w,T++y,⟨rfl,rfl,rfl,⟨A,p,M,hd,f,Q,(fun h=>by cases h),fun _=>G⟩,h1⟩,h2,?_,by rw [List.append_assoc]; exact J,fun q j c k C=>?_⟩
   ·simpa [drs] using H
   ·rcases List.mem_cons.1 j with rfl|j
    ·exact List.mem_append_right _ C
    ·exact List.mem_append_left _ (D q j c k C)
theorem zL7 (v:X.P.follows .mixedOrders=true) (y:X.n≤gh) {op:OpF τ ρ} (j:zv9 X w0 h0 F op) {id:Nat} {l:List Oper} {m:List Nat} {K:zad τ→Hp τ→List Nat→Nat→Option ρ} (e:zA5 op X.n l 0 l [] E L m nid K=some r) :
  ∃o U T b,K o (U++L) (T++m) b=some r∧nid≤b∧OkC X w0 h0 F (fun Q a w=>(Code.region id l.toArray true).wp X.P Q a w) E L nid .no o U T b:=by
 obtain ⟨B,t,C,c,s,T,d,k,g,f,i⟩:=zH8 j e (Ref.refl E);obtain ⟨x,_,_,z,_,_⟩:=zuw.get 0 d;refine ⟨s,zlj Rec.U B 0 (fun _=>true) [],T,c,by rw [← zsz, ← z]; exact f,x,fun D ν h φ a w Q hd q M A u hn p=>?_⟩;exact zCT v y d k g i hd q M A u hn p
theorem zH9:∀{E:zad τ} {sn:List Nat} {K:zad τ→Option ρ},nfE sn E K=some r→∃b,K b=some r∧∀t x,asc b t=some x→asc E t=some x∧t∉sn
 | [],sn,K,e=>⟨[],e,fun t x h=>by cases h⟩
 | (t,v)::E,sn,K,e=>by
  unfold nfE at e
  cases hm:mem sn t with
  | true =>
   rw [hm] at e;obtain ⟨b,h1,h2⟩:=zH9 (K:=K) (sn:=sn) e;refine ⟨b,h1,fun t' x a=>?_⟩;obtain ⟨d,c⟩:=h2 t' x a;refine ⟨?_,c⟩;have:Nat.beq t t'=false:=zcL.2 fun e=>c (e▸zeP.1 hm);simp only [zdO,zcp,this,cond_false]; exact d
  | false =>
   rw [hm] at e;obtain ⟨b,h1,h2⟩:=zH9 (K:=fun E=>K ((t,v)::E)) (sn:=t::sn) e;refine ⟨_,h1,fun t' x a=>?_⟩;simp only [zdO,zcp] at a ⊢
   cases hb:Nat.beq t t' with
   | true =>
    rw [hb] at a
    have:t=t':=by simpa using hb
    subst this;exact ⟨a,fun h=>by rw [zeP.2 h] at hm; cases hm⟩
   | false =>
    rw [hb] at a;obtain ⟨d,c⟩:=h2 t' x a;exact ⟨d,fun h=>c (List.mem_cons_of_mem _ h)⟩
theorem zDP {n:Nat} {h:Fz} {ν:Vn τ} {a:Act} {E:zad τ}:zcr (X.wn n) h ν a E↔zcr X h ν a E:=Iff.rfl
def Wm (P:Program) (m:Nat):Code→(Exit→Act→World→Prop)→Act→World→Prop
 | .loop c,Q,a,w=>Code.rounds P c Q m a w
 | c,Q,a,w=>c.wp P Q a w
theorem Wm_wp {P:Program} {m:Nat} {c:Code} {Q:Exit→Act→World→Prop} {a:Act} {w:World} (h:Wm P m c Q a w):c.wp P Q a w:=by
 cases c with
 | loop c=>exact wp_loop_rounds m h
 | _=>exact h
theorem OkC.wp {m:Nat} {c:Code} {b:zad τ} {U:Hp τ} (h1:OkC X w0 h0 F (Wm X.P m c) E L nid e b U T nid'):OkC X w0 h0 F (fun Q a w=>c.wp X.P Q a w) E L nid e b U T nid' :=
 fun i ν h φ a w Q hd f M j g hn d=>Wm_wp (h1 i ν h φ a w Q hd f M j g hn d)
def InOk (X:Cx τ) (w0:World) (h0:Fz) (F:List Nat) (f:InF τ ρ):Prop:=∀(r:ρ) (n:Nat) (c:Code) (E:zad τ) (L:Hp τ) (b:List Nat) (nid:Nat) (K:Kz τ ρ),n≤gh→f n c E L b nid K=some r →
 ∃e d U T a m,K e d (U++L) (T++b) a=some r∧nid≤a∧OkC (X.wn n) w0 h0 F (Wm X.P m c) E L nid e d U T a
theorem zDQ {lo hi:Nat}:∀{U:Hp τ} {sn:List Nat} {L:Hp τ},(∀k,lo≤k→k<hi→lk L k = .gone)→∀k,k∉sn→lk (cmU lo hi sn U++L) k=lk (U++L) k
 | [],_,_,_,_,_=>rfl
 | (j,v) :: U,sn,L,g,k,d=>by
  have skip:lk ((j,v)::U++L) k=bif Nat.beq j k then v else lk (U++L) k:=znK ..
  have b:∀(u:AR τ),lk ((j,u)::cmU lo hi (j::sn) U++L) k=bif Nat.beq j k then u else lk (U++L) k:=by
   intro u;rw [List.cons_append,znK]
   cases hb:Nat.beq j k with
   | true=>rfl
   | false =>
    have a:¬ j=k:=zcL.1 hb
    exact zDQ g k fun h=>by
     rcases List.mem_cons.1 h with h|h
     ·exact a h.symm
     ·exact d h
  rw [skip];unfold cmU
  cases hm:mem sn j with
  | true =>
   have a:Nat.beq j k=false:=zcL.2 fun e=>d (e▸zeP.1 hm);rw [a];exact zDQ g k d
  | false =>
   simp only [cond_false]
   split
   ·cases hb:(Nat.ble lo j&&Nat.blt j hi) with
    | false=>exact b .gone
    | true =>
     simp only [cond_true]
     cases hjk:Nat.beq j k with
     | true =>
      have:j=k:=by simpa using hjk
      subst this;simp only [Bool.and_eq_true,Nat.ble_eq,Nat.blt_eq] at hb
      have l:∀(U:Hp τ) (sn:List Nat),j∈sn→j∉kys (cmU lo hi sn U):=by
       intro U
       induction U with
       | nil=>intro sn _ h; cases h
       | cons p U f =>
        obtain ⟨i,v⟩:=p;intro sn c;unfold cmU
        cases hmi:mem sn i with
        | true=>exact f sn c
        | false =>
         simp only [cond_false]
         have a:¬ j=i:=fun e=>by rw [← e,zeP.2 c] at hmi; cases hmi
         split
         ·cases (Nat.ble lo i&&Nat.blt i hi) with
          | true=>exact f _ (List.mem_cons_of_mem _ c)
          | false =>
           intro h
           rcases List.mem_cons.1 h with h|h
           ·exact a h
           ·exact f _ (List.mem_cons_of_mem _ c) h
         ·intro h
          rcases List.mem_cons.1 h with h|h
          ·exact a h
          ·exact f _ (List.mem_cons_of_mem _ c) h
      rw [zdh _ (l U (j::sn) (List.mem_cons_self ..)),g j hb.1 hb.2]; rfl
     | false =>
      have a:¬ j=k:=zcL.1 hjk
      exact zDQ g k fun h=>by
       rcases List.mem_cons.1 h with h|h
       ·exact a h.symm
       ·exact d h
   ·exact b _
theorem zIa {lo hi:Nat}:∀{T:List Nat} {sn:List Nat} {t:Nat},t∈T→t∈sn∨(lo≤t∧t<hi)∨t∈dd lo hi sn T
 | [],_,_,h=>by cases h
 | s :: T,sn,t,h=>by
  unfold dd
  cases a:(mem sn s||(Nat.ble lo s&&Nat.blt s hi)) with
  | true =>
   simp only [cond_true]
   rcases List.mem_cons.1 h with rfl|h
   ·rw [Bool.or_eq_true,Bool.and_eq_true] at a
    rcases a with a|a
    ·exact .inl (zeP.1 a)
    ·exact .inr (.inl (by simpa using a))
   ·exact zIa h
  | false =>
   simp only [cond_false]
   rcases List.mem_cons.1 h with rfl|h
   ·exact .inr (.inr (List.mem_cons_self ..))
   ·rcases zIa (sn:=s::sn) h with h1|h1|h1
    ·rcases List.mem_cons.1 h1 with rfl|h1
     ·exact .inr (.inr (List.mem_cons_self ..))
     ·exact .inl h1
    ·exact .inr (.inl h1)
    ·exact .inr (.inr (List.mem_cons_of_mem _ h1))
theorem zL8 {lo hi:Nat} (h:∀i∈cmT lo hi L T,lk L2 i=lk L i) (e:∀i,lo≤i→i<hi→lk L2 i = .gone):∀i∈T,lk L2 i=lk L i:=by
 intro i a;unfold cmT at h
 cases b:(zCL L fun p=>Nat.blt p.1 lo) with
 | false=>rw [b] at h; exact h i a
 | true =>
  rw [b] at h;have h:∀i∈ddb lo hi 0 T,lk L2 i=lk L i:=h;rw [zJq Bsr.nil] at h
  rcases zIa (lo:=lo) (hi:=hi) (sn:=[]) a with h1|⟨h1,h2⟩|h1
  ·cases h1
  ·rw [e i h1 h2]
   have:i∉kys L:=fun d=>by
    obtain ⟨p,hp,rfl⟩:=List.mem_map.1 d;have:=List.all_eq_true.1 (zzl _ _▸b) p hp;rw [Nat.blt_eq] at this; omega
   have c:=zdh (U:=L) [] this;rw [List.append_nil] at c;rw [c]; rfl
  ·exact h i h1
theorem zGc:∀{avs:List (XV τ)} {i t:Nat} {A:XV τ},asc (argE i avs) t=some A→i≤t∧avs[t-i]? = some A
 | [],_,_,_,h=>by cases h
 | v::vs,i,t,A,h=>by
  simp only [argE,zdO,zcp] at h
  cases hb:Nat.beq i t with
  | true =>
   rw [hb] at h
   have:i=t:=by simpa using hb
   subst this;cases h;exact ⟨Nat.le_refl _,by simp⟩
  | false =>
   rw [hb] at h;have a:¬ i=t:=zcL.1 hb;obtain ⟨h1,h2⟩:=zGc h;refine ⟨by omega,?_⟩;rw [show t-i=(t-(i+1))+1 by omega]; exact h2
def zCQ (X:Cx τ) (w0:World) (h0:Fz) (F:List Nat) (f:FuncId) (avs:List (XV τ)) (L:Hp τ) (nid:Nat) (v:XV τ) (U:Hp τ) (T:List Nat) (a:Nat):Prop :=
 zfu X.P f∧∀(b:Hp τ) (ν:Vn τ) (h:Fz) (φ:Nat→List Nat) (w:World) (vals:List Value),Mem X.P X.G w0 h0 F b w ν h φ→vals.length=avs.length→(∀(i:Nat) (A:XV τ) (u:Value),avs[i]? = some A→vals[i]? = some u→XOk X.P X.G h ν A u) →
  (∀i∈T,lk b i=lk L i)→(∀i,nid≤i→i<a→ν i=none) →
  Calls X.P f vals.toArray w fun e w'=>∃u ν' h' φ',e = .returned u∧Mem X.P X.G w0 h0 F (U++b) w' ν' h' φ'∧ν.le ν'∧h.le h'∧zdM ν ν' nid a∧XOk X.P X.G h' ν' v u
theorem zuQ {a:Hp τ} {E:zad τ}:∀{rv:List ResultVar},(∀i∈zCG E rv,lk a i=lk L i)→ztm X E a rv=ztm X E L rv
 | [],_=>rfl
 | .tmp t::rv,h=>by
  unfold ztm;rw [zuQ (rv:=rv) h]
 | .cell t ty::rv,h=>by
  unfold zCG at h;unfold ztm
  split
  ·rename_i id b
   rw [b] at h;have h:∀i∈id::zCG E rv,lk a i=lk L i:=h;rw [h id (List.mem_cons_self ..),zuQ (rv:=rv) fun i hi=>h i (List.mem_cons_of_mem _ hi)]
  ·rfl
theorem zJP:∀{xs:List (XV τ)} {vs:List Value},vs.length=xs.length→(∀(i:Nat) (A:XV τ) (v:Value),xs[i]? = some A→vs[i]? = some v→XOk X.P X.G h ν A v)→zF9 X.P X.G h ν xs vs
 | [],vs,a,_=>List.eq_nil_of_length_eq_zero a
 | x::xs,[],a,_=>by simp at a
 | x::xs,v::vs,a,b=>⟨v,vs,rfl,b 0 x v rfl rfl,zJP (by simpa using a) fun i A u h1 h2=>b (i+1) A u h1 h2⟩
theorem gvB_eq {x:XV τ}:gvB x=zkm x:=by cases x<;>rfl
theorem zIb (hNm:∀(f:FuncId) (fn:Func),X.P.funcs[f]? = some fn→(fn.name == "runtime.NumGoroutine")=false) {Z:Zx X} {ih:InF τ ρ} (Y:InOk X w0 h0 F ih) {K:Nx τ ρ} {f:FuncId} {avs:List (XV τ)} {z:List Nat} (e:inl X Z ih L nid K f avs z=some r) :
  ∃v U T a,K v [] U T a=some r∧nid≤a∧zCQ X w0 h0 F f avs L nid v U T a∧∀{b:Hp τ},(∀i∈T,lk b i=lk L i)→(∀i,nid≤i→i<a→lk b i = .gone)→∀i∈z,lk b i=lk L i:=by
 unfold inl at e
 split at e
 ·rename_i s hs
  have I:=(zg0 e).2;have J:=(zg0 e).1
  clear e
  obtain ⟨f',fn,A⟩:=s;have:f=f':=(show f'=f by simpa using J).symm;subst this;dsimp only at I
  split at I
  ·rename_i c hc
   obtain ⟨hb,e⟩:=zg0 I;simp only [Bool.and_eq_true,Nat.ble_eq] at hb;obtain ⟨ex,q,U,T,g,m,e,S,hok⟩:=Y _ _ _ _ _ _ _ _ hb.2 e
   have main:∀{xs:List (XV τ)} {v:XV τ},(∀i,ex ≠ .ex i)→ztm X q (U++L) fn.results.toList=some xs→xs.any gvB=false→zCN xs=some v→zCQ X w0 h0 F f avs L nid v (zA6 nid g 0 ((U++L).take ((U++L).length-L.length))) (cmT nid g L (zCG q fn.results.toList++(T++z))) g:=by
    intro xs v hex D d j;refine ⟨⟨fn,A,by rw [hc]; rfl,hNm f fn A⟩,fun b ν h φ w vals M hlen B R hn=>?_⟩
    have p:(U++L).take ((U++L).length-L.length)=U:=by
     rw [List.length_append,Nat.add_sub_cancel]; exact List.take_left
    rw [p];have l:∀i,nid≤i→i<g→lk b i = .gone:=fun i h1 h2=>M.gone_of (hn i h1 h2);have H:=zL8 R l;refine calls_of_wp A hc ?_
    have N:(vals.toArray++Array.replicate (fn.ntmps-vals.toArray.size) undef).size=fn.ntmps:=by simp; omega
    refine Wm_wp (hok b ν h φ ⟨vals.toArray++Array.replicate (fn.ntmps-vals.toArray.size) undef,[]⟩ w _ rfl N M ?_ (fun i hi=>H i (List.mem_append_right _ (List.mem_append_left _ hi))) hn ?_)
    ·refine zcr.app (X:=X) (fun t x hx=>?_) (zJu M.gl fun _ _=>trivial);obtain ⟨_,h2⟩:=zGc hx;rw [Nat.sub_zero] at h2;have hlt:t<avs.length:=(List.getElem?_eq_some_iff.1 h2).1;have hv:vals[t]? = some vals[t]:=List.getElem?_eq_getElem (by omega)
     have hgh:t<gh:=by omega
     refine ⟨vals[t],B t x _ h2 hv,fun _ _=>?_,fun h=>?_,fun h=>?_⟩
     ·show (vals.toArray++Array.replicate (fn.ntmps-vals.toArray.size) undef)[t]? = _;rw [Array.getElem?_append_left (by simp; omega)];simp
     ·exfalso; unfold gb gh at *; omega
     ·exfalso; omega
    ·intro ν' h' φ' a' w' C hs' M' hν hh Q V
     have E:∀y∈xs,zkm y=false:=fun y hy=>by
      rw [← gvB_eq]
      cases O:gvB y with
      | false=>rfl
      | true=>rw [List.any_eq_true.2 ⟨y,hy,O⟩] at d; cases d
     have W:ztm X q (U++b) fn.results.toList=some xs:=by
      rw [zuQ (L:=U++L) fun i hi=>zDN (H i (List.mem_append_left _ hi))]; exact D
     obtain ⟨vs,o1,o2,o3,o4⟩:=zzd (X:=X) M' V W E;have o:=zx6 (X:=X) (w:=w') (fn:=fn) (rv:=fn.results.toList) (tmps:=a'.tmps) rfl o1 o3
     have n:∃u ν2 h2 φ2,Ending.returned (zzQ vs) = .returned u∧Mem X.P X.G w0 h0 F (zA6 nid g 0 U++b) w' ν2 h2 φ2∧ν.le ν2∧h.le h2∧zdM ν ν2 nid g∧XOk X.P X.G h2 ν2 v u :=
      ⟨_, ν',h', φ',rfl,M'.congr fun k=>by rw [zFq Bsr.nil]; exact zDQ l k (by simp),hν,hh,Q,zJO j (zJP o2 o4)⟩
     cases ex with
     | no=>exact ⟨C,_,o,n⟩
     | rt=>exact ⟨C,_,o,n⟩
     | ex i=>exact (hex i rfl).elim
   have done:∀{xs:List (XV τ)} {v:XV τ},(∀i,ex ≠ .ex i)→ztm X q (U++L) fn.results.toList=some xs→xs.any gvB=false→zCN xs=some v→K v [] (zA6 nid g 0 ((U++L).take ((U++L).length-L.length))) (cmT nid g L (zCG q fn.results.toList++(T++z))) g=some r →
     ∃v U T a,K v [] U T a=some r∧nid≤a∧zCQ X w0 h0 F f avs L nid v U T a∧∀{b:Hp τ},(∀i∈T,lk b i=lk L i)→(∀i,nid≤i→i<a→lk b i = .gone)→∀i∈z,lk b i=lk L i :=
    fun hex D d j e=>⟨_,_,_,_,e,S,main hex D d j,fun R O i hi=>zL8 R O i (List.mem_append_right _ (List.mem_append_right _ hi))⟩
   have go:(∀i,ex ≠ .ex i)→(match ztm X q (U++L) fn.results.toList with
     | some vs=>bc (vs.any gvB) none (match zCN vs with
      | some v=>K v [] (zA6 nid g 0 ((U++L).take ((U++L).length-L.length))) (cmT nid g L (zCG q fn.results.toList++(T++z))) g
      | none=>none)
     | none=>none)=some r→∃v U T a,K v [] U T a=some r∧nid≤a∧zCQ X w0 h0 F f avs L nid v U T a∧∀{b:Hp τ},(∀i∈T,lk b i=lk L i)→(∀i,nid≤i→i<a→lk b i = .gone)→∀i∈z,lk b i=lk L i:=by
    intro hex e
    split at e
    ·rename_i xs D
     obtain ⟨d,e⟩:=bc_f e
     split at e
     ·rename_i v j
      exact done hex D d j e
     ·cases e
    ·cases e
   cases ex with
   | ex i=>cases e
   | no=>exact go (fun i h=>by cases h) e
   | rt=>exact go (fun i h=>by cases h) e
  ·cases I
 ·cases e
end
end Go.Rk
end
section
namespace Go.Rk
open Go.RowKit Go.Dm Go.Dk
variable {τ:Nat→Type}
variable {args:List Operand} {ats:Array TypeId}
section
variable {ρ:Type} {X:Cx τ} {w0 w w':World} {h0 h h' H:Fz} {F:List Nat} {o:Oper} {E:zad τ} {L L2:Hp τ} {ν ν':Vn τ} {φ φ':Nat→List Nat} {nid nid':Nat} {K:Nx τ ρ} {r:ρ} {v:XV τ} {U:Hp τ} {tch:List Nat} {g:List (XV τ)}
variable {a:Act} {x y z:Operand} {t' t ty u':Nat} {dst:Option Nat} {p:String} {af:Array Edge} {gd:Option (Nat × Bool)}
theorem zLo {f:Nat} {avs:List (XV τ)} {T:List Nat} (hx:evC E x=some (.fn f)) (hargs:zvp E args=some avs) (k:K v [] U T nid'=some r) (hle:nid≤nid') (hi:zCQ X w0 h0 F f avs L nid v U T nid') :
  zdD X w0 h0 F ⟨dst,.call ⟨.value x,⟨args⟩,ats⟩,t,p,af,gd⟩ E L nid K r:=by
 refine ⟨_,_,_,_,_,k,hle,(fun _ h=>by cases h),fun L2 ν h φ a w next Q hd M hE ha hfr kk=>?_⟩;obtain ⟨hlen,hidx⟩:=zvt hargs
 have hvs:∀(i:Nat) (A:XV τ) (v:Value),avs[i]? = some A→(args.map a.eval)[i]? = some v→XOk X.P X.G h ν A v:=by
  intro i A v hA hv;obtain ⟨z,hz,hzA⟩:=hidx i A hA;rw [List.getElem?_map,hz] at hv;cases hv;exact zrM hd (hE.op (by simp only [Op.operands,Call.operands]; simp; exact .inr (List.mem_of_getElem? hz))) hzA
 have hcalls:=hi.2 L2 ν h φ w (args.map a.eval) M (by simp [hlen]) hvs ha hfr;obtain ⟨Ea,hf,hl'⟩:=zef a hd;obtain ⟨vx,g1,g2⟩:=zB hl' (hE.op (by simp [Op.operands,Call.operands])) hx;obtain rfl:vx=_:=g2;have hexec:=zzo (X:=X) (w:=w) (dst:=dst) (t:=t) (p:=p) (af:=af) (gd:=gd) (ats:=ats) (args:=⟨args⟩) (vs:=args.map a.eval) hi.1 (hf.ev g1) (by simp);unfold Oper.wp;rw [hexec];refine Calls.mono hcalls ?_;rintro e1 w' ⟨u, ν',h', φ',rfl,M',hν,hh,hfr',hv⟩;exact kk ν' h' φ' w' u M' hν hh hfr' hv
theorem CVs.getl:∀{cs:List (CV τ)} {vs:List Value},CVs X.P X.G h ν cs vs→vs.length=cs.length∧∀(i:Nat) (c:CV τ) (v:Value),cs[i]? = some c→vs[i]? = some v→zdg X.P X.G h ν c v
 | [],vs,e=>by cases e; exact ⟨rfl,fun i c v h=>by simp at h⟩
 | c::cs,_,⟨u,us,rfl,h1,h2⟩=>by
  obtain ⟨b,f⟩:=CVs.getl h2;refine ⟨by simp [b],fun i d v hc a=>?_⟩
  cases i with
  | zero=>simp at hc a; subst hc; subst a; exact h1
  | succ i=>exact f i d v (by simpa using hc) (by simpa using a)
theorem zHy {f id:Nat} {avs:List (XV τ)} {bs cs:List (CV τ)} (I:evC E x=some (.cf id)) (B:lk L id = .clo f bs cs) (k:zvp E args=some avs) :
  Entr X w0 h0 F E L [id] ⟨dst,.call ⟨.value x,⟨args⟩,ats⟩,t,p,af,gd⟩ f (bs.map .c++(avs++cs.map .c)):=fun V ν h φ a w hd M D O j=>by
 obtain ⟨e,l⟩:=zvt k;obtain ⟨U,J,u⟩:=zef a hd;obtain ⟨W,N,P⟩:=zB u (D.op (by simp [Op.operands,Call.operands])) I;obtain ⟨f',o,n,q,S,rfl⟩:=P;have g:=M.res id;rw [O id (List.mem_singleton.2 rfl),B] at g;obtain ⟨us,vs,T,H,_,K,Q⟩:=g;rw [S] at H;cases H;obtain ⟨m,C⟩:=CVs.getl K;obtain ⟨s,y⟩:=CVs.getl Q;refine ⟨o++(args.map a.eval++n),by simp [e,s,m],fun i A v d b=>?_,zzp (X:=X) (w:=w) (dst:=dst) (t:=t) (p:=p) (af:=af) (gd:=gd) (ats:=ats) (args:=⟨args⟩) (us:=o) (vs:=args.map a.eval) (cs:=n) j (J.ev N) (by simp)⟩
 by_cases R:i<bs.length
 ·rw [List.getElem?_append_left (by simpa using R),List.getElem?_map] at d;rw [List.getElem?_append_left (by omega)] at b;obtain ⟨c,hc,rfl⟩:=Option.map_eq_some_iff.1 d;exact C _ c v hc b
 rw [List.getElem?_append_right (by simp; omega)] at d;rw [List.getElem?_append_right (by omega)] at b;simp only [List.length_map] at d;rw [m] at b
 by_cases hi:i-bs.length<avs.length
 ·rw [List.getElem?_append_left hi] at d;rw [List.getElem?_append_left (by simp; omega)] at b;obtain ⟨z,G,r⟩:=l _ A d;rw [List.getElem?_map,G] at b;cases b;exact zrM hd (D.op (by simp only [Op.operands,Call.operands]; simp; exact .inr (List.mem_of_getElem? G))) r
 ·rw [List.getElem?_append_right (by omega),List.getElem?_map] at d;rw [List.getElem?_append_right (by simp; omega)] at b;obtain ⟨c,hc,rfl⟩:=Option.map_eq_some_iff.1 d;simp only [List.length_map] at b;rw [← e] at b;exact y _ c v hc b
theorem zJm {f id:Nat} {avs:List (XV τ)} {bs cs:List (CV τ)} {T:List Nat} (hx:evC E x=some (.cf id)) (hlk:lk L id = .clo f bs cs) (hargs:zvp E args=some avs) (k:K v [] U T nid'=some r) (hle:nid≤nid') (hi:zCQ X w0 h0 F f (bs.map .c++(avs++cs.map .c)) L nid v U T nid')
  (hT:∀{L2:Hp τ},(∀i∈T,lk L2 i=lk L i)→(∀i,nid≤i→i<nid'→lk L2 i = .gone)→∀i∈[id],lk L2 i=lk L i) :
  zdD X w0 h0 F ⟨dst,.call ⟨.value x,⟨args⟩,ats⟩,t,p,af,gd⟩ E L nid K r:=by
 refine ⟨_,_,_,_,_,k,hle,(fun _ h=>by cases h),fun L2 ν h φ a w next Q hd M hE ha hfr kk=>?_⟩;obtain ⟨vals,h1,h2,hexec⟩:=zHy (dst:=dst) (ats:=ats) (t:=t) (p:=p) (af:=af) (gd:=gd) hx hlk hargs L2 ν h φ a w hd M hE (hT ha fun i h1 h2=>M.gone_of (hfr i h1 h2)) hi.1;have hcalls:=hi.2 L2 ν h φ w vals M h1 h2 ha hfr;unfold Oper.wp;rw [hexec];refine Calls.mono hcalls ?_;rintro e1 w' ⟨u, ν',h', φ',rfl,M',hν,hh,hfr',hv⟩;exact kk ν' h' φ' w' u M' hν hh hfr' hv
theorem zFp {f:Env} {N:Nat} (d:Fits N f a) (g:∀t,Dk.look f t=a.tmps[t]?):∀{xs:List Operand} {cs:List (CV τ)},zJr E xs=some cs→(∀x∈xs,zeL X h ν a (zxU x) E)→CVs X.P X.G h ν cs (xs.map a.eval)
 | [],cs,e,_=>by cases e; rfl
 | x::xs,cs,e,i=>by
  unfold zJr at e
  split at e
  ·rename_i c hc
   split at e
   ·rename_i k b
    cases e;obtain ⟨v,h1,h2⟩:=zB g (i x (List.mem_cons_self ..)) hc;exact ⟨a.eval x,xs.map a.eval,rfl,by rw [d.ev h1]; exact h2,zFp d g b fun x j=>i x (List.mem_cons_of_mem _ j)⟩
   ·cases e
  ·cases e
theorem zLp {f:Nat} {fs caps:List Operand} {bs cs:List (CV τ)} (hb:zJr E fs=some bs) (hc:zJr E caps=some cs) (k:K (.c (.cf nid)) [] [(nid,.clo f bs cs)] [] (nid+1)=some r):zdD X w0 h0 F ⟨dst,.makeFunc (.func f) ⟨fs⟩ ⟨caps⟩,t,p,af,gd⟩ E L nid K r:=by
 refine ⟨_,_,_,_,_,k,Nat.le_succ _,(fun _ h=>by cases h),fun L2 ν h φ a w next Q hd M hE ha hfr kk=>?_⟩;have hn:=hfr nid (Nat.le_refl _) (Nat.lt_succ_self _);obtain ⟨Ea,hf,hl'⟩:=zef a hd;have hbv:=zFp (h:=h) (ν:=ν) hf hl' hb fun x hx=>hE.op (by simp [Op.operands]; exact .inl hx);have hcv:=zFp (h:=h) (ν:=ν) hf hl' hc fun x hx=>hE.op (by simp [Op.operands]; exact .inr hx)
 have hrun:(execOp a.eval ⟨dst,.makeFunc (.func f) ⟨fs⟩ ⟨caps⟩,t,p,af,gd⟩).run X.P w = .ok (.value (.func (.func f) ⟨fs.map a.eval⟩ ⟨caps.map a.eval⟩)) w:=by
  simp [execOp,Instr.makeFunc,Result.andThen]
 refine zgm hrun (kk (up1 ν nid (some (.func (.func f) ⟨fs.map a.eval⟩ ⟨caps.map a.eval⟩,none))) h _ w _ (M.add hn (.clo f bs cs) _ (fp:=[]) ⟨_,_,_,rfl,rfl,hbv.le (Fz.le.refl _) (zbV hn),hcv.le (Fz.le.refl _) (zbV hn)⟩ (fun b hb=>by cases hb)) (zbV hn) (Fz.le.refl _) zet ⟨f,_,_,none,za0 _ _ _,rfl⟩)
theorem ztP {m:Env} {N:Nat} (j:Fits N m a) (l:∀t,Dk.look m t=a.tmps[t]?):∀{ps:List (Nat × Operand)} {k:Nat} {cs:List (CV τ)} {pre rest:List Value},zA7 E k ps=some cs→(∀q∈ps,zeL X h ν a (zxU q.2) E)→pre.length=k→rest.length=ps.length →
  cs.length=ps.length∧CVs X.P X.G h ν cs (ps.map fun q=>a.eval q.2)∧Instr.fill (fun i=>some (i*1,1)) (pre++rest).toArray (ps.map fun q=>(q.1,a.eval q.2))=some (pre++ps.map fun q=>a.eval q.2).toArray
 | [],k,cs,pre,rest,e,_,_,d=>by
  cases e;have:rest=[]:=List.eq_nil_of_length_eq_zero d;subst this;exact ⟨rfl,rfl,by simp [Instr.fill]⟩
 | (i,x)::ps,k,cs,pre,rest,e,o,hp,d=>by
  unfold zA7 at e
  cases f:Nat.beq i k with
  | false=>rw [f] at e; cases e
  | true =>
   rw [f,cond_true] at e
   have:i=k:=by simpa using f
   subst this
   split at e
   ·rename_i c hc
    split at e
    ·rename_i w g
     cases e;obtain ⟨v,h1,h2⟩:=zB l (o (i,x) (List.mem_cons_self ..)) hc;have n:a.eval x=v:=j.ev h1
     cases rest with
     | nil=>simp at d
     | cons r0 rest =>
      obtain ⟨s,u,y⟩:=ztP j l (pre:=pre++[a.eval x]) (rest:=rest) g (fun q p=>o q (List.mem_cons_of_mem _ p)) (by simp [hp]) (by simpa using d);refine ⟨by simp [s],⟨_,_,rfl,by show zdg X.P X.G h ν c (a.eval x); rw [n]; exact h2,u⟩,?_⟩
      have b:(a.eval x).cells = #[a.eval x]:=by rw [n]; exact (zdg.one h2).2
      simp only [List.map_cons,Instr.fill,b];rw [if_neg (by simp; omega)]
      have r:(Array.zipIdx #[a.eval x]).foldl (fun cs (q:Value × Nat)=>cs.setIfInBounds (i*1+q.2) q.1) (pre++r0::rest).toArray=(pre++[a.eval x]++rest).toArray:=by simp [← hp]
      refine Eq.trans (congrArg (fun z=>Instr.fill _ z _) r) ?_;rw [y]; simp
    ·cases e
   ·cases e
theorem zQg {te n:Nat} {ps:List (Nat × Operand)} {cs:List (CV τ)} (hel:elO X.P t'=some te) (hz1:z1B X.P te=true) (hc:zA7 E 0 ps=some cs) (hn:cs.length=n) (hsz:n≤65536)
  (k:K (.c (.os (nid+1))) [] [(nid+1,.sb nid n),(nid,.blk te cs)] [] (nid+2)=some r):zdD X w0 h0 F ⟨dst,.buildSlice t' n ⟨ps⟩,t,p,af,gd⟩ E L nid K r:=by
 unfold z1B at hz1
 split at hz1
 ·rename_i ti hti
  split at hz1
  ·rename_i z hz
   have hs1:ti.size=1:=by simpa using hz1
   refine ⟨_,_,_,_,_,k,by omega,(fun _ h=>by cases h),fun L2 ν h φ a w next Q hd M hE ha hfr kk=>?_⟩;have hn0:=hfr nid (Nat.le_refl _) (by omega);have hn1:=hfr (nid+1) (by omega) (by omega);obtain ⟨Ea,hf,hl'⟩:=zef a hd;have hEo:∀q∈ps,zeL X h ν a (zxU q.2) E:=fun q hq=>hE.op (by simp only [Op.operands,List.toList_toArray,List.mem_map]; exact ⟨q,hq,rfl⟩)
   have hrng:∀f:Nat→Value,(Array.range (n*ti.size)).map f=((List.range (n*ti.size)).map f).toArray:=by
    intro f; apply Array.toList_inj.1; simp
   have hpl:ps.length=n:=by
    have:=(ztP (h:=h) (ν:=ν) hf hl' (pre:=[]) (rest:=List.replicate ps.length undef) hc hEo rfl (by simp)).1;omega
   have hfill:∀zc:Array Value,Instr.fill (fun i=>some (i*ti.size,ti.size)) ((Array.range (n*ti.size)).map (zc[· % zc.size]!)) (ps.map fun q=>(q.1,a.eval q.2))=some (ps.map fun q=>a.eval q.2).toArray:=by
    intro zc;obtain ⟨_,_,h3⟩:=ztP (h:=h) (ν:=ν) hf hl' (pre:=[]) (rest:=(List.range (n*ti.size)).map (zc[· % zc.size]!)) hc hEo rfl (by simp [hs1,hpl]);rw [hrng];simp only [hs1] at h3 ⊢;simpa using h3
   have hcv:=(ztP (h:=h) (ν:=ν) hf hl' (pre:=[]) (rest:=List.replicate ps.length undef) hc hEo rfl (by simp)).2.1
   have hpm:(Array.map (fun x=>match x with|(i,x)=>(i,a.eval x)) (⟨ps⟩:Array (Nat × Operand)))=(ps.map fun q=>(q.1,a.eval q.2)).toArray:=by
    have:(Array.map (fun (q:Nat × Operand)=>(q.1,a.eval q.2)) ⟨ps⟩)=(ps.map fun q=>(q.1,a.eval q.2)).toArray:=by simp
    exact this
   have hexec:(execOp a.eval ⟨dst,.buildSlice t' n ⟨ps⟩,t,p,af,gd⟩).run X.P w = .ok (.value (.slice (some ⟨w.heap.size,0,none⟩) n n)) (w.alloc (.cells (ps.map fun q=>a.eval q.2).toArray te)):=by
    have hb:¬(n*ti.size>2^24):=by rw [hs1]; omega
    simp only [execOp];rw [hpm,Sem.run_bind,zNL (zk9 hel) hti hz hb (hfill _)];rfl
   have M1:=M.alloc hn0 (.cells (ps.map fun q=>a.eval q.2).toArray te) (.blk te cs) (ptr w.heap.size 0,none) ⟨_,none,_,rfl,rfl,zkx _,hcv.le (Fz.le.refl _) (zbV hn0)⟩
   have hne:¬ nid+1=nid:=by omega
   have hn1':up1 ν nid (some (ptr w.heap.size 0,none)) (nid+1)=none:=(zbz _ _ hne).trans hn1;have M2:=M1.add hn1' (.sb nid n) (.slice (some ⟨w.heap.size,0,none⟩) n n,none) (fp:=[]) ⟨w.heap.size,none,none,(zbV hn1') _ _ (za0 _ _ _),rfl,rfl⟩ (fun b hb=>by cases hb);refine zgm hexec (kk _ h _ _ _ M2 ((zbV hn0).trans (zbV hn1')) (Fz.le.refl _) (fun i h1 h2=>?_) ⟨_,_,_,none,za0 _ _ _,rfl⟩)
   by_cases e1:i=nid+1
   ·omega
   ·rw [zbz _ _ e1] at h2
    by_cases e2:i=nid
    ·omega
    ·rw [zbz _ _ e2] at h2; exact (h2 h1).elim
  ·cases hz1
 ·cases hz1
theorem zLq {id i n o:Nat} (g:evC E x=some (.os id)) (u:lk L id = .sb i n) (l:elO X.P t'=some o) (k:K (.c (.i (n:Int))) [] [] [id] nid=some r) :
  zdD X w0 h0 F ⟨dst,.call ⟨.builtin .len,⟨[x]⟩,⟨[t']⟩⟩,t,p,af,gd⟩ E L nid K r:=by
 refine zbp k fun C ν h φ a w hd M v s=>?_;obtain ⟨A,j,d⟩:=zef a hd;obtain ⟨G,h1,h2⟩:=zB d (v.op (by simp [Op.operands,Call.operands])) g;obtain ⟨ad,m,y,q,hν,rfl⟩:=h2;have f:=M.res id;rw [s id (List.mem_singleton.2 rfl),u] at f;obtain ⟨b,D,B,z,e,_⟩:=f;rw [hν] at e;cases e;exact ⟨_,ztb (zk9 l) j h1,rfl⟩
theorem zOi {u id:Nat} {m:Int} (l:elO X.P t'=some u) (s:evC E x=some (.os id)) (z:evC E y=some (.i m)) (e:ixZ X L nid K id u m=some r):zdD X w0 h0 F ⟨dst,.indexAddr t' x y,t,p,af,gd⟩ E L nid K r:=by
 unfold ixZ at e
 split at e
 ·rename_i i Z e' lo xs g
  split at e
  ·rename_i R V ys W k
   obtain ⟨B,C⟩:=zg0 e;simp only [Bool.and_eq_true,Nat.beq_eq] at B;obtain ⟨o,f⟩:=B;subst o;obtain ⟨d,S,T⟩:=ob C;exact zGf l s z g k f S T
  ·cases e
 ·rename_i i n g
  split at e
  ·rename_i f
   split at e
   ·rename_i J
    refine zbp e fun L2 ν h φ a w hd M A I=>?_;obtain ⟨Y,D,j⟩:=zef a hd;obtain ⟨vx,h1,h2⟩:=zB j (A.op (by simp [Op.operands])) s;obtain ⟨Q,G,O⟩:=zB j (A.op (by simp [Op.operands])) z;obtain rfl:Q=_:=O;obtain ⟨ad,n',U,q,hν,rfl⟩:=h2;have c:=M.res id;rw [I id (List.mem_singleton.2 rfl),g] at c;obtain ⟨b,q1,N,H,v,_⟩:=c;rw [hν] at v;cases v;refine ⟨ptr b m.toNat,?_,some ⟨b,0,none⟩,N,H,by simp [zvn],fun _=>⟨b,rfl⟩⟩;refine znf (fun w=>?_) D h1 G;rw [zoE (zk9 l) (zgp f) J.1 (by omega),zIh,Nat.zero_add,Nat.mul_one]
   ·cases e
  ·cases e
 ·cases e
end
end Go.Rk
end
