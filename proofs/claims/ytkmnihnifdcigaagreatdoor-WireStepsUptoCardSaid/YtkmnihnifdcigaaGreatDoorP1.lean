/-
 Hosts, paths, targets, first lines, heads: which ones may be, as plain functions. No program in sight.
-/
import Derived.Test.YtkmnihnifdcigaaGreatDoorP0
import Derived.Test.YtkmnihnifdcigaaGreatDoorTSplit
import Derived.Lib.ItoaNum
import Derived.Lib.IndexMore
set_option linter.unusedVariables false
set_option linter.unusedSimpArgs false
set_option linter.unusedVariables false
namespace Go.Dm
def zha (s:Str) (most:Int):Prop:=∃n:Nat,(n:Int)≤most∧s=Go.Lib.decDigits n
def zmb (s:Str):Prop:=(zi 46 s).length=4∧∀x∈zi 46 s,zha x 255
def zru (s:Str):Bool:=s.all zk3&&decide (1≤s.length)&&decide (s.length≤4)
inductive Grp:Bool→List Str→Nat→Prop
 | nil (b:Bool):Grp b [] 0
 | four (s:Str) (h:zmb s):Grp true [s] 2
 | hex (b:Bool) (s:Str) (l:List Str) (n:Nat) (h:zru s=true) (g:Grp b l n):Grp b (s::l) (n+1)
def spt (s:Str):List Str:=if s=[] then [] else zi 58 s
def zmc:Str→Option (Str × Str)
 | 58::58::t=>some ([],t)
 | c::t=>(zmc t).map fun p=>(c::p.1,p.2)
 | []=>none
def zut (s:Str):Prop:=match zmc s with
 | none=>Grp true (spt s) 8
 | some (a,b)=>∃n m,Grp false (spt a) n∧Grp true (spt b) m∧n+m≤7
def ziV:Str→Bool
 | []=>true
 | c::s=>if c=37 then (match s with
  | a::b::r=>zk3 a&&zk3 b&&ziV r
  | _=>false) else (zqD c||zDr c)&&ziV s
def zoy (s:Str):Prop:=(∃m,m≠[]∧s=91::m++[93]∧zut m)∨zmb s∨(s≠[]∧ziV s=true)
def zpn (s:Str):Prop:=∃a p,s=a++58::p∧58∉p∧zoy a∧zha p 65535
def zr8 (m:UInt8→Bool):Str→Bool
 | []=>true
 | c::s=>if c=37 then (match s with
  | a::b::r=>zk3 a&&zk3 b&&zr8 m r
  | _=>false) else (zzw c||m c)&&zr8 m s
def pathP (s:Str):Prop:=∃t,s=47::t∧zr8 (· == 47) s=true
def zzA (s:Str):Prop:=zr8 (fun c=>c==47||c==63) s=true
def zMM (s:Str):Prop:=∃p t,s=p++t∧63∉p∧pathP p∧(t=[]∨∃q,t=63::q∧zzA q)
def absP (s:Str):Prop:=∃a h t,s=a++[58,47,47]++h++t∧(low a=[104,116,116,112]∨low a=[104,116,116,112,115]) ∧
 47∉h∧63∉h∧(zoy h∨zpn h)∧(t=[]∨(∃q,t=63::q∧zzA q)∨zMM t)
def targP (m s:Str):Prop:=if m=[67,79,78,78,69,67,84] then zpn s
 else (s=[42]∧m=[79,80,84,73,79,78,83])∨zMM s∨absP s
theorem Grp.app {b:Bool} {y:List Str} {m:Nat} (hy:Grp b y m):∀{x:List Str} {n:Nat},Grp false x n→Grp b (x++y) (n+m):=by
 intro x n h
 induction x generalizing n with
 | nil=>cases h; simpa using hy
 | cons s x ih=>cases h with
  | hex _ _ _ k h g=>have:=Grp.hex b s _ _ h (ih g); rw [Nat.add_right_comm]; exact this
theorem Grp.split {b:Bool} {y:List Str} (hy:y≠[]):∀{x:List Str} {k:Nat},Grp b (x++y) k→∃n m,Grp false x n∧Grp b y m∧n+m=k
 | [],k,h=>⟨0,k, .nil _,h,by simp⟩
 | s::x,k,h=>by
  rw [List.cons_append] at h;generalize e:x++y=z at h
  cases h with
  | four=>simp at e; exact absurd e.2 hy
  | hex _ _ _ n h g =>
   subst e;obtain ⟨i,j,h1,h2,h3⟩:=g.split hy;exact ⟨i+1,j, .hex _ _ _ _ h h1,h2,by omega⟩
theorem spt_ne {s:Str} (h:s≠[]):spt s≠[]:=by
 unfold spt;rw [if_neg h];exact zfk _ _
theorem zvD (c:UInt8):∀(a b:Str),zi c (a++c::b)=zi c a++zi c b
 | [],b=>by simp [zi]
 | x::a,b=>by
  rw [List.cons_append,zi,zvD c a b,zi]
  split
  ·simp
  ·cases h:zi c a with
   | nil=>exact absurd h (zfk _ _)
   | cons=>simp
theorem zFZ {t x:Str} (hx:x≠[]):spt ((if t=[] then t else t++[58])++x)=spt t++spt x:=by
 unfold spt
 by_cases h:t=[]
 ·subst h; simp
 ·rw [if_neg h,if_neg h,if_neg hx,List.append_assoc,if_neg (by simp [h])];exact zvD 58 t x
theorem Grp.pos {b:Bool} {l:List Str} {k:Nat} (h:Grp b l k) (hl:l≠[]):1≤k:=by
 cases h with
 | nil=>exact absurd rfl hl
 | four=>omega
 | hex=>omega
theorem zOV {a b:Str} {n:Nat} (hn:1≤n) (h:Grp true (spt a++List.replicate n [48]++spt b) 8) :
  ∃i j,Grp false (spt a) i∧Grp true (spt b) j∧i+j≤7:=by
 have hz:List.replicate n [(48:UInt8)]≠[]:=by cases n with
  | zero=>omega
  | succ n=>simp [List.replicate_succ]
 by_cases hb:b=[]
 ·subst hb;have e:spt []=[]:=rfl;rw [e,List.append_nil] at h;obtain ⟨i,k,h1,h2,h3⟩:=h.split hz;have:=h2.pos hz;exact ⟨i,0,h1,by rw [e]; exact .nil _,by omega⟩
 ·obtain ⟨i,k,h1,h2,h3⟩:=h.split (spt_ne hb);obtain ⟨i,l,h4,h5,h6⟩:=h1.split hz;have:=h5.pos hz;exact ⟨i,k,h4,h2,by omega⟩
theorem zJJ (c:UInt8) (u b:Str):∀a:Str,c∉a→Go.Lib.index (a++c::(u++b)) (c::u)=a.length
 | [],_=>by
  have:List.isPrefixOf (c::u) (c::(u++b))=true:=by rw [List.isPrefixOf_iff_prefix]; exact ⟨b,by simp⟩
  simp [Go.Lib.index,this]
 | x::a,h=>by
  have ih:=zJJ c u b a (fun e=>h (by simp [e]))
  have hx:(c==x)=false:=by simp; exact fun e=>h (by simp [e])
  simp only [List.cons_append,Go.Lib.index,List.isPrefixOf,hx,Bool.false_and,ih];simp
theorem zJK (c:UInt8) (u:Str):∀s:Str,c∉s→Go.Lib.index s (c::u) = -1
 | [],_=>by simp [Go.Lib.index]
 | x::s,h=>by
  have ih:=zJK c u s (fun e=>h (by simp [e]))
  have hx:(c==x)=false:=by simp; exact fun e=>h (by simp [e])
  simp [Go.Lib.index,List.isPrefixOf,hx,ih]
theorem zDx:∀s:Str,Go.Lib.cut s [58,58]=match zmc s with|none=>(s,[],false)|some (a,b)=>(a,b,true)
 | []=>by simp [Go.Lib.cut,Go.Lib.index,zmc]
 | c :: t=>by
  have ih:=zDx t
  unfold Go.Lib.cut at *
  by_cases hp:List.isPrefixOf [58,58] (c::t)=true
  ·rw [List.isPrefixOf_iff_prefix] at hp;obtain ⟨r,hr⟩:=hp;simp at hr;obtain ⟨rfl,rfl⟩:=hr;simp [Go.Lib.index,zmc]
  ·have e:zmc (c::t)=(zmc t).map fun p=>(c::p.1,p.2):=zmc.eq_2 c t (by rintro r rfl rfl; simp at hp);rw [e];have hg:=Go.Lib.index_ge t [58,58];simp only [Go.Lib.index,hp]
   by_cases hm:Go.Lib.index t [58,58] = -1
   ·rw [hm] at ih ⊢
    cases h:zmc t with
    | none=>simp
    | some p=>rw [h] at ih; simp at ih
   ·obtain ⟨k,hk⟩:∃k:Nat,Go.Lib.index t [58,58]=k:=⟨(Go.Lib.index t [58,58]).toNat,by omega⟩;rw [hk] at ih ⊢
    cases h:zmc t with
    | none=>rw [h] at ih; simp at ih
    | some p =>
     rw [h] at ih;simp at ih
     have:¬ ((k:Int) = -1):=by omega
     have e1:(0:Int)≤(k:Int)+1:=by omega
     have e2:((k:Int)+1).toNat=k+1:=by omega
     simp [this,e1,e2, ← ih]
def dv:Nat→Str→Nat
 | a,[]=>a
 | a,c::t=>dv (a*10+(c.toNat-48)) t
theorem zMN:∀(s t:Str) (a:Nat),dv a (s++t)=dv (dv a s) t
 | [],t,a=>rfl
 | c::s,t,a=>zMN s t _
theorem zF0 {k:Nat} (h:k<10):zbQ (UInt8.ofNat (48+k))=true∧(UInt8.ofNat (48+k)).toNat=48+k:=by
 have:∀k:Fin 10,zbQ (UInt8.ofNat (48+k.val))=true∧(UInt8.ofNat (48+k.val)).toNat=48+k.val:=by decide
 exact this ⟨k,h⟩
theorem zy1 (n:Nat):(Go.Lib.decDigits n).all zbQ=true:=by
 induction n using Nat.strongRecOn with
 | _ n ih =>
  rw [Go.Lib.decDigits]
  split
  ·rename_i h; simp only [List.all_cons,List.all_nil,(zF0 h).1,Bool.and_self]
  ·rw [List.all_append,ih _ (by omega)]; simp only [List.all_cons,List.all_nil,(zF0 (show n%10<10 by omega)).1,Bool.and_self]
theorem dv_dec (n:Nat):dv 0 (Go.Lib.decDigits n)=n:=by
 induction n using Nat.strongRecOn with
 | _ n ih =>
  rw [Go.Lib.decDigits]
  split
  ·rename_i h
   show 0*10+((UInt8.ofNat (48+n)).toNat-48)=n;rw [(zF0 h).2]; omega
  ·rw [zMN,ih _ (by omega)];show n/10*10+((UInt8.ofNat (48+n%10)).toNat-48)=n;rw [(zF0 (show n%10<10 by omega)).2]; omega
theorem zMO (n:Nat):Go.Lib.decDigits n≠[]:=by
 rw [Go.Lib.decDigits]
 split<;>simp
theorem zJL (n:Nat):∀k:Nat,1≤k→n<10^k→(Go.Lib.decDigits n).length≤k:=by
 induction n using Nat.strongRecOn with
 | _ n ih =>
  intro k hk hn;rw [Go.Lib.decDigits]
  split
  ·simpa using hk
  ·obtain ⟨k,rfl⟩:∃j,k=j+1:=⟨k-1,by omega⟩;rw [Nat.pow_succ] at hn
   have hk0:1≤k:=by
    cases k with
    | zero=>simp at hn; omega
    | succ k=>omega
   have:=ih (n/10) (by omega) k hk0 (by omega);simpa using this
def dvI:Int→Str→Int
 | a,[]=>a
 | a,c::t=>dvI (a*10+((c.toNat:Int)-48)) t
theorem zF1 (b:UInt8) (h:zbQ b=true):48≤b.toNat∧b.toNat≤57:=by
 have:=zpm (p:=fun b => !zbQ b||(decide (48≤b.toNat)&&decide (b.toNat≤57))) (by decide +kernel) b;simpa [h] using this
theorem zMP:∀(s:Str) (a:Nat),s.all zbQ=true→dvI a s=dv a s
 | [],a,_=>rfl
 | c::s,a,h=>by
  rw [List.all_cons,Bool.and_eq_true] at h;have hc:=zF1 c h.1;have:=zMP s (a*10+(c.toNat-48)) h.2;show dvI ((a:Int)*10+((c.toNat:Int)-48)) s=(dv (a*10+(c.toNat-48)) s:Int);rw [← this]
  congr 1
  omega
theorem zH5:∀(s:Str) (a:Int),0≤a→s.all zbQ=true→a≤dvI a s
 | [],a,_,_=>Int.le_refl _
 | c::s,a,h0,h=>by
  rw [List.all_cons,Bool.and_eq_true] at h;have hc:=zF1 c h.1;have:=zH5 s (a*10+((c.toNat:Int)-48)) (by omega) h.2;show a≤dvI (a*10+((c.toNat:Int)-48)) s;omega
theorem zOW (n:Nat):dvI 0 (Go.Lib.decDigits n)=n:=by
 have:=zMP (Go.Lib.decDigits n) 0 (zy1 n);rw [dv_dec] at this; exact this
theorem zwY {c x:UInt8}:∀{s:Str},x∈s→x=c∨∃p∈zi c s,x∈p
 | y :: s,h=>by
  rw [zi]
  by_cases hy:y=c
  ·rw [if_pos hy]
   rcases List.mem_cons.1 h with rfl|h
   ·exact .inl hy
   ·rcases zwY (c:=c) h with e|⟨p,hp,e⟩
    ·exact .inl e
    ·exact .inr ⟨p,by simp [hp],e⟩
  ·rw [if_neg hy];have ne:=zfk c s
   cases e:zi c s with
   | nil=>exact absurd e ne
   | cons a l =>
    rcases List.mem_cons.1 h with rfl|h
    ·exact .inr ⟨x::a,by simp,by simp⟩
    ·rcases zwY (c:=c) h with e2|⟨p,hp,e2⟩
     ·exact .inl e2
     ·rw [e] at hp
      rcases List.mem_cons.1 hp with rfl|hp
      ·exact .inr ⟨y::p,by simp,by simp [e2]⟩
      ·exact .inr ⟨p,by simp [hp],e2⟩
theorem zDy {s:Str} {m:Int} (h:zha s m):s.all zbQ=true∧s≠[]:=by
 obtain ⟨n,_,rfl⟩:=h;exact ⟨zy1 n,zMO n⟩
theorem zOX {s:Str} (h:zmb s):∀x∈s,x=46∨zbQ x=true:=by
 intro x hx
 rcases zwY (c:=46) hx with e|⟨p,hp,e⟩
 ·exact .inl e
 ·exact .inr (List.all_eq_true.1 (zDy (h.2 p hp)).1 x e)
theorem zzB {s:Str} (h:zru s=true) (h2:zmb s):False:=by
 unfold zru at h;simp only [Bool.and_eq_true,List.all_eq_true] at h
 have hn:(46:UInt8)∉s:=fun e=>by have:=h.1.1 46 e; revert this; decide
 have:=h2.1;rw [zvE hn] at this;simp at this
theorem zJM (b:Bool) (k:Nat):Grp b [] k↔k=0:=⟨fun h=>by cases h; rfl,fun h=>h ▸ .nil b⟩
theorem zJN (b:Bool) (s:Str) (l:List Str) (k:Nat):Grp b (s::l) k↔(b=true∧l=[]∧k=2∧zmb s)∨(zru s=true∧1≤k∧Grp b l (k-1)):=by
 constructor
 ·intro h
  cases h with
  | four _ h=>exact .inl ⟨rfl,rfl,rfl,h⟩
  | hex _ _ _ n h g=>exact .inr ⟨h,by omega,g⟩
 ·rintro (⟨rfl,rfl,rfl,h⟩|⟨h,h1,g⟩)
  ·exact .four s h
  ·have:=Grp.hex b s l _ h g
   rwa [show k-1+1=k by omega] at this
theorem nm_p (a b:UInt8) (r:Str):ziV (37::a::b::r)=(zk3 a&&zk3 b&&ziV r):=by rw [ziV.eq_def]; simp
theorem nm_o (c:UInt8) (s:Str) (h:c≠37):ziV (c::s)=((zqD c||zDr c)&&ziV s):=by rw [ziV.eq_def]; simp [h]
theorem zH6 (a:UInt8):ziV [37,a]=false∧ziV [37]=false:=by constructor<;>(rw [ziV.eq_def]; simp)
theorem zr9:zqD 37=false∧zDr 37=false∧zqD 58=false∧zDr 58=false∧zk3 58=false∧zbQ 58=false∧zzw 37=false∧zbQ 93=false:=by decide +kernel
theorem zF2:∀(s:Str),ziV s=true→58∉s
 | [],_=>by simp
 | [c],h=>by
  have:=zr9
  by_cases hc:c=37
  ·subst hc; rw [(zH6 0).2] at h; cases h
  ·rw [nm_o _ _ hc] at h; simp; rintro rfl; simp [this] at h
 | [c,a],h=>by
  have:=zr9
  by_cases hc:c=37
  ·subst hc; rw [(zH6 a).1] at h; cases h
  ·rw [nm_o _ _ hc,Bool.and_eq_true] at h;have:=zF2 [a] h.2;simp at this ⊢; refine ⟨?_,this⟩; rintro rfl; simp_all
 | c::a::b::s,h=>by
  have:=zr9
  by_cases hc:c=37
  ·subst hc;rw [nm_p,Bool.and_eq_true,Bool.and_eq_true] at h;have i:=zF2 s h.2;simp at i ⊢;refine ⟨?_,?_,i⟩<;>(rintro rfl; simp_all)
  ·rw [nm_o _ _ hc,Bool.and_eq_true] at h;have i:=zF2 (a::b::s) h.2;simp at i ⊢;refine ⟨?_,i⟩; rintro rfl; simp_all
theorem zMS {c:UInt8}:∀{a b p q:Str},a++c::p=b++c::q→c∉p→c∉q→a=b∧p=q
 | [],[],p,q,h,_,_=>by simpa using h
 | [],y::b,p,q,h,hp,_=>by simp at h; obtain ⟨rfl,rfl⟩:=h; simp at hp
 | x::a,[],p,q,h,_,hq=>by simp at h; obtain ⟨rfl,rfl⟩:=h; simp at hq
 | x::a,y::b,p,q,h,hp,hq=>by
  simp at h;obtain ⟨rfl,h⟩:=h;obtain ⟨rfl,rfl⟩:=zMS h hp hq;exact ⟨rfl,rfl⟩
theorem pq_p (m:UInt8→Bool) (a b:UInt8) (r:Str):zr8 m (37::a::b::r)=(zk3 a&&zk3 b&&zr8 m r):=by rw [zr8.eq_def]; simp
theorem pq_o (m:UInt8→Bool) (c:UInt8) (s:Str) (h:c≠37):zr8 m (c::s)=((zzw c||m c)&&zr8 m s):=by rw [zr8.eq_def]; simp [h]
theorem pq_1 (m:UInt8→Bool) (a:UInt8):zr8 m [37,a]=false∧zr8 m [37]=false:=by constructor<;>(rw [zr8.eq_def]; simp)
theorem idxB (c:UInt8):∀(s:Str) (k:Nat),decide (0≤zbY s c k)=s.contains c
 | [],k=>by simp [zbY]
 | x::s,k=>by
  have ih:=idxB c s (k+1);simp only [zbY,List.contains_cons]
  by_cases h:x=c
  ·simp [h]
  ·have h':(c==x)=false:=by simp; exact fun e=>h e.symm
   simp only [h',Bool.false_or, ← ih]; simp [h]
theorem idxA (c:Str):∀(h t:Str) (k:Nat),(∀x∈h,x∉c)→(∀y,t.head? = some y→y∈c)→zbD (h++t) c k=if t=[] then -1 else ((k+h.length:Nat):Int)
 | [],[],k,_,_=>by simp [zbD]
 | [],y::t,k,_,h=>by have:=h y rfl; simp [zbD,this]
 | x::s,t,k,h,h2=>by
  have ih:=idxA c s t (k+1) (fun x hx=>h x (List.mem_cons_of_mem _ hx)) h2
  have hx:c.contains x=false:=by simpa using h x List.mem_cons_self
  simp only [List.cons_append,zbD,hx,Bool.false_eq_true,if_false,ih,List.length_cons]
  split
  ·rfl
  ·omega
theorem orig_q {q:Str} (h:zzA q):zMM (47::63::q):=⟨[47],63::q,rfl,by decide,⟨[],rfl,by decide⟩, .inr ⟨q,rfl,h⟩⟩
end Go.Dm
