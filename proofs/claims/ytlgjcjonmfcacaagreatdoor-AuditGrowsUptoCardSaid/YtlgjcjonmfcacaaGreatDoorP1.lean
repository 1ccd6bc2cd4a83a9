/-
 Hosts, paths, targets, first lines, heads: which ones may be, as plain functions. No program in sight.
-/
import Derived.Test.YtlgjcjonmfcacaaGreatDoorP0
import Derived.Test.YtlgjcjonmfcacaaGreatDoorTSplit
import Derived.Lib.ItoaNum
import Derived.Lib.IndexMore
set_option linter.unusedVariables false
set_option linter.unusedSimpArgs false
set_option linter.unusedVariables false
set_option linter.unusedSimpArgs false
set_option linter.unusedVariables false
namespace Go.Dm
def zg6 (s:Str) (most:Int):Prop:=∃n:Nat,(n:Int)≤most∧s=Go.Lib.decDigits n
def zlT (s:Str):Prop:=(zg 46 s).length=4∧∀x∈zg 46 s,zg6 x 255
def zrv (s:Str):Bool:=s.all zlb&&decide (1≤s.length)&&decide (s.length≤4)
inductive Grp:Bool→List Str→Nat→Prop
 | nil (b:Bool):Grp b [] 0
 | four (s:Str) (h:zlT s):Grp true [s] 2
 | hex (b:Bool) (s:Str) (l:List Str) (n:Nat) (h:zrv s=true) (g:Grp b l n):Grp b (s::l) (n+1)
def spt (s:Str):List Str:=if s=[] then [] else zg 58 s
def zlU:Str→Option (Str × Str)
 | 58::58::t=>some ([],t)
 | c::t=>(zlU t).map fun p=>(c::p.1,p.2)
 | []=>none
def zux (s:Str):Prop:=match zlU s with
 | none=>Grp true (spt s) 8
 | some (a,b)=>∃n m,Grp false (spt a) n∧Grp true (spt b) m∧n+m≤7
def ziI:Str→Bool
 | []=>true
 | c::s=>if c=37 then (match s with
  | a::b::r=>zlb a&&zlb b&&ziI r
  | _=>false) else (zq7 c||zER c)&&ziI s
def znZ (s:Str):Prop:=(∃m,m≠[]∧s=91::m++[93]∧zux m)∨zlT s∨(s≠[]∧ziI s=true)
def zpl (s:Str):Prop:=∃a p,s=a++58::p∧58∉p∧znZ a∧zg6 p 65535
def zsc (m:UInt8→Bool):Str→Bool
 | []=>true
 | c::s=>if c=37 then (match s with
  | a::b::r=>zlb a&&zlb b&&zsc m r
  | _=>false) else (zAG c||m c)&&zsc m s
def pathP (s:Str):Prop:=∃t,s=47::t∧zsc (· == 47) s=true
def zzr (s:Str):Prop:=zsc (fun c=>c==47||c==63) s=true
def zMh (s:Str):Prop:=∃p t,s=p++t∧63∉p∧pathP p∧(t=[]∨∃q,t=63::q∧zzr q)
def absP (s:Str):Prop:=∃a h t,s=a++[58,47,47]++h++t∧(low a=[104,116,116,112]∨low a=[104,116,116,112,115]) ∧
 47∉h∧63∉h∧(znZ h∨zpl h)∧(t=[]∨(∃q,t=63::q∧zzr q)∨zMh t)
def targP (m s:Str):Prop:=if m=[67,79,78,78,69,67,84] then zpl s
 else (s=[42]∧m=[79,80,84,73,79,78,83])∨zMh s∨absP s
theorem Grp.app {b:Bool} {y:List Str} {m:Nat} (hy:Grp b y m):∀{x:List Str} {n:Nat},Grp false x n→Grp b (x++y) (n+m):=by
 intro x n h
 induction x generalizing n with
 | nil=>cases h; simpa using hy
 | cons s x ih=>cases h with
  | hex _ _ _ k h g=>have:=Grp.hex b s _ _ h (ih g); rw [Nat.add_right_comm]; exact this
theorem Grp.split {b:Bool} {y:List Str} (hy:y≠[]):∀{x:List Str} {k:Nat},Grp b (x++y) k→∃n m,Grp false x n∧Grp b y m∧n+m=k
 | [],k,h=>⟨0,k, .nil _,h,by simp⟩
 | s::x,k,h=>by
  rw [List.cons_append] at h;generalize e:x++y=z at h
  cases h with
  | four=>simp at e; exact absurd e.2 hy
  | hex _ _ _ n h g =>
   subst e;obtain ⟨i,j,h1,h2,h3⟩:=g.split hy;exact ⟨i+1,j, .hex _ _ _ _ h h1,h2,by omega⟩
theorem spt_ne {s:Str} (h:s≠[]):spt s≠[]:=by
 unfold spt;rw [if_neg h];exact zfh _ _
theorem zvs (c:UInt8):∀(a b:Str),zg c (a++c::b)=zg c a++zg c b
 | [],b=>by simp [zg]
 | x::a,b=>by
  rw [List.cons_append,zg,zvs c a b,zg]
  split
  ·simp
  ·cases h:zg c a with
   | nil=>exact absurd h (zfh _ _)
   | cons=>simp
theorem zFK {t x:Str} (hx:x≠[]):spt ((if t=[] then t else t++[58])++x)=spt t++spt x:=by
 unfold spt
 by_cases h:t=[]
 ·subst h; simp
 ·rw [if_neg h,if_neg h,if_neg hx,List.append_assoc,if_neg (by simp [h])];exact zvs 58 t x
theorem Grp.pos {b:Bool} {l:List Str} {k:Nat} (h:Grp b l k) (hl:l≠[]):1≤k:=by
 cases h with
 | nil=>exact absurd rfl hl
 | four=>omega
 | hex=>omega
theorem zOE {a b:Str} {n:Nat} (hn:1≤n) (h:Grp true (spt a++List.replicate n [48]++spt b) 8) :
  ∃i j,Grp false (spt a) i∧Grp true (spt b) j∧i+j≤7:=by
 have hz:List.replicate n [(48:UInt8)]≠[]:=by cases n with
  | zero=>omega
  | succ n=>simp [List.replicate_succ]
 by_cases hb:b=[]
 ·subst hb;have e:spt []=[]:=rfl;rw [e,List.append_nil] at h;obtain ⟨i,k,h1,h2,h3⟩:=h.split hz;have:=h2.pos hz;exact ⟨i,0,h1,by rw [e]; exact .nil _,by omega⟩
 ·obtain ⟨i,k,h1,h2,h3⟩:=h.split (spt_ne hb);obtain ⟨i,l,h4,h5,h6⟩:=h1.split hz;have:=h5.pos hz;exact ⟨i,k,h4,h2,by omega⟩
theorem zJu (c:UInt8) (u b:Str):∀a:Str,c∉a→Go.Lib.index (a++c::(u++b)) (c::u)=a.length
 | [],_=>by
  have:List.isPrefixOf (c::u) (c::(u++b))=true:=by rw [List.isPrefixOf_iff_prefix]; exact ⟨b,by simp⟩
  simp [Go.Lib.index,this]
 | x::a,h=>by
  have ih:=zJu c u b a (fun e=>h (by simp [e]))
  have hx:(c==x)=false:=by simp; exact fun e=>h (by simp [e])
  simp only [List.cons_append,Go.Lib.index,List.isPrefixOf,hx,Bool.false_and,ih];simp
theorem zJv (c:UInt8) (u:Str):∀s:Str,c∉s→Go.Lib.index s (c::u) = -1
 | [],_=>by simp [Go.Lib.index]
 | x::s,h=>by
  have ih:=zJv c u s (fun e=>h (by simp [e]))
  have hx:(c==x)=false:=by simp; exact fun e=>h (by simp [e])
  simp [Go.Lib.index,List.isPrefixOf,hx,ih]
theorem zDk:∀s:Str,Go.Lib.cut s [58,58]=match zlU s with|none=>(s,[],false)|some (a,b)=>(a,b,true)
 | []=>by simp [Go.Lib.cut,Go.Lib.index,zlU]
 | c :: t=>by
  have ih:=zDk t
  unfold Go.Lib.cut at *
  by_cases hp:List.isPrefixOf [58,58] (c::t)=true
  ·rw [List.isPrefixOf_iff_prefix] at hp;obtain ⟨r,hr⟩:=hp;simp at hr;obtain ⟨rfl,rfl⟩:=hr;simp [Go.Lib.index,zlU]
  ·have e:zlU (c::t)=(zlU t).map fun p=>(c::p.1,p.2):=zlU.eq_2 c t (by rintro r rfl rfl; simp at hp);rw [e];have hg:=Go.Lib.index_ge t [58,58];simp only [Go.Lib.index,hp]
   by_cases hm:Go.Lib.index t [58,58] = -1
   ·rw [hm] at ih ⊢
    cases h:zlU t with
    | none=>simp
    | some p=>rw [h] at ih; simp at ih
   ·obtain ⟨k,hk⟩:∃k:Nat,Go.Lib.index t [58,58]=k:=⟨(Go.Lib.index t [58,58]).toNat,by omega⟩;rw [hk] at ih ⊢
    cases h:zlU t with
    | none=>rw [h] at ih; simp at ih
    | some p =>
     rw [h] at ih;simp at ih
     have:¬ ((k:Int) = -1):=by omega
     have e1:(0:Int)≤(k:Int)+1:=by omega
     have e2:((k:Int)+1).toNat=k+1:=by omega
     simp [this,e1,e2, ← ih]
def dv:Nat→Str→Nat
 | a,[]=>a
 | a,c::t=>dv (a*10+(c.toNat-48)) t
theorem zMi:∀(s t:Str) (a:Nat),dv a (s++t)=dv (dv a s) t
 | [],t,a=>rfl
 | c::s,t,a=>zMi s t _
theorem zFL {k:Nat} (h:k<10):zbO (UInt8.ofNat (48+k))=true∧(UInt8.ofNat (48+k)).toNat=48+k:=by
 have:∀k:Fin 10,zbO (UInt8.ofNat (48+k.val))=true∧(UInt8.ofNat (48+k.val)).toNat=48+k.val:=by decide
 exact this ⟨k,h⟩
theorem zyX (n:Nat):(Go.Lib.decDigits n).all zbO=true:=by
 induction n using Nat.strongRecOn with
 | _ n ih =>
  rw [Go.Lib.decDigits]
  split
  ·rename_i h; simp only [List.all_cons,List.all_nil,(zFL h).1,Bool.and_self]
  ·rw [List.all_append,ih _ (by omega)]; simp only [List.all_cons,List.all_nil,(zFL (show n%10<10 by omega)).1,Bool.and_self]
theorem dv_dec (n:Nat):dv 0 (Go.Lib.decDigits n)=n:=by
 induction n using Nat.strongRecOn with
 | _ n ih =>
  rw [Go.Lib.decDigits]
  split
  ·rename_i h
   show 0*10+((UInt8.ofNat (48+n)).toNat-48)=n;rw [(zFL h).2]; omega
  ·rw [zMi,ih _ (by omega)];show n/10*10+((UInt8.ofNat (48+n%10)).toNat-48)=n;rw [(zFL (show n%10<10 by omega)).2]; omega
theorem zMj (n:Nat):Go.Lib.decDigits n≠[]:=by
 rw [Go.Lib.decDigits]
 split<;>simp
theorem zJw (n:Nat):∀k:Nat,1≤k→n<10^k→(Go.Lib.decDigits n).length≤k:=by
 induction n using Nat.strongRecOn with
 | _ n ih =>
  intro k hk hn;rw [Go.Lib.decDigits]
  split
  ·simpa using hk
  ·obtain ⟨k,rfl⟩:∃j,k=j+1:=⟨k-1,by omega⟩;rw [Nat.pow_succ] at hn
   have hk0:1≤k:=by
    cases k with
    | zero=>simp at hn; omega
    | succ k=>omega
   have:=ih (n/10) (by omega) k hk0 (by omega);simpa using this
def dvI:Int→Str→Int
 | a,[]=>a
 | a,c::t=>dvI (a*10+((c.toNat:Int)-48)) t
theorem zFM (b:UInt8) (h:zbO b=true):48≤b.toNat∧b.toNat≤57:=by
 have:=zpP (p:=fun b => !zbO b||(decide (48≤b.toNat)&&decide (b.toNat≤57))) (by decide +kernel) b;simpa [h] using this
theorem zMk:∀(s:Str) (a:Nat),s.all zbO=true→dvI a s=dv a s
 | [],a,_=>rfl
 | c::s,a,h=>by
  rw [List.all_cons,Bool.and_eq_true] at h;have hc:=zFM c h.1;have:=zMk s (a*10+(c.toNat-48)) h.2;show dvI ((a:Int)*10+((c.toNat:Int)-48)) s=(dv (a*10+(c.toNat-48)) s:Int);rw [← this]
  congr 1
  omega
theorem zHS:∀(s:Str) (a:Int),0≤a→s.all zbO=true→a≤dvI a s
 | [],a,_,_=>Int.le_refl _
 | c::s,a,h0,h=>by
  rw [List.all_cons,Bool.and_eq_true] at h;have hc:=zFM c h.1;have:=zHS s (a*10+((c.toNat:Int)-48)) (by omega) h.2;show a≤dvI (a*10+((c.toNat:Int)-48)) s;omega
theorem zOF (n:Nat):dvI 0 (Go.Lib.decDigits n)=n:=by
 have:=zMk (Go.Lib.decDigits n) 0 (zyX n);rw [dv_dec] at this; exact this
theorem zwM {c x:UInt8}:∀{s:Str},x∈s→x=c∨∃p∈zg c s,x∈p
 | y :: s,h=>by
  rw [zg]
  by_cases hy:y=c
  ·rw [if_pos hy]
   rcases List.mem_cons.1 h with rfl|h
   ·exact .inl hy
   ·rcases zwM (c:=c) h with e|⟨p,hp,e⟩
    ·exact .inl e
    ·exact .inr ⟨p,by simp [hp],e⟩
  ·rw [if_neg hy];have ne:=zfh c s
   cases e:zg c s with
   | nil=>exact absurd e ne
   | cons a l =>
    rcases List.mem_cons.1 h with rfl|h
    ·exact .inr ⟨x::a,by simp,by simp⟩
    ·rcases zwM (c:=c) h with e2|⟨p,hp,e2⟩
     ·exact .inl e2
     ·rw [e] at hp
      rcases List.mem_cons.1 hp with rfl|hp
      ·exact .inr ⟨y::p,by simp,by simp [e2]⟩
      ·exact .inr ⟨p,by simp [hp],e2⟩
theorem zDl {s:Str} {m:Int} (h:zg6 s m):s.all zbO=true∧s≠[]:=by
 obtain ⟨n,_,rfl⟩:=h;exact ⟨zyX n,zMj n⟩
theorem zOG {s:Str} (h:zlT s):∀x∈s,x=46∨zbO x=true:=by
 intro x hx
 rcases zwM (c:=46) hx with e|⟨p,hp,e⟩
 ·exact .inl e
 ·exact .inr (List.all_eq_true.1 (zDl (h.2 p hp)).1 x e)
theorem zzs {s:Str} (h:zrv s=true) (h2:zlT s):False:=by
 unfold zrv at h;simp only [Bool.and_eq_true,List.all_eq_true] at h
 have hn:(46:UInt8)∉s:=fun e=>by have:=h.1.1 46 e; revert this; decide
 have:=h2.1;rw [zwk hn] at this;simp at this
theorem zJx (b:Bool) (k:Nat):Grp b [] k↔k=0:=⟨fun h=>by cases h; rfl,fun h=>h ▸ .nil b⟩
theorem zJy (b:Bool) (s:Str) (l:List Str) (k:Nat):Grp b (s::l) k↔(b=true∧l=[]∧k=2∧zlT s)∨(zrv s=true∧1≤k∧Grp b l (k-1)):=by
 constructor
 ·intro h
  cases h with
  | four _ h=>exact .inl ⟨rfl,rfl,rfl,h⟩
  | hex _ _ _ n h g=>exact .inr ⟨h,by omega,g⟩
 ·rintro (⟨rfl,rfl,rfl,h⟩|⟨h,h1,g⟩)
  ·exact .four s h
  ·have:=Grp.hex b s l _ h g
   rwa [show k-1+1=k by omega] at this
theorem nm_p (a b:UInt8) (r:Str):ziI (37::a::b::r)=(zlb a&&zlb b&&ziI r):=by rw [ziI.eq_def]; simp
theorem nm_o (c:UInt8) (s:Str) (h:c≠37):ziI (c::s)=((zq7 c||zER c)&&ziI s):=by rw [ziI.eq_def]; simp [h]
theorem zHT (a:UInt8):ziI [37,a]=false∧ziI [37]=false:=by constructor<;>(rw [ziI.eq_def]; simp)
theorem zsd:zq7 37=false∧zER 37=false∧zq7 58=false∧zER 58=false∧zlb 58=false∧zbO 58=false∧zAG 37=false∧zbO 93=false:=by decide +kernel
theorem zFN:∀(s:Str),ziI s=true→58∉s
 | [],_=>by simp
 | [c],h=>by
  have:=zsd
  by_cases hc:c=37
  ·subst hc; rw [(zHT 0).2] at h; cases h
  ·rw [nm_o _ _ hc] at h; simp; rintro rfl; simp [this] at h
 | [c,a],h=>by
  have:=zsd
  by_cases hc:c=37
  ·subst hc; rw [(zHT a).1] at h; cases h
  ·rw [nm_o _ _ hc,Bool.and_eq_true] at h;have:=zFN [a] h.2;simp at this ⊢; refine ⟨?_,this⟩; rintro rfl; simp_all
 | c::a::b::s,h=>by
  have:=zsd
  by_cases hc:c=37
  ·subst hc;rw [nm_p,Bool.and_eq_true,Bool.and_eq_true] at h;have i:=zFN s h.2;simp at i ⊢;refine ⟨?_,?_,i⟩<;>(rintro rfl; simp_all)
  ·rw [nm_o _ _ hc,Bool.and_eq_true] at h;have i:=zFN (a::b::s) h.2;simp at i ⊢;refine ⟨?_,i⟩; rintro rfl; simp_all
theorem zMn {c:UInt8}:∀{a b p q:Str},a++c::p=b++c::q→c∉p→c∉q→a=b∧p=q
 | [],[],p,q,h,_,_=>by simpa using h
 | [],y::b,p,q,h,hp,_=>by simp at h; obtain ⟨rfl,rfl⟩:=h; simp at hp
 | x::a,[],p,q,h,_,hq=>by simp at h; obtain ⟨rfl,rfl⟩:=h; simp at hq
 | x::a,y::b,p,q,h,hp,hq=>by
  simp at h;obtain ⟨rfl,h⟩:=h;obtain ⟨rfl,rfl⟩:=zMn h hp hq;exact ⟨rfl,rfl⟩
theorem pq_p (m:UInt8→Bool) (a b:UInt8) (r:Str):zsc m (37::a::b::r)=(zlb a&&zlb b&&zsc m r):=by rw [zsc.eq_def]; simp
theorem pq_o (m:UInt8→Bool) (c:UInt8) (s:Str) (h:c≠37):zsc m (c::s)=((zAG c||m c)&&zsc m s):=by rw [zsc.eq_def]; simp [h]
theorem pq_1 (m:UInt8→Bool) (a:UInt8):zsc m [37,a]=false∧zsc m [37]=false:=by constructor<;>(rw [zsc.eq_def]; simp)
theorem idxB (c:UInt8):∀(s:Str) (k:Nat),decide (0≤zbX s c k)=s.contains c
 | [],k=>by simp [zbX]
 | x::s,k=>by
  have ih:=idxB c s (k+1);simp only [zbX,List.contains_cons]
  by_cases h:x=c
  ·simp [h]
  ·have h':(c==x)=false:=by simp; exact fun e=>h e.symm
   simp only [h',Bool.false_or, ← ih]; simp [h]
theorem idxA (c:Str):∀(h t:Str) (k:Nat),(∀x∈h,x∉c)→(∀y,t.head? = some y→y∈c)→zbB (h++t) c k=if t=[] then -1 else ((k+h.length:Nat):Int)
 | [],[],k,_,_=>by simp [zbB]
 | [],y::t,k,_,h=>by have:=h y rfl; simp [zbB,this]
 | x::s,t,k,h,h2=>by
  have ih:=idxA c s t (k+1) (fun x hx=>h x (List.mem_cons_of_mem _ hx)) h2
  have hx:c.contains x=false:=by simpa using h x List.mem_cons_self
  simp only [List.cons_append,zbB,hx,Bool.false_eq_true,if_false,ih,List.length_cons]
  split
  ·rfl
  ·omega
theorem orig_q {q:Str} (h:zzr q):zMh (47::63::q):=⟨[47],63::q,rfl,by decide,⟨[],rfl,by decide⟩, .inr ⟨q,rfl,h⟩⟩
end Go.Dm
