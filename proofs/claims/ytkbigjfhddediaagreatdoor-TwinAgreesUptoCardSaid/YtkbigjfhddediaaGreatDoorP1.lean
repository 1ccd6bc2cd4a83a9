/- Hosts, paths, targets, first lines, heads: which ones may be, as plain functions. No program in sight. -/
import Derived.Test.YtkbigjfhddediaaGreatDoorP0
import Derived.Test.YtkbigjfhddediaaGreatDoorTSplit
import Derived.Lib.ItoaNum
import Derived.Lib.IndexMore
set_option linter.unusedVariables false
set_option linter.unusedSimpArgs false
set_option linter.unusedVariables false
namespace Go.Dm
variable {s:Str} {b:Bool}
def zhx (s:Str) (a:Int):Prop:=∃n:Nat,(n:Int)≤a∧s=Go.Lib.decDigits n
def zmB (s:Str):Prop:=(zx 46 s).length=4∧∀x∈zx 46 s,zhx x 255
def zsf (s:Str):Bool:=s.all zlr&&decide (1≤s.length)&&decide (s.length≤4)
inductive Grp:Bool→List Str→Nat→Prop
 | nil (b:Bool):Grp b [] 0
 | four (s:Str) (h:zmB s):Grp true [s] 2
 | hex (b:Bool) (s:Str) (l:List Str) (n:Nat) (h:zsf s=true) (g:Grp b l n):Grp b (s::l) (n+1)
def spt (s:Str):List Str:=if s=[] then [] else zx 58 s
def zmC:Str→Option (Str × Str)
 | 58::58::t=>some ([],t)
 | c::t=>(zmC t).map fun p=>(c::p.1,p.2)
 | []=>none
def zvw (s:Str):Prop:=match zmC s with
 | none=>Grp true (spt s) 8
 | some (a,b)=>∃n m,Grp false (spt a) n∧Grp true (spt b) m∧n+m≤7
def zjq:Str→Bool
 | []=>true
 | c::s=>if c=37 then (match s with
  | a::b::r=>zlr a&&zlr b&&zjq r
  | _=>false) else (zqE c||zEm c)&&zjq s
def zrM (s:Str):Prop:=(∃m,m≠[]∧s=91::m++[93]∧zvw m)∨zmB s∨(s≠[]∧zjq s=true)
def zuJ (s:Str):Prop:=∃a p,s=a++58::p∧58∉p∧zrM a∧zhx p 65535
def zvx (m:UInt8→Bool):Str→Bool
 | []=>true
 | c::s=>if c=37 then (match s with
  | a::b::r=>zlr a&&zlr b&&zvx m r
  | _=>false) else (zAm c||m c)&&zvx m s
theorem Grp.app {y:List Str} {m:Nat} (a:Grp b y m):∀{x:List Str} {n:Nat},Grp false x n→Grp b (x++y) (n+m):=by
 intro x n h
 induction x generalizing n with
 | nil=>cases h; simpa using a
 | cons s x c=>cases h with
  | hex _ _ _ k h g=>have:=Grp.hex b s _ _ h (c g); rw [Nat.add_right_comm]; exact this
theorem Grp.split {y:List Str} (a:y≠[]):∀{x:List Str} {k:Nat},Grp b (x++y) k→∃n m,Grp false x n∧Grp b y m∧n+m=k
 | [],k,h=>⟨0,k,.nil _,h,by simp⟩
 | s::x,k,h=>by
  rw [List.cons_append] at h;generalize e:x++y=z at h
  cases h with
  | four=>simp at e; exact absurd e.2 a
  | hex _ _ _ n h g =>
   subst e;obtain ⟨i,j,h1,h2,c⟩:=g.split a;exact ⟨i+1,j,.hex _ _ _ _ h h1,h2,by omega⟩
theorem spt_ne (h:s≠[]):spt s≠[]:=by
 unfold spt;rw [if_neg h];exact zgD _ _
theorem zwW (c:UInt8):∀(a b:Str),zx c (a++c::b)=zx c a++zx c b
 | [],b=>by simp [zx]
 | x::a,b=>by
  rw [List.cons_append,zx,zwW c a b,zx]
  split
  ·simp
  ·cases h:zx c a with
   | nil=>exact absurd h (zgD _ _)
   | cons=>simp
theorem zHZ {t x:Str} (a:x≠[]):spt ((if t=[] then t else t++[58])++x)=spt t++spt x:=by
 unfold spt
 by_cases h:t=[]
 ·subst h; simp
 ·rw [if_neg h,if_neg h,if_neg a,List.append_assoc,if_neg (by simp [h])];exact zwW 58 t x
theorem Grp.pos {l:List Str} {k:Nat} (h:Grp b l k) (a:l≠[]):1≤k:=by
 cases h with
 | nil=>exact absurd rfl a
 | four=>omega
 | hex=>omega
theorem zQS {a b:Str} {n:Nat} (hn:1≤n) (h:Grp true (spt a++List.replicate n [48]++spt b) 8) :
  ∃i j,Grp false (spt a) i∧Grp true (spt b) j∧i+j≤7:=by
 have c:List.replicate n [(48:UInt8)]≠[]:=by cases n with
  | zero=>omega
  | succ n=>simp [List.replicate_succ]
 by_cases d:b=[]
 ·subst d;have e:spt []=[]:=rfl;rw [e,List.append_nil] at h;obtain ⟨i,k,h1,h2,f⟩:=h.split c;have:=h2.pos c;exact ⟨i,0,h1,by rw [e]; exact .nil _,by omega⟩
 ·obtain ⟨i,k,h1,h2,f⟩:=h.split (spt_ne d);obtain ⟨i,l,g,m,o⟩:=h1.split c;have:=m.pos c;exact ⟨i,k,g,h2,by omega⟩
theorem zKP (c:UInt8) (u b:Str):∀a:Str,c∉a→Go.Lib.index (a++c::(u++b)) (c::u)=a.length
 | [],_=>by
  have:List.isPrefixOf (c::u) (c::(u++b))=true:=by rw [List.isPrefixOf_iff_prefix]; exact ⟨b,by simp⟩
  simp [Go.Lib.index,this]
 | x::a,h=>by
  have f:=zKP c u b a (fun e=>h (by simp [e]))
  have d:(c==x)=false:=by simp; exact fun e=>h (by simp [e])
  simp only [List.cons_append,Go.Lib.index,List.isPrefixOf,d,Bool.false_and,f];simp
theorem zKQ (c:UInt8) (u:Str):∀s:Str,c∉s→Go.Lib.index s (c::u) = -1
 | [],_=>by simp [Go.Lib.index]
 | x::s,h=>by
  have b:=zKQ c u s (fun e=>h (by simp [e]))
  have a:(c==x)=false:=by simp; exact fun e=>h (by simp [e])
  simp [Go.Lib.index,List.isPrefixOf,a,b]
theorem zFL:∀s:Str,Go.Lib.cut s [58,58]=match zmC s with|none=>(s,[],false)|some (a,b)=>(a,b,true)
 | []=>by simp [Go.Lib.cut,Go.Lib.index,zmC]
 | c :: t=>by
  have d:=zFL t
  unfold Go.Lib.cut at *
  by_cases hp:List.isPrefixOf [58,58] (c::t)=true
  ·rw [List.isPrefixOf_iff_prefix] at hp;obtain ⟨r,f⟩:=hp;simp at f;obtain ⟨rfl,rfl⟩:=f;simp [Go.Lib.index,zmC]
  ·have e:zmC (c::t)=(zmC t).map fun p=>(c::p.1,p.2):=zmC.eq_2 c t (by rintro r rfl rfl; simp at hp);rw [e];have m:=Go.Lib.index_ge t [58,58];simp only [Go.Lib.index,hp]
   by_cases l:Go.Lib.index t [58,58] = -1
   ·rw [l] at d ⊢
    cases h:zmC t with
    | none=>simp
    | some p=>rw [h] at d; simp at d
   ·obtain ⟨k,j⟩:∃k:Nat,Go.Lib.index t [58,58]=k:=⟨(Go.Lib.index t [58,58]).toNat,by omega⟩;rw [j] at d ⊢
    cases h:zmC t with
    | none=>rw [h] at d; simp at d
    | some p =>
     rw [h] at d;simp at d
     have:¬ ((k:Int) = -1):=by omega
     have i:(0:Int)≤(k:Int)+1:=by omega
     have g:((k:Int)+1).toNat=k+1:=by omega
     simp [this,i,g, ← d]
def dv:Nat→Str→Nat
 | a,[]=>a
 | a,c::t=>dv (a*10+(c.toNat-48)) t
theorem zOJ:∀(s t:Str) (a:Nat),dv a (s++t)=dv (dv a s) t
 | [],t,a=>rfl
 | c::s,t,a=>zOJ s t _
theorem zH0 {k:Nat} (h:k<10):zce (UInt8.ofNat (48+k))=true∧(UInt8.ofNat (48+k)).toNat=48+k:=by
 have:∀k:Fin 10,zce (UInt8.ofNat (48+k.val))=true∧(UInt8.ofNat (48+k.val)).toNat=48+k.val:=by decide
 exact this ⟨k,h⟩
theorem zzB (n:Nat):(Go.Lib.decDigits n).all zce=true:=by
 induction n using Nat.strongRecOn with
 | _ n a =>
  rw [Go.Lib.decDigits]
  split
  ·rename_i h; simp only [List.all_cons,List.all_nil,(zH0 h).1,Bool.and_self]
  ·rw [List.all_append,a _ (by omega)]; simp only [List.all_cons,List.all_nil,(zH0 (show n%10<10 by omega)).1,Bool.and_self]
theorem dv_dec (n:Nat):dv 0 (Go.Lib.decDigits n)=n:=by
 induction n using Nat.strongRecOn with
 | _ n a =>
  rw [Go.Lib.decDigits]
  split
  ·rename_i h
   show 0*10+((UInt8.ofNat (48+n)).toNat-48)=n;rw [(zH0 h).2]; omega
  ·rw [zOJ,a _ (by omega)];show n/10*10+((UInt8.ofNat (48+n%10)).toNat-48)=n;rw [(zH0 (show n%10<10 by omega)).2]; omega
theorem zOK (n:Nat):Go.Lib.decDigits n≠[]:=by
 rw [Go.Lib.decDigits]
 split<;>simp
theorem zKR (n:Nat):∀k:Nat,1≤k→n<10^k→(Go.Lib.decDigits n).length≤k:=by
 induction n using Nat.strongRecOn with
 | _ n c =>
  intro k b hn;rw [Go.Lib.decDigits]
  split
  ·simpa using b
  ·obtain ⟨k,rfl⟩:∃j,k=j+1:=⟨k-1,by omega⟩;rw [Nat.pow_succ] at hn
   have a:1≤k:=by
    cases k with
    | zero=>simp at hn; omega
    | succ k=>omega
   have:=c (n/10) (by omega) k a (by omega);simpa using this
def dvI:Int→Str→Int
 | a,[]=>a
 | a,c::t=>dvI (a*10+((c.toNat:Int)-48)) t
theorem zH1 (b:UInt8) (h:zce b=true):48≤b.toNat∧b.toNat≤57:=by
 have:=zpX (p:=fun b => !zce b||(decide (48≤b.toNat)&&decide (b.toNat≤57))) (by decide +kernel) b;simpa [h] using this
theorem zOL:∀(s:Str) (a:Nat),s.all zce=true→dvI a s=dv a s
 | [],a,_=>rfl
 | c::s,a,h=>by
  rw [List.all_cons,Bool.and_eq_true] at h;have hc:=zH1 c h.1;have:=zOL s (a*10+(c.toNat-48)) h.2;show dvI ((a:Int)*10+((c.toNat:Int)-48)) s=(dv (a*10+(c.toNat-48)) s:Int);rw [← this]
  congr 1
  omega
theorem zJP:∀(s:Str) (a:Int),0≤a→s.all zce=true→a≤dvI a s
 | [],a,_,_=>Int.le_refl _
 | c::s,a,h0,h=>by
  rw [List.all_cons,Bool.and_eq_true] at h;have hc:=zH1 c h.1;have:=zJP s (a*10+((c.toNat:Int)-48)) (by omega) h.2;show a≤dvI (a*10+((c.toNat:Int)-48)) s;omega
theorem zQT (n:Nat):dvI 0 (Go.Lib.decDigits n)=n:=by
 have:=zOL (Go.Lib.decDigits n) 0 (zzB n);rw [dv_dec] at this; exact this
theorem zxY {c x:UInt8}:∀{s:Str},x∈s→x=c∨∃p∈zx c s,x∈p
 | y :: s,h=>by
  rw [zx]
  by_cases d:y=c
  ·rw [if_pos d]
   rcases List.mem_cons.1 h with rfl|h
   ·exact .inl d
   ·rcases zxY (c:=c) h with e|⟨p,hp,e⟩
    ·exact .inl e
    ·exact .inr ⟨p,by simp [hp],e⟩
  ·rw [if_neg d];have ne:=zgD c s
   cases e:zx c s with
   | nil=>exact absurd e ne
   | cons a l =>
    rcases List.mem_cons.1 h with rfl|h
    ·exact .inr ⟨x::a,by simp,by simp⟩
    ·rcases zxY (c:=c) h with b|⟨p,hp,b⟩
     ·exact .inl b
     ·rw [e] at hp
      rcases List.mem_cons.1 hp with rfl|hp
      ·exact .inr ⟨y::p,by simp,by simp [b]⟩
      ·exact .inr ⟨p,by simp [hp],b⟩
theorem zFM {m:Int} (h:zhx s m):s.all zce=true∧s≠[]:=by
 obtain ⟨n,_,rfl⟩:=h;exact ⟨zzB n,zOK n⟩
theorem zQU (h:zmB s):∀x∈s,x=46∨zce x=true:=by
 intro x a
 rcases zxY (c:=46) a with e|⟨p,hp,e⟩
 ·exact .inl e
 ·exact .inr (List.all_eq_true.1 (zFM (h.2 p hp)).1 x e)
theorem zBl (h:zsf s=true) (h2:zmB s):False:=by
 unfold zsf at h;simp only [Bool.and_eq_true,List.all_eq_true] at h
 have hn:(46:UInt8)∉s:=fun e=>by have:=h.1.1 46 e; revert this; decide
 have:=h2.1;rw [zv7 hn] at this;simp at this
theorem zKS (b:Bool) (k:Nat):Grp b [] k↔k=0:=⟨fun h=>by cases h; rfl,fun h=>h ▸ .nil b⟩
theorem zKT (b:Bool) (s:Str) (l:List Str) (k:Nat):Grp b (s::l) k↔(b=true∧l=[]∧k=2∧zmB s)∨(zsf s=true∧1≤k∧Grp b l (k-1)):=by
 constructor
 ·intro h
  cases h with
  | four _ h=>exact .inl ⟨rfl,rfl,rfl,h⟩
  | hex _ _ _ n h g=>exact .inr ⟨h,by omega,g⟩
 ·rintro (⟨rfl,rfl,rfl,h⟩|⟨h,h1,g⟩)
  ·exact .four s h
  ·have:=Grp.hex b s l _ h g
   rwa [show k-1+1=k by omega] at this
theorem nm_p (a b:UInt8) (r:Str):zjq (37::a::b::r)=(zlr a&&zlr b&&zjq r):=by rw [zjq.eq_def]; simp
theorem nm_o (c:UInt8) (s:Str) (h:c≠37):zjq (c::s)=((zqE c||zEm c)&&zjq s):=by rw [zjq.eq_def]; simp [h]
theorem zJQ (a:UInt8):zjq [37,a]=false∧zjq [37]=false:=by constructor<;>(rw [zjq.eq_def]; simp)
theorem ztl:zqE 37=false∧zEm 37=false∧zqE 58=false∧zEm 58=false∧zlr 58=false∧zce 58=false∧zAm 37=false∧zce 93=false:=by decide +kernel
theorem zH2:∀(s:Str),zjq s=true→58∉s
 | [],_=>by simp
 | [c],h=>by
  have:=ztl
  by_cases hc:c=37
  ·subst hc; rw [(zJQ 0).2] at h; cases h
  ·rw [nm_o _ _ hc] at h; simp; rintro rfl; simp [this] at h
 | [c,a],h=>by
  have:=ztl
  by_cases hc:c=37
  ·subst hc; rw [(zJQ a).1] at h; cases h
  ·rw [nm_o _ _ hc,Bool.and_eq_true] at h;have:=zH2 [a] h.2;simp at this ⊢; refine ⟨?_,this⟩; rintro rfl; simp_all
 | c::a::b::s,h=>by
  have:=ztl
  by_cases hc:c=37
  ·subst hc;rw [nm_p,Bool.and_eq_true,Bool.and_eq_true] at h;have i:=zH2 s h.2;simp at i ⊢;refine ⟨?_,?_,i⟩<;>(rintro rfl; simp_all)
  ·rw [nm_o _ _ hc,Bool.and_eq_true] at h;have i:=zH2 (a::b::s) h.2;simp at i ⊢;refine ⟨?_,i⟩; rintro rfl; simp_all
theorem zOO {c:UInt8}:∀{a b p q:Str},a++c::p=b++c::q→c∉p→c∉q→a=b∧p=q
 | [],[],p,q,h,_,_=>by simpa using h
 | [],y::b,p,q,h,hp,_=>by simp at h; obtain ⟨rfl,rfl⟩:=h; simp at hp
 | x::a,[],p,q,h,_,d=>by simp at h; obtain ⟨rfl,rfl⟩:=h; simp at d
 | x::a,y::b,p,q,h,hp,d=>by
  simp at h;obtain ⟨rfl,h⟩:=h;obtain ⟨rfl,rfl⟩:=zOO h hp d;exact ⟨rfl,rfl⟩
theorem pq_p (m:UInt8→Bool) (a b:UInt8) (r:Str):zvx m (37::a::b::r)=(zlr a&&zlr b&&zvx m r):=by rw [zvx.eq_def]; simp
theorem pq_o (m:UInt8→Bool) (c:UInt8) (s:Str) (h:c≠37):zvx m (c::s)=((zAm c||m c)&&zvx m s):=by rw [zvx.eq_def]; simp [h]
theorem pq_1 (m:UInt8→Bool) (a:UInt8):zvx m [37,a]=false∧zvx m [37]=false:=by constructor<;>(rw [zvx.eq_def]; simp)
theorem idxB (c:UInt8):∀(s:Str) (k:Nat),decide (0≤zcr s c k)=s.contains c
 | [],k=>by simp [zcr]
 | x::s,k=>by
  have a:=idxB c s (k+1);simp only [zcr,List.contains_cons]
  by_cases h:x=c
  ·simp [h]
  ·have h':(c==x)=false:=by simp; exact fun e=>h e.symm
   simp only [h',Bool.false_or, ← a]; simp [h]
end Go.Dm
