/- Hosts, paths, targets, first lines, heads: which ones may be, as plain functions. No program in sight. -/
import Derived.Test.YtlehfmpjckapdaaGreatDoorP0
import Derived.Test.YtlehfmpjckapdaaGreatDoorTSplit
import Derived.Lib.ItoaNum
import Derived.Lib.IndexMore
set_option linter.unusedVariables false
set_option linter.unusedSimpArgs false
set_option linter.unusedVariables false
namespace Go.Dm
variable {s:Str} {b:Bool}
def zhw (s:Str) (a:Int):Prop:=∃n:Nat,(n:Int)≤a∧s=Go.Lib.decDigits n
def zmR (s:Str):Prop:=(zy 46 s).length=4∧∀x∈zy 46 s,zhw x 255
def zsh (s:Str):Bool:=s.all zlL&&decide (1≤s.length)&&decide (s.length≤4)
inductive Grp:Bool→List Str→Nat→Prop
 | nil (b:Bool):Grp b [] 0
 | four (s:Str) (h:zmR s):Grp true [s] 2
 | hex (b:Bool) (s:Str) (l:List Str) (n:Nat) (h:zsh s=true) (g:Grp b l n):Grp b (s::l) (n+1)
def spt (s:Str):List Str:=if s=[] then [] else zy 58 s
def zmS:Str→Option (Str × Str)
 | 58::58::t=>some ([],t)
 | c::t=>(zmS t).map fun p=>(c::p.1,p.2)
 | []=>none
def zvr (s:Str):Prop:=match zmS s with
 | none=>Grp true (spt s) 8
 | some (a,b)=>∃n m,Grp false (spt a) n∧Grp true (spt b) m∧n+m≤7
def zjs:Str→Bool
 | []=>true
 | c::s=>if c=37 then (match s with
  | a::b::r=>zlL a&&zlL b&&zjs r
  | _=>false) else (zrp c||zE7 c)&&zjs s
def zrQ (s:Str):Prop:=(∃m,m≠[]∧s=91::m++[93]∧zvr m)∨zmR s∨(s≠[]∧zjs s=true)
def zuF (s:Str):Prop:=∃a p,s=a++58::p∧58∉p∧zrQ a∧zhw p 65535
def zvs (m:UInt8→Bool):Str→Bool
 | []=>true
 | c::s=>if c=37 then (match s with
  | a::b::r=>zlL a&&zlL b&&zvs m r
  | _=>false) else (zAT c||m c)&&zvs m s
theorem Grp.app {y:List Str} {m:Nat} (a:Grp b y m):∀{x:List Str} {n:Nat},Grp false x n→Grp b (x++y) (n+m):=by
 intro x n h
 induction x generalizing n with
 | nil=>cases h; simpa using a
 | cons s x c=>cases h with
  | hex _ _ _ k h g=>have:=Grp.hex b s _ _ h (c g); rw [Nat.add_right_comm]; exact this
theorem Grp.split {y:List Str} (a:y≠[]):∀{x:List Str} {k:Nat},Grp b (x++y) k→∃n m,Grp false x n∧Grp b y m∧n+m=k
 | [],k,h=>⟨0,k,.nil _,h,by simp⟩
 | s::x,k,h=>by
  rw [List.cons_append] at h;generalize e:x++y=z at h
  cases h with
  | four=>simp at e; exact absurd e.2 a
  | hex _ _ _ n h g =>
   subst e;obtain ⟨i,j,h1,h2,c⟩:=g.split a;exact ⟨i+1,j,.hex _ _ _ _ h h1,h2,by omega⟩
theorem spt_ne (h:s≠[]):spt s≠[]:=by
 unfold spt;rw [if_neg h];exact zgS _ _
theorem zwW (c:UInt8):∀(a b:Str),zy c (a++c::b)=zy c a++zy c b
 | [],b=>by simp [zy]
 | x::a,b=>by
  rw [List.cons_append,zy,zwW c a b,zy]
  split
  ·simp
  ·cases h:zy c a with
   | nil=>exact absurd h (zgS _ _)
   | cons=>simp
theorem zHU {t x:Str} (a:x≠[]):spt ((if t=[] then t else t++[58])++x)=spt t++spt x:=by
 unfold spt
 by_cases h:t=[]
 ·subst h; simp
 ·rw [if_neg h,if_neg h,if_neg a,List.append_assoc,if_neg (by simp [h])];exact zwW 58 t x
theorem Grp.pos {l:List Str} {k:Nat} (h:Grp b l k) (a:l≠[]):1≤k:=by
 cases h with
 | nil=>exact absurd rfl a
 | four=>omega
 | hex=>omega
theorem zQG {a b:Str} {n:Nat} (hn:1≤n) (h:Grp true (spt a++List.replicate n [48]++spt b) 8) :
  ∃i j,Grp false (spt a) i∧Grp true (spt b) j∧i+j≤7:=by
 have c:List.replicate n [(48:UInt8)]≠[]:=by cases n with
  | zero=>omega
  | succ n=>simp [List.replicate_succ]
 by_cases d:b=[]
 ·subst d;have e:spt []=[]:=rfl;rw [e,List.append_nil] at h;obtain ⟨i,k,h1,h2,g⟩:=h.split c;have:=h2.pos c;exact ⟨i,0,h1,by rw [e]; exact .nil _,by omega⟩
 ·obtain ⟨i,k,h1,h2,g⟩:=h.split (spt_ne d);obtain ⟨i,l,m,f,o⟩:=h1.split c;have:=f.pos c;exact ⟨i,k,m,h2,by omega⟩
theorem zKA (c:UInt8) (u b:Str):∀a:Str,c∉a→Go.Lib.index (a++c::(u++b)) (c::u)=a.length
 | [],_=>by
  have:List.isPrefixOf (c::u) (c::(u++b))=true:=by rw [List.isPrefixOf_iff_prefix]; exact ⟨b,by simp⟩
  simp [Go.Lib.index,this]
 | x::a,h=>by
  have f:=zKA c u b a (fun e=>h (by simp [e]))
  have d:(c==x)=false:=by simp; exact fun e=>h (by simp [e])
  simp only [List.cons_append,Go.Lib.index,List.isPrefixOf,d,Bool.false_and,f];simp
theorem zKB (c:UInt8) (u:Str):∀s:Str,c∉s→Go.Lib.index s (c::u) = -1
 | [],_=>by simp [Go.Lib.index]
 | x::s,h=>by
  have b:=zKB c u s (fun e=>h (by simp [e]))
  have a:(c==x)=false:=by simp; exact fun e=>h (by simp [e])
  simp [Go.Lib.index,List.isPrefixOf,a,b]
theorem zFA:∀s:Str,Go.Lib.cut s [58,58]=match zmS s with|none=>(s,[],false)|some (a,b)=>(a,b,true)
 | []=>by simp [Go.Lib.cut,Go.Lib.index,zmS]
 | c :: t=>by
  have d:=zFA t
  unfold Go.Lib.cut at *
  by_cases hp:List.isPrefixOf [58,58] (c::t)=true
  ·rw [List.isPrefixOf_iff_prefix] at hp;obtain ⟨r,f⟩:=hp;simp at f;obtain ⟨rfl,rfl⟩:=f;simp [Go.Lib.index,zmS]
  ·have e:zmS (c::t)=(zmS t).map fun p=>(c::p.1,p.2):=zmS.eq_2 c t (by rintro r rfl rfl; simp at hp);rw [e];have m:=Go.Lib.index_ge t [58,58];simp only [Go.Lib.index,hp]
   by_cases g:Go.Lib.index t [58,58] = -1
   ·rw [g] at d ⊢
    cases h:zmS t with
    | none=>simp
    | some p=>rw [h] at d; simp at d
   ·obtain ⟨k,i⟩:∃k:Nat,Go.Lib.index t [58,58]=k:=⟨(Go.Lib.index t [58,58]).toNat,by omega⟩;rw [i] at d ⊢
    cases h:zmS t with
    | none=>rw [h] at d; simp at d
    | some p =>
     rw [h] at d;simp at d
     have:¬ ((k:Int) = -1):=by omega
     have j:(0:Int)≤(k:Int)+1:=by omega
     have l:((k:Int)+1).toNat=k+1:=by omega
     simp [this,j,l, ← d]
def dv:Nat→Str→Nat
 | a,[]=>a
 | a,c::t=>dv (a*10+(c.toNat-48)) t
theorem zOW:∀(s t:Str) (a:Nat),dv a (s++t)=dv (dv a s) t
 | [],t,a=>rfl
 | c::s,t,a=>zOW s t _
theorem zHV {k:Nat} (h:k<10):zcj (UInt8.ofNat (48+k))=true∧(UInt8.ofNat (48+k)).toNat=48+k:=by
 have:∀k:Fin 10,zcj (UInt8.ofNat (48+k.val))=true∧(UInt8.ofNat (48+k.val)).toNat=48+k.val:=by decide
 exact this ⟨k,h⟩
theorem zzn (n:Nat):(Go.Lib.decDigits n).all zcj=true:=by
 induction n using Nat.strongRecOn with
 | _ n a =>
  rw [Go.Lib.decDigits]
  split
  ·rename_i h; simp only [List.all_cons,List.all_nil,(zHV h).1,Bool.and_self]
  ·rw [List.all_append,a _ (by omega)]; simp only [List.all_cons,List.all_nil,(zHV (show n%10<10 by omega)).1,Bool.and_self]
theorem dv_dec (n:Nat):dv 0 (Go.Lib.decDigits n)=n:=by
 induction n using Nat.strongRecOn with
 | _ n a =>
  rw [Go.Lib.decDigits]
  split
  ·rename_i h
   show 0*10+((UInt8.ofNat (48+n)).toNat-48)=n;rw [(zHV h).2]; omega
  ·rw [zOW,a _ (by omega)];show n/10*10+((UInt8.ofNat (48+n%10)).toNat-48)=n;rw [(zHV (show n%10<10 by omega)).2]; omega
theorem zOX (n:Nat):Go.Lib.decDigits n≠[]:=by
 rw [Go.Lib.decDigits]
 split<;>simp
theorem zKC (n:Nat):∀k:Nat,1≤k→n<10^k→(Go.Lib.decDigits n).length≤k:=by
 induction n using Nat.strongRecOn with
 | _ n c =>
  intro k b hn;rw [Go.Lib.decDigits]
  split
  ·simpa using b
  ·obtain ⟨k,rfl⟩:∃j,k=j+1:=⟨k-1,by omega⟩;rw [Nat.pow_succ] at hn
   have a:1≤k:=by
    cases k with
    | zero=>simp at hn; omega
    | succ k=>omega
   have:=c (n/10) (by omega) k a (by omega);simpa using this
def dvI:Int→Str→Int
 | a,[]=>a
 | a,c::t=>dvI (a*10+((c.toNat:Int)-48)) t
theorem zHW (b:UInt8) (h:zcj b=true):48≤b.toNat∧b.toNat≤57:=by
 have:=zqh (p:=fun b => !zcj b||(decide (48≤b.toNat)&&decide (b.toNat≤57))) (by decide +kernel) b;simpa [h] using this
theorem zOY:∀(s:Str) (a:Nat),s.all zcj=true→dvI a s=dv a s
 | [],a,_=>rfl
 | c::s,a,h=>by
  rw [List.all_cons,Bool.and_eq_true] at h;have hc:=zHW c h.1;have:=zOY s (a*10+(c.toNat-48)) h.2;show dvI ((a:Int)*10+((c.toNat:Int)-48)) s=(dv (a*10+(c.toNat-48)) s:Int);rw [← this]
  congr 1
  omega
theorem zJE:∀(s:Str) (a:Int),0≤a→s.all zcj=true→a≤dvI a s
 | [],a,_,_=>Int.le_refl _
 | c::s,a,h0,h=>by
  rw [List.all_cons,Bool.and_eq_true] at h;have hc:=zHW c h.1;have:=zJE s (a*10+((c.toNat:Int)-48)) (by omega) h.2;show a≤dvI (a*10+((c.toNat:Int)-48)) s;omega
theorem zQH (n:Nat):dvI 0 (Go.Lib.decDigits n)=n:=by
 have:=zOY (Go.Lib.decDigits n) 0 (zzn n);rw [dv_dec] at this; exact this
theorem zxV {c x:UInt8}:∀{s:Str},x∈s→x=c∨∃p∈zy c s,x∈p
 | y :: s,h=>by
  rw [zy]
  by_cases d:y=c
  ·rw [if_pos d]
   rcases List.mem_cons.1 h with rfl|h
   ·exact .inl d
   ·rcases zxV (c:=c) h with e|⟨p,hp,e⟩
    ·exact .inl e
    ·exact .inr ⟨p,by simp [hp],e⟩
  ·rw [if_neg d];have ne:=zgS c s
   cases e:zy c s with
   | nil=>exact absurd e ne
   | cons a l =>
    rcases List.mem_cons.1 h with rfl|h
    ·exact .inr ⟨x::a,by simp,by simp⟩
    ·rcases zxV (c:=c) h with b|⟨p,hp,b⟩
     ·exact .inl b
     ·rw [e] at hp
      rcases List.mem_cons.1 hp with rfl|hp
      ·exact .inr ⟨y::p,by simp,by simp [b]⟩
      ·exact .inr ⟨p,by simp [hp],b⟩
theorem zFB {m:Int} (h:zhw s m):s.all zcj=true∧s≠[]:=by
 obtain ⟨n,_,rfl⟩:=h;exact ⟨zzn n,zOX n⟩
theorem zQI (h:zmR s):∀x∈s,x=46∨zcj x=true:=by
 intro x a
 rcases zxV (c:=46) a with e|⟨p,hp,e⟩
 ·exact .inl e
 ·exact .inr (List.all_eq_true.1 (zFB (h.2 p hp)).1 x e)
theorem zBj (h:zsh s=true) (h2:zmR s):False:=by
 unfold zsh at h;simp only [Bool.and_eq_true,List.all_eq_true] at h
 have hn:(46:UInt8)∉s:=fun e=>by have:=h.1.1 46 e; revert this; decide
 have:=h2.1;rw [zwa hn] at this;simp at this
theorem zKD (b:Bool) (k:Nat):Grp b [] k↔k=0:=⟨fun h=>by cases h; rfl,fun h=>h ▸ .nil b⟩
theorem zKE (b:Bool) (s:Str) (l:List Str) (k:Nat):Grp b (s::l) k↔(b=true∧l=[]∧k=2∧zmR s)∨(zsh s=true∧1≤k∧Grp b l (k-1)):=by
 constructor
 ·intro h
  cases h with
  | four _ h=>exact .inl ⟨rfl,rfl,rfl,h⟩
  | hex _ _ _ n h g=>exact .inr ⟨h,by omega,g⟩
 ·rintro (⟨rfl,rfl,rfl,h⟩|⟨h,h1,g⟩)
  ·exact .four s h
  ·have:=Grp.hex b s l _ h g
   rwa [show k-1+1=k by omega] at this
theorem nm_p (a b:UInt8) (r:Str):zjs (37::a::b::r)=(zlL a&&zlL b&&zjs r):=by rw [zjs.eq_def]; simp
theorem nm_o (c:UInt8) (s:Str) (h:c≠37):zjs (c::s)=((zrp c||zE7 c)&&zjs s):=by rw [zjs.eq_def]; simp [h]
theorem zJF (a:UInt8):zjs [37,a]=false∧zjs [37]=false:=by constructor<;>(rw [zjs.eq_def]; simp)
theorem ztn:zrp 37=false∧zE7 37=false∧zrp 58=false∧zE7 58=false∧zlL 58=false∧zcj 58=false∧zAT 37=false∧zcj 93=false:=by decide +kernel
theorem zHX:∀(s:Str),zjs s=true→58∉s
 | [],_=>by simp
 | [c],h=>by
  have:=ztn
  by_cases hc:c=37
  ·subst hc; rw [(zJF 0).2] at h; cases h
  ·rw [nm_o _ _ hc] at h; simp; rintro rfl; simp [this] at h
 | [c,a],h=>by
  have:=ztn
  by_cases hc:c=37
  ·subst hc; rw [(zJF a).1] at h; cases h
  ·rw [nm_o _ _ hc,Bool.and_eq_true] at h;have:=zHX [a] h.2;simp at this ⊢; refine ⟨?_,this⟩; rintro rfl; simp_all
 | c::a::b::s,h=>by
  have:=ztn
  by_cases hc:c=37
  ·subst hc;rw [nm_p,Bool.and_eq_true,Bool.and_eq_true] at h;have i:=zHX s h.2;simp at i ⊢;refine ⟨?_,?_,i⟩<;>(rintro rfl; simp_all)
  ·rw [nm_o _ _ hc,Bool.and_eq_true] at h;have i:=zHX (a::b::s) h.2;simp at i ⊢;refine ⟨?_,i⟩; rintro rfl; simp_all
theorem zO1 {c:UInt8}:∀{a b p q:Str},a++c::p=b++c::q→c∉p→c∉q→a=b∧p=q
 | [],[],p,q,h,_,_=>by simpa using h
 | [],y::b,p,q,h,hp,_=>by simp at h; obtain ⟨rfl,rfl⟩:=h; simp at hp
 | x::a,[],p,q,h,_,d=>by simp at h; obtain ⟨rfl,rfl⟩:=h; simp at d
 | x::a,y::b,p,q,h,hp,d=>by
  simp at h;obtain ⟨rfl,h⟩:=h;obtain ⟨rfl,rfl⟩:=zO1 h hp d;exact ⟨rfl,rfl⟩
theorem pq_p (m:UInt8→Bool) (a b:UInt8) (r:Str):zvs m (37::a::b::r)=(zlL a&&zlL b&&zvs m r):=by rw [zvs.eq_def]; simp
theorem pq_o (m:UInt8→Bool) (c:UInt8) (s:Str) (h:c≠37):zvs m (c::s)=((zAT c||m c)&&zvs m s):=by rw [zvs.eq_def]; simp [h]
theorem pq_1 (m:UInt8→Bool) (a:UInt8):zvs m [37,a]=false∧zvs m [37]=false:=by constructor<;>(rw [zvs.eq_def]; simp)
theorem idxB (c:UInt8):∀(s:Str) (k:Nat),decide (0≤zcq s c k)=s.contains c
 | [],k=>by simp [zcq]
 | x::s,k=>by
  have a:=idxB c s (k+1);simp only [zcq,List.contains_cons]
  by_cases h:x=c
  ·simp [h]
  ·have h':(c==x)=false:=by simp; exact fun e=>h e.symm
   simp only [h',Bool.false_or, ← a]; simp [h]
end Go.Dm
