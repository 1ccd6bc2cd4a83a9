/- The models' words: partial operations as functions into Option. No program in sight. The models of the functions: writte -/
import Derived.Lib.Replace
import Derived.Lib.ItoaNum
import Derived.Lib.SplitLaws
import Derived.Lib.SlTrimSet
import Derived.Lib.Join
import Derived.Lib.IndexMore
import Derived.Lib.Bytealg
import Derived.Lib.Index
import Derived.Lib.IndexAny
set_option linter.unusedVariables false
set_option linter.unusedSimpArgs false
set_option linter.unusedVariables false
set_option maxRecDepth 10000
section
namespace Go.Dm
abbrev Str:=List UInt8
def inI (n:Int):Bool:=decide (-9223372036854775808≤n)&&decide (n≤9223372036854775807)
theorem zD1 {n:Int}:inI n=true ↔ -9223372036854775808≤n∧n≤9223372036854775807:=by simp [inI]
def zi (m n:Int):Option Int:=if inI (m+n) then some (m+n) else none
def zbt (m n:Int):Option Int:=if inI (m-n) then some (m-n) else none
def zIw (m n:Int):Option Int:=if inI (m*n) then some (m*n) else none
def zD2 (m n:Int):Option Int:=if 0≤m∧1≤n∧inI (m/n)=true then some (m/n) else none
def zGy (m n:Int):Option Int:=if 0≤m∧1≤n∧inI (m%n)=true then some (m%n) else none
def sAt (l:Str) (i:Int):Option UInt8:=if 0≤i then l[i.toNat]? else none
def sTo (l:Str) (h:Int):Option Str:=if 0≤h∧h≤l.length then some (l.take h.toNat) else none
def zar (l:Str) (i:Int):Option Str:=if 0≤i∧i≤l.length then some (l.drop i.toNat) else none
def zlF (l:Str) (i h:Int):Option Str:=if 0≤i∧i≤h∧h≤l.length then some ((l.take h.toNat).drop i.toNat) else none
def zci (l m:Str):Option Str:=if l.length+m.length≤9223372036854775807 then some (l++m) else none
def lAt {α:Type} (l:List α) (i:Int):Option α:=if 0≤i then l[i.toNat]? else none
def lTo {α:Type} (l:List α) (h:Int):Option (List α):=if 0≤h∧h≤l.length then some (l.take h.toNat) else none
def zoc {α:Type} (l:List α) (i:Int):Option (List α):=if 0≤i∧i≤l.length then some (l.drop i.toNat) else none
def zD3 {α:Type} (l:List α) (i h:Int):Option (List α):=if 0≤i∧i≤h∧h≤l.length then some ((l.take h.toNat).drop i.toNat) else none
def zxe {α:Type} (l:List α) (i:Int) (x:α):Option (List α):=if 0≤i∧i<l.length then some (l.set i.toNat x) else none
def zf (n m bytes:Nat):Bool:=decide (n+m≤9223372036854775807)&&decide ((n+m)*bytes≤140737488355328)
def zJ3 (n:Int):Option Int:=if inI n then some n else none
def zJ4 (n:Int):UInt8:=UInt8.ofNat (n%256).toNat
theorem og {α:Type} {b:Bool} {x:Option α} {r:α} (h:(if b=true then x else none)=some r):b=true∧x=some r:=by
 cases b with
 | false=>cases h
 | true=>exact ⟨rfl,h⟩
theorem bcase (b:Bool):b=true∨b=false:=by cases b<;>simp
theorem ob {α β:Type} {m:Option α} {f:α→Option β} {r:β} (h:m.bind f=some r):∃x,m=some x∧f x=some r:=by
 cases m with
 | none=>cases h
 | some x=>exact ⟨x,rfl,h⟩
def zjo:Str→Str→Bool
 | _,[]=>false
 | [],_::_=>true
 | a::x,b::y=>a<b||(a==b&&zjo x y)
def fuel:Nat:=1000000000000000000
def zq2 (l:List (Int × Str)) (k:Int):Str × Bool:=match l.find? fun q=>q.1==k with
 | some q=>(q.2,true)
 | none=>([],false)
end Go.Dm
end
section
namespace Go.Dm
structure zZJ where
 From:Str
 To:Str
deriving DecidableEq,Inhabited
structure zZn where
 Name:Str
 Value:Str
deriving DecidableEq,Inhabited
structure zZq where
 Kind:Int
 Text:Str
deriving DecidableEq,Inhabited
structure zZL where
 Kind:Int
 N:Int
deriving DecidableEq,Inhabited
def zcq:Str→UInt8→Nat→Int
 | [],_,_ => -1
 | x::l,c,k=>if x==c then (k:Int) else zcq l c (k+1)
def strings_IndexByte (s:Str) (c:UInt8):Option Int:=some (zcq s c 0)
def zlI:Str→Str→Bool
 | _,[]=>true
 | [],_::_=>false
 | x::s,y::t=>x==y&&zlI s t
def ze2:Str→Str→Nat→Int
 | s,t,k=>if zlI s t then (k:Int) else match s with
  | [] => -1
  | _::s=>ze2 s t (k+1)
def strings_Index (s t:Str):Option Int:=if s.length<4294967281 then some (ze2 s t 0) else none
def strings_Cut (s t:Str):Option (Str × Str × Bool):=if s.length<4294967281 then some (Go.Lib.cut s t) else none
def strings_Contains (s t:Str):Option Bool:=if s.length<4294967281 then some (decide (0≤ze2 s t 0)) else none
def zdf:Str→Str→Nat→Int
 | [],_,_ => -1
 | x::l,cs,k=>if cs.contains x then (k:Int) else zdf l cs (k+1)
def zco (s cs:Str):Option Int:=if s.length<4294967281∧cs.length<4294967281∧cs.all (fun c=>c.toNat<128) then some (zdf s cs 0) else none
def strings_Split (s sep:Str):Option (List Str):=if s.length<4294967281∧1≤sep.length then some (Go.Lib.splitK sep 0 (Go.Lib.countB ⟨s.toArray⟩ ⟨sep.toArray⟩) s) else none
def zy (c:UInt8):Str→List Str
 | []=>[[]]
 | x::s=>if x=c then []::zy c s else match zy c s with
  | []=>[[x]]
  | h::t=>(x::h)::t
def zse (k:Nat):UInt8:=if k<10 then UInt8.ofNat (48+k) else UInt8.ofNat (87+k)
def zro:Nat→Nat→Str
 | 0,u=>[zse u]
 | g+1,u=>if u<16 then [zse u] else zro g (u/16)++[zse (u%16)]
def zcJ (n b:Int):Option Str:=if inI n=true∧b=10 then some (Go.Lib.itoa n) else if b=16∧0≤n∧n<1048576 then some (zro 4 n.toNat) else none
def zcc (s cs:Str):Option Str:=if s.length<4294967281∧cs.length<4294967281∧cs.all (fun c=>c.toNat<128) then some (Go.Lib.trimS s cs) else none
def zdN (s cs:Str):Option Str:=if s.length<4294967281∧cs.length<4294967281∧cs.all (fun c=>c.toNat<128) then some (Go.Lib.trimRightS s cs) else none
def strings_ReplaceAll (s a new:Str):Option Str:=if s.length<4294967281∧1≤a.length∧s.length+Go.Lib.countB ⟨s.toArray⟩ ⟨a.toArray⟩*new.length≤140737488355328 then some (Go.Lib.replaceAll s a new) else none
def strings_Join (l:List Str) (sep:Str):Option Str:=if l.length≤140737488355328∧(Go.Lib.join l sep).length≤140737488355328 then some (Go.Lib.join l sep) else none
def zk7 (a:List zZJ):Option (List zZJ) :=
 if zf 0 a.length 32 then (some a) else none
def zjW (a:List zZn):Option (List zZn) :=
 if zf 0 a.length 32 then (some a) else none
def zk8 (a:List zZq):Option (List zZq) :=
 if zf 0 a.length 24 then (some a) else none
def zcK (s:List zZn) (i:Int) (v:List zZn):Option (List zZn):=if v.length=1∧0≤i∧i≤s.length∧zf s.length v.length 32=true then some (s.take i.toNat++v++s.drop i.toNat) else none
def zjX (a:List zZL):Option (List zZL) :=
 if zf 0 a.length 16 then (some a) else none
end Go.Dm
end
section
namespace Go.Dm
theorem zzJ (b:Bool) (v:Int) (k:Nat) (h : -1≤v):(if b=true then (k:Int) else if v = -1 then -1 else v+((k+1:Nat):Int)) =
  if (if b=true then 0 else if (v == -1)=true then -1 else v+1) = -1 then -1 else (if b=true then 0 else if (v == -1)=true then -1 else v+1)+(k:Int):=by
 cases b with
 | true=>simp
 | false =>
  by_cases a:v = -1
  ·subst a; simp
  ·have h2:¬ (v+1 = -1):=by omega
   have c:(v == -1)=false:=beq_eq_false_iff_ne.2 a;rw [c];simp only [Bool.false_eq_true,if_false,if_neg a,if_neg h2];omega
theorem zx3:∀(l:Str) (c:UInt8) (k:Nat),zcq l c k=if Go.Lib.indexByte l c = -1 then -1 else Go.Lib.indexByte l c+k
 | [],_,_=>rfl
 | x::l,c,k=>by
  rw [zcq,Go.Lib.indexByte,zx3 l c (k+1)];exact zzJ _ _ k (Go.Lib.indexByte_ge l c)
theorem zL5 (x y:UInt8):(x==y)=(y==x):=by
 by_cases h:x=y
 ·subst h; rfl
 ·rw [beq_eq_false_iff_ne.2 h,beq_eq_false_iff_ne.2 (Ne.symm h)]
theorem zzK:∀(s t:Str),zlI s t=t.isPrefixOf s
 | s,[]=>by cases s<;>rfl
 | [],y::t=>rfl
 | x::s,y::t=>by
  rw [zlI,List.isPrefixOf,zzK s t,zL5 x y]
theorem zzL:∀(l t:Str) (k:Nat),ze2 l t k=if Go.Lib.index l t = -1 then -1 else Go.Lib.index l t+k
 | [],t,k=>by
  rw [ze2,Go.Lib.index];cases t<;>simp [zlI]
 | x::l,t,k=>by
  rw [ze2,Go.Lib.index,zzK];simp only [zzL l t (k+1)];exact zzJ _ _ k (Go.Lib.index_ge l t)
theorem zzM:∀(l cs:Str) (k:Nat),zdf l cs k=if Go.Lib.indexAny l cs = -1 then -1 else Go.Lib.indexAny l cs+k
 | [],_,_=>rfl
 | x::l,cs,k=>by
  rw [zdf,Go.Lib.indexAny,zzM l cs (k+1)];exact zzJ _ _ k (Go.Lib.indexAny_ge cs l)
theorem zx4 (l:Str) (c:UInt8):zcq l c 0=Go.Lib.indexByte l c:=by
 rw [zx3]; have:=Go.Lib.indexByte_ge l c; split<;>omega
theorem zzN (l t:Str):ze2 l t 0=Go.Lib.index l t:=by
 rw [zzL]; have:=Go.Lib.index_ge l t; split<;>omega
theorem zH7 (l cs:Str):zdf l cs 0=Go.Lib.indexAny l cs:=by
 rw [zzM]; have:=Go.Lib.indexAny_ge cs l; split<;>omega
end Go.Dm
end
section
namespace Go.Dm
@[simp] theorem sAt_nat (l:Str) (i:Nat):sAt l (i:Int)=l[i]? := by simp [sAt]
@[simp] theorem sAt_zero (l:Str):sAt l 0=l[0]? := by simp [sAt]
@[simp] theorem sAt_one (l:Str):sAt l 1=l[1]? := by simp [sAt]
@[simp] theorem sAt_two (l:Str):sAt l 2=l[2]? := by simp [sAt]
@[simp] theorem lAt_nat {α:Type} (l:List α) (i:Nat):lAt l (i:Int)=l[i]? := by simp [lAt]
@[simp] theorem lAt_zero {α:Type} (l:List α):lAt l 0=l[0]? := by simp [lAt]
theorem iAdd_ok {m n:Int} (h1 : -9223372036854775808≤m+n) (h2:m+n≤9223372036854775807):zi m n=some (m+n):=by simp [zi,inI,h1,h2]
end Go.Dm
end
section
namespace Go.Dm
theorem zgS (c:UInt8) (s:Str):zy c s≠[]:=by
 cases s with
 | nil=>simp [zy]
 | cons x s =>
  unfold zy
  split
  ·simp
  ·split<;>simp
theorem zB9 {b c:UInt8} {l:Str} (h:b≠c):Go.Lib.index (b::l) [c]=if Go.Lib.index l [c] = -1 then -1 else Go.Lib.index l [c]+1:=by
 have hp:([c]:List UInt8).isPrefixOf (b::l)=false:=by simp [List.isPrefixOf,Ne.symm h]
 rw [Go.Lib.index,hp]; simp
theorem zCa (c:UInt8) (l:Str):Go.Lib.index (c::l) [c]=0:=by
 rw [Go.Lib.index]; simp [List.isPrefixOf]
theorem zuW (c:UInt8):∀(s:Str) (k:Nat),Go.Lib.count s [c]=k→Go.Lib.splitK [c] 0 k s=zy c s
 | [],k,h=>by
  rw [Go.Lib.count_one] at h;simp at h; subst h; rfl
 | b :: l,k,h=>by
  by_cases a:b=c
  ·subst a;rw [Go.Lib.count_cons_eq] at h;obtain ⟨m,rfl⟩:∃m,k=m+1:=⟨k-1,by omega⟩;have d:=zuW b l m (by omega);unfold Go.Lib.splitK;rw [zCa];simp [zy,d]
  ·rw [Go.Lib.count_cons_ne b c l a] at h;have d:=zuW c l k h;unfold zy;rw [if_neg a, ← d]
   cases k with
   | zero=>simp [Go.Lib.splitK]
   | succ k =>
    unfold Go.Lib.splitK;rw [zB9 a];have g:=Go.Lib.index_ge l [c]
    by_cases n:Go.Lib.index l [c] = -1
    ·rw [Go.Lib.count_miss n] at h; omega
    ·obtain ⟨j,i⟩:∃j:Nat,Go.Lib.index l [c]=j:=⟨(Go.Lib.index l [c]).toNat,by omega⟩
     have o:¬ ((j:Int)+1 = -1):=by omega
     have f:¬ ((j:Int) = -1):=by omega
     have e:((j:Int)+1).toNat=j+1:=by omega
     rw [i];simp [o,f,e,Nat.add_right_comm j 1 1]
theorem zxf (s:Str) (c:UInt8) (a:s.length<1000000000):strings_Split s [c]=some (zy c s):=by
 unfold strings_Split;rw [if_pos ⟨by omega,by simp⟩];rw [zuW c s _ rfl]
def zlG (p:Str):List Str→List Str
 | []=>[p]
 | h::t=>(p++h)::t
theorem zk4 (c x:UInt8) (s:Str):zy c (x::s)=if x=c then []::zy c s else zlG [x] (zy c s):=by
 rw [zy]
 split
 ·rfl
 ·cases h:zy c s<;>rfl
theorem zuX (l:List Str) (h:l≠[]):zlG [] l=l:=by
 cases l with
 | nil=>exact absurd rfl h
 | cons a t=>rfl
theorem zuA (p q:Str) (l:List Str) (h:l≠[]):zlG p (zlG q l)=zlG (p++q) l:=by
 cases l with
 | nil=>exact absurd rfl h
 | cons a t=>simp [zlG]
theorem zsJ (c:UInt8):∀(a s:Str),c∉a→zy c (a++s)=zlG a (zy c s)
 | [],s,_=>(zuX _ (zgS c s)).symm
 | x::a,s,h=>by
  have b:¬ x=c:=fun e=>h (by simp [e]);rw [List.cons_append,zk4,if_neg b,zsJ c a s (fun e=>h (List.mem_cons_of_mem _ e)),zuA _ _ _ (zgS c s)];rfl
theorem zwa {c:UInt8} {a:Str} (h:c∉a):zy c a=[a]:=by
 have:=zsJ c a [] h;simpa [zy,zlG] using this
theorem zIz {c:UInt8} {a:Str} (s:Str) (h:c∉a):zy c (a++c::s)=a::zy c s:=by
 rw [zsJ c a _ h,zk4,if_pos rfl];simp [zlG]
theorem zx8 (c:UInt8):∀s:Str,(zy c s).length≤s.length+1
 | []=>by simp [zy]
 | x::s=>by
  have d:=zx8 c s;rw [zk4]
  split
  ·simp; omega
  ·cases b:zy c s with
   | nil=>exact absurd b (zgS c s)
   | cons a t=>rw [b] at d; simp [zlG] at d ⊢; omega
end Go.Dm
end
