/-
 The models' words: partial operations as functions into Option. No program in sight.
 The models of the functions: written by a program (wip/gen) off the translation. No program in sight.
 The library's functions as the models say them, and as the library's contracts say them. No program in sight.
 Plain tools for the laws: the partial operations at natural numbers, loops over lists. No program in sight.
 Splitting a text at one byte. No program in sight.
-/
import Derived.Lib.Replace
import Derived.Lib.ItoaNum
import Derived.Lib.SplitLaws
import Derived.Lib.SlTrimSet
import Derived.Lib.Join
import Derived.Lib.IndexMore
import Derived.Lib.Bytealg
import Derived.Lib.Index
import Derived.Lib.IndexAny
set_option linter.unusedVariables false
set_option linter.unusedSimpArgs false
set_option linter.unusedVariables false
set_option linter.unusedSimpArgs false
section
namespace Go.Dm
abbrev Str:=List UInt8

def inI (n:Int):Bool:=decide (-9223372036854775808≤n)&&decide (n≤9223372036854775807)
theorem zDt {n:Int}:inI n=true ↔ -9223372036854775808≤n∧n≤9223372036854775807:=by simp [inI]

def zd (m n:Int):Option Int:=if inI (m+n) then some (m+n) else none
def zbY (m n:Int):Option Int:=if inI (m-n) then some (m-n) else none
def zHX (m n:Int):Option Int:=if inI (m*n) then some (m*n) else none
def zDu (m n:Int):Option Int:=if 0≤m∧1≤n∧inI (m/n)=true then some (m/n) else none
def zBd (m n:Int):Option Int:=if 0≤m∧1≤n∧inI (m%n)=true then some (m%n) else none
def sAt (l:Str) (i:Int):Option UInt8:=if 0≤i then l[i.toNat]? else none
def sTo (l:Str) (h:Int):Option Str:=if 0≤h∧h≤l.length then some (l.take h.toNat) else none
def zad (l:Str) (i:Int):Option Str:=if 0≤i∧i≤l.length then some (l.drop i.toNat) else none
def zk0 (l:Str) (i h:Int):Option Str:=if 0≤i∧i≤h∧h≤l.length then some ((l.take h.toNat).drop i.toNat) else none
def zb1 (l m:Str):Option Str:=if l.length+m.length≤9223372036854775807 then some (l++m) else none
def lAt {α:Type} (l:List α) (i:Int):Option α:=if 0≤i then l[i.toNat]? else none
def lTo {α:Type} (l:List α) (h:Int):Option (List α):=if 0≤h∧h≤l.length then some (l.take h.toNat) else none
def zpn {α:Type} (l:List α) (i:Int):Option (List α):=if 0≤i∧i≤l.length then some (l.drop i.toNat) else none
def zDv {α:Type} (l:List α) (i h:Int):Option (List α):=if 0≤i∧i≤h∧h≤l.length then some ((l.take h.toNat).drop i.toNat) else none
def zwR {α:Type} (l:List α) (i:Int) (x:α):Option (List α):=if 0≤i∧i<l.length then some (l.set i.toNat x) else none

def ze (n m bytes:Nat):Bool:=decide (n+m≤9223372036854775807)&&decide ((n+m)*bytes≤140737488355328)
def zJE (n:Int):Option Int:=if inI n then some n else none
def zJF (n:Int):UInt8:=UInt8.ofNat (n%256).toNat
theorem og {α:Type} {b:Bool} {x:Option α} {r:α} (h:(if b=true then x else none)=some r):b=true∧x=some r:=by
 cases b with
 | false=>cases h
 | true=>exact ⟨rfl,h⟩
theorem bcase (b:Bool):b=true∨b=false:=by cases b<;>simp
theorem ob {α β:Type} {m:Option α} {f:α→Option β} {r:β} (h:m.bind f=some r):∃x,m=some x∧f x=some r:=by
 cases m with
 | none=>cases h
 | some x=>exact ⟨x,rfl,h⟩
theorem it {α:Type} {b:Bool} {x y:Option α} {r:α} (hb:b=true) (h:(if b=true then x else y)=some r):x=some r:=by rwa [if_pos hb] at h
theorem ie {α:Type} {b:Bool} {x y:Option α} {r:α} (hb:b=false) (h:(if b=true then x else y)=some r):y=some r:=by rwa [if_neg (by simp [hb])] at h

def ziJ:Str→Str→Bool
 | _,[]=>false
 | [],_::_=>true
 | a::x,b::y=>a<b||(a==b&&ziJ x y)
def fuel:Nat:=1000000000000000000
def zqh (l:List (Int × Str)) (k:Int):Str × Bool:=match l.find? fun q=>q.1==k with
 | some q=>(q.2,true)
 | none=>([],false)
abbrev ymc := @List.mem_cons
end Go.Dm
end
section
set_option linter.unusedVariables false
set_option maxRecDepth 10000
namespace Go.Dm
structure zWK where
 From:Str
 To:Str
deriving DecidableEq,Inhabited
structure zWx where
 Name:Str
 Value:Str
deriving DecidableEq,Inhabited
structure zWz where
 Kind:Int
 Text:Str
deriving DecidableEq,Inhabited
def zbX:Str→UInt8→Nat→Int
 | [],_,_ => -1
 | x::l,c,k=>if x==c then (k:Int) else zbX l c (k+1)
def strings_IndexByte (s:Str) (c:UInt8):Option Int:=some (zbX s c 0)
def zli:Str→Str→Bool
 | _,[]=>true
 | [],_::_=>false
 | x::s,y::t=>x==y&&zli s t
def zeC:Str→Str→Nat→Int
 | s,t,k=>if zli s t then (k:Int) else match s with
  | [] => -1
  | _::s=>zeC s t (k+1)
def strings_Index (s t:Str):Option Int:=if s.length<4294967281 then some (zeC s t 0) else none
def strings_Cut (s t:Str):Option (Str × Str × Bool):=if s.length<4294967281 then some (Go.Lib.cut s t) else none
def strings_Contains (s t:Str):Option Bool:=if s.length<4294967281 then some (decide (0≤zeC s t 0)) else none
def zbB:Str→Str→Nat→Int
 | [],_,_ => -1
 | x::l,cs,k=>if cs.contains x then (k:Int) else zbB l cs (k+1)
def strings_IndexAny (s cs:Str):Option Int:=if s.length<4294967281∧cs.length<4294967281∧cs.all (fun c=>c.toNat<128) then some (zbB s cs 0) else none
def strings_Split (s sep:Str):Option (List Str):=if s.length<4294967281∧1≤sep.length then some (Go.Lib.splitK sep 0 (Go.Lib.countB ⟨s.toArray⟩ ⟨sep.toArray⟩) s) else none
def zg (c:UInt8):Str→List Str
 | []=>[[]]
 | x::s=>if x=c then []::zg c s else match zg c s with
  | []=>[[x]]
  | h::t=>(x::h)::t
def zrT (k:Nat):UInt8:=if k<10 then UInt8.ofNat (48+k) else UInt8.ofNat (87+k)
def zrf:Nat→Nat→Str
 | 0,u=>[zrT u]
 | g+1,u=>if u<16 then [zrT u] else zrf g (u/16)++[zrT (u%16)]
def zci (n b:Int):Option Str:=if inI n=true∧b=10 then some (Go.Lib.itoa n) else if b=16∧0≤n∧n<1048576 then some (zrf 4 n.toNat) else none
def zbI (s cs:Str):Option Str:=if s.length<4294967281∧cs.length<4294967281∧cs.all (fun c=>c.toNat<128) then some (Go.Lib.trimS s cs) else none
def zdp (s cs:Str):Option Str:=if s.length<4294967281∧cs.length<4294967281∧cs.all (fun c=>c.toNat<128) then some (Go.Lib.trimRightS s cs) else none
def strings_ReplaceAll (s old new:Str):Option Str:=if s.length<4294967281∧1≤old.length∧s.length+Go.Lib.countB ⟨s.toArray⟩ ⟨old.toArray⟩*new.length≤140737488355328 then some (Go.Lib.replaceAll s old new) else none
def strings_Join (l:List Str) (sep:Str):Option Str:=if l.length≤140737488355328∧(Go.Lib.join l sep).length≤140737488355328 then some (Go.Lib.join l sep) else none
def zkJ (x_s:List zWK):Option (List zWK) :=
 if ze 0 x_s.length 32 then (some x_s) else none

def zjz (x_s:List zWx):Option (List zWx) :=
 if ze 0 x_s.length 32 then (some x_s) else none

def zkK (x_s:List zWz):Option (List zWz) :=
 if ze 0 x_s.length 24 then (some x_s) else none

def zcj (s:List zWx) (i:Int) (v:List zWx):Option (List zWx):=if v.length=1∧0≤i∧i≤s.length∧ze s.length v.length 32=true then some (s.take i.toNat++v++s.drop i.toNat) else none

end Go.Dm
end
section
namespace Go.Dm
theorem zA0 (b:Bool) (v:Int) (k:Nat) (h : -1≤v):(if b=true then (k:Int) else if v = -1 then -1 else v+((k+1:Nat):Int)) =
  if (if b=true then 0 else if (v == -1)=true then -1 else v+1) = -1 then -1 else (if b=true then 0 else if (v == -1)=true then -1 else v+1)+(k:Int):=by
 cases b with
 | true=>simp
 | false =>
  by_cases hm:v = -1
  ·subst hm; simp
  ·have h2:¬ (v+1 = -1):=by omega
   have h3:(v == -1)=false:=beq_eq_false_iff_ne.2 hm;rw [h3];simp only [Bool.false_eq_true,if_false,if_neg hm,if_neg h2];omega
theorem zxT:∀(l:Str) (c:UInt8) (k:Nat),zbX l c k=if Go.Lib.indexByte l c = -1 then -1 else Go.Lib.indexByte l c+k
 | [],_,_=>rfl
 | x::l,c,k=>by
  rw [zbX,Go.Lib.indexByte,zxT l c (k+1)];exact zA0 _ _ k (Go.Lib.indexByte_ge l c)
theorem zNV (x y:UInt8):(x==y)=(y==x):=by
 by_cases h:x=y
 ·subst h; rfl
 ·rw [beq_eq_false_iff_ne.2 h,beq_eq_false_iff_ne.2 (Ne.symm h)]
theorem zA1:∀(s t:Str),zli s t=t.isPrefixOf s
 | s,[]=>by cases s<;>rfl
 | [],y::t=>rfl
 | x::s,y::t=>by
  rw [zli,List.isPrefixOf,zA1 s t,zNV x y]
theorem zA2:∀(l t:Str) (k:Nat),zeC l t k=if Go.Lib.index l t = -1 then -1 else Go.Lib.index l t+k
 | [],t,k=>by
  rw [zeC,Go.Lib.index];cases t<;>simp [zli]
 | x::l,t,k=>by
  rw [zeC,Go.Lib.index,zA1];simp only [zA2 l t (k+1)];exact zA0 _ _ k (Go.Lib.index_ge l t)
theorem zA3:∀(l cs:Str) (k:Nat),zbB l cs k=if Go.Lib.indexAny l cs = -1 then -1 else Go.Lib.indexAny l cs+k
 | [],_,_=>rfl
 | x::l,cs,k=>by
  rw [zbB,Go.Lib.indexAny,zA3 l cs (k+1)];exact zA0 _ _ k (Go.Lib.indexAny_ge cs l)
theorem zxU (l:Str) (c:UInt8):zbX l c 0=Go.Lib.indexByte l c:=by
 rw [zxT]; have:=Go.Lib.indexByte_ge l c; split<;>omega
theorem zA4 (l t:Str):zeC l t 0=Go.Lib.index l t:=by
 rw [zA2]; have:=Go.Lib.index_ge l t; split<;>omega
theorem zI5 (l cs:Str):zbB l cs 0=Go.Lib.indexAny l cs:=by
 rw [zA3]; have:=Go.Lib.indexAny_ge cs l; split<;>omega
end Go.Dm
end
section
namespace Go.Dm
@[simp] theorem sAt_nat (l:Str) (i:Nat):sAt l (i:Int)=l[i]? := by simp [sAt]
@[simp] theorem sAt_zero (l:Str):sAt l 0=l[0]? := by simp [sAt]
@[simp] theorem sAt_one (l:Str):sAt l 1=l[1]? := by simp [sAt]
@[simp] theorem sAt_two (l:Str):sAt l 2=l[2]? := by simp [sAt]
@[simp] theorem lAt_nat {α:Type} (l:List α) (i:Nat):lAt l (i:Int)=l[i]? := by simp [lAt]
@[simp] theorem lAt_zero {α:Type} (l:List α):lAt l 0=l[0]? := by simp [lAt]
theorem iAdd_ok {m n:Int} (h1 : -9223372036854775808≤m+n) (h2:m+n≤9223372036854775807):zd m n=some (m+n):=by simp [zd,inI,h1,h2]
end Go.Dm
end
section
namespace Go.Dm
theorem zfh (c:UInt8) (s:Str):zg c s≠[]:=by
 cases s with
 | nil=>simp [zg]
 | cons x s =>
  unfold zg
  split
  ·simp
  ·split<;>simp
theorem zBJ {b c:UInt8} {l:Str} (h:b≠c):Go.Lib.index (b::l) [c]=if Go.Lib.index l [c] = -1 then -1 else Go.Lib.index l [c]+1:=by
 have hp:([c]:List UInt8).isPrefixOf (b::l)=false:=by simp [List.isPrefixOf,Ne.symm h]
 rw [Go.Lib.index,hp]; simp
theorem zBK (c:UInt8) (l:Str):Go.Lib.index (c::l) [c]=0:=by
 rw [Go.Lib.index]; simp [List.isPrefixOf]
theorem zu4 (c:UInt8):∀(s:Str) (k:Nat),Go.Lib.count s [c]=k→Go.Lib.splitK [c] 0 k s=zg c s
 | [],k,h=>by
  rw [Go.Lib.count_one] at h;simp at h; subst h; rfl
 | b :: l,k,h=>by
  by_cases hb:b=c
  ·subst hb;rw [Go.Lib.count_cons_eq] at h;obtain ⟨m,rfl⟩:∃m,k=m+1:=⟨k-1,by omega⟩;have ih:=zu4 b l m (by omega);unfold Go.Lib.splitK;rw [zBK];simp [zg,ih]
  ·rw [Go.Lib.count_cons_ne b c l hb] at h;have ih:=zu4 c l k h;unfold zg;rw [if_neg hb, ← ih]
   cases k with
   | zero=>simp [Go.Lib.splitK]
   | succ k =>
    unfold Go.Lib.splitK;rw [zBJ hb];have hge:=Go.Lib.index_ge l [c]
    by_cases hm:Go.Lib.index l [c] = -1
    ·rw [Go.Lib.count_miss hm] at h; omega
    ·obtain ⟨j,hj⟩:∃j:Nat,Go.Lib.index l [c]=j:=⟨(Go.Lib.index l [c]).toNat,by omega⟩
     have e1:¬ ((j:Int)+1 = -1):=by omega
     have e2:¬ ((j:Int) = -1):=by omega
     have e3:((j:Int)+1).toNat=j+1:=by omega
     rw [hj];simp [e1,e2,e3,Nat.add_right_comm j 1 1]
theorem zxp (s:Str) (c:UInt8) (hs:s.length<1000000000):strings_Split s [c]=some (zg c s):=by
 unfold strings_Split;rw [if_pos ⟨by omega,by simp⟩];rw [zu4 c s _ rfl]
def zk8 (p:Str):List Str→List Str
 | []=>[p]
 | h::t=>(p++h)::t
theorem ziw (c x:UInt8) (s:Str):zg c (x::s)=if x=c then []::zg c s else zk8 [x] (zg c s):=by
 rw [zg]
 split
 ·rfl
 ·cases h:zg c s<;>rfl
theorem zu5 (l:List Str) (h:l≠[]):zk8 [] l=l:=by
 cases l with
 | nil=>exact absurd rfl h
 | cons a t=>rfl
theorem zub (p q:Str) (l:List Str) (h:l≠[]):zk8 p (zk8 q l)=zk8 (p++q) l:=by
 cases l with
 | nil=>exact absurd rfl h
 | cons a t=>simp [zk8]
theorem zsO (c:UInt8):∀(a s:Str),c∉a→zg c (a++s)=zk8 a (zg c s)
 | [],s,_=>(zu5 _ (zfh c s)).symm
 | x::a,s,h=>by
  have hx:¬ x=c:=fun e=>h (by simp [e]);rw [List.cons_append,ziw,if_neg hx,zsO c a s (fun e=>h (List.mem_cons_of_mem _ e)),zub _ _ _ (zfh c s)];rfl
theorem zwk {c:UInt8} {a:Str} (h:c∉a):zg c a=[a]:=by
 have:=zsO c a [] h;simpa [zg,zk8] using this
theorem zIQ {c:UInt8} {a:Str} (s:Str) (h:c∉a):zg c (a++c::s)=a::zg c s:=by
 rw [zsO c a _ h,ziw,if_pos rfl];simp [zk8]
theorem zoC {c:UInt8}:∀{s p:Str},p∈zg c s→c∉p∧p.length≤s.length∧∀x∈p,x∈s
 | [],p,h=>by
  simp [zg] at h; subst h; simp
 | x :: s,p,h=>by
  rw [ziw] at h
  split at h
  ·rcases List.mem_cons.1 h with rfl|h
   ·simp
   ·obtain ⟨h1,h2,h3⟩:=zoC h;exact ⟨h1,by simp; omega,fun y hy=>List.mem_cons_of_mem _ (h3 y hy)⟩
  ·rename_i hx
   cases hl:zg c s with
   | nil=>exact absurd hl (zfh c s)
   | cons a t =>
    rw [hl] at h
    rcases List.mem_cons.1 h with rfl|h
    ·obtain ⟨h1,h2,h3⟩:=zoC (c:=c) (s:=s) (p:=a) (by rw [hl]; simp);refine ⟨?_,by simp; omega,?_⟩
     ·simp only [List.singleton_append,ymc,not_or]; exact ⟨fun e=>hx e.symm,h1⟩
     ·intro y hy;simp only [List.singleton_append,ymc] at hy ⊢
      rcases hy with hy|hy
      ·exact .inl hy
      ·exact .inr (h3 y hy)
    ·obtain ⟨h1,h2,h3⟩:=zoC (c:=c) (s:=s) (p:=p) (by rw [hl]; exact List.mem_cons_of_mem _ h);exact ⟨h1,by simp; omega,fun y hy=>List.mem_cons_of_mem _ (h3 y hy)⟩
theorem zxH (c:UInt8):∀s:Str,(zg c s).length≤s.length+1
 | []=>by simp [zg]
 | x::s=>by
  have ih:=zxH c s;rw [ziw]
  split
  ·simp; omega
  ·cases hl:zg c s with
   | nil=>exact absurd hl (zfh c s)
   | cons a t=>rw [hl] at ih; simp [zk8] at ih ⊢; omega

end Go.Dm
end
