/-
 The models' words: partial operations as functions into Option. No program in sight.
 The models of the functions: written by a program (wip/gen) off the translation. No program in sight.
 The library's functions as the models say them, and as the library's contracts say them. No program in sight.
 Plain tools for the laws: the partial operations at natural numbers, loops over lists. No program in sight.
 Splitting a text at one byte. No program in sight.
-/
import Derived.Lib.Replace
import Derived.Lib.ItoaNum
import Derived.Lib.SplitLaws
import Derived.Lib.SlTrimSet
import Derived.Lib.Join
import Derived.Lib.IndexMore
import Derived.Lib.Bytealg
import Derived.Lib.Index
import Derived.Lib.IndexAny
set_option linter.unusedVariables false
set_option linter.unusedSimpArgs false
section
namespace Go.Dm
abbrev Str:=List UInt8

def inI (n:Int):Bool:=decide (-9223372036854775808≤n)&&decide (n≤9223372036854775807)
theorem zDH {n:Int}:inI n=true ↔ -9223372036854775808≤n∧n≤9223372036854775807:=by simp [inI]

def zd (m n:Int):Option Int:=if inI (m+n) then some (m+n) else none
def za3 (m n:Int):Option Int:=if inI (m-n) then some (m-n) else none
def zIj (m n:Int):Option Int:=if inI (m*n) then some (m*n) else none
def zDI (m n:Int):Option Int:=if 0≤m∧1≤n∧inI (m/n)=true then some (m/n) else none
def zBj (m n:Int):Option Int:=if 0≤m∧1≤n∧inI (m%n)=true then some (m%n) else none
def sAt (l:Str) (i:Int):Option UInt8:=if 0≤i then l[i.toNat]? else none
def sTo (l:Str) (h:Int):Option Str:=if 0≤h∧h≤l.length then some (l.take h.toNat) else none
def zZ (l:Str) (i:Int):Option Str:=if 0≤i∧i≤l.length then some (l.drop i.toNat) else none
def zk5 (l:Str) (i h:Int):Option Str:=if 0≤i∧i≤h∧h≤l.length then some ((l.take h.toNat).drop i.toNat) else none
def zb1 (l m:Str):Option Str:=if l.length+m.length≤9223372036854775807 then some (l++m) else none
def lAt {α:Type} (l:List α) (i:Int):Option α:=if 0≤i then l[i.toNat]? else none
def lTo {α:Type} (l:List α) (h:Int):Option (List α):=if 0≤h∧h≤l.length then some (l.take h.toNat) else none
def zpo {α:Type} (l:List α) (i:Int):Option (List α):=if 0≤i∧i≤l.length then some (l.drop i.toNat) else none
def zDJ {α:Type} (l:List α) (i h:Int):Option (List α):=if 0≤i∧i≤h∧h≤l.length then some ((l.take h.toNat).drop i.toNat) else none
def zw3 {α:Type} (l:List α) (i:Int) (x:α):Option (List α):=if 0≤i∧i<l.length then some (l.set i.toNat x) else none

def ze (n m bytes:Nat):Bool:=decide (n+m≤9223372036854775807)&&decide ((n+m)*bytes≤140737488355328)
def zJW (n:Int):Option Int:=if inI n then some n else none
def zJX (n:Int):UInt8:=UInt8.ofNat (n%256).toNat
theorem og {α:Type} {b:Bool} {x:Option α} {r:α} (h:(if b=true then x else none)=some r):b=true∧x=some r:=by
 cases b with
 | false=>cases h
 | true=>exact ⟨rfl,h⟩
theorem bcase (b:Bool):b=true∨b=false:=by cases b<;>simp
theorem ob {α β:Type} {m:Option α} {f:α→Option β} {r:β} (h:m.bind f=some r):∃x,m=some x∧f x=some r:=by
 cases m with
 | none=>cases h
 | some x=>exact ⟨x,rfl,h⟩
theorem it {α:Type} {b:Bool} {x y:Option α} {r:α} (hb:b=true) (h:(if b=true then x else y)=some r):x=some r:=by rwa [if_pos hb] at h
theorem ie {α:Type} {b:Bool} {x y:Option α} {r:α} (hb:b=false) (h:(if b=true then x else y)=some r):y=some r:=by rwa [if_neg (by simp [hb])] at h

def ziW:Str→Str→Bool
 | _,[]=>false
 | [],_::_=>true
 | a::x,b::y=>a<b||(a==b&&ziW x y)
def fuel:Nat:=1000000000000000000
def zqF (l:List (Int × Str)) (k:Int):Str × Bool:=match l.find? fun q=>q.1==k with
 | some q=>(q.2,true)
 | none=>([],false)
abbrev ymc := @List.mem_cons
end Go.Dm
end
section
set_option linter.unusedVariables false
set_option maxRecDepth 10000
namespace Go.Dm
structure zW3 where
 From:Str
 To:Str
deriving DecidableEq,Inhabited
structure zWQ where
 Name:Str
 Value:Str
deriving DecidableEq,Inhabited
structure zWR where
 Kind:Int
 Text:Str
deriving DecidableEq,Inhabited
def zbY:Str→UInt8→Nat→Int
 | [],_,_ => -1
 | x::l,c,k=>if x==c then (k:Int) else zbY l c (k+1)
def strings_IndexByte (s:Str) (c:UInt8):Option Int:=some (zbY s c 0)
def zk6:Str→Str→Bool
 | _,[]=>true
 | [],_::_=>false
 | x::s,y::t=>x==y&&zk6 s t
def zeH:Str→Str→Nat→Int
 | s,t,k=>if zk6 s t then (k:Int) else match s with
  | [] => -1
  | _::s=>zeH s t (k+1)
def strings_Index (s t:Str):Option Int:=if s.length<4294967281 then some (zeH s t 0) else none
def strings_Cut (s t:Str):Option (Str × Str × Bool):=if s.length<4294967281 then some (Go.Lib.cut s t) else none
def strings_Contains (s t:Str):Option Bool:=if s.length<4294967281 then some (decide (0≤zeH s t 0)) else none
def zbD:Str→Str→Nat→Int
 | [],_,_ => -1
 | x::l,cs,k=>if cs.contains x then (k:Int) else zbD l cs (k+1)
def strings_IndexAny (s cs:Str):Option Int:=if s.length<4294967281∧cs.length<4294967281∧cs.all (fun c=>c.toNat<128) then some (zbD s cs 0) else none
def strings_Split (s sep:Str):Option (List Str):=if s.length<4294967281∧1≤sep.length then some (Go.Lib.splitK sep 0 (Go.Lib.countB ⟨s.toArray⟩ ⟨sep.toArray⟩) s) else none
def zi (c:UInt8):Str→List Str
 | []=>[[]]
 | x::s=>if x=c then []::zi c s else match zi c s with
  | []=>[[x]]
  | h::t=>(x::h)::t
def zrv (k:Nat):UInt8:=if k<10 then UInt8.ofNat (48+k) else UInt8.ofNat (87+k)
def zqG:Nat→Nat→Str
 | 0,u=>[zrv u]
 | g+1,u=>if u<16 then [zrv u] else zqG g (u/16)++[zrv (u%16)]
def zcg (n b:Int):Option Str:=if inI n=true∧b=10 then some (Go.Lib.itoa n) else if b=16∧0≤n∧n<1048576 then some (zqG 4 n.toNat) else none
def zbJ (s cs:Str):Option Str:=if s.length<4294967281∧cs.length<4294967281∧cs.all (fun c=>c.toNat<128) then some (Go.Lib.trimS s cs) else none
def zdp (s cs:Str):Option Str:=if s.length<4294967281∧cs.length<4294967281∧cs.all (fun c=>c.toNat<128) then some (Go.Lib.trimRightS s cs) else none
def strings_ReplaceAll (s old new:Str):Option Str:=if s.length<4294967281∧1≤old.length∧s.length+Go.Lib.countB ⟨s.toArray⟩ ⟨old.toArray⟩*new.length≤140737488355328 then some (Go.Lib.replaceAll s old new) else none
def strings_Join (l:List Str) (sep:Str):Option Str:=if l.length≤140737488355328∧(Go.Lib.join l sep).length≤140737488355328 then some (Go.Lib.join l sep) else none
def zku (x_s:List zW3):Option (List zW3) :=
 if ze 0 x_s.length 32 then (some x_s) else none

def zju (x_s:List zWQ):Option (List zWQ) :=
 if ze 0 x_s.length 32 then (some x_s) else none

def zkv (x_s:List zWR):Option (List zWR) :=
 if ze 0 x_s.length 24 then (some x_s) else none

def zch (s:List zWQ) (i:Int) (v:List zWQ):Option (List zWQ):=if v.length=1∧0≤i∧i≤s.length∧ze s.length v.length 32=true then some (s.take i.toNat++v++s.drop i.toNat) else none

end Go.Dm
end
section
namespace Go.Dm
theorem zzK (b:Bool) (v:Int) (k:Nat) (h : -1≤v):(if b=true then (k:Int) else if v = -1 then -1 else v+((k+1:Nat):Int)) =
  if (if b=true then 0 else if (v == -1)=true then -1 else v+1) = -1 then -1 else (if b=true then 0 else if (v == -1)=true then -1 else v+1)+(k:Int):=by
 cases b with
 | true=>simp
 | false =>
  by_cases hm:v = -1
  ·subst hm; simp
  ·have h2:¬ (v+1 = -1):=by omega
   have h3:(v == -1)=false:=beq_eq_false_iff_ne.2 hm;rw [h3];simp only [Bool.false_eq_true,if_false,if_neg hm,if_neg h2];omega
theorem zxG:∀(l:Str) (c:UInt8) (k:Nat),zbY l c k=if Go.Lib.indexByte l c = -1 then -1 else Go.Lib.indexByte l c+k
 | [],_,_=>rfl
 | x::l,c,k=>by
  rw [zbY,Go.Lib.indexByte,zxG l c (k+1)];exact zzK _ _ k (Go.Lib.indexByte_ge l c)
theorem zNh (x y:UInt8):(x==y)=(y==x):=by
 by_cases h:x=y
 ·subst h; rfl
 ·rw [beq_eq_false_iff_ne.2 h,beq_eq_false_iff_ne.2 (Ne.symm h)]
theorem zzL:∀(s t:Str),zk6 s t=t.isPrefixOf s
 | s,[]=>by cases s<;>rfl
 | [],y::t=>rfl
 | x::s,y::t=>by
  rw [zk6,List.isPrefixOf,zzL s t,zNh x y]
theorem zzM:∀(l t:Str) (k:Nat),zeH l t k=if Go.Lib.index l t = -1 then -1 else Go.Lib.index l t+k
 | [],t,k=>by
  rw [zeH,Go.Lib.index];cases t<;>simp [zk6]
 | x::l,t,k=>by
  rw [zeH,Go.Lib.index,zzL];simp only [zzM l t (k+1)];exact zzK _ _ k (Go.Lib.index_ge l t)
theorem zzN:∀(l cs:Str) (k:Nat),zbD l cs k=if Go.Lib.indexAny l cs = -1 then -1 else Go.Lib.indexAny l cs+k
 | [],_,_=>rfl
 | x::l,cs,k=>by
  rw [zbD,Go.Lib.indexAny,zzN l cs (k+1)];exact zzK _ _ k (Go.Lib.indexAny_ge cs l)
theorem zxH (l:Str) (c:UInt8):zbY l c 0=Go.Lib.indexByte l c:=by
 rw [zxG]; have:=Go.Lib.indexByte_ge l c; split<;>omega
theorem zzO (l t:Str):zeH l t 0=Go.Lib.index l t:=by
 rw [zzM]; have:=Go.Lib.index_ge l t; split<;>omega
theorem zIk (l cs:Str):zbD l cs 0=Go.Lib.indexAny l cs:=by
 rw [zzN]; have:=Go.Lib.indexAny_ge cs l; split<;>omega
end Go.Dm
end
section
namespace Go.Dm
@[simp] theorem sAt_nat (l:Str) (i:Nat):sAt l (i:Int)=l[i]? := by simp [sAt]
@[simp] theorem sAt_zero (l:Str):sAt l 0=l[0]? := by simp [sAt]
@[simp] theorem sAt_one (l:Str):sAt l 1=l[1]? := by simp [sAt]
@[simp] theorem sAt_two (l:Str):sAt l 2=l[2]? := by simp [sAt]
@[simp] theorem lAt_nat {α:Type} (l:List α) (i:Nat):lAt l (i:Int)=l[i]? := by simp [lAt]
@[simp] theorem lAt_zero {α:Type} (l:List α):lAt l 0=l[0]? := by simp [lAt]
theorem iAdd_ok {m n:Int} (h1 : -9223372036854775808≤m+n) (h2:m+n≤9223372036854775807):zd m n=some (m+n):=by simp [zd,inI,h1,h2]
end Go.Dm
end
section
namespace Go.Dm
theorem zfk (c:UInt8) (s:Str):zi c s≠[]:=by
 cases s with
 | nil=>simp [zi]
 | cons x s =>
  unfold zi
  split
  ·simp
  ·split<;>simp
theorem zBd {b c:UInt8} {l:Str} (h:b≠c):Go.Lib.index (b::l) [c]=if Go.Lib.index l [c] = -1 then -1 else Go.Lib.index l [c]+1:=by
 have hp:([c]:List UInt8).isPrefixOf (b::l)=false:=by simp [List.isPrefixOf,Ne.symm h]
 rw [Go.Lib.index,hp]; simp
theorem zBe (c:UInt8) (l:Str):Go.Lib.index (c::l) [c]=0:=by
 rw [Go.Lib.index]; simp [List.isPrefixOf]
theorem zuu (c:UInt8):∀(s:Str) (k:Nat),Go.Lib.count s [c]=k→Go.Lib.splitK [c] 0 k s=zi c s
 | [],k,h=>by
  rw [Go.Lib.count_one] at h;simp at h; subst h; rfl
 | b :: l,k,h=>by
  by_cases hb:b=c
  ·subst hb;rw [Go.Lib.count_cons_eq] at h;obtain ⟨m,rfl⟩:∃m,k=m+1:=⟨k-1,by omega⟩;have ih:=zuu b l m (by omega);unfold Go.Lib.splitK;rw [zBe];simp [zi,ih]
  ·rw [Go.Lib.count_cons_ne b c l hb] at h;have ih:=zuu c l k h;unfold zi;rw [if_neg hb, ← ih]
   cases k with
   | zero=>simp [Go.Lib.splitK]
   | succ k =>
    unfold Go.Lib.splitK;rw [zBd hb];have hge:=Go.Lib.index_ge l [c]
    by_cases hm:Go.Lib.index l [c] = -1
    ·rw [Go.Lib.count_miss hm] at h; omega
    ·obtain ⟨j,hj⟩:∃j:Nat,Go.Lib.index l [c]=j:=⟨(Go.Lib.index l [c]).toNat,by omega⟩
     have e1:¬ ((j:Int)+1 = -1):=by omega
     have e2:¬ ((j:Int) = -1):=by omega
     have e3:((j:Int)+1).toNat=j+1:=by omega
     rw [hj];simp [e1,e2,e3,Nat.add_right_comm j 1 1]
theorem zwZ (s:Str) (c:UInt8) (hs:s.length<1000000000):strings_Split s [c]=some (zi c s):=by
 unfold strings_Split;rw [if_pos ⟨by omega,by simp⟩];rw [zuu c s _ rfl]
def zk4 (p:Str):List Str→List Str
 | []=>[p]
 | h::t=>(p++h)::t
theorem zix (c x:UInt8) (s:Str):zi c (x::s)=if x=c then []::zi c s else zk4 [x] (zi c s):=by
 rw [zi]
 split
 ·rfl
 ·cases h:zi c s<;>rfl
theorem zuv (l:List Str) (h:l≠[]):zk4 [] l=l:=by
 cases l with
 | nil=>exact absurd rfl h
 | cons a t=>rfl
theorem zt7 (p q:Str) (l:List Str) (h:l≠[]):zk4 p (zk4 q l)=zk4 (p++q) l:=by
 cases l with
 | nil=>exact absurd rfl h
 | cons a t=>simp [zk4]
theorem zsa (c:UInt8):∀(a s:Str),c∉a→zi c (a++s)=zk4 a (zi c s)
 | [],s,_=>(zuv _ (zfk c s)).symm
 | x::a,s,h=>by
  have hx:¬ x=c:=fun e=>h (by simp [e]);rw [List.cons_append,zix,if_neg hx,zsa c a s (fun e=>h (List.mem_cons_of_mem _ e)),zt7 _ _ _ (zfk c s)];rfl
theorem zvE {c:UInt8} {a:Str} (h:c∉a):zi c a=[a]:=by
 have:=zsa c a [] h;simpa [zi,zk4] using this
theorem zH7 {c:UInt8} {a:Str} (s:Str) (h:c∉a):zi c (a++c::s)=a::zi c s:=by
 rw [zsa c a _ h,zix,if_pos rfl];simp [zk4]
theorem zoz {c:UInt8}:∀{s p:Str},p∈zi c s→c∉p∧p.length≤s.length∧∀x∈p,x∈s
 | [],p,h=>by
  simp [zi] at h; subst h; simp
 | x :: s,p,h=>by
  rw [zix] at h
  split at h
  ·rcases List.mem_cons.1 h with rfl|h
   ·simp
   ·obtain ⟨h1,h2,h3⟩:=zoz h;exact ⟨h1,by simp; omega,fun y hy=>List.mem_cons_of_mem _ (h3 y hy)⟩
  ·rename_i hx
   cases hl:zi c s with
   | nil=>exact absurd hl (zfk c s)
   | cons a t =>
    rw [hl] at h
    rcases List.mem_cons.1 h with rfl|h
    ·obtain ⟨h1,h2,h3⟩:=zoz (c:=c) (s:=s) (p:=a) (by rw [hl]; simp);refine ⟨?_,by simp; omega,?_⟩
     ·simp only [List.singleton_append,ymc,not_or]; exact ⟨fun e=>hx e.symm,h1⟩
     ·intro y hy;simp only [List.singleton_append,ymc] at hy ⊢
      rcases hy with hy|hy
      ·exact .inl hy
      ·exact .inr (h3 y hy)
    ·obtain ⟨h1,h2,h3⟩:=zoz (c:=c) (s:=s) (p:=p) (by rw [hl]; exact List.mem_cons_of_mem _ h);exact ⟨h1,by simp; omega,fun y hy=>List.mem_cons_of_mem _ (h3 y hy)⟩
theorem zxE (c:UInt8):∀s:Str,(zi c s).length≤s.length+1
 | []=>by simp [zi]
 | x::s=>by
  have ih:=zxE c s;rw [zix]
  split
  ·simp; omega
  ·cases hl:zi c s with
   | nil=>exact absurd hl (zfk c s)
   | cons a t=>rw [hl] at ih; simp [zk4] at ih ⊢; omega

end Go.Dm
end
