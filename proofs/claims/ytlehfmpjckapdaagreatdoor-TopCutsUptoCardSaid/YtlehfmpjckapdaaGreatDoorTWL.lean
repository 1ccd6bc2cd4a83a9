/- What the library's models come to, as instances of T. No program in sight. -/
import Derived.Test.YtlehfmpjckapdaaGreatDoorTSplit
import Derived.Test.YtlehfmpjckapdaaGreatDoorTW
import Derived.Test.YtlehfmpjckapdaaGreatDoorP1
import Derived.Lib.ItoaLen
set_option linter.unusedVariables false
set_option linter.unusedSimpArgs false
set_option linter.unusedVariables false
namespace Go.Dm
theorem zxG (c:UInt8):∀(s:Str) (k:Nat), -1≤zcq s c k∧zcq s c k<k+s.length∧(0≤zcq s c k→k≤zcq s c k)
 | [],k=>by simp only [zcq]; simp; omega
 | x::s,k=>by
  have:=zxG c s (k+1);simp only [zcq,List.length_cons]
  split<;>omega
theorem zAX (c:Str):∀(s:Str) (k:Nat), -1≤zdf s c k∧zdf s c k<k+s.length∧(0≤zdf s c k→k≤zdf s c k)
 | [],k=>by simp only [zdf]; simp; omega
 | x::s,k=>by
  have:=zAX c s (k+1);simp only [zdf,List.length_cons]
  split<;>omega
theorem zAY:∀(s t:Str),zlI s t=true→t.length≤s.length
 | s,[],_=>by simp
 | [],_::_,h=>by simp [zlI] at h
 | x::s,y::t,h=>by
  simp only [zlI,Bool.and_eq_true] at h;have:=zAY s t h.2
  simp; omega
theorem zHl:∀(s t:Str) (k:Nat), -1≤ze2 s t k∧(0≤ze2 s t k→k≤ze2 s t k∧ze2 s t k+t.length≤k+s.length)
 | [],t,k=>by
  unfold ze2
  split
  ·have:=zAY [] t ‹_›;simp at this ⊢; subst this; simp
  ·simp
 | x::s,t,k=>by
  unfold ze2;have:=zHl s t (k+1)
  split
  ·have:=zAY _ t ‹_›;simp at this ⊢; omega
  ·simp; omega
instance (s t:Str):T (strings_Index s t) (s.length<4294967281) (fun r => -1≤r∧(0≤r→r+t.length≤s.length)):=⟨fun h=>⟨ze2 s t 0,by rw [strings_Index,if_pos h],by have:=zHl s t 0; omega⟩⟩
instance (s c:Str):T (zco s c) (s.length<4294967281∧c.length<4294967281∧c.all (fun c=>c.toNat<128)=true) (fun r=>r=zdf s c 0 ∧ -1≤r∧r<s.length) :=
 ⟨fun h=>⟨zdf s c 0,by rw [zco,if_pos (by simpa using h)],rfl,by have:=zAX c s 0; omega⟩⟩
theorem zPU (s c:Str):(Go.Lib.trimLeftS s c).length≤s.length:=(List.dropWhile_suffix _).length_le
theorem zJ9 (s c:Str):(Go.Lib.trimRightS s c).length≤s.length:=by
 unfold Go.Lib.trimRightS;have:=(List.dropWhile_suffix (c.contains ·) (l:=s.reverse)).length_le;simpa using this
instance (s t:Str):T (strings_Cut s t) (s.length<4294967281) (fun r=>r=Go.Lib.cut s t∧r.1.length≤s.length∧r.2.1.length≤s.length):=⟨fun h=>⟨Go.Lib.cut s t,by rw [strings_Cut,if_pos h],rfl,by
 unfold Go.Lib.cut
 split<;>simp<;>omega⟩⟩
instance (s c:Str):T (zcc s c) (s.length<4294967281∧c.length<4294967281∧c.all (fun c=>c.toNat<128)=true) (fun r=>r.length≤s.length∧(c=[32,9]→r=zI5 s)) :=
 ⟨fun h=>⟨Go.Lib.trimS s c,by rw [zcc,if_pos (by simpa using h)],Nat.le_trans (zPU _ _) (zJ9 _ _),fun e=>by
  subst e
  have:∀b,([32,9]:Str).contains b=zok b:=fun b=>by simp only [zok,List.contains_cons,List.contains_nil,Bool.or_false]
  simp only [Go.Lib.trimS,Go.Lib.trimLeftS,Go.Lib.trimRightS,zI5]
  rw [show (fun b=>([32,9]:Str).contains b)=zok from funext this]⟩⟩
instance (s c:Str):T (zdN s c) (s.length<4294967281∧c.length<4294967281∧c.all (fun c=>c.toNat<128)=true) (fun r=>r.length≤s.length) :=
 ⟨fun h=>⟨Go.Lib.trimRightS s c,by rw [zdN,if_pos (by simpa using h)],zJ9 _ _⟩⟩
theorem zHm:∀(g u:Nat),(zro g u).length≤g+1
 | 0,u=>by simp [zro]
 | g+1,u=>by
  unfold zro
  split
  ·simp
  ·have:=zHm g (u/16); simp; omega
instance (n b:Int):T (zcJ n b) (-9223372036854775808≤n∧n≤9223372036854775807∧(b=10∨b=16∧0≤n∧n<1048576)) (fun r=>r.length≤21∧(b=10→0≤n→r=Go.Lib.decDigits n.toNat)):=⟨fun h=>by
 by_cases a:b=10
 ·exact ⟨Go.Lib.itoa n,by rw [zcJ,if_pos (by simp [inI]; omega)],Go.Lib.itoa_length_le n h.1 h.2.1,fun _ h0=>by rw [Go.Lib.itoa,if_neg (by omega)]⟩
 ·refine ⟨zro 4 n.toNat,by rw [zcJ,if_neg (by simp [inI]; omega),if_pos (by omega)],?_,fun e=>absurd e a⟩;have:=zHm 4 n.toNat
  omega⟩
theorem zwH (sep:Str) (h:1≤sep.length):∀(k:Nat) (s:Str),1≤(Go.Lib.splitK sep 0 k s).length∧(Go.Lib.splitK sep 0 k s).length≤s.length+1∧∀x∈Go.Lib.splitK sep 0 k s,x.length≤s.length
 | 0,s=>by simp [Go.Lib.splitK]
 | k + 1,s=>by
  unfold Go.Lib.splitK
  split
  ·simp
  ·rename_i hi
   have:=zwH sep h k (s.drop ((Go.Lib.index s sep).toNat+sep.length))
   have c:1≤s.length:=by
    cases s with
    | nil=>cases sep with
     | nil=>simp at h
     | cons a b=>simp [Go.Lib.index] at hi
    | cons a b=>simp
   simp only [List.length_drop,List.length_cons,List.mem_cons] at this ⊢;refine ⟨by omega,by omega,?_⟩;rintro x (rfl|hx)
   ·simp; omega
   ·have:=this.2.2 x hx; omega
instance (s sep:Str):T (strings_Split s sep) (s.length<4294967281∧1≤sep.length) (fun r=>1≤r.length∧r.length≤s.length+1∧(∀x∈r,x.length≤s.length)∧∀c,sep=[c]→s.length<1000000000→r=zy c s) :=
 ⟨fun h=>⟨_,by rw [strings_Split,if_pos h],(zwH sep h.2 _ _).1,(zwH sep h.2 _ _).2.1,(zwH sep h.2 _ _).2.2,fun c e a=>by
  have:=zxf s c a;subst e;rw [strings_Split,if_pos h] at this
  exact Option.some.inj this⟩⟩
def sl:List Str→Nat
 | []=>0
 | x::l=>x.length+sl l
theorem zbg:sl []=0:=rfl
theorem zaF (x:Str) (l:List Str):sl (x::l)=x.length+sl l:=rfl
theorem zfK (l m:List Str):sl (l++m)=sl l+sl m:=by
 induction l with
 | nil=>simp [sl]
 | cons x l a=>simp only [List.cons_append,sl,a]; omega
theorem join_w (sep:Str):∀(l:List Str),(Go.Lib.join l sep).length≤sl l+sep.length*l.length
 | []=>by simp [Go.Lib.join_nil]
 | x::l=>by
  have e:∀l:List Str,Go.Lib.lens l=sl l:=by
   intro l
   induction l with
   | nil=>rfl
   | cons x l a=>rw [zaF, ← a]; simp [Go.Lib.lens]
  rw [Go.Lib.join_length,e];simp only [List.length_cons,Nat.mul_add]; omega
instance (l:List Str) (sep:Str):T (strings_Join l sep) (sep.length≤10∧sl l+10*l.length≤100000000000000) (fun r=>r.length≤sl l+10*l.length∧r=Go.Lib.join l sep):=⟨fun h=>by
 have a:=join_w sep l;have b:sep.length*l.length≤10*l.length:=Nat.mul_le_mul_right _ h.1
 exact ⟨_,by rw [strings_Join,if_pos (by omega)],by omega,rfl⟩⟩
theorem zxH (c:UInt8):∀(s:Str),(zy c s).length≤s.length+1∧∀x∈zy c s,x.length≤s.length
 | []=>by simp [zy]
 | x::s=>by
  have:=zxH c s;unfold zy
  split
  ·simp; exact ⟨by omega,fun x a=>by have:=this.2 x a; omega⟩
  ·split
   ·simp
   ·rename_i e
    rw [e] at this;simp at this ⊢;exact ⟨by omega,by omega,fun x a=>by have:=this.2.2 x a; omega⟩
instance (s:List zZn) (i:Int) (v:List zZn):T (zcK s i v) (v.length=1∧0≤i∧i≤s.length∧s.length≤1000000000000) (fun r=>r.length=s.length+1∧∀f∈r,f∈s∨f∈v) :=
 ⟨fun ⟨h1,h2,b,c⟩=>⟨_,by rw [zcK,if_pos ⟨h1,h2,b,zAZ (by omega) (by omega)⟩],by simp; omega,fun f a=>by
  simp only [List.mem_append] at a
  rcases a with (a|a)|a
  ·exact .inl (List.mem_of_mem_take a)
  ·exact .inr a
  ·exact .inl (List.mem_of_mem_drop a)⟩⟩
end Go.Dm
