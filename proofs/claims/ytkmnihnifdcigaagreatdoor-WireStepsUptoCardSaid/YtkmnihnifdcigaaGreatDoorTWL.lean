/-
 What the library's models come to, as instances of T. No program in sight.
-/
import Derived.Test.YtkmnihnifdcigaaGreatDoorTSplit
import Derived.Test.YtkmnihnifdcigaaGreatDoorTW
import Derived.Test.YtkmnihnifdcigaaGreatDoorP1
import Derived.Lib.ItoaLen
set_option linter.unusedVariables false
set_option linter.unusedSimpArgs false
set_option linter.unusedVariables false
namespace Go.Dm
theorem zpa (c:UInt8):∀(s:Str) (k:Nat), -1≤zbY s c k∧zbY s c k<k+s.length∧(0≤zbY s c k→k≤zbY s c k)
 | [],k=>by simp only [zbY]; simp; omega
 | x::s,k=>by
  have:=zpa c s (k+1);simp only [zbY,List.length_cons]
  split<;>omega
theorem zzi (c:Str):∀(s:Str) (k:Nat), -1≤zbD s c k∧zbD s c k<k+s.length∧(0≤zbD s c k→k≤zbD s c k)
 | [],k=>by simp only [zbD]; simp; omega
 | x::s,k=>by
  have:=zzi c s (k+1);simp only [zbD,List.length_cons]
  split<;>omega
theorem zzj:∀(s t:Str),zk6 s t=true→t.length≤s.length
 | s,[],_=>by simp
 | [],_::_,h=>by simp [zk6] at h
 | x::s,y::t,h=>by
  simp only [zk6,Bool.and_eq_true] at h;have:=zzj s t h.2
  simp; omega
theorem zFG:∀(s t:Str) (k:Nat), -1≤zeH s t k∧(0≤zeH s t k→k≤zeH s t k∧zeH s t k+t.length≤k+s.length)
 | [],t,k=>by
  unfold zeH
  split
  ·have:=zzj [] t ‹_›;simp at this ⊢; subst this; simp
  ·simp
 | x::s,t,k=>by
  unfold zeH;have:=zFG s t (k+1)
  split
  ·have:=zzj _ t ‹_›;simp at this ⊢; omega
  ·simp; omega
instance (s:Str) (c:UInt8):T (strings_IndexByte s c) True (fun r => -1≤r∧r<s.length∧decide (0≤r)=s.contains c):=⟨fun _=>⟨_,rfl,by have:=zpa c s 0; omega,by have:=zpa c s 0; omega,idxB c s 0⟩⟩
instance (s t:Str):T (strings_Index s t) (s.length<4294967281) (fun r => -1≤r∧(0≤r→r+t.length≤s.length)):=⟨fun h=>⟨zeH s t 0,by rw [strings_Index,if_pos h],by have:=zFG s t 0; omega⟩⟩
instance (s t:Str):T (strings_Contains s t) (s.length<4294967281) (fun _=>True):=⟨fun h=>⟨_,by rw [strings_Contains,if_pos h],trivial⟩⟩
instance (s c:Str):T (strings_IndexAny s c) (s.length<4294967281∧c.length<4294967281∧c.all (fun c=>c.toNat<128)=true) (fun r=>r=zbD s c 0 ∧ -1≤r∧r<s.length) :=
 ⟨fun h=>⟨zbD s c 0,by rw [strings_IndexAny,if_pos (by simpa using h)],rfl,by have:=zzi c s 0; omega⟩⟩
theorem zOq (s c:Str):(Go.Lib.trimLeftS s c).length≤s.length:=(List.dropWhile_suffix _).length_le
theorem zJt (s c:Str):(Go.Lib.trimRightS s c).length≤s.length:=by
 unfold Go.Lib.trimRightS;have:=(List.dropWhile_suffix (c.contains ·) (l:=s.reverse)).length_le;simpa using this
instance (s t:Str):T (strings_Cut s t) (s.length<4294967281) (fun r=>r=Go.Lib.cut s t∧r.1.length≤s.length∧r.2.1.length≤s.length):=⟨fun h=>⟨Go.Lib.cut s t,by rw [strings_Cut,if_pos h],rfl,by
 unfold Go.Lib.cut
 split<;>simp<;>omega⟩⟩
instance (s c:Str):T (zbJ s c) (s.length<4294967281∧c.length<4294967281∧c.all (fun c=>c.toNat<128)=true) (fun r=>r.length≤s.length∧(c=[32,9]→r=zBc s)) :=
 ⟨fun h=>⟨Go.Lib.trimS s c,by rw [zbJ,if_pos (by simpa using h)],Nat.le_trans (zOq _ _) (zJt _ _),fun e=>by
  subst e
  have:∀b,([32,9]:Str).contains b=znv b:=fun b=>by simp only [znv,List.contains_cons,List.contains_nil,Bool.or_false]
  simp only [Go.Lib.trimS,Go.Lib.trimLeftS,Go.Lib.trimRightS,zBc]
  rw [show (fun b=>([32,9]:Str).contains b)=znv from funext this]⟩⟩
instance (s c:Str):T (zdp s c) (s.length<4294967281∧c.length<4294967281∧c.all (fun c=>c.toNat<128)=true) (fun r=>r.length≤s.length) :=
 ⟨fun h=>⟨Go.Lib.trimRightS s c,by rw [zdp,if_pos (by simpa using h)],zJt _ _⟩⟩
theorem zFH:∀(g u:Nat),(zqG g u).length≤g+1
 | 0,u=>by simp [zqG]
 | g+1,u=>by
  unfold zqG
  split
  ·simp
  ·have:=zFH g (u/16); simp; omega
instance (n b:Int):T (zcg n b) (-9223372036854775808≤n∧n≤9223372036854775807∧(b=10∨b=16∧0≤n∧n<1048576)) (fun r=>r.length≤21∧(b=10→0≤n→r=Go.Lib.decDigits n.toNat)):=⟨fun h=>by
 by_cases hb:b=10
 ·exact ⟨Go.Lib.itoa n,by rw [zcg,if_pos (by simp [inI]; omega)],Go.Lib.itoa_length_le n h.1 h.2.1,fun _ h0=>by rw [Go.Lib.itoa,if_neg (by omega)]⟩
 ·refine ⟨zqG 4 n.toNat,by rw [zcg,if_neg (by simp [inI]; omega),if_pos (by omega)],?_,fun e=>absurd e hb⟩;have:=zFH 4 n.toNat
  omega⟩
theorem zvg (sep:Str) (h:1≤sep.length):∀(k:Nat) (s:Str),1≤(Go.Lib.splitK sep 0 k s).length∧(Go.Lib.splitK sep 0 k s).length≤s.length+1∧∀x∈Go.Lib.splitK sep 0 k s,x.length≤s.length
 | 0,s=>by simp [Go.Lib.splitK]
 | k + 1,s=>by
  unfold Go.Lib.splitK
  split
  ·simp
  ·rename_i hi
   have:=zvg sep h k (s.drop ((Go.Lib.index s sep).toNat+sep.length))
   have hs:1≤s.length:=by
    cases s with
    | nil=>cases sep with
     | nil=>simp at h
     | cons a b=>simp [Go.Lib.index] at hi
    | cons a b=>simp
   simp only [List.length_drop,List.length_cons,List.mem_cons] at this ⊢;refine ⟨by omega,by omega,?_⟩;rintro x (rfl|hx)
   ·simp; omega
   ·have:=this.2.2 x hx; omega
instance (s sep:Str):T (strings_Split s sep) (s.length<4294967281∧1≤sep.length) (fun r=>1≤r.length∧r.length≤s.length+1∧(∀x∈r,x.length≤s.length)∧∀c,sep=[c]→s.length<1000000000→r=zi c s) :=
 ⟨fun h=>⟨_,by rw [strings_Split,if_pos h],(zvg sep h.2 _ _).1,(zvg sep h.2 _ _).2.1,(zvg sep h.2 _ _).2.2,fun c e hs=>by
  have:=zwZ s c hs;subst e;rw [strings_Split,if_pos h] at this
  exact Option.some.inj this⟩⟩
def sl:List Str→Nat
 | []=>0
 | x::l=>x.length+sl l
theorem zau:sl []=0:=rfl
theorem zS (x:Str) (l:List Str):sl (x::l)=x.length+sl l:=rfl
theorem ze7 (l m:List Str):sl (l++m)=sl l+sl m:=by
 induction l with
 | nil=>simp [sl]
 | cons x l ih=>simp only [List.cons_append,sl,ih]; omega
theorem join_w (sep:Str):∀(l:List Str),(Go.Lib.join l sep).length≤sl l+sep.length*l.length
 | []=>by simp [Go.Lib.join_nil]
 | x::l=>by
  have e:∀l:List Str,Go.Lib.lens l=sl l:=by
   intro l
   induction l with
   | nil=>rfl
   | cons x l ih=>rw [zS, ← ih]; simp [Go.Lib.lens]
  rw [Go.Lib.join_length,e];simp only [List.length_cons,Nat.mul_add]; omega
instance (l:List Str) (sep:Str):T (strings_Join l sep) (sep.length≤10∧sl l+10*l.length≤100000000000000) (fun r=>r.length≤sl l+10*l.length∧r=Go.Lib.join l sep):=⟨fun h=>by
 have a:=join_w sep l;have b:sep.length*l.length≤10*l.length:=Nat.mul_le_mul_right _ h.1
 exact ⟨_,by rw [strings_Join,if_pos (by omega)],by omega,rfl⟩⟩
theorem zwJ (c:UInt8):∀(s:Str),(zi c s).length≤s.length+1∧∀x∈zi c s,x.length≤s.length
 | []=>by simp [zi]
 | x::s=>by
  have:=zwJ c s;unfold zi
  split
  ·simp; exact ⟨by omega,fun x hx=>by have:=this.2 x hx; omega⟩
  ·split
   ·simp
   ·rename_i e
    rw [e] at this;simp at this ⊢;exact ⟨by omega,by omega,fun x hx=>by have:=this.2.2 x hx; omega⟩
instance (s:List zWQ) (i:Int) (v:List zWQ):T (zch s i v) (v.length=1∧0≤i∧i≤s.length∧s.length≤1000000000000) (fun r=>r.length=s.length+1∧∀f∈r,f∈s∨f∈v) :=
 ⟨fun ⟨h1,h2,h3,h4⟩=>⟨_,by rw [zch,if_pos ⟨h1,h2,h3,zNp (by omega) (by omega)⟩],by simp; omega,fun f hf=>by
  simp only [List.mem_append] at hf
  rcases hf with (hf|hf)|hf
  ·exact .inl (List.mem_of_mem_take hf)
  ·exact .inr hf
  ·exact .inl (List.mem_of_mem_drop hf)⟩⟩
end Go.Dm
