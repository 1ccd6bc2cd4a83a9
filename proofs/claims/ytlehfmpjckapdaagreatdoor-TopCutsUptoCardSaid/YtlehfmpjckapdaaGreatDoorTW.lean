/- Totality by conditions: W x P says that x comes to something of which P holds; an instance of T tells when a function's  -/
import Derived.Test.YtlehfmpjckapdaaGreatDoorP0
set_option linter.unusedVariables false
set_option linter.unusedSimpArgs false
set_option linter.unusedVariables false
namespace Go.Dm
def W {α:Type} (x:Option α) (P:α→Prop):Prop:=∃r,x=some r∧P r
class T {α:Type} (x:Option α) (p:outParam Prop) (q:outParam (α→Prop)):Prop where
 ok:p→W x q
class K {α:Type} (x:Option α) (P:α→Prop) (p:outParam Prop):Prop where
 ok:p→W x P
section
variable {α β:Type}
theorem Wk {x:Option α} {P:α→Prop} {p:Prop} [t:K x P p] (h:p):W x P:=t.ok h
theorem Wc {x:Option α} {p:Prop} {q:α→Prop} [t:T x p q] {f:α→Option β} {P:β→Prop} (hp:p) (h:∀r,q r→W (f r) P):W (x.bind f) P:=by
 obtain ⟨r,e,a⟩:=t.ok hp;obtain ⟨s,c,b⟩:=h r a;exact ⟨s,by rw [e]; exact c,b⟩
theorem We {x:Option α} {p:Prop} {q:α→Prop} [t:T x p q] {P:α→Prop} (hp:p) (h:∀r,q r→P r):W x P:=by
 obtain ⟨r,e,a⟩:=t.ok hp;exact ⟨r,e,h r a⟩
theorem Ws {r:α} {P:α→Prop} (h:P r):W (some r) P:=⟨r,rfl,h⟩
theorem Wi {c:Prop} [Decidable c] {a b:Option α} {P:α→Prop} (h:c→W a P) (h2:¬ c→W b P):W (if c then a else b) P:=by
 split
 ·exact h ‹_›
 ·exact h2 ‹_›
theorem zb5 (l:List α) (h:l≠[]):1≤l.length:=by
 cases l with
 | nil=>exact absurd rfl h
 | cons x l=>simp
theorem zAZ {n m b:Nat} (h:(n+m)*b≤140737488355328) (h2:n+m≤140737488355328):zf n m b=true:=by
 simp only [zf,Bool.and_eq_true,decide_eq_true_eq]; exact ⟨by omega,h⟩
theorem Wf {n m b:Nat} {a:Option α} {P:α→Prop} (c:(n+m)*b≤140737488355328∧n+m≤140737488355328) (h:W a P):W (if zf n m b then a else none) P:=by rw [if_pos (zAZ c.1 c.2)]; exact h
instance (l:List α) (i:Int):T (lAt l i) (0≤i∧i<l.length) (fun r=>r∈l∧lAt l i=some r∧dr l i=r::dr l (i+1)):=⟨fun ⟨h,h2⟩=>by
 have a:i.toNat<l.length:=by omega
 exact ⟨l[i.toNat],by simp [lAt,h,a],List.getElem_mem a,by simp [lAt,h,a],zHi h (by simp [a])⟩⟩
instance (l:List α) (i:Int) (x:α):T (zxe l i x) (0≤i∧i<l.length) (fun r=>r=l.set i.toNat x∧r.length=l.length∧(∀y∈r,y=x∨y∈l)∧∀k,k≠i→lAt r k=lAt l k):=⟨fun ⟨h,h2⟩ =>
 ⟨l.set i.toNat x,by simp [zxe,h,h2],rfl,by simp,fun y a=>(List.mem_or_eq_of_mem_set a).symm,fun k b=>by
  unfold lAt
  split
  ·rw [List.getElem?_set_ne (by omega)]
  ·rfl⟩⟩
theorem zcW {l:List α} {i:Int} {x:α} (h:lAt l i=some x):x∈l:=by
 unfold lAt at h
 split at h
 ·exact List.mem_of_getElem? h
 ·exact absurd h (by simp)
instance (l:List α) (h:Int):T (lTo l h) (0≤h∧h≤l.length) (fun r=>r=tk l h∧(r.length:Int)=h∧∀y∈r,y∈l):=⟨fun ⟨h1,h2⟩ =>
 ⟨l.take h.toNat,by simp [lTo,h1,h2],rfl,by simp; omega,fun y a=>List.mem_of_mem_take a⟩⟩
instance (l:List α) (h:Int):T (zoc l h) (0≤h∧h≤l.length) (fun r=>r=dr l h∧(r.length:Int)=l.length-h∧∀y∈r,y∈l):=⟨fun ⟨h1,h2⟩ =>
 ⟨l.drop h.toNat,by simp [zoc,h1,h2],rfl,by simp; omega,fun y a=>List.mem_of_mem_drop a⟩⟩
instance (l:List α) (i h:Int):T (zD3 l i h) (0≤i∧i≤h∧h≤l.length) (fun r=>r=sb l i h∧(r.length:Int)=h-i∧∀y∈r,y∈l):=⟨fun ⟨h0,h1,h2⟩ =>
 ⟨(l.take h.toNat).drop i.toNat,by simp [zD3,h0,h1,h2],rfl,by simp; omega,fun y a=>List.mem_of_mem_take (List.mem_of_mem_drop a)⟩⟩
end
instance (l:Str) (i:Int):T (sAt l i) (0≤i∧i<l.length) (fun r=>r∈l∧sAt l i=some r∧dr l i=r::dr l (i+1)):=⟨fun ⟨h,h2⟩=>by
 have a:i.toNat<l.length:=by omega
 exact ⟨l[i.toNat],by simp [sAt,h,a],List.getElem_mem a,by simp [sAt,h,a],zHi h (by simp [a])⟩⟩
instance (m n:Int):T (zi m n) (-9223372036854775808≤m+n∧m+n≤9223372036854775807) (fun r=>r=m+n):=⟨fun ⟨h1,h2⟩=>⟨_,by simp [zi,inI,h1,h2],rfl⟩⟩
instance (m n:Int):T (zbt m n) (-9223372036854775808≤m-n∧m-n≤9223372036854775807) (fun r=>r=m-n):=⟨fun ⟨h1,h2⟩=>⟨_,by simp [zbt,inI,h1,h2],rfl⟩⟩
instance (m n:Int):T (zIw m n) (-9223372036854775808≤m*n∧m*n≤9223372036854775807) (fun r=>r=m*n):=⟨fun ⟨h1,h2⟩=>⟨_,by simp [zIw,inI,h1,h2],rfl⟩⟩
instance (m n:Int):T (zD2 m n) (0≤m∧1≤n∧m≤9223372036854775807) (fun r=>0≤r∧r≤m∧r=m/n∧∀k,0≤k→k≤r→0≤k*n∧k*n≤m):=⟨fun ⟨h1,h2,d⟩=>by
 have a:=Int.ediv_nonneg h1 (by omega:0≤n);have b:=Int.ediv_le_self n h1
 exact ⟨m/n,by rw [zD2,if_pos ⟨h1,h2,by simp [inI]; omega⟩],a,b,rfl,fun k h0 c=>⟨Int.mul_nonneg h0 (by omega),Int.le_trans (Int.mul_le_mul_of_nonneg_right c (by omega)) (Int.ediv_mul_le m (by omega))⟩⟩⟩
instance (l m:Str):T (zci l m) (l.length+m.length≤9223372036854775807) (fun r=>r=l++m):=⟨fun h=>⟨_,by simp [zci,h],rfl⟩⟩
theorem zNm (l:Str) (k:Int) (h:(l.length:Int)=k):l=[]↔k=0:=by
 rw [← List.length_eq_zero_iff]; omega
instance (l:Str) (h:Int):T (sTo l h) (0≤h∧h≤l.length) (fun r=>r=tk l h∧(r.length:Int)=h∧(r=[]↔h=0)):=⟨fun ⟨h1,h2⟩=>by
 have e:((l.take h.toNat).length:Int)=h:=by simp; omega
 exact ⟨l.take h.toNat,by simp [sTo,h1,h2],rfl,e,zNm _ _ e⟩⟩
instance (l:Str) (h:Int):T (zar l h) (0≤h∧h≤l.length) (fun r=>r=dr l h∧(r.length:Int)=l.length-h∧(r=[]↔h=l.length)):=⟨fun ⟨h1,h2⟩=>by
 have e:((l.drop h.toNat).length:Int)=l.length-h:=by simp; omega
 exact ⟨l.drop h.toNat,by simp [zar,h1,h2],rfl,e,by rw [zNm _ _ e]; omega⟩⟩
instance (l:Str) (i h:Int):T (zlF l i h) (0≤i∧i≤h∧h≤l.length) (fun r=>r=sb l i h∧(r.length:Int)=h-i∧(r=[]↔i=h)):=⟨fun ⟨h0,h1,h2⟩=>by
 have e:(((l.take h.toNat).drop i.toNat).length:Int)=h-i:=by simp; omega
 exact ⟨(l.take h.toNat).drop i.toNat,by simp [zlF,h0,h1,h2],rfl,e,by rw [zNm _ _ e]; omega⟩⟩
theorem bt {β:Type} [BEq β] [LawfulBEq β] {f:UInt8→Option β} {g:UInt8→β} (h:(List.range 256).all (fun n=>f (UInt8.ofNat n)==some (g (UInt8.ofNat n)))=true) (b:UInt8):T (f b) True (fun r=>r=g b) :=
 ⟨fun _=>⟨g b,by have:=zqh (p:=fun b=>f b==some (g b)) h b; simpa using this,rfl⟩⟩
def gd (f:UInt8→Option Bool) (b:UInt8):Bool:=(f b).getD false
end Go.Dm
