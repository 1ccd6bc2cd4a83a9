/-
 Walks by evaluation: calls. Over any program.
 Walks by evaluation: calls, and operations as a whole. Over any program.
 Walks by evaluation: regions. Over any program.
 Walks by evaluation: regions that draw their order. Over any program.
-/
import Derived.Test.YtkmnihnifdcigaaGreatDoorYRx
import Derived.Test.YtkmnihnifdcigaaGreatDoorP0
set_option linter.unusedVariables false
set_option linter.unusedSimpArgs false
section
namespace Go.Rk
open Go.RowKit Go.Dm Go.Dk
variable {τ:Nat→Type}

section
variable (P:Program) (G:Sig τ) (h:Fz) (w:World)
def TrX:(t:Ty)→t.den τ→Value→List Nat→Prop
 | .st n,x,v,fp=>∃vs,v = .agg ⟨vs⟩∧TrL P G h w (G.fs n) (G.dtor n x) vs fp
 | .pr _ _,_,_,fp=>fp=[]
 | .sn te e,x,v,fp=>(x=none∧v = .slice none 0 0∧fp=[])∨∃xs,x=some xs∧Tr P G h w (.so te e) xs v fp
 | t,x,v,fp=>Tr P G h w t x v fp
inductive TrXs:(ts:List Ty)→DP τ ts→List Value→List Nat→Prop
 | nil:TrXs [] () [] []
 | cons (t:Ty) (ts:List Ty) (p:DP τ (t::ts)) (v:Value) (vs:List Value) (f f':List Nat) (h1:TrX P G h w t p.hd v f) (h2:TrXs ts p.tl vs f') (hd:∀b∈f,b∉f'):TrXs (t::ts) p (v::vs) (f++f')
end
def zzk:List Value→Value
 | [v]=>v
 | vs => .tuple ⟨vs⟩
structure Left (h:Fz) (w:World) (fp:List Nat) (h':Fz) (w':World) (fp':List Nat):Prop where
 os:w'.os=w.os
 tape:w'.tape=w.tape
 output:w'.output=w.output
 size:w.heap.size≤w'.heap.size
 frame:∀b,b<w.heap.size→b∉fp→w'.heap[b]? = w.heap[b]?
 le:h.le h'
 on:h'.on w'
 new:∀b,h' b≠none→h b≠none∨b∈fp∨w.heap.size≤b
 own:∀b∈fp',h' b=none∧(b∈fp∨w.heap.size≤b)
def cellV (v:Value):Nat→Value
 | 0=>v
 | i+1=>match v with
  | .agg ⟨ws⟩=>ws.getD i undef
  | _=>undef
def bkV (vs:List Value) (j:Nat):Value:=cellV (vs.getD (j%32) undef) (j/32)
def COk (P:Program) (G:Sig τ) (f:FuncId) (k:Con τ):Prop :=
 zcD P f∧∀(h:Fz) (w:World) (p:DP τ k.ps) (r:DP τ k.rs) (vs:List Value) (fp:List Nat),zsb P G h→zDA P G→h.on w→TrXs P G h w k.ps p vs fp→(∀b∈fp,h b=none)→k.m p=some r →
  Calls P f vs.toArray w fun e w'=>∃h' rs fp',e = .returned (zzk (rs.take k.nr))∧Left h w fp h' w' fp'∧TrXs P G h' w' k.rs r rs fp'∧rs.drop k.nr=k.bk.map (bkV vs)
section
variable {P:Program} {G:Sig τ} {w0 w w':World} {h0 h h' H:Fz} {F:List Nat} {L L' L2:Hp τ} {ν ν':Vn τ} {φ φ':Nat→List Nat}
theorem TrX.plain {t:Ty} {x:t.den τ} {v:Value} {fp:List Nat} (hp:Tr P G h w t x v fp) (h1:∀n,t ≠ .st n):TrX P G h w t x v fp:=by
 cases t with
 | st n=>exact (h1 n rfl).elim
 | pr a b=>cases hp with|fz _ _ _ _ hr=>cases hr
 | sn te e=>cases hp with|fz _ _ _ hz _=>cases hz
 | _=>exact hp
theorem res_st {n:Nat} {c:CV τ}:∀d,res G L d (.st n) c=none
 | 0=>rfl
 | d+1=>by unfold res; dsimp only; unfold lok; rfl
theorem zJu (M:Mem P G w0 h0 F L2 w ν h φ) (hH:h.le H) {t:Ty} {A:XV τ} {x:t.den τ} {l m:List Nat} {v:Value} (k:resX G L t A=some (x,l,m)) (ha:∀i∈l,lk L2 i=lk L i) (hm:zbR L2 L φ H w m) (hn:nod l=true) (hv:XOk P G h ν A v):TrX P G H w t x v (fps φ l):=by
 unfold resX at k
 split at k
 ·rename_i n cs
  split at k
  ·rename_i q l' m' hq
   cases k;obtain ⟨vs,rfl,hc⟩:=hv;refine ⟨vs,rfl,?_⟩;rw [G.dc];exact zDu M (zDv M hH depth) hq ha hm hn hc
  ·cases k
 ·rename_i te e c
  split at k
  ·cases k;exact .inl ⟨rfl,hv,rfl⟩
  ·split at k
   ·rename_i x' l' m' hx
    cases k;exact .inr ⟨_,rfl,zDv M hH _ _ _ _ _ _ _ hx ha hm hn hv⟩
   ·cases k
 ·rename_i c
  refine TrX.plain (zDv M hH _ _ _ _ _ _ _ k ha hm hn hv) ?_;rintro n rfl;rw [res_st] at k; cases k
 ·split at k
  ·cases k; rfl
  ·cases k
 ·cases k
theorem zzl (M:Mem P G w0 h0 F L2 w ν h φ) (hH:h.le H):∀{ts:List Ty} {As:List (XV τ)} {p:DP τ ts} {l m:List Nat} {vs:List Value},zsc G L ts As=some (p,l,m)→(∀i∈l,lk L2 i=lk L i)→zbR L2 L φ H w m→nod l=true →
  vs.length=As.length→(∀(i:Nat) (A:XV τ) (v:Value),As[i]? = some A→vs[i]? = some v→XOk P G h ν A v)→TrXs P G H w ts p vs (fps φ l)
 | [],[],p,l,m,vs,e,_,_,_,hl,_=>by
  cases e;have:vs=[]:=List.eq_nil_of_length_eq_zero hl;subst this; exact .nil
 | t :: ts,A::As,p,l,m,vs,e,ha,hm,hn,hl,hv=>by
  unfold zsc at e
  split at e
  ·rename_i x l1 m1 hx
   split at e
   ·rename_i q l2 m2 hq
    cases e;obtain ⟨n1,n2,n3⟩:=zvC hn
    cases vs with
    | nil=>simp at hl
    | cons v vs =>
     rw [zfj];refine .cons t ts _ v vs _ _ ?_ ?_ (M.fps_dis n3)
     ·rw [DP.hd_mk]; exact zJu M hH hx (fun i hi=>ha i (List.mem_append_left _ hi)) hm.app.1 n1 (hv 0 A v rfl rfl)
     ·rw [DP.tl_mk]; exact zzl M hH hq (fun i hi=>ha i (List.mem_append_right _ hi)) hm.app.2 n2 (by simpa using hl) (fun i A v h1 h2=>hv (i+1) A v h1 h2)
   ·cases e
  ·cases e
 | [],_::_,_,_,_,_,e,_,_,_,_,_=>by cases e
 | _::_,[],_,_,_,_,e,_,_,_,_,_=>by cases e

structure Adds (P:Program) (G:Sig τ) (w0:World) (h0:Fz) (F:List Nat) (L:Hp τ) (w:World) (ν:Vn τ) (h:Fz) (φ:Nat→List Nat) (U:Hp τ) (nid nid':Nat) (fp:List Nat) (ν':Vn τ) (φ':Nat→List Nat):Prop where
 mem:Mem P G w0 h0 F (U++L) w ν' h φ'
 le:ν.le ν'
 fresh:zdq ν ν' nid nid'
 sub:∀j b,b∈φ' j→b∈φ j∨b∈fp
theorem Grew.adds {U:Hp τ} {nid nid':Nat} {fp:List Nat} (g:Grew P G w0 h0 F L w ν h φ U nid nid' fp ν' φ'):Adds P G w0 h0 F L w ν h φ U nid nid' fp ν' φ' :=
 ⟨g.mem,g.le,g.fresh,fun j b hb=>by
  by_cases e:nid≤j∧j<nid'
  ·exact .inr (g.fp j b e.1 e.2 hb)
  ·rw [(g.same j e).2] at hb; exact .inl hb⟩
theorem zhX.adds {U:Hp τ} {nid nid':Nat} {fp fp':List Nat} (g:Adds P G w0 h0 F L w ν h φ U nid nid' fp ν' φ') (hf:zhX w0 h F φ fp') (hd:∀b∈fp',b∉fp):zhX w0 h F φ' fp':=fun b hb =>
 ⟨fun i hi=>by
  rcases g.sub i b hi with h1|h1
  ·exact (hf b hb).1 i h1
  ·exact hd b hb h1,(hf b hb).2⟩
theorem Adds.seq {U U':Hp τ} {a b c:Nat} {fp fp':List Nat} {ν'':Vn τ} {φ'':Nat→List Nat} (g:Adds P G w0 h0 F L w ν h φ U' b c fp' ν' φ') (g':Adds P G w0 h0 F (U'++L) w ν' h φ' U a b fp ν'' φ'') (h1:a≤b) (h2:b≤c):Adds P G w0 h0 F L w ν h φ (U++U') a c (fp++fp') ν'' φ'' :=
 ⟨by rw [List.append_assoc]; exact g'.mem,g.le.trans g'.le,fun i e1 e2=>by
  by_cases e:ν' i=none
  ·have:=g'.fresh i e e2; omega
  ·have:=g.fresh i e1 e; omega,fun j b hb=>by
  rcases g'.sub j b hb with h3|h3
  ·rcases g.sub j b h3 with h4|h4
   ·exact .inl h4
   ·exact .inr (List.mem_append_right _ h4)
  ·exact .inr (List.mem_append_left _ h3)⟩
theorem zvh {t:Ty} {x:t.den τ} {nid nid':Nat} {v:XV τ} {U:Hp τ} (e:zIc G t x nid=(v,U,nid')):nid≤nid':=by
 cases t
 case st n =>
  have e:zIb G _ x nid=(v,U,nid'):=e;unfold zIb at e
  split at e
  rename_i h1
  cases e;exact zkr (zgw G depth) h1
 case pr a b=>cases e; exact Nat.le_refl _
 case sn te e0=>cases e; exact Nat.le_refl _
 all_goals
  have e:zIa G _ x nid=(v,U,nid'):=e;unfold zIa at e
  split at e
  rename_i h1
  cases e;exact zgw G depth _ _ _ _ _ _ h1
theorem zOr {t:Ty} {x:t.den τ} {nid nid':Nat} {v:XV τ} {U:Hp τ} (e:zIc G t x nid=(v,U,nid')):∀j∈kys U,nid≤j∧j<nid':=by
 cases t
 case st n =>
  have e:zIb G _ x nid=(v,U,nid'):=e;unfold zIb at e
  split at e
  rename_i h1
  cases e;exact zwA (zgw G depth) (zy7 G depth) h1
 case pr a b=>cases e; intro j hj; cases hj
 case sn te e0=>cases e; intro j hj; cases hj
 all_goals
  have e:zIa G _ x nid=(v,U,nid'):=e;unfold zIa at e
  split at e
  rename_i h1
  cases e;exact zy7 G depth _ _ _ _ _ _ h1
theorem zyV (M:Mem P G w0 h0 F L w ν h φ) {t:Ty} {x:t.den τ} {nid nid':Nat} {A:XV τ} {U:Hp τ} {v:Value} {fp:List Nat} (e:zIc G t x nid=(A,U,nid')) (ht:TrX P G h w t x v fp) (hn:∀i,nid≤i→i<nid'→ν i=none) (hf:zhX w0 h F φ fp) :
  ∃ν' φ',Adds P G w0 h0 F L w ν h φ U nid nid' fp ν' φ'∧XOk P G h ν' A v:=by
 have flat:∀{t:Ty} {x:t.den τ} {c:CV τ},zsd G depth t x nid=(c,U,nid')→Tr P G h w t x v fp→∃ν' φ',Adds P G w0 h0 F L w ν h φ U nid nid' fp ν' φ'∧XOk P G h ν' (.c c) v:=by
  intro t x c h1 ht;obtain ⟨ν', φ',g,hc⟩:=zDw depth _ _ _ _ _ _ _ _ _ _ _ h1 ht M hn hf;exact ⟨ν', φ',g.adds,hc⟩
 cases t
 case st n =>
  have e:zIb G _ x nid=(A,U,nid'):=e;unfold zIb at e
  split at e
  rename_i cs U1 n1 h1
  cases e;obtain ⟨vs,rfl,hl⟩:=ht;obtain ⟨ν', φ',g,hc⟩:=zy0 (zgw G depth) (zDw depth) h1 hl M hn hf;exact ⟨ν', φ',g.adds,vs,rfl,hc⟩
 case pr a b =>
  cases e;exact ⟨ν, φ,(Grew.nil M _ fp).adds,trivial⟩
 case sn te e0 =>
  cases e;exact ⟨ν, φ,(Grew.nil M _ fp).adds,trivial⟩
 all_goals
  have e:zIa G _ x nid=(A,U,nid'):=e;unfold zIa at e
  split at e
  rename_i h1
  cases e;exact flat h1 ht
theorem zzm (M:Mem P G w0 h0 F L w ν h φ) {i n nid nid':Nat} {x:τ n} {U:Hp τ} {v:Value} {q:Option ((e:Ty) × List (e.den τ))} {fp:List Nat} (e:zks G i n x nid=(U,nid')) (hg:lk L i = .gone) (hi:ν i=some (v,q)) (ht:Tr P G h w (.po n) x v fp) (hf:zhX w0 h F φ fp)
  (hn:∀i,nid≤i→i<nid'→ν i=none):∃ν' φ' b,Adds P G w0 h0 F L w ν h φ U nid nid' fp ν' φ'∧v=ptr b 0:=by
 obtain ⟨_, ν', φ',t,cs,b,h1,h2,h3,h4,_,h5,h6⟩:=zHv M e hg hi ht hf hn;refine ⟨ν', φ',b,⟨h1,h2,h3,fun j b hb=>?_⟩,h4⟩
 by_cases hj:j=i∨nid≤j∧j<nid'
 ·exact .inr (h6 j b hj hb)
 ·rw [h5 j (fun a=>hj (.inr a)) (fun a=>hj (.inl a))] at hb;exact .inl hb
theorem zFI {i n nid nid':Nat} {x:τ n} {U:Hp τ} (e:zks G i n x nid=(U,nid')):nid≤nid':=by
 unfold zks at e
 split at e
 rename_i h1
 cases e;exact zkr (zgw G depth) h1
theorem Mem.gone_of (M:Mem P G w0 h0 F L w ν h φ) {i:Nat} (hi:ν i=none):lk L i = .gone:=by
 have hr:=M.res i;rw [hi] at hr
 cases e:lk L i with
 | gone=>rfl
 | blk t cs=>rw [e] at hr; obtain ⟨_,_,_,h,_⟩:=hr; cases h
 | row t e' xs k=>rw [e] at hr; obtain ⟨_,_,_,_,h,_⟩:=hr; cases h
 | fz e' xs=>rw [e] at hr; obtain ⟨_,_,h,_⟩:=hr; cases h
 | tree n x=>rw [e] at hr; obtain ⟨_,_,h,_⟩:=hr; cases h
 | nilp=>rw [e] at hr; obtain ⟨_,h,_⟩:=hr; cases h
 | clo f bs cs=>rw [e] at hr; obtain ⟨_,_,_,h,_⟩:=hr; cases h
 | sb i' n=>rw [e] at hr; obtain ⟨_,_,_,_,h,_⟩:=hr; cases h
 | vw i' k e' lo xs=>rw [e] at hr; obtain ⟨_,_,_,_,_,_,_,_,_,_,_,_,_,h,_⟩:=hr; cases h
 | mp l=>rw [e] at hr; obtain ⟨_,_,h,_⟩:=hr; cases h

def zmE (L:Hp τ) (ν:Vn τ):List (Option (Option Nat))→List Value→Prop
 | some (some i)::rs,v::vs=>lk L i = .gone∧(∃q, ν i=some (v,q))∧some (some i)∉rs∧zmE L ν rs vs
 | some none::rs,v::vs=>v = .pointer none∧zmE L ν rs vs
 | none::rs,_::vs=>zmE L ν rs vs
 | _,_=>True
def outs:List (Option (Option Nat))→List Value→List Value
 | none::rs,v::vs=>v::outs rs vs
 | some _::rs,_::vs=>outs rs vs
 | _,_=>[]
def zFJ (P:Program) (G:Sig τ) (h:Fz) (ν:Vn τ):List (XV τ)→List Value→Prop
 | [],vs=>vs=[]
 | x::xs,vs=>∃v us,vs=v::us∧XOk P G h ν x v∧zFJ P G h ν xs us
theorem zFJ.le (hh:h.le h') (hν:ν.le ν'):∀{xs:List (XV τ)} {vs:List Value},zFJ P G h ν xs vs→zFJ P G h' ν' xs vs
 | [],_,e=>e
 | _::_,_,⟨v,us,e,h1,h2⟩=>⟨v,us,e,h1.le hh hν,h2.le hh hν⟩
theorem zOs {ρ:Type} {r:ρ} {a:Option (Option Nat)} {t:Ty} {x:t.den τ} {nid:Nat} {k:Option (XV τ)→Hp τ→Nat→Option ρ} (e:resH G a t x nid k=some r):∃x0 U n1,k x0 U n1=some r∧nid≤n1∧(∀j∈kys U,some (some j)=a∨nid≤j∧j<n1) ∧
  ∀(L:Hp τ) (w:World) (ν:Vn τ) (h:Fz) (φ:Nat→List Nat) (v:Value) (fp:List Nat),Mem P G w0 h0 F L w ν h φ→TrX P G h w t x v fp→(∀i,nid≤i→i<n1→ν i=none)→zhX w0 h F φ fp→(∀i,a=some (some i)→lk L i = .gone∧∃q, ν i=some (v,q))→(a=some none→v = .pointer none) →
   ∃ν' φ',Adds P G w0 h0 F L w ν h φ U nid n1 fp ν' φ'∧((a=none∧∃y,x0=some y∧XOk P G h ν' y v)∨(a≠none∧x0=none)):=by
 unfold resH at e
 split at e
 ·rename_i i n x
  obtain ⟨U,n1,h1⟩:∃U n1,zks G i n x nid=(U,n1):=⟨_,_,rfl⟩;rw [h1] at e;refine ⟨none,U,n1,e,zFI h1,fun j hj=>?_,fun L w ν h φ v fp M ht hn hf ha _=>?_⟩
  ·rcases zHw h1 j hj with h2|h2
   ·exact .inl (by rw [h2])
   ·exact .inr h2
  ·obtain ⟨hg,q,hi⟩:=ha i rfl;obtain ⟨ν', φ',b,A,_⟩:=zzm M h1 hg hi ht hf hn;exact ⟨ν', φ',A, .inr ⟨by simp,rfl⟩⟩
 ·rename_i i n x
  refine ⟨none,_,_,e,Nat.le_refl _,fun j hj=>?_,fun L w ν h φ v fp M ht hn hf ha _=>?_⟩
  ·simp [kys] at hj;subst hj; exact .inl rfl
  ·obtain ⟨hg,q,hi⟩:=ha i rfl;refine ⟨ν,_,⟨M.put (i:=i) hg (.tree n x) (fp:=fp) ⟨v,q,hi,ht⟩ hf,Vn.le.refl _,zdq.refl _ _ _,fun j b hb=>?_⟩, .inr ⟨by simp,rfl⟩⟩
   by_cases hj:j=i
   ·subst hj; rw [zab] at hb; exact .inr hb
   ·rw [za2 _ _ hj] at hb; exact .inl hb
 ·rename_i i te ee x
  refine ⟨none,_,_,e,Nat.le_succ _,fun j hj=>?_,fun L w ν h φ v fp M ht hn hf ha _=>?_⟩
  ·simp [kys] at hj;subst hj; exact .inl rfl
  ·obtain ⟨hg,q,hi⟩:=ha i rfl;have hn':=hn nid (Nat.le_refl _) (Nat.lt_succ_self _);have hle:ν.le (up1 ν nid (some (v,some ⟨ee,x⟩))):=zbw hn';have ht:Tr P G h w (.so te ee) x v fp:=ht
   cases ht with
   | fz _ _ _ hz _=>cases hz
   | so _ _ _ _ vs ho hr =>
    refine ⟨up1 ν nid (some (v,some ⟨ee,x⟩)),_,⟨(M.ext hle).put (i:=i) hg (.row te ee x nid) ⟨v,q,vs,v,hle _ _ hi,rfl,ho,hr,zab _ _ _⟩ hf,hle,fun j e1 e2=>?_,fun j b hb=>?_⟩, .inr ⟨by simp,rfl⟩⟩
    ·by_cases hj:j=nid
     ·omega
     ·rw [za2 _ _ hj] at e2;exact (e2 e1).elim
    ·by_cases hj:j=i
     ·subst hj; rw [zab] at hb; exact .inr hb
     ·rw [za2 _ _ hj] at hb; exact .inl hb
 ·refine ⟨none,_,_,e,Nat.le_refl _,(fun j hj=>by cases hj),fun L w ν h φ v fp M ht hn hf ha _=>⟨ν, φ,(Grew.nil M _ _).adds, .inr ⟨by simp,rfl⟩⟩⟩
 ·refine ⟨none,_,_,e,Nat.le_refl _,(fun j hj=>by cases hj),fun L w ν h φ v fp M ht hn hf ha _=>⟨ν, φ,(Grew.nil M _ _).adds, .inr ⟨by simp,rfl⟩⟩⟩
 ·rename_i n x
  cases x with
  | none =>
   refine ⟨_,_,_,e,Nat.le_refl _,(fun j hj=>by cases hj),fun L w ν h φ v fp M ht hn hf ha _=>⟨ν, φ,(Grew.nil M _ _).adds, .inl ⟨rfl,_,rfl,?_⟩⟩⟩;exact (Tr.pn_none ht).1
  | some y =>
   obtain ⟨U,n1,h1⟩:∃U n1,zks G nid n y (nid+1)=(U,n1):=⟨_,_,rfl⟩;simp only [optK,h1] at e;have hle:=zFI h1;refine ⟨_,_,_,e,by omega,fun j hj=>?_,fun L w ν h φ v fp M ht hn hf ha _=>?_⟩
   ·rcases zHw h1 j hj with h2|h2
    ·exact .inr (by omega)
    ·exact .inr (by omega)
   ·have hn':=hn nid (Nat.le_refl _) (by omega)
    have hne:∀i,nid+1≤i→i<n1→up1 ν nid (some (v,none)) i=none:=fun i a b=>by rw [za2 _ _ (by omega)]; exact hn i (by omega) b
    obtain ⟨ν', φ',b,A,rfl⟩:=zzm (M.ext (zbw (x:=some (v,none)) hn')) h1 (M.gone_of hn') (zab _ _ _) (Tr.pn_some ht) hf hne;refine ⟨ν', φ',⟨A.mem,(zbw hn').trans A.le,fun i e1 e2=>?_,A.sub⟩, .inl ⟨rfl,_,rfl,some ⟨b,0,none⟩,none,A.le _ _ (zab _ _ _),rfl,fun _=>⟨b,rfl⟩⟩⟩
    by_cases hi:i=nid
    ·omega
    ·have:=A.fresh i (by rw [za2 _ _ hi]; exact e1) e2; omega
 ·rename_i te ee x
  cases x with
  | none =>
   refine ⟨_,_,_,e,Nat.le_refl _,(fun j hj=>by cases hj),fun L w ν h φ v fp M ht hn hf ha _=>⟨ν, φ,(Grew.nil M _ _).adds, .inl ⟨rfl,_,rfl,?_⟩⟩⟩
   rcases ht with ⟨_,h1,_⟩|⟨xs,h1,_⟩
   ·exact h1
   ·cases h1
  | some y =>
   simp only [optK] at e;refine ⟨_,_,_,e,Nat.le_succ _,fun j hj=>?_,fun L w ν h φ v fp M ht hn hf ha _=>?_⟩
   ·simp [kys] at hj;subst hj; exact .inr ⟨Nat.le_refl _,Nat.lt_succ_self _⟩
   ·have ht:Tr P G h w (.so te ee) y v fp:=by
     rcases ht with ⟨h1,_⟩|⟨xs,h1,h2⟩
     ·cases h1
     ·cases h1; exact h2
    obtain ⟨ν', φ',A,hx⟩:=zyV (t := .so te ee) (nid:=nid) M rfl ht hn hf;exact ⟨ν', φ',A, .inl ⟨rfl,_,rfl,hx⟩⟩
 ·obtain ⟨v,U,n1,h1⟩:∃v U n1,zIc G t x nid=(v,U,n1):=⟨_,_,_,rfl⟩;rw [h1] at e;refine ⟨_,_,_,e,zvh h1,fun j hj => .inr (zOr h1 j hj),fun L w ν h φ v fp M ht hn hf ha _=>?_⟩;obtain ⟨ν', φ',A,hx⟩:=zyV M h1 ht hn hf;exact ⟨ν', φ',A, .inl ⟨rfl,_,rfl,hx⟩⟩
 ·cases e
theorem zOt {ρ:Type} {r:ρ}:∀(ts:List Ty) (rs:List (Option (Option Nat))) (p:DP τ ts) (nid:Nat) (K0:List (XV τ)→Hp τ→Nat→Option ρ),resK G rs ts p nid K0=some r→∃l U nid',K0 l U nid'=some r∧nid≤nid'∧(∀j∈kys U,some (some j)∈rs∨nid≤j∧j<nid') ∧
  ∀(L:Hp τ) (w:World) (ν:Vn τ) (h:Fz) (φ:Nat→List Nat) (vals:List Value) (fp:List Nat),Mem P G w0 h0 F L w ν h φ→TrXs P G h w ts p vals fp→(∀i,nid≤i→i<nid'→ν i=none)→zhX w0 h F φ fp→zmE L ν rs vals →
   ∃ν' φ',Adds P G w0 h0 F L w ν h φ U nid nid' fp ν' φ'∧zFJ P G h ν' l (outs rs vals):=by
 intro ts
 induction ts with
 | nil =>
  intro rs p nid K0 e;refine ⟨[],[],nid,?_,Nat.le_refl _,(fun j hj=>by cases hj),fun L w ν h φ vals fp M ht hn hf hr=>?_⟩
  ·unfold resK hi at e; exact e
  ·cases ht;refine ⟨ν, φ,(Grew.nil M _ _).adds,?_⟩
   cases rs with
   | nil=>rfl
   | cons a rs=>cases a<;>rfl
 | cons t ts ih =>
  intro rs p nid K0 e
  cases rs with
  | nil=>cases e
  | cons a0 rs' =>
   unfold resK at e;obtain ⟨x0,U1,n1,e1,hle,hky,hdo⟩:=zOs (P:=P) (w0:=w0) (h0:=h0) (F:=F) e;obtain ⟨l,U,nid',g1,g2,g3,g4⟩:=ih rs' p.tl n1 _ e1;refine ⟨_,_,nid',g1,by omega,fun j hj=>?_,fun L w ν h φ vals fp M ht hn hf hr=>?_⟩
   ·simp only [kys,List.map_append] at hj
    rcases List.mem_append.1 hj with hj|hj
    ·rcases hky j hj with h1|h1
     ·exact .inl (h1▸List.mem_cons_self ..)
     ·exact .inr (by omega)
    ·rcases g3 j hj with h1|h1
     ·exact .inl (List.mem_cons_of_mem _ h1)
     ·exact .inr (by omega)
   ·cases ht with
    | cons _ _ _ v vs f f' t1 t2 hd =>
     have hr2:zmE L ν rs' vs:=by
      cases a0 with
      | none=>exact hr
      | some a1 =>
       cases a1 with
       | none=>exact hr.2
       | some i=>exact hr.2.2.2
     obtain ⟨ν1, φ1,A1,x1⟩:=g4 L w ν h φ vs f' M t2 (fun i a b=>hn i (by omega) b) (hf.sub fun b hb=>List.mem_append_right _ hb) hr2
     have hν1:∀i,nid≤i→i<n1→ν1 i=none:=by
      intro i a b
      cases e:ν1 i with
      | none=>rfl
      | some y =>
       have:=A1.fresh i (hn i a (by omega)) (by rw [e]; simp);omega
     obtain ⟨ν2, φ2,A2,x2⟩:=hdo (U++L) w ν1 h φ1 v f A1.mem t1 hν1 (zhX.adds A1 (hf.sub fun b hb=>List.mem_append_left _ hb) hd) (fun i ha=>by
      subst ha;obtain ⟨q1,⟨q,q2⟩,q3,_⟩:=hr;refine ⟨?_,q,A1.le _ _ q2⟩;rw [zcU]
      ·exact q1
      ·intro hi
       rcases g3 i hi with h1|h1
       ·exact q3 h1
       ·rw [hn i (by omega) h1.2] at q2; cases q2) (fun ha=>by subst ha; exact hr.1)
     refine ⟨ν2, φ2,Adds.seq A1 A2 hle g2,?_⟩
     rcases x2 with ⟨rfl,x,rfl,hx⟩|⟨ha,rfl⟩
     ·exact ⟨v,_,rfl,hx,x1.le (Fz.le.refl _) A2.le⟩
     ·cases a0 with
      | none=>exact (ha rfl).elim
      | some a1=>exact x1.le (Fz.le.refl _) A2.le

theorem zOu {t:Ty} {x:t.den τ} {v:Value} (hs:zhn t=true) (hr:Rp P G h t x v):Rp P G h' t x v:=by
 cases hr<;>first|(cases hs; done)|constructor
theorem zJv:∀{ts:List Ty} {q:DP τ ts} {vs:List Value},RpL P G h ts q vs→ts.all zhn=true→RpL P G h' ts q vs
 | _,_,_, .nil,_ => .nil
 | _,_,_, .cons t ts q v vs h1 h2,hs=>by
  simp only [List.all_cons,Bool.and_eq_true] at hs;exact .cons t ts q v vs (zOu hs.1 h1) (zJv h2 hs.2)
theorem zJw:∀{e:Ty} {xs:List (e.den τ)} {vs:List Value},RpR P G h e xs vs→(ets G e).all zhn=true→RpR P G h' e xs vs
 | _,_,_, .nil e,_ => .nil e
 | _,_,_, .cons e x xs vs ws h1 h2,hs => .cons e x xs vs ws (zJv h1 hs) (zJw h2 hs)
theorem zyW {f:Ty→Bool} (hf:∀t x v fp,f t=false→Tr P G h w t x v fp→Tr P G h' w t x v fp):∀{ts:List Ty} {q:DP τ ts} {vs:List Value} {fp:List Nat},TrL P G h w ts q vs fp→ts.any f=false→TrL P G h' w ts q vs fp
 | _,_,_,_, .nil,_ => .nil
 | _,_,_,_, .cons t ts q v vs f1 f2 h1 h2 hd,hs=>by
  simp only [List.any_cons,Bool.or_eq_false_iff] at hs;exact .cons t ts q v vs f1 f2 (hf _ _ _ _ hs.1 h1) (zyW hf h2 hs.2) hd
theorem zzn:∀(d:Nat) (t:Ty) (x:t.den τ) (v:Value) (fp:List Nat),zmu G d t=false→Tr P G h w t x v fp→Tr P G h' w t x v fp
 | 0,t,x,v,fp,hs,_=>by cases hs
 | d+1,t,x,v,fp,hs,ht=>by
  unfold zmu at hs
  cases ht with
  | fz _ _ _ hz hr =>
   refine .fz t x v hz ?_
   cases hr<;>first|(cases hs; done)|(cases hz; done)|(constructor; done)|exact .fn _ _ ‹_›
  | so te e xs _ vs ho hr =>
   refine .so te e xs v vs ho (zJw hr ?_);simpa using hs
  | po n y b vs fp hb hl hn hm=>exact .po n y b vs fp hb (zyW (zzn d) hl hs) hn hm
  | pn0 n=>exact .pn0 n
  | pn1 n y _ _ hp =>
   refine .pn1 n y v fp ?_
   cases hp with
   | fz _ _ _ hz _=>cases hz
   | po _ _ b vs fp hb hl hn hm=>exact .po n y b vs fp hb (zyW (zzn d) hl hs) hn hm
theorem zOv {d:Nat} {t:Ty} {x:t.den τ} {v:Value} {fp:List Nat} (hs:zmu G (d+1) t=false) (ht:TrX P G h w t x v fp):TrX P G h' w t x v fp:=by
 cases t
 case st n =>
  obtain ⟨vs,rfl,hl⟩:=ht;unfold zmu at hs;exact ⟨vs,rfl,zyW (zzn d) hl hs⟩
 case pr a b=>exact ht
 case sn te e =>
  rcases ht with h1|⟨xs,h1,h2⟩
  ·exact .inl h1
  ·exact .inr ⟨xs,h1,zzn (d+1) (.so te e) _ _ _ hs h2⟩
 all_goals exact zzn (d+1) _ _ _ _ hs ht
theorem zFK {d:Nat}:∀{ts:List Ty} {q:DP τ ts} {vs:List Value} {fp:List Nat},TrXs P G h w ts q vs fp→ts.any (zmu G (d+1))=false→TrXs P G h' w ts q vs fp
 | _,_,_,_, .nil,_ => .nil
 | _,_,_,_, .cons t ts q v vs f1 f2 h1 h2 hd,hs=>by
  simp only [List.any_cons,Bool.or_eq_false_iff] at hs;exact .cons t ts q v vs f1 f2 (zOv hs.1 h1) (zFK h2 hs.2) hd

theorem zzo {rs:List (Option (Option Nat))} (hr:∀a∈rs,a≠none):∀(n:Nat) (vs:List Value),outs (zzG n rs) vs=vs.take n
 | 0,vs=>by
  have:∀(rs:List (Option (Option Nat))) (vs:List Value),(∀a∈rs,a≠none)→outs rs vs=[]:=by
   intro rs
   induction rs with
   | nil=>intro vs _; rfl
   | cons a rs ih =>
    intro vs h
    cases a with
    | none=>exact (h none (List.mem_cons_self ..) rfl).elim
    | some a =>
     cases vs with
     | nil=>rfl
     | cons v vs=>exact ih vs fun b hb=>h b (List.mem_cons_of_mem _ hb)
  rw [List.take_zero]; exact this rs vs hr
 | n+1,[]=>rfl
 | n+1,v::vs=>by
  show v::outs (zzG n rs) vs=_;rw [zzo hr n vs,List.take_succ_cons]
theorem zp8 {avs:List (XV τ)}:∀{js:List Nat} {rs:List (Option (Option Nat))},roots avs js=some rs→∀a∈rs,a≠none
 | [],rs,e,a,ha=>by cases e; cases ha
 | j :: js,rs,e,a,ha=>by
  unfold roots at e
  split at e
  ·rename_i rs' h1
   split at e
   ·split at e
    ·cases e
     rcases List.mem_cons.1 ha with rfl|ha
     ·simp
     ·exact zp8 h1 a ha
    ·cases e
     rcases List.mem_cons.1 ha with rfl|ha
     ·simp
     ·exact zp8 h1 a ha
    ·cases e
     rcases List.mem_cons.1 ha with rfl|ha
     ·simp
     ·exact zp8 h1 a ha
    ·cases e
   ·cases e
  ·cases e
theorem zvi {v:XV τ} {u:Value} (hv:XOk P G h ν v u):∀{i:Nat} {c:CV τ},zM0 v i=some c→zcT P G h ν c (cellV u i)
 | 0,c,e=>by
  cases v with
  | c c'=>have e:some c'=some c:=e; cases e; exact hv
  | _=>cases e
 | i+1,c,e=>by
  cases v with
  | g cs =>
   have e:ziy cs i=some c:=e;obtain ⟨vs,rfl,hc⟩:=hv;rw [zgb] at e;obtain ⟨w,h1,h2⟩:=CVs.get (X:=⟨P,G,[],[],0,fun _ => .bool false⟩) hc e;show zcT P G h ν c (vs.getD i undef);rw [List.getD_eq_getElem?_getD,h1]; exact h2
  | _=>cases e
theorem zzp:∀{rs:List (Option (Option Nat))} {i:Nat},some (some i)∈rs→i∈zvG rs
 | a::rs,i,h=>by
  rcases List.mem_cons.1 h with e|h
  ·subst e; exact List.mem_cons_self ..
  ·have:=zzp h
   cases a with
   | none=>exact this
   | some a =>
    cases a with
    | none=>exact this
    | some j=>exact List.mem_cons_of_mem _ this
theorem zvj {avs:List (XV τ)} {vs:List Value} (hl:vs.length=avs.length) (hv:∀(i:Nat) (A:XV τ) (v:Value),avs[i]? = some A→vs[i]? = some v→XOk P G h ν A v) :
  ∀{js:List Nat} {rs:List (Option (Option Nat))},roots avs js=some rs→nod (zvG rs)=true→(∀i∈zvG rs,lk L i = .gone)→zmE L ν rs (js.map (bkV vs))
 | [],rs,e,_,_=>by cases e; trivial
 | j :: js,rs,e,hn,hg=>by
  unfold roots at e
  split at e
  ·rename_i rs' h1
   split at e
   ·rename_i A hj
    rw [zgb] at hj
    have hlt:j%32<vs.length:=by rw [hl]; exact (List.getElem?_eq_some_iff.1 hj).1
    have hvj:vs[j%32]? = some (vs.getD (j%32) undef):=by rw [List.getD_eq_getElem?_getD,List.getElem?_eq_getElem hlt]; rfl
    have hA:=hv _ _ _ hj hvj
    split at e
    ·rename_i id hr
     cases e;simp only [zvG,nod,Bool.and_eq_true,Bool.not_eq_true'] at hn;obtain ⟨u,q,hν,he,_⟩:=zvi hA hr;refine ⟨hg id (List.mem_cons_self ..),⟨q,?_⟩,fun hm=>?_,zvj hl hv h1 hn.2 fun i hi=>hg i (List.mem_cons_of_mem _ hi)⟩
     ·show ν id=some (bkV vs j,q);unfold bkV;rw [he,hν]; cases u<;>rfl
     ·rw [zeE.2 (zzp hm)] at hn; cases hn.1
    ·rename_i id hr
     cases e;simp only [zvG,nod,Bool.and_eq_true,Bool.not_eq_true'] at hn;obtain ⟨u1,u2,u3,q,hν,he⟩:=zvi hA hr;refine ⟨hg id (List.mem_cons_self ..),⟨q,?_⟩,fun hm=>?_,zvj hl hv h1 hn.2 fun i hi=>hg i (List.mem_cons_of_mem _ hi)⟩
     ·show ν id=some (bkV vs j,q);unfold bkV;rw [he,hν]
     ·rw [zeE.2 (zzp hm)] at hn; cases hn.1
    ·rename_i hr
     cases e;exact ⟨zvi hA hr,zvj hl hv h1 hn hg⟩
    ·cases e
   ·cases e
  ·cases e
theorem zCF {rs:List (Option (Option Nat))}:∀{n:Nat} {vs:List Value},zmE L ν rs (vs.drop n)→zmE L ν (zzG n rs) vs
 | 0,vs,h=>by rw [List.drop_zero] at h; exact h
 | n+1,[],h=>trivial
 | n+1,v::vs,h=>zCF (n:=n) (vs:=vs) (by simpa using h)
theorem zJx {l:List (XV τ)} {v:XV τ} {vs:List Value} (e:zBh l=some v) (h1:zFJ P G h ν l vs):XOk P G h ν v (zzk vs):=by
 have hgo:∀{l:List (XV τ)} {ts:List (Bool × List (CV τ))} {vs:List Value},zBh.go l=some ts→zFJ P G h ν l vs→TVs P G h ν ts vs:=by
  intro l
  induction l with
  | nil=>intro ts vs e h1; cases e; exact h1
  | cons x l ih =>
   intro ts vs e h1;obtain ⟨v,us,rfl,h2,h3⟩:=h1;unfold zBh.go at e
   split at e
   ·cases ‹_::_=[]›
   ·rename_i heq
    cases heq
    split at e
    ·rename_i l' hl'
     cases e;exact ⟨v,us,rfl,h2,ih hl' h3⟩
    ·cases e
   ·rename_i heq
    cases heq
    split at e
    ·rename_i l' hl'
     cases e;obtain ⟨ws,rfl,h4⟩:=h2;exact ⟨ws,us,rfl,h4,ih hl' h3⟩
    ·cases e
   ·cases e
 unfold zBh at e
 split at e
 ·cases e;obtain ⟨u,us,rfl,h2,h3⟩:=h1;cases h3;exact h2
 ·cases e; cases h1;exact ⟨[],rfl,rfl⟩
 ·rename_i hne1 hne2
  split at e
  ·rename_i ts hts
   cases e;have:=hgo hts h1
   have hr:zzk vs = .tuple ⟨vs⟩:=by
    cases l with
    | nil=>exact (hne2 rfl).elim
    | cons x l =>
     cases l with
     | nil=>exact (hne1 _ rfl).elim
     | cons y l =>
      obtain ⟨v,us,rfl,_,v',us',rfl,_⟩:=h1;rfl
   rw [hr];exact ⟨vs,rfl,this⟩
  ·cases e
theorem zpb (l:List Nat):kys (zoA (τ:=τ) l)=l:=by
 induction l with
 | nil=>rfl
 | cons i l ih=>exact congrArg (i :: ·) ih
theorem zzq (l:List Nat) (Z:Hp τ) {i:Nat} (hi:i∈l):lk (zoA l++Z) i = .gone:=by
 induction l with
 | nil=>cases hi
 | cons j l ih =>
  by_cases e:i=j
  ·subst e; exact za1 ..
  ·have:lk (zoA (j::l)++Z) i=lk (zoA l++Z) i:=zdw _ _ e;rw [this];exact ih ((List.mem_cons.1 hi).resolve_left e)
end
end Go.Rk
end
section
namespace Go.Rk
open Go.RowKit Go.Dm Go.Dk
variable {τ:Nat→Type}
section
variable {ρ:Type} {X:Cx τ} {w0 w w':World} {h0 h h' H:Fz} {F:List Nat} {o:Oper} {E:zE τ} {L L2:Hp τ} {ν ν':Vn τ} {φ φ':Nat→List Nat} {nid nid':Nat} {K:Nx τ ρ} {r:ρ} {v:XV τ} {U:Hp τ} {tch:List Nat} {g:List (XV τ)}
variable {a:Act} {x y z:Operand} {t' t ty u':Nat} {dst:Option Nat} {p:String} {af:Array Edge} {gd:Option (Nat × Bool)}
theorem zwC:∀{args:List Operand} {avs:List (XV τ)},zuy E args=some avs→avs.length=args.length∧∀(i:Nat) (A:XV τ),avs[i]? = some A→∃z,args[i]? = some z∧evX E z=some A
 | [],avs,e=>by cases e; exact ⟨rfl,fun i A h=>by simp at h⟩
 | z::args,avs,e=>by
  unfold zuy at e
  split at e
  ·rename_i A hA
   split at e
   ·rename_i As hAs
    cases e;obtain ⟨h1,h2⟩:=zwC hAs;refine ⟨by simp [h1],fun i B hB=>?_⟩
    cases i with
    | zero=>simp at hB; subst hB; exact ⟨z,rfl,hA⟩
    | succ i=>exact h2 i B hB
   ·cases e
  ·cases e
theorem zAZ {f:Nat} {args:Array Operand} {vs:List Value} {ats:Array TypeId} (hfn:zcD X.P f) (hv:a.eval x = .func (.func f) #[] #[]) (hargs:args.map a.eval=vs.toArray) :
  (execOp a.eval { dst:=dst,op := .call { callee := .value x,args:=args,argTypes:=ats },type:=t,pos:=p,after:=af,guard:=gd }).run X.P w = .ok (.enter f vs.toArray) w:=by
 obtain ⟨fn,hfn,hbody,hname⟩:=hfn;simp only [execOp,resolve,hargs];rw [hv];simp only [Deferred.ofValue]
 have hb:¬ fn.body=none:=by intro e; rw [e] at hbody; cases hbody
 have hn:¬ fn.name = "runtime.NumGoroutine" := by intro e; rw [e] at hname; cases hname
 simp [invoke,callFunc,hfn,hn,hb]
theorem Mem.called (M:Mem X.P X.G w0 h0 F L2 w ν h φ) {l m:List Nat} {Z:Hp τ} {h2:Fz} {fp':List Nat} (hl:Left (zrt h w (fps φ m)) w (fps φ l) h' w' fp') (hlm:∀i∈l,i∉m) (ha:∀i∈l++m,lk L2 i=lk L i)
  (hz:(Rk.freeze L m=some Z∧h2=h')∨(Z=[]∧h2=h)):∃φ',Mem X.P X.G w0 h0 F ((zoA l++Z)++L2) w' ν h2 φ'∧zhX w0 h2 F φ' fp':=by
 have hH:=M.lend_le m;have hHon:=zvB (h:=h) (bs:=fps φ m) M.on
 have hlh:∀b∈fps φ l,h b=none:=fun b hb=>by obtain ⟨i,_,hi⟩:=mem_fps.1 hb; exact (M.out i b hi).1
 have hmem:∀b,zrt h w (fps φ m) b≠none→h b≠none∨b∈fps φ m:=by
  intro b hb
  by_cases e:b∈fps φ m
  ·exact .inr e
  ·rw [zkq e] at hb; exact .inl hb
 have hfree:∀{φ':Nat→List Nat} {h2:Fz},(∀i b,b∈φ' i→b∈φ i∧i∉l)→(∀b,h2 b≠none→h' b≠none)→zhX w0 h2 F φ' fp':=by
  intro φ' h2 h1 h3 b hb;obtain ⟨g1,g2⟩:=hl.own b hb;refine ⟨fun i hi=>?_,?_,?_⟩
  ·obtain ⟨h5,h6⟩:=h1 i b hi
   rcases g2 with g2|g2
   ·obtain ⟨j,hj,hbj⟩:=mem_fps.1 g2;exact h6 (M.dis i j b h5 hbj▸hj)
   ·have:=M.lt h5; omega
  ·cases e:h2 b with
   | none=>rfl
   | some o=>exact (h3 b (by rw [e]; simp) g1).elim
  ·rcases g2 with g2|g2
   ·obtain ⟨j,_,hbj⟩:=mem_fps.1 g2; exact (M.out j b hbj).2
   ·exact .inr (Nat.le_trans M.size g2)
 rcases hz with ⟨hf,rfl⟩|⟨rfl,rfl⟩
 ·obtain ⟨hk,hlz⟩:=zwF hf
  have hin:∀i,i∉l++m→lk ((zoA l++Z)++L2) i=lk L2 i:=fun i hi=>zcU _ (by
   simp only [kys,List.map_append];intro hc
   rcases List.mem_append.1 hc with hc|hc
   ·exact hi (List.mem_append_left _ (by rw [← zpb (τ:=τ) l]; exact hc))
   ·exact hi (List.mem_append_right _ (by rw [← hk]; exact hc)))
  have hlk:∀i∈l++m,lk ((zoA l++Z)++L2) i=lk (zoA l++Z) i:=fun i hi=>zg9 _ (by
   simp only [kys,List.map_append]
   rcases List.mem_append.1 hi with hi|hi
   ·exact List.mem_append_left _ (by have:=zpb (τ:=τ) l; rw [kys] at this; rw [this]; exact hi)
   ·exact List.mem_append_right _ (by rw [kys] at hk; rw [hk]; exact hi))
  have hlkm:∀i∈m,lk (zoA l++Z) i=lk Z i:=fun i hi=>by
   rw [zcU];rw [zpb];exact fun hc=>hlm i hc hi
  refine ⟨zze φ (l++m),?_,hfree (fun i b hb=>?_) (fun b hb=>hb)⟩
  ·refine M.upd (l++m) hin (fun i hi=>znc hi) (Vn.le.refl _) (hH.trans hl.le) hl.os hl.tape hl.output hl.size (fun b hb hc=>hl.frame b hb fun hd=>hc (by rw [zfj]; exact List.mem_append_left _ hd))
    (fun b o _ e=>hl.on b o e) (fun b e1 e2=>?_) (fun i hi=>?_) (fun i hi b hb=>by rw [zhp hi] at hb; cases hb) (fun i hi j _ b hb=>by rw [zhp hi] at hb; cases hb)
   ·rcases hl.new b e2 with h1|h1|h1
    ·rcases hmem b h1 with h2|h2
     ·exact (h2 e1).elim
     ·exact .inl (by rw [zfj]; exact List.mem_append_right _ h2)
    ·exact .inl (by rw [zfj]; exact List.mem_append_left _ h1)
    ·exact .inr h1
   ·rw [hlk i hi,zhp hi]
    by_cases hil:i∈l
    ·rw [zzq l Z hil]; rfl
    ·have him:i∈m:=(List.mem_append.1 hi).resolve_left hil;rw [hlkm i him]
     have hlent:∀j∈m, ∀b∈φ j,h2 b=w.heap[b]? := fun j hj b hb=>by
      have hbm:b∈fps φ m:=mem_fps.2 ⟨j,hj,hb⟩;have hlt:=M.lt hb
      have:zrt h w (fps φ m) b=some w.heap[b]:=by rw [zqE hbm]; exact Array.getElem?_eq_getElem hlt
      rw [hl.le _ _ this]; exact (Array.getElem?_eq_getElem hlt).symm
     obtain ⟨e',xs,h1,h2⟩:=hlz i him;rw [h1];have hr:=M.res i;rw [ha i hi] at hr
     rcases h2 with ⟨te,k,h2⟩|h2|⟨j,k,lo,te,e2,ys,h2,h3,h4⟩
     ·rw [h2] at hr;obtain ⟨v,q,vs,u,h3,h4,h5,h6,_⟩:=hr;exact ⟨v,q,h3,rfl,zwV (w:=w) (hH.trans hl.le) h5 h6 fun b hb=>hlent i him b (by rw [h4]; exact hb)⟩
     ·rw [h2] at hr;obtain ⟨v,q,h3,_,h4⟩:=hr;exact ⟨v,q,h3,rfl,h4.le (hH.trans hl.le)⟩
     ·rw [h2] at hr;have hr2:=M.res j;rw [ha j (List.mem_append_right _ h4),h3] at hr2;obtain ⟨v,q,h5,_,h6⟩:=vw_fz hr hr2 (hH.trans hl.le) fun b hb=>hlent j h4 b hb;exact ⟨v,q,h5,rfl,h6⟩
  ·by_cases hi:i∈l++m
   ·rw [zhp hi] at hb; cases hb
   ·rw [znc hi] at hb; exact ⟨hb,fun hc=>hi (List.mem_append_left _ hc)⟩
 ·have hin:∀i,i∉l→lk ((zoA l++[])++L2) i=lk L2 i:=fun i hi=>zcU _ (by rw [List.append_nil,zpb]; exact hi);refine ⟨zze φ l,?_,hfree (fun i b hb=>?_) (fun b hb=>?_)⟩
  ·refine M.upd l hin (fun i hi=>znc hi) (Vn.le.refl _) (Fz.le.refl _) hl.os hl.tape hl.output hl.size (fun b hb hc=>hl.frame b hb hc)
    (fun b o e1 e2=>by rw [e1] at e2; cases e2) (fun b e1 e2=>(e2 e1).elim) (fun i hi=>?_) (fun i hi b hb=>by rw [zhp hi] at hb; cases hb) (fun i hi j _ b hb=>by rw [zhp hi] at hb; cases hb)
   rw [zhp hi,zg9 _ (by rw [List.append_nil,zpb]; exact hi),zzq l [] hi]; rfl
  ·by_cases hi:i∈l
   ·rw [zhp hi] at hb; cases hb
   ·rw [znc hi] at hb; exact ⟨hb,hi⟩
  ·cases e:h2 b with
   | none=>exact (hb e).elim
   | some o=>rw [hl.le _ _ (hH _ _ e)]; simp
theorem bcT {α:Type} {x y:α}:bc true x y=x:=rfl
theorem bcF {α:Type} {x y:α}:bc false x y=y:=rfl
def Entr (X:Cx τ) (w0:World) (h0:Fz) (F:List Nat) (E:zE τ) (L:Hp τ) (T0:List Nat) (o:Oper) (f:Nat) (avs:List (XV τ)):Prop:=∀(L2:Hp τ) (ν:Vn τ) (h:Fz) (φ:Nat→List Nat) (a:Act) (w:World),a.defers=[]→Mem X.P X.G w0 h0 F L2 w ν h φ→zeb X h ν a (rdO o.op) E→(∀i∈T0,lk L2 i=lk L i)→zcD X.P f →
 ∃vs:List Value,vs.length=avs.length∧(∀(i:Nat) (A:XV τ) (v:Value),avs[i]? = some A→vs[i]? = some v→XOk X.P X.G h ν A v)∧(execOp a.eval o).run X.P w = .ok (.enter f vs.toArray) w
theorem zs6 {f:Nat} {avs:List (XV τ)} (T0:List Nat) (hen:Entr X w0 h0 F E L T0 o f avs):∀{cs:zx6 τ},(∀q∈cs,COk X.P X.G q.1 q.2)→znw X L nid (fun v g U t n=>K v g U (T0++t) n) f avs cs=some r →
  zde X w0 h0 F o E L nid K r
 | [],_,e=>by cases e
 | (g,k) :: cs,hC,e=>by
  have ih:znw X L nid (fun v g U t n=>K v g U (T0++t) n) f avs cs=some r→zde X w0 h0 F o E L nid K r:=zs6 T0 hen fun q hq=>hC q (List.mem_cons_of_mem _ hq);unfold znw at e
  cases hg:Nat.beq g f with
  | false=>rw [hg,bcF] at e; exact ih e
  | true =>
   rw [hg,bcT] at e
   have hgf:g=f:=by simpa using hg
   subst hgf
   split at e
   ·rename_i pp l m hres
    cases hn:(nod l&&zx7 l m) with
    | false=>rw [hn,bcF] at e; exact ih e
    | true =>
     rw [hn,bcT] at e;simp only [Bool.and_eq_true] at hn
     split at e
     ·rename_i Z hZ
      split at e
      ·rename_i rs hrs
       obtain ⟨hroots,e⟩:=zgF e;simp only [Bool.and_eq_true,List.all_eq_true] at hroots;obtain ⟨R,hR,e⟩:=ob e;obtain ⟨outl,U,nid',h1,h2,_,h4⟩:=zOt (P:=X.P) (w0:=w0) (h0:=h0) (F:=F) _ _ _ _ _ e
       split at h1
       ·rename_i v hv
        refine ⟨_,_,_,_,_,h1,h2,fun z hz=>by rw [List.mem_singleton.1 hz]; rfl,fun L2 ν h φ a w next Q hd M hE ha0 hfr kk=>?_⟩;have ha:∀i∈l++m,lk L2 i=lk L i:=fun i hi=>ha0 i (List.mem_append_right _ hi);obtain ⟨hcall,hok⟩:=hC _ (List.mem_cons_self ..);have hdis:=zwX hn.2;obtain ⟨avals,hlen,hvs,hexec⟩:=hen L2 ν h φ a w hd M hE (fun i hi=>ha0 i (List.mem_append_left _ hi)) hcall;have hH:=M.lend_le m;have hlook:zbR L2 L φ (zrt h w (fps φ m)) w m:=M.look fun i hi=>ha i (List.mem_append_right _ hi);have htr:=zzl M hH hres (fun i hi=>ha i (List.mem_append_left _ hi)) hlook hn.1 hlen hvs
        have hnone:∀b∈fps φ l,zrt h w (fps φ m) b=none:=by
         intro b hb;rw [zkq (M.fps_dis hdis b hb)];obtain ⟨i,_,hi⟩:=mem_fps.1 hb;exact (M.out i b hi).1
        have hcalls:=hok _ w pp R avals _ (M.gl.le hH) M.fp (zvB M.on) htr hnone hR;unfold Oper.wp;rw [hexec];refine Calls.mono hcalls ?_;rintro e1 w' ⟨h',rvs,fp',rfl,hleft,hres',hback⟩
        have hzz:(freeze L m=some Z∧(if k.rs.any (zmu X.G depth)=true then h' else h)=h')∨(Z=[]∧(if k.rs.any (zmu X.G depth)=true then h' else h)=h):=by
         cases hs:k.rs.any (zmu X.G depth) with
         | true=>rw [hs] at hZ; exact .inl ⟨hZ,by simp⟩
         | false=>rw [hs] at hZ; cases hZ; exact .inr ⟨rfl,by simp⟩
        obtain ⟨φ',M',hfree⟩:=Mem.called (Z:=Z) M hleft hdis ha hzz
        have hres2:TrXs X.P X.G (if k.rs.any (zmu X.G depth)=true then h' else h) w' k.rs R rvs fp':=by
         cases hs:k.rs.any (zmu X.G depth) with
         | true=>simpa using hres'
         | false=>simpa using zFK (h':=h) hres' hs
        have hgl:∀i∈zvG rs,lk ((zoA l++Z)++L2) i = .gone:=by
         intro i hi;have hil:i∈l:=zeE.1 (hroots.2 i hi);rw [zg9,zzq l Z hil];simp only [kys,List.map_append];exact List.mem_append_left _ (by have:=zpb (τ:=τ) l; rw [kys] at this; rw [this]; exact hil)
        have hRo:zmE ((zoA l++Z)++L2) ν (zzG k.nr rs) rvs:=zCF (by
         rw [hback]
         exact zvj (P:=X.P) (G:=X.G) (h:=h) hlen hvs hrs hroots.1 hgl)
        obtain ⟨ν', φ'',A,hxs⟩:=h4 _ w' ν _ φ' rvs fp' M' hres2 hfr hfree hRo;rw [zzo (zp8 hrs)] at hxs
        have hle2:h.le (if k.rs.any (zmu X.G depth)=true then h' else h):=by
         split
         ·exact hH.trans hleft.le
         ·exact Fz.le.refl _
        exact kk ν' _ φ'' w' _ (by rw [List.append_assoc]; exact A.mem) A.le hle2 A.fresh (zJx hv hxs)
       ·cases h1
      ·cases e
     ·cases e
   ·exact ih e
theorem zFs {args:List Operand} {avs:List (XV τ)} {x:Operand} {ats:Array TypeId} (hargs:zuy E args=some avs) (hd:a.defers=[]) (hE:zeb X h ν a (rdO (.call ⟨.value x,⟨args⟩,ats⟩)) E) :
  (args.map a.eval).length=avs.length∧∀(i:Nat) (A:XV τ) (v:Value),avs[i]? = some A→(args.map a.eval)[i]? = some v→XOk X.P X.G h ν A v:=by
 obtain ⟨hlen,hidx⟩:=zwC hargs;refine ⟨by simp [hlen],fun i A v hA hv=>?_⟩;obtain ⟨z,hz,hzA⟩:=hidx i A hA;rw [List.getElem?_map,hz] at hv;cases hv;exact zrj hd (hE.op (by simp only [Op.operands,Call.operands]; simp; exact .inr (List.mem_of_getElem? hz))) hzA
theorem zHx {f:Nat} {args:List Operand} {avs:List (XV τ)} {ats:Array TypeId} (hx:evC E x=some (.fn f)) (hargs:zuy E args=some avs) {cs:zx6 τ} (hC:∀q∈cs,COk X.P X.G q.1 q.2) (e:znw X L nid K f avs cs=some r) :
  zde X w0 h0 F ⟨dst, .call ⟨.value x,⟨args⟩,ats⟩,t,p,af,gd⟩ E L nid K r :=
 zs6 [] (fun L2 ν h φ a w hd M hE _ hcall=>by
  obtain ⟨h1,h2⟩:=zFs hargs hd hE;obtain ⟨Ea,hf,hl'⟩:=zdD a hd;obtain ⟨vx,g1,g2⟩:=zj hl' (hE.op (by simp [Op.operands,Call.operands])) hx;obtain rfl:vx=_:=g2
  exact ⟨_,h1,h2,zAZ (X:=X) (w:=w) (dst:=dst) (t:=t) (p:=p) (af:=af) (gd:=gd) (ats:=ats) (args:=⟨args⟩) (vs:=args.map a.eval) hcall (hf.ev g1) (by simp)⟩) hC e
theorem zA0 {f:Nat} {args:Array Operand} {us vs cs:List Value} {ats:Array TypeId} (hfn:zcD X.P f) (hv:a.eval x = .func (.func f) ⟨us⟩ ⟨cs⟩) (hargs:args.map a.eval=vs.toArray) :
  (execOp a.eval { dst:=dst,op := .call { callee := .value x,args:=args,argTypes:=ats },type:=t,pos:=p,after:=af,guard:=gd }).run X.P w = .ok (.enter f (us++(vs++cs)).toArray) w:=by
 obtain ⟨fn,hfn,hbody,hname⟩:=hfn;simp only [execOp,resolve,hargs];rw [hv];simp only [Deferred.ofValue]
 have hb:¬ fn.body=none:=by intro e; rw [e] at hbody; cases hbody
 have hn:¬ fn.name = "runtime.NumGoroutine" := by intro e; rw [e] at hname; cases hname
 simp [invoke,callFunc,hfn,hn,hb]
theorem zNY {f:Nat} {args:List Operand} {avs:List (XV τ)} {ats:Array TypeId} {tc:Ty} {xc:tc.den τ} (hx:evC E x=some (.cl f tc xc)) (hargs:zuy E args=some avs) {cs:zx6 τ} (hC:∀q∈cs,COk X.P X.G q.1 q.2) (e:znw X L nid K f (avs++[.c (tc.av xc)]) cs=some r) :
  zde X w0 h0 F ⟨dst, .call ⟨.value x,⟨args⟩,ats⟩,t,p,af,gd⟩ E L nid K r :=
 zs6 [] (fun L2 ν h φ a w hd M hE _ hcall=>by
  obtain ⟨h1,h2⟩:=zFs hargs hd hE;obtain ⟨Ea,hf,hl'⟩:=zdD a hd;obtain ⟨vx,g1,g2⟩:=zj hl' (hE.op (by simp [Op.operands,Call.operands])) hx;have g2:Rp X.P X.G h (.cl f tc) xc vx:=g2
  cases g2 with
  | cl _ _ _ u hr =>
   refine ⟨args.map a.eval++[u],by simp [h1],fun i A v hA hv=>?_,?_⟩
   ·by_cases hi:i<avs.length
    ·rw [List.getElem?_append_left hi] at hA;rw [List.getElem?_append_left (by omega)] at hv;exact h2 i A v hA hv
    ·rw [List.getElem?_append_right (by omega)] at hA;rw [List.getElem?_append_right (by omega),h1] at hv
     cases hj:i-avs.length with
     | zero =>
      rw [hj] at hA hv;cases hA;cases hv;exact zJF hr
     | succ j=>rw [hj] at hA; simp at hA
   ·have:=zA0 (X:=X) (w:=w) (dst:=dst) (t:=t) (p:=p) (af:=af) (gd:=gd) (ats:=ats) (args:=⟨args⟩) (us:=[]) (vs:=args.map a.eval) (cs:=[u]) hcall (hf.ev g1) (by simp)
    simpa using this) hC e
theorem zPJ {f:Nat} {c:CV τ} (hx:evC E x=some c) (k:K (.c (.cf nid)) [] [(nid, .clo f [] [c])] [] (nid+1)=some r):zde X w0 h0 F ⟨dst, .makeFunc (.func f) ⟨[]⟩ ⟨[x]⟩,t,p,af,gd⟩ E L nid K r:=by
 refine ⟨_,_,_,_,_,k,Nat.le_succ _,(fun _ h=>by cases h),fun L2 ν h φ a w next Q hd M hE ha hfr kk=>?_⟩;have hn:=hfr nid (Nat.le_refl _) (Nat.lt_succ_self _);obtain ⟨Ea,hf,hl'⟩:=zdD a hd;obtain ⟨vx,g1,g2⟩:=zj hl' (hE.op (by simp [Op.operands])) hx
 have hrun:(execOp a.eval ⟨dst, .makeFunc (.func f) ⟨[]⟩ ⟨[x]⟩,t,p,af,gd⟩).run X.P w = .ok (.value (.func (.func f) ⟨[]⟩ ⟨[a.eval x]⟩)) w:=by
  simp [execOp,Instr.makeFunc,Result.andThen]
 rw [hf.ev g1] at hrun;refine zf4 hrun (kk (up1 ν nid (some (.func (.func f) ⟨[]⟩ ⟨[vx]⟩,none))) h _ w _ (M.add hn (.clo f [] [c]) _ (fp:=[]) ⟨_,_,_,rfl,rfl,rfl,⟨vx,[],rfl,g2.le (Fz.le.refl _) (zbw hn),rfl⟩⟩ (fun b hb=>by cases hb)) (zbw hn) (Fz.le.refl _) zd2 ⟨f,_,_,none,zab _ _ _,rfl⟩)
theorem zNZ {f i:Nat} {args:List Operand} {avs:List (XV τ)} {ats:Array TypeId} (hx:evC E x=some (.mv f i)) (hargs:zuy E args=some avs) {cs:zx6 τ} (hC:∀q∈cs,COk X.P X.G q.1 q.2) (e:znw X L nid K f (.c (.pt i 0)::avs) cs=some r) :
  zde X w0 h0 F ⟨dst, .call ⟨.value x,⟨args⟩,ats⟩,t,p,af,gd⟩ E L nid K r :=
 zs6 [] (fun L2 ν h φ a w hd M hE _ hcall=>by
  obtain ⟨h1,h2⟩:=zFs hargs hd hE;obtain ⟨Ea,hf,hl'⟩:=zdD a hd;obtain ⟨vx,g1,g2⟩:=zj hl' (hE.op (by simp [Op.operands,Call.operands])) hx;obtain ⟨u,q,hν,rfl⟩:=g2;refine ⟨.pointer u::args.map a.eval,by simp [h1],fun j A v hA hv=>?_,?_⟩
  ·cases j with
   | zero =>
    cases hA;cases hv;exact ⟨u,q,hν,by cases u<;>rfl,fun e=>(e rfl).elim⟩
   | succ j=>exact h2 j A v (by simpa using hA) (by simpa using hv)
  ·have:=zA0 (X:=X) (w:=w) (dst:=dst) (t:=t) (p:=p) (af:=af) (gd:=gd) (ats:=ats) (args:=⟨args⟩) (us:=[.pointer u]) (vs:=args.map a.eval) (cs:=[]) hcall (hf.ev g1) (by simp)
   simpa using this) hC e
theorem zN0 {f i:Nat} (hx:evC E x=some (.pt i 0)) (k:K (.c (.mv f i)) [] [] [] nid=some r):zde X w0 h0 F ⟨dst, .makeFunc (.func f) ⟨[x]⟩ ⟨[]⟩,t,p,af,gd⟩ E L nid K r:=by
 refine zaU k fun L2 ν h φ a w hd M hE ha=>?_;obtain ⟨Ea,hf,hl'⟩:=zdD a hd;obtain ⟨vx,g1,g2⟩:=zj hl' (hE.op (by simp [Op.operands])) hx;obtain ⟨u,q,hν,rfl,_⟩:=g2
 have hrun:(execOp a.eval ⟨dst, .makeFunc (.func f) ⟨[x]⟩ ⟨[]⟩,t,p,af,gd⟩).run X.P w = .ok (.value (.func (.func f) ⟨[a.eval x]⟩ ⟨[]⟩)) w:=by
  simp [execOp,Instr.makeFunc,Result.andThen]
 rw [hf.ev g1] at hrun;exact ⟨_,hrun,u,q,hν,by cases u<;>rfl⟩
theorem zN1 {P:Program} {t et:TypeId} (h:mpO P t=some et):∃kt,P.underlying t=some (.map kt et)∧P.underlying kt=some (.int .i64):=by
 unfold mpO at h
 split at h
 ·rename_i kt et' h1
  split at h
  ·rename_i h2; cases h; exact ⟨kt,h1,h2⟩
  ·cases h
 ·cases h
theorem zPK {P:Program} {t:TypeId} (h:strZ P t=true) (w:World):(zeroValue t).run P w = .ok (str []) w:=by
 unfold strZ at h
 split at h
 ·rename_i i hi
  split at h
  ·rename_i hz
   simp [zeroValue,typeInfo,hi,hz,go_sem,Result.andThen,str]
  ·cases h
 ·cases h
theorem zN2 (k:K (.c (.mp nid)) [] [(nid, .mp [])] [] (nid+1)=some r):zde X w0 h0 F ⟨dst, .makeMap t' none,t,p,af,gd⟩ E L nid K r:=by
 refine ⟨_,_,_,_,_,k,Nat.le_succ _,(fun _ h=>by cases h),fun L2 ν h φ a w next Q hd M hE ha hfr kk=>?_⟩;have hn:=hfr nid (Nat.le_refl _) (Nat.lt_succ_self _);have hr:(execOp a.eval ⟨dst, .makeMap t' none,t,p,af,gd⟩).run X.P w = .ok (.value (.map (some w.heap.size))) (w.alloc (.map #[] 0)):=rfl;exact zf4 hr (kk _ h _ _ _ (M.alloc hn _ (.mp []) (.map (some w.heap.size),none) ⟨_,none,rfl,rfl,zkA _⟩) (zbw hn) (Fz.le.refl _) zd2 ⟨_,none,zab _ _ _,rfl⟩)
theorem zLe {id:Nat} {et:TypeId} {l:List (Int × Str)} {kx:Int} {vx:Str} (ht:mpO X.P t'=some et) (hx:evC E x=some (.mp id)) (hl:lk L id = .mp l) (hy:evC E y=some (.i kx)) (hz:evC E z=some (.s vx)) (hf0:(l.find? fun q=>q.1==kx)=none)
  (k:K .un [] [(id, .mp (l++[(kx,vx)]))] [id] nid=some r):zde X w0 h0 F ⟨dst, .insert t' x y z,t,p,af,gd⟩ E L nid K r:=by
 obtain ⟨kt,h1,h2⟩:=zN1 ht;refine ⟨_,_,_,_,_,k,Nat.le_refl _,(fun _ h=>by cases h),fun L2 ν h φ a w next Q hd M hE ha hfr kk=>?_⟩;obtain ⟨Ea,hf,hl'⟩:=zdD a hd;obtain ⟨ux,g1,g2⟩:=zj hl' (hE.op (by simp [Op.operands])) hx;obtain ⟨uy,g3,g4⟩:=zj hl' (hE.op (by simp [Op.operands])) hy;obtain ⟨uz,g5,g6⟩:=zj hl' (hE.op (by simp [Op.operands])) hz;obtain rfl:uy=_:=g4;obtain rfl:uz=_:=g6;obtain ⟨b,q,hν,rfl⟩:=g2;have hr:=M.res id;rw [ha id (List.mem_singleton.2 rfl),hl] at hr;obtain ⟨b',q',c1,c2,c3⟩:=hr;rw [hν] at c1;cases c1;have hlt:b<w.heap.size:=(Array.getElem?_eq_some_iff.1 c3).1
 have hrun:(execOp a.eval ⟨dst, .insert t' x y z,t,p,af,gd⟩).run X.P w = .ok .skip { w with heap:=w.heap.setIfInBounds b (zr7 (l++[(kx,vx)])) }:=by
  simp only [execOp]; rw [hf.ev g1,hf.ev g3,hf.ev g5];simp [zHZ h1 h2 c3 hf0,Result.andThen]
 refine zJf hrun (kk ν h φ _ undef (M.turn (.mp (l++[(kx,vx)])) c2 (Vn.le.refl _) rfl rfl rfl (by simp) (fun j hj=>by simp [Array.getElem?_setIfInBounds,Ne.symm hj]) ⟨b,q,hν,rfl,?_⟩) (Vn.le.refl _) (Fz.le.refl _) (zdq.refl _ _ _) rfl);show ({ w with heap:=w.heap.setIfInBounds b (zr7 (l++[(kx,vx)])) }:World).heap[b]? = _;simp [Array.getElem?_setIfInBounds,hlt]
theorem zJh {id:Nat} {et:TypeId} {l:List (Int × Str)} {kx:Int} (ht:mpO X.P t'=some et) (hs:strZ X.P et=true) (hx:evC E x=some (.mp id)) (hl:lk L id = .mp l) (hy:evC E y=some (.i kx))
  (k:K (.t [(false,[.s (zqF l kx).1]),(false,[.b (zqF l kx).2])]) [] [] [id] nid=some r):zde X w0 h0 F ⟨dst, .lookup t' x y true,t,p,af,gd⟩ E L nid K r:=by
 obtain ⟨kt,h1,h2⟩:=zN1 ht;refine zaU k fun L2 ν h φ a w hd M hE ha=>?_;obtain ⟨Ea,hf,hl'⟩:=zdD a hd;obtain ⟨ux,g1,g2⟩:=zj hl' (hE.op (by simp [Op.operands])) hx;obtain ⟨uy,g3,g4⟩:=zj hl' (hE.op (by simp [Op.operands])) hy;obtain rfl:uy=_:=g4;obtain ⟨b,q,hν,rfl⟩:=g2;have hr:=M.res id;rw [ha id (List.mem_singleton.2 rfl),hl] at hr;obtain ⟨b',q',c1,c2,c3⟩:=hr;rw [hν] at c1;cases c1;refine ⟨_,?_,_,rfl,_,_,rfl,rfl,_,_,rfl,rfl,rfl⟩;simp only [execOp];rw [hf.ev g1,hf.ev g3];simp only [Sem.run_bind,zH0 h1 h2 (zPK hs) c3,Result.andThen,Sem.run_pure]
theorem zN3 {m:Int} {K:Nat→Option ρ}:∀{n k:Nat},arK m n k K=some r→∃j,k≤j∧j<k+n∧m=(j:Int)∧K j=some r
 | 0,k,e=>by cases e
 | n+1,k,e=>by
  unfold arK at e
  split at e
  ·rename_i h
   exact ⟨k,Nat.le_refl _,by omega,by simpa [isN] using h,e⟩
  ·obtain ⟨j,h1,h2,h3,h4⟩:=zN3 e;exact ⟨j,by omega,by omega,h3,h4⟩
theorem arr_ok {n s id j:Nat} {m:Int} {bt:TypeId} {cs:List (CV τ)} (ha:arO X.P t'=some (n,s)) (hx:evC E x=some (.pt id 0)) (hy:evC E y=some (.i m)) (hl:lk L id = .blk bt cs) (hj:j<n) (hm:m=(j:Int)) (k:K (.c (.pt id (j*s))) [] [] [id] nid=some r) :
  zde X w0 h0 F ⟨dst, .indexAddr t' x y,t,p,af,gd⟩ E L nid K r:=by
 refine zaU k fun L2 ν h φ a w hd M hE hal=>?_;obtain ⟨Ea,hf,hl'⟩:=zdD a hd;obtain ⟨vx,h1,h2⟩:=zj hl' (hE.op (by simp [Op.operands])) hx;obtain ⟨vy,h3,h4⟩:=zj hl' (hE.op (by simp [Op.operands])) hy;obtain rfl:vy=_:=h4;obtain ⟨u,q,g1,g2,_⟩:=h2;have hr:=M.res id;rw [hal id (List.mem_singleton.2 rfl),hl] at hr;obtain ⟨b,q',vs,g3,_,g4,_⟩:=hr;rw [g1] at g3;cases g3;obtain rfl:vx=ptr b 0:=g2;subst hm
 obtain ⟨e,hu,hs⟩:∃e,X.P.underlying t'=some (.array n e)∧zkN X.P e=some s:=by
  unfold arO at ha
  split at ha
  ·rename_i n' e he
   cases hb:Nat.ble n' 8 with
   | false=>rw [hb] at ha; cases ha
   | true =>
    rw [hb] at ha;dsimp only [cond_true] at ha
    split at ha
    ·rename_i s' hs
     cases ha;exact ⟨e,he,zfC hs⟩
    ·cases ha
  ·cases ha
 have hadd:(⟨b,0,none⟩:Addr).add (j*s)=⟨b,j*s,none⟩:=by unfold Addr.add; split<;>simp_all
 refine ⟨ptr b (j*s),?_,some ⟨b,0,none⟩,q,g1,by simp [zuw],fun _=>⟨b,rfl⟩⟩;refine zCD (fun w=>?_) hf h1 h3;simp [Instr.indexAt,Instr.sureAddr,ptr,asIntOf,run_underlying hu,zcS hs,hj,hadd,Result.andThen]
theorem fm_ok {m:UInt8→Option Bool} {c:UInt8} {b:Bool} {ats:Array TypeId} (hf:evC E x=some (.fm m)) (hy:evC E y=some (.u8 c)) (hm:m c=some b) (k:K (.c (.b b)) [] [] [] nid=some r):zde X w0 h0 F ⟨dst, .call ⟨.value x,⟨[y]⟩,ats⟩,t,p,af,gd⟩ E L nid K r:=by
 refine ⟨_,_,_,_,_,k,Nat.le_refl _,(fun _ h=>by cases h),fun L2 ν h φ a w next Q hd M hE ha hn k=>?_⟩;obtain ⟨Ea,hfi,hl'⟩:=zdD a hd;obtain ⟨vf,g1,g2⟩:=zj hl' (hE.op (by simp [Op.operands,Call.operands])) hf;obtain ⟨vy,g3,g4⟩:=zj hl' (hE.op (by simp [Op.operands,Call.operands])) hy;obtain rfl:vy=_:=g4;have g2:Rp X.P X.G h .fn m vf:=g2
 cases g2 with
 | fn _ f hfn =>
  have hexec:=zAZ (X:=X) (w:=w) (dst:=dst) (t:=t) (p:=p) (af:=af) (gd:=gd) (ats:=ats) (args:=⟨[y]⟩) (vs:=[zcV c]) hfn.1 (hfi.ev g1) (by simp [hfi.ev g3]);unfold Oper.wp;rw [hexec];refine Calls.mono (hfn.2 c b w hm) ?_;rintro e w' ⟨rfl,hb⟩;exact k ν h φ w' _ (M.grow hb) (Vn.le.refl _) (Fz.le.refl _) (zdq.refl _ _ _) rfl
theorem conv_i {n m:Int} {us:TypeDesc} (hx:evC E x=some (.i n)) (ht:X.P.underlying t'=some (.int .i64)) (hs:X.P.underlying ty=some us) (hr:zJW n=some m) (k:K (.c (.i m)) [] [] [] nid=some r):zde X w0 h0 F ⟨dst, .convert ty t' x,t,p,af,gd⟩ E L nid K r:=by
 refine zaU k fun L2 ν h φ a w hd M hE ha=>?_;obtain ⟨Ea,hf,hl'⟩:=zdD a hd;obtain ⟨vx,h1,h2⟩:=zj hl' (hE.op (by simp [Op.operands])) hx;obtain rfl:vx=_:=h2;exact ⟨_,zKt ht hs hf h1 hr,rfl⟩
theorem zN4 {id e:Nat} {n:Nat} (hx:evC E x=some (.os id)) (hu:elO X.P t'=some e) (k:K (.c (.i (n:Int))) [] [] [id] nid=some r) (hn:(∃te e xs kk,lk L id = .row te e xs kk∧xs.length=n)∨(∃e xs,lk L id = .fz e xs∧xs.length=n)) :
  zde X w0 h0 F ⟨dst, .call ⟨.builtin .len,⟨[x]⟩,⟨[t']⟩⟩,t,p,af,gd⟩ E L nid K r:=by
 refine zaU k fun L2 ν h φ a w hd M hE ha=>?_;obtain ⟨Ea,hf,hl'⟩:=zdD a hd;obtain ⟨vx,h1,h2⟩:=zj hl' (hE.op (by simp [Op.operands,Call.operands])) hx;obtain ⟨ad,m,cp,q,hν,rfl⟩:=h2
 have hm:m=n:=by
  have hr:=M.res id;rw [ha id (List.mem_singleton.2 rfl)] at hr
  rcases hn with ⟨te,e,xs,kk,hl,rfl⟩|⟨e,xs,hl,rfl⟩
  ·rw [hl] at hr;obtain ⟨v',q',vs,u,h3,h4,h5,_⟩:=hr;rw [hν] at h3;cases h3;exact h5.len.1
  ·rw [hl] at hr;obtain ⟨v',q',h3,_,h4⟩:=hr;rw [hν] at h3;cases h3;cases h4; rfl
 subst hm;exact ⟨_,zpe (zjU hu) hf h1,rfl⟩
theorem zrh {e:Ty} (xs:List (e.den τ)):zmv (t':=e) xs=some xs:=dif_pos rfl
theorem zLf {c:CV τ} {e:Ty} {xs:List (e.den τ)} {ids:List Nat} (k:rowZ L c=some ⟨e,xs,ids⟩):zDB L e c=some (xs,ids):=by
 unfold rowZ at k
 split at k
 ·cases k; unfold zDB; dsimp only; rw [zrh]
 ·rename_i id
  split at k
  ·rename_i hl; cases k; unfold zDB; dsimp only; rw [hl]; dsimp only; rw [zrh]
  ·rename_i hl; cases k; unfold zDB; dsimp only; rw [hl]; dsimp only; rw [zrh]
  ·rename_i i kk e' lo xs' hl
   split at k
   ·rename_i te e2 ys k' hl2
    cases hb:Nat.beq kk k' with
    | false=>rw [hb] at k; cases k
    | true =>
     rw [hb] at k;cases k;unfold zDB; dsimp only; rw [hl]; dsimp only; rw [hl2]; dsimp only; rw [hb,cond_true,zrh]
   ·cases k
  ·cases k
 ·cases k
theorem zPL (M:Mem X.P X.G w0 h0 F L2 w ν h φ) {c:CV τ} {z:Bool} {ids:List Nat} {v:Value} (k:nilZ X.G L c=some (z,ids)) (ha:∀i∈ids,lk L2 i=lk L i) (hv:zcT X.P X.G h ν c v):∃ad n cp,v = .slice ad n cp∧ad.isNone=z:=by
 unfold nilZ at k
 split at k
 ·cases k; cases hv; exact ⟨none,0,0,rfl,rfl⟩
 ·split at k
  ·rename_i e x xs ids' hr
   split at k
   ·rename_i c0 cs hets
    cases k;have hrp:=zDs M (M.lend_le ids) (zLf hr) ha (fun b hb=>zqE hb) hv
    cases hrp with
    | sl _ _ ad cp vs hc hs hrr =>
     refine ⟨ad,_,cp,rfl,?_⟩
     rcases hs with rfl|⟨b,o,cc,e',zz,rfl,_⟩
     ·have:=hrr.len;rw [hets] at this;simp only [List.length_nil,List.length_cons] at this;rw [Nat.mul_comm,Nat.succ_mul] at this;omega
     ·rfl
   ·cases k
  ·cases k
theorem zA1 {bo:BinOp} {el:Nat} {c:CV τ} {zb:Bool} {ids:List Nat} (hu:X.P.underlying t'=some (.slice el)) (hx:evC E x=some c) (hy:evX E y=some (.c .n0)) (hz:nilZ X.G L c=some (zb,ids)) (hb:okX (eqO bo zb)=some v) (k:K v [] [] ids nid=some r) :
  zde X w0 h0 F ⟨dst, .binOp bo t' x y ty,t,p,af,gd⟩ E L nid K r:=by
 obtain ⟨b,hb,rfl⟩:=zFu hb;refine zaU k fun L2 ν h φ a w hd M hE ha=>?_;obtain ⟨Ea,hf,hl'⟩:=zdD a hd;obtain ⟨vx,h1,h2⟩:=zj hl' (hE.op (by simp [Op.operands])) hx;obtain ⟨uy,g3,g4⟩:=zng hl' (hE.op (by simp [Op.operands])) hy rfl;obtain rfl:uy=_:=g4;obtain ⟨ad,n,cp,rfl,hn⟩:=zPL M hz ha h2
 cases bo<;>first|(cases hb; done)|skip
 all_goals cases hb
 ·exact ⟨_,zC1 hu hf h1 g3,by rw [hn]; rfl⟩
 ·exact ⟨_,zLb hu hf h1 g3,by rw [hn]; rfl⟩
theorem zN5 {id:Nat} {e:Ty} {xs:List (e.den τ)} (h:rwO L id=some ⟨e,xs⟩):rowZ L (.os id)=some ⟨e,xs,[id]⟩:=by
 unfold rwO at h;unfold rowZ;dsimp only
 split at h
 ·rename_i hl; cases h; rw [hl]
 ·rename_i hl; cases h; rw [hl]
 ·cases h
theorem zHy {x:Operand} {c:CV τ} (h:evX E x=some (.c c)):evC E x=some c:=by unfold evC; rw [h]
theorem zri (hT:TyOk X) (hC:∀q∈X.cs,COk X.P X.G q.1 q.2) (e:opX X E L nid K o.op=some r):zde X w0 h0 F o E L nid K r:=by
 obtain ⟨dst,op,t,p,af,gd⟩:=o;dsimp only at e;unfold opX at e
 split at e
 ·rename_i v hv
  exact zaU e fun L2 ν h φ a w hd M hE ha=>opP_ok hT hd M.on hE hv
 ·split at e
  ·split at e
   ·rename_i A hA
    split at e
    ·rename_i B hB
     split at e
     ·split at e
      ·split at e
       ·rename_i hu
        exact zOA hu hA hB (fun _ _ _ _=>rfl) e
       ·cases e
      ·exact zJg hA hB e
     ·split at e
      ·split at e
       ·rename_i hu
        split at e
        ·rename_i hv0
         exact zA1 hu (zHy hA) hB rfl hv0 e
        ·cases e
       ·cases e
      ·rename_i id
       split at e
       ·rename_i hu
        split at e
        ·rename_i ee xs hr
         split at e
         ·rename_i c0 cs0 hets
          obtain ⟨z0,hz0,e2⟩:=ob e
          clear e
          cases xs with
          | nil=>cases hz0
          | cons x0 xs0 =>
           cases hv0:okX (eqO _ false) with
           | none=>rw [hv0] at e2; cases e2
           | some v0 =>
            rw [hv0] at e2;refine zA1 hu (zHy hA) hB ?_ hv0 e2;unfold nilZ;dsimp only;rw [zN5 hr];dsimp only;rw [hets]
         ·cases e
        ·cases e
       ·cases e
      ·exact zJg hA hB e
     ·exact zJg hA hB e
    ·cases e
   ·cases e
  ·split at e
   ·rename_i hx
    exact zOz hx (fun _ _ _=>rfl) e
   ·cases e
  ·split at e
   ·rename_i hf
    split at e
    ·rename_i hx
     exact zOy hf hx (fun _ _ _=>rfl) e
    ·cases e
   ·cases e
  ·split at e
   ·rename_i hu
    split at e
    ·rename_i hx
     split at e
     ·rename_i hy
      obtain ⟨z,hz,e⟩:=ob e;exact zLP hu hx hy hz e
     ·cases e
    ·cases e
   ·cases e
  ·split at e
   ·rename_i hu
    split at e
    ·rename_i l hx
     split at e
     ·split at e
      ·rename_i hy
       split at e
       ·rename_i hz
        obtain ⟨s,hs,e⟩:=ob e;refine znX hx (fun hf hl hE h1=>?_) e;obtain ⟨vy,h2,h3⟩:=zj hl (hE.op (by simp [Op.operands])) hy;obtain ⟨vz,h4,h5⟩:=zj hl (hE.op (by simp [Op.operands])) hz;obtain rfl:vy=_:=h3;obtain rfl:vz=_:=h5;exact zMn hu hf h1 h2 h4 hs
       ·cases e
      ·cases e
     ·split at e
      ·rename_i hy
       obtain ⟨s,hs,e⟩:=ob e;refine znX hx (fun hf hl hE h1=>?_) e;obtain ⟨vy,h2,h3⟩:=zj hl (hE.op (by simp [Op.operands])) hy;obtain rfl:vy=_:=h3;exact zKs hu hf h1 h2 hs
      ·cases e
     ·split at e
      ·rename_i hz
       obtain ⟨s,hs,e⟩:=ob e;refine znX hx (fun hf hl hE h1=>?_) e;obtain ⟨vz,h4,h5⟩:=zj hl (hE.op (by simp [Op.operands])) hz;obtain rfl:vz=_:=h5;exact zOI hu hf h1 h4 hs
      ·cases e
     ·exact znX hx (fun hf hl hE h1=>zMp hu hf h1) e
    ·cases e
   ·rename_i te hu
    split at e
    ·rename_i c hx
     split at e
     ·rename_i hv
      obtain ⟨hsz,e⟩:=zgF e;exact zOB hu hx hv (zuo hsz).1 e
     ·split at e
      ·rename_i e' l U ids hs
       obtain ⟨hsz,e⟩:=zgF e;obtain ⟨hsz,_⟩:=zuo hsz
       split at e
       ·split at e
        ·rename_i hy
         split at e
         ·rename_i hz
          obtain ⟨s,hr,e⟩:=ob e;exact slice3 hu hx hs hsz hy hz hr e
         ·cases e
        ·cases e
       ·split at e
        ·rename_i hy
         obtain ⟨s,hr,e⟩:=ob e;exact slice1 hu hx hs hsz hy hr e
        ·cases e
       ·split at e
        ·rename_i hz
         obtain ⟨s,hr,e⟩:=ob e;exact slice2 hu hx hs hsz hz hr e
        ·cases e
       ·cases e
      ·cases e
    ·cases e
   ·cases e
  ·split at e
   ·rename_i hx
    split at e
    ·rename_i hs
     split at e
     ·rename_i hd'
      obtain ⟨m,hm,e⟩:=ob e;exact conv_i hx hd' hs hm e
     ·cases e
    ·cases e
   ·rename_i hx
    split at e
    ·rename_i hs
     split at e
     ·rename_i hd'
      split at e
      ·rename_i he
       exact zLN hx hs hd' he e
      ·cases e
     ·cases e
    ·cases e
   ·rename_i hx
    split at e
    ·rename_i hd'
     split at e
     ·rename_i hs
      split at e
      ·rename_i he
       split at e
       ·rename_i hr
        exact str_ok hx hd' hs he hr e
       ·cases e
      ·cases e
     ·cases e
    ·cases e
   ·cases e
  ·split at e
   ·rename_i hz
    exact zLy hz e
   ·cases e
  ·split at e
   ·rename_i hA
    split at e
    ·rename_i hc
     exact box_ok hA hc e
    ·cases e
   ·cases e
  ·split at e
   ·rename_i hx
    exact zNb hx e
   ·cases e
  ·split at e
   ·rename_i A hA
    split at e
    ·rename_i vs hc
     split at e
     ·rename_i n hn
      obtain ⟨hl,e⟩:=zgF e
      have hl:vs.length=n:=by simpa using hl
      split at e
      ·rename_i c hx
       unfold zM2 at e
       split at e
       ·split at e
        ·rename_i hlk
         split at e
         ·rename_i hp
          exact zKk hA hc hn hl hx hlk hp e
         ·cases e
        ·cases e
       ·split at e
        ·rename_i hlk
         have hk:=Nat.eq_of_beq_eq_true (zgF e).1
         replace e:=(zgF e).2
         subst hk
         split at e
         ·rename_i hp
          split at e
          ·rename_i hq
           split at e
           ·rename_i hz
            split at e
            ·rename_i hU
             obtain ⟨hid,e⟩:=bc_f e;obtain ⟨l,hs,e⟩:=ob e;exact zKo hA hc hn hl hx hlk hp hq hz hU hid hs e
            ·cases e
           ·cases e
          ·cases e
         ·cases e
        ·cases e
       ·cases e
      ·cases e
     ·cases e
    ·cases e
   ·cases e
  ·split at e
   ·rename_i ha
    split at e
    ·rename_i hy
     split at e
     ·rename_i hx
      split at e
      ·rename_i hl
       obtain ⟨j,_,h2,h3,e⟩:=zN3 e;exact arr_ok ha hx hy hl (by omega) h3 e
      ·cases e
     ·cases e
    ·cases e
   ·split at e
    ·rename_i te hel
     split at e
     ·rename_i m hy
      split at e
      ·rename_i e' xs hx
       obtain ⟨hsz,e⟩:=zgF e;obtain ⟨hsz,hpos⟩:=zuo hsz;obtain ⟨d,hd,e⟩:=ob e;exact ix_ok hT hel hx hy hd hsz hpos e fun _ _ _ _ _ _ _ _ h=>h
      ·rename_i id hx
       split at e
       ·rename_i hlk
        obtain ⟨hsz,e⟩:=zgF e;obtain ⟨hsz,hpos⟩:=zuo hsz;obtain ⟨d,hd,e⟩:=ob e;exact ixo_ok hel hx hy hlk hd hsz hpos e
       ·rename_i hlk
        obtain ⟨hsz,e⟩:=zgF e;obtain ⟨hsz,hpos⟩:=zuo hsz;obtain ⟨d,hd,e⟩:=ob e;refine ix_ok hT hel hx hy hd hsz hpos e fun L2 ν h φ w u M ha hu=>?_;obtain ⟨ad,n,cp,q,hν,rfl⟩:=hu;have hr:=M.res id;rw [ha id (List.mem_singleton.2 rfl),hlk] at hr;obtain ⟨v',q',h3,_,h4⟩:=hr;rw [hν] at h3;cases h3;exact h4
       ·rename_i hlk
        split at e
        ·rename_i hlk2
         obtain ⟨hb,e3⟩:=zgF e;simp only [Bool.and_eq_true,Nat.beq_eq] at hb;obtain ⟨hkk,hsz⟩:=hb;subst hkk;obtain ⟨d,hr,e4⟩:=ob e3;exact zFL hel hx hy hlk hlk2 hsz hr e4
        ·cases e
       ·cases e
      ·cases e
     ·cases e
    ·cases e
  ·split at e
   ·rename_i hel
    split at e
    ·rename_i hte
     split at e
     ·rename_i hx
      obtain ⟨hb,e⟩:=zgF e;simp only [Bool.and_eq_true,Nat.beq_eq,Nat.ble_eq] at hb
      split at e
      ·rename_i hU
       exact bs_ok hT hel hte hx hb.1 hb.2 hU e
      ·cases e
     ·cases e
    ·cases e
   ·cases e
  ·split at e
   ·rename_i id hx
    split at e
    ·rename_i hu
     split at e
     ·rename_i hl
      exact zN4 hx hu e (.inl ⟨_,_,_,_,hl,rfl⟩)
     ·rename_i hl
      exact zN4 hx hu e (.inr ⟨_,_,hl,rfl⟩)
     ·rename_i hl
      exact zKq hx hl hu e
     ·cases e
    ·cases e
   ·cases e
  ·split at e
   ·rename_i te hel
    split at e
    ·rename_i e' hte
     split at e
     ·rename_i hx
      split at e
      ·rename_i hA
       split at e
       ·rename_i hy
        split at e
        ·rename_i hu
         split at e
         ·rename_i hl
          obtain ⟨hb,e⟩:=zgF e;obtain ⟨hfit,e⟩:=og e;exact zHE hel hx hA hy hu hl hb hfit e
         ·cases e
        ·cases e
       ·rename_i hy
        have hb:=Nat.eq_of_beq_eq_true (zgF e).1
        replace e:=(zgF e).2
        subst hb;exact zOQ hT hel hel hte hx hA hy e rfl
       ·rename_i hy
        split at e
        ·rename_i hB
         have hb:=(zgF e).1
         replace e:=(zgF e).2
         simp only [Bool.and_eq_true,Nat.beq_eq] at hb;obtain ⟨hdj,rfl⟩:=hb;obtain ⟨hfit,e⟩:=og e;exact zHF hT hel hel hte hx hA hy hB hdj hfit e rfl
        ·cases e
       ·cases e
      ·cases e
     ·cases e
    ·cases e
   ·cases e
  ·split at e
   ·rename_i hel
    split at e
    ·rename_i hx
     exact zLS hel hx e
    ·cases e
   ·cases e
  ·split at e
   ·rename_i hx
    split at e
    ·rename_i hargs
     exact zHx hx hargs hC e
    ·cases e
   ·rename_i hx
    split at e
    ·rename_i hargs
     exact zNY hx hargs hC e
    ·cases e
   ·rename_i hx
    split at e
    ·rename_i hargs
     exact zNZ hx hargs hC e
    ·cases e
   ·rename_i hf
    split at e
    ·split at e
     ·rename_i hy
      obtain ⟨b,hb,e⟩:=ob e;exact fm_ok hf hy hb e
     ·cases e
    ·cases e
   ·cases e
  ·split at e
   ·rename_i hx
    exact zPJ hx e
   ·cases e
  ·split at e
   ·rename_i hx
    exact zN0 hx e
   ·cases e
  ·exact zN2 e
  ·split at e
   ·rename_i ht
    split at e
    ·rename_i hx
     split at e
     ·rename_i hl
      split at e
      ·rename_i hy
       split at e
       ·rename_i hz
        split at e
        ·rename_i hf
         exact zLe ht hx hl hy hz hf e
        ·cases e
       ·cases e
      ·cases e
     ·cases e
    ·cases e
   ·cases e
  ·split at e
   ·rename_i ht
    have hs:=(zgF e).1
    replace e:=(zgF e).2
    split at e
    ·rename_i hx
     split at e
     ·rename_i hl
      split at e
      ·rename_i hy
       exact zJh ht hs hx hl hy e
      ·cases e
     ·cases e
    ·cases e
   ·cases e
  ·cases e
end
end Go.Rk
end
section
namespace Go.Rk
open Go.RowKit Go.Dm Go.Dk
variable {τ:Nat→Type}
section
variable {ρ:Type} {X:Cx τ} {w0 w w':World} {h0 h h':Fz} {F:List Nat} {o:Oper} {E E' E'':zE τ} {L L2:Hp τ} {ν ν':Vn τ} {φ φ':Nat→List Nat} {nid nid':Nat} {r:ρ} {a:Act}
def zbZ (X:Cx τ) (h:Fz) (ν:Vn τ) (a:Act) (E:zE τ):Prop:=∀t x,asc E t=some x→zjq X h ν a t x
theorem zbZ.on (hE:zbZ X h ν a E) (l:List Nat):zeb X h ν a l E:=fun t _ x e=>hE t x e
theorem zjq.le (hh:h.le h') (hν:ν.le ν') {t:Nat} {x:XV τ} (hs:zjq X h ν a t x):zjq X h' ν' a t x :=
 let ⟨v,h1,h2⟩:=hs; ⟨v,h1.le hh hν,h2⟩
def Ref (E E':zE τ):Prop:=∀t x,asc E' t=some x→asc E t=some x∨∃b,x = .c (.k b)∧asc E t=some (.c (.b b))
theorem Ref.refl (E:zE τ):Ref E E:=fun _ _ e => .inl e
theorem zjq.ref {t:Nat} {b:Bool} (hs:zjq X h ν a t (.c (.b b))):zjq X h ν a t (.c (.k b)):=hs
theorem Ref.env (hr:Ref E E') (hE:zbZ X h ν a E):zbZ X h ν a E':=by
 intro t x e
 rcases hr t x e with h1|⟨b,rfl,h1⟩
 ·exact hE t x h1
 ·exact (hE t _ h1).ref
theorem Ref.on {l:List Nat} (hr:Ref E E') (hE:zeb X h ν a l E):zeb X h ν a l E':=by
 intro t ht x e
 rcases hr t x e with h1|⟨b,rfl,h1⟩
 ·exact hE t ht x h1
 ·exact (hE t ht _ h1).ref
theorem zmD {α:Type}:∀(U L:List (Nat × α)) (t:Nat),asc (U++L) t=match asc U t with
  | some v=>some v
  | none=>asc L t
 | [],L,t=>rfl
 | (k,v)::U,L,t=>by
  simp only [List.cons_append,zdo,zbX]
  cases Nat.beq k t with
  | true=>rfl
  | false=>exact zmD U L t
theorem Ref.app (hr:Ref E E') (N:zE τ):Ref (N++E) (N++E'):=by
 intro t x e;rw [zmD] at e ⊢
 cases hn:asc N t with
 | some v=>rw [hn] at e; exact .inl e
 | none=>rw [hn] at e; exact hr t x e
theorem Ref.known (hr:Ref E E') {s:Nat} {b:Bool} (hb:asc E' s=some (.c (.b b))):Ref E ((s, .c (.k b))::E'):=by
 intro t x e;simp only [zdo,zbX] at e
 cases hst:Nat.beq s t with
 | true =>
  rw [hst] at e;cases e
  have:s=t:=by simpa using hst
  subst this
  rcases hr s _ hb with h1|⟨b',h1,_⟩
  ·exact .inr ⟨b,rfl,h1⟩
  ·cases h1
 | false=>rw [hst] at e; exact hr t x e
theorem Ref.trans (h1:Ref E E') (h2:Ref E' E''):Ref E E'':=by
 intro t x e
 rcases h2 t x e with h3|⟨b,rfl,h3⟩
 ·exact h1 t x h3
 ·rcases h1 t _ h3 with h4|⟨b',h4,_⟩
  ·exact .inr ⟨b,rfl,h4⟩
  ·cases h4
theorem zOm {all:List Oper} {j s:Nat} (e:dstO all j=some s):(all.toArray[j]?).bind (·.dst)=some s:=by
 unfold dstO at e
 split at e
 ·rename_i o ho
  rw [zgb] at ho;simp [ho,e]
 ·cases e
theorem zs9 {all:List Oper} {g:Option (Nat × Bool)} {run pass:zE τ→Option ρ} (e:zw1 all E g run pass=some r) :
  ∃(m:Bool) (E':zE τ),(if m then run E' else pass E')=some r∧Ref E E'∧∀(X:Cx τ) (h:Fz) (ν:Vn τ) (a:Act) (o:Oper),o.guard=g→zeb X h ν a (gdR all g) E→Region.wanted o (yielded all.toArray a.tmps)=m:=by
 unfold zw1 hi at e
 split at e
 ·exact ⟨true,E,e,Ref.refl E,fun X h ν a o hg _=>by simp [Region.wanted,hg]⟩
 ·rename_i j w
  split at e
  ·rename_i s hs
   obtain ⟨hlt,e⟩:=zgF e;have hs':=zOm hs
   have hy:∀{X:Cx τ} {h:Fz} {ν:Vn τ} {a:Act} {x:XV τ},zeb X h ν a (gdR all (some (j,w))) E→asc E s=some x→zjQ x=false→∃v,XOk X.P X.G h ν x v∧a.tmps[s]? = some v:=by
    intro X h ν a x hE hx hg;obtain ⟨v,h1,h2,_⟩:=hE s (by simp [gdR,hs,hlt]) x hx;exact ⟨v,h1,h2 hlt hg⟩
   have hb:∀{b:Bool} {X:Cx τ} {h:Fz} {ν:Vn τ} {a:Act} {o:Oper},(asc E s=some (.c (.b b))∨asc E s=some (.c (.k b)))→o.guard=some (j,w)→zeb X h ν a (gdR all (some (j,w))) E→Region.wanted o (yielded all.toArray a.tmps)=(b==w):=by
    intro b X h ν a o hx hg hE
    have:a.tmps[s]? = some (.bool b):=by
     rcases hx with hx|hx
     ·obtain ⟨v,h1,h2⟩:=hy hE hx rfl; rw [h2,show v=_ from h1]
     ·obtain ⟨v,h1,h2⟩:=hy hE hx rfl; rw [h2,show v=_ from h1]
    have hyl:yielded all.toArray a.tmps j=some b:=by
     unfold yielded; rw [hs']; simp [this]
    cases b<;>cases w<;>simp [Region.wanted,hg,hyl]
   split at e
   ·rename_i hx
    refine ⟨false,E,e,Ref.refl E,fun X h ν a o hg hE=>?_⟩;obtain ⟨v,h1,h2⟩:=hy hE hx rfl
    have hyl:yielded all.toArray a.tmps j=none:=by
     unfold yielded; rw [hs']; simp [h2,show v=undef from h1,undef]
    simp [Region.wanted,hg,hyl]
   ·rename_i b hx
    refine ⟨b==w,E,?_,Ref.refl E,fun X h ν a o hg hE=>hb (.inr hx) hg hE⟩;cases b<;>cases w<;>exact e
   ·rename_i b hx
    cases b with
    | true =>
     rw [if_pos rfl] at e;refine ⟨true==w,_,?_,(Ref.refl E).known hx,fun X h ν a o hg hE=>hb (.inl hx) hg hE⟩;cases w<;>exact e
    | false =>
     rw [if_neg (by simp)] at e;refine ⟨false==w,_,?_,(Ref.refl E).known hx,fun X h ν a o hg hE=>hb (.inl hx) hg hE⟩;cases w<;>exact e
   ·cases e
  ·cases e

structure St (X:Cx τ) (w0:World) (h0:Fz) (F:List Nat) (E:zE τ) (L:Hp τ) (nid:Nat) (a:Act) (w:World):Prop where
 nodef:a.defers=[]
 size:a.tmps.size=X.n
 st:∃ν h φ,Mem X.P X.G w0 h0 F L w ν h φ∧zbZ X h ν a E∧∀i,nid≤i→ν i=none
theorem St.ref (s:St X w0 h0 F E L nid a w) (hr:Ref E E'):St X w0 h0 F E' L nid a w :=
 ⟨s.nodef,s.size,let ⟨ν,h, φ,M,hE,hn⟩:=s.st; ⟨ν,h, φ,M,hr.env hE,hn⟩⟩
def zHG (l:List Oper) (d:Option Nat) (v:XV τ) (g:List (XV τ)):zE τ:=putT v (zvH g l d []) d
theorem zve (l:List Oper) (d:Option Nat) (v:XV τ) (g:List (XV τ)) (E:zE τ):zCQ l d v g E=zHG l d v g++E:=by
 unfold zCQ zHG putT zvH
 cases d with
 | none =>
  cases g with
  | nil=>rfl
  | cons x g=>cases g<;>rfl
 | some d =>
  cases g with
  | nil=>rfl
  | cons x g=>cases g<;>rfl
theorem zDa (d:Option Nat) (E:zE τ):unT E d=zHG [] d .un []++E:=by cases d<;>rfl
theorem zyS {t:Nat} {x:XV τ} (hg:zjQ x=true):zjq X h ν a t x:=by
 cases x with
 | gv t' y=>exact ⟨if t<20000 then X.fx (t-gh) else ptr (t-gb) 0,trivial,(fun _ e=>by cases e),fun h=>if_neg (by unfold gb at h; omega),fun _ h=>if_pos h⟩
 | _=>cases hg
theorem zta {l:List Oper} {d:Option Nat} {v:XV τ} {g:List (XV τ)} {u:Value} (hN:X.n≤gh) (hd:dOk X.n d=true) (hs:a.tmps.size=X.n) (hg:∀x∈g,zjQ x=true) (hv:XOk X.P X.G h ν v u) (hE:∀t x,asc E t=some x→d≠some t→zjq X h ν a t x) :
  zbZ X h ν (a.put d u) (zHG l d v g++E):=by
 have old:∀t x,asc E t=some x→d≠some t→zjq X h ν (a.put d u) t x:=by
  intro t x e hne;obtain ⟨v',h1,h2,h3⟩:=hE t x e hne;refine ⟨v',h1,fun a1 a2=>?_,h3⟩
  cases d with
  | none=>exact h2 a1 a2
  | some d =>
   have:d≠t:=fun e=>hne (by rw [e]);simp [Act.put,this,h2 a1 a2]
 have gh_ok:∀t x,asc (zvH g l d []) t=some x→zjq X h ν (a.put d u) t x:=by
  intro t x e;unfold zvH at e
  split at e
  ·rename_i y
   have hy:=hg y (List.mem_singleton.2 rfl)
   cases d with
   | none =>
    simp only [zdo,zbX] at e
    cases hb:Nat.beq (30000+l.length%10000) t with
    | true=>rw [hb] at e; cases e; exact zyS hy
    | false=>rw [hb] at e; cases e
   | some d =>
    simp only [zdo,zbX] at e
    cases hb:Nat.beq (20000+d) t with
    | true=>rw [hb] at e; cases e; exact zyS hy
    | false=>rw [hb] at e; cases e
  ·cases e
 intro t x e;unfold zHG putT at e
 cases d with
 | none =>
  simp only at e;rw [zmD] at e
  cases hgt:asc (zvH g l none []) t with
  | some y=>rw [hgt] at e; cases e; exact gh_ok t _ hgt
  | none=>rw [hgt] at e; exact old t x e (by simp)
 | some d =>
  simp only [List.cons_append,zdo,zbX] at e
  cases hb:Nat.beq d t with
  | true =>
   rw [hb] at e;cases e
   have:d=t:=by simpa using hb
   subst this
   have hlt:d<X.n:=by simpa [dOk] using hd
   refine ⟨u,hv,fun _ _=>?_,fun hge=>?_,fun hge=>?_⟩
   ·simp [Act.put,hs,hlt]
   ·exfalso
    unfold gb at hge; unfold gh at hN; omega
   ·exfalso; omega
  | false =>
   rw [hb,cond_false,zmD] at e
   cases hgt:asc (zvH g l (some d) []) t with
   | some y=>rw [hgt] at e; cases e; exact gh_ok t _ hgt
   | none =>
    rw [hgt] at e;refine old t x e ?_;intro e2;cases e2;simp at hb
theorem zbZ.le (hh:h.le h') (hν:ν.le ν') (hE:zbZ X h ν a E):zbZ X h' ν' a E:=fun t x e=>(hE t x e).le hh hν
theorem zo8 (a:Act) (d:Option Nat) (v:Value):(a.put d v).tmps.size=a.tmps.size:=by cases d<;>simp [Act.put]
theorem ztb (a:Act) (d:Option Nat) (v:Value):(a.put d v).defers=a.defers:=by cases d<;>rfl
theorem zDb {op:OpF τ ρ} (hop:zwB X w0 h0 F op) (hN:X.n≤gh) {all:List Oper} {Q:Exit→Act→World→Prop} {K:zE τ→Hp τ→Nat→Option ρ}
  (hK:∀E L nid a w,K E L nid=some r→St X w0 h0 F E L nid a w→Q .normal a w):∀{l:List Oper} {E:zE τ} {L:Hp τ} {nid:Nat} {a:Act} {w:World},opsX op X all l E L nid K=some r→St X w0 h0 F E L nid a w→wpList X.P all.toArray Q l a w
 | [],E,L,nid,a,w,e,s=>hK _ _ _ _ _ e s
 | o :: l,E,L,nid,a,w,e,s=>by
  unfold opsX at e;obtain ⟨hd,e⟩:=zgF e;obtain ⟨m,E',e,hr,hw⟩:=zs9 e;obtain ⟨ν,h, φ,M,hE,hn⟩:=s.st;have hwant:=hw X h ν a o rfl (hE.on _);unfold wpList;rw [hwant]
  cases m with
  | false =>
   simp only [Bool.false_eq_true,if_false] at e ⊢;rw [zDa] at e;refine zDb hop hN hK e ⟨?_,?_, ν,h, φ,M,?_,hn⟩
   ·rw [ztb]; exact s.nodef
   ·rw [zo8]; exact s.size
   ·exact zta hN hd s.size (fun _ h=>by cases h) rfl fun t x e _=>hr.env hE t x e
  | true =>
   simp only [if_true] at e ⊢
   left
   obtain ⟨v,g,U,tch,nid',e1,hle,hg,hok⟩:=hop _ _ _ _ _ _ e;refine hok L ν h φ a w _ Q s.nodef M ((hr.env hE).on _) (fun _ _=>rfl) (fun i h1 _=>hn i h1) fun ν' h' φ' w' u M' hν hh hfr hv=>?_;simp only [zve] at e1;refine zDb hop hN hK e1 ⟨?_,?_, ν',h', φ',M',?_,fun i hi=>?_⟩
   ·rw [ztb]; exact s.nodef
   ·rw [zo8]; exact s.size
   ·exact zta hN hd s.size hg hv fun t x e _=>((hr.env hE).le hh hν) t x e
   ·cases e:ν' i with
    | none=>rfl
    | some y =>
     have:=hfr i (hn i (by omega)) (by rw [e]; simp);omega
end
end Go.Rk
end
section
namespace Go.Rk
open Go.RowKit Go.Dm Go.Dk
variable {τ:Nat→Type}

section
variable {R α:Type}
noncomputable def zkK (q:R→List (Nat × α)):List R→Nat→(Nat→Bool)→List (Nat × α)→List (Nat × α)
 | [],_,_,B=>B
 | r::rs,i,f,B=>zkK q rs (i+1) f (if f i=true then q r++B else B)
noncomputable def ziB (q:R→List (Nat × α)):List R→Nat→(Nat→Bool)→Nat→Option α
 | [],_,_,_=>none
 | r::rs,i,f,t=>match ziB q rs (i+1) f t with
  | some v=>some v
  | none=>if f i=true then asc (q r) t else none
theorem zkt (q:R→List (Nat × α)):∀(rs:List R) (i:Nat) (f:Nat→Bool) (B:List (Nat × α)) (t:Nat),asc (zkK q rs i f B) t=match ziB q rs i f t with
  | some v=>some v
  | none=>asc B t
 | [],_,_,_,_=>rfl
 | r :: rs,i,f,B,t=>by
  simp only [zkK,ziB];rw [zkt q rs (i+1) f _ t]
  cases ziB q rs (i+1) f t with
  | some v=>rfl
  | none =>
   by_cases hf:f i=true
   ·simp only [hf,if_true]
    first
     | (rw [zmD]; done)
     | (rw [zmD]; cases asc (q r) t<;>rfl)
   ·simp only [hf,if_false,Bool.false_eq_true]
def wr (l:List (Nat × α)) (t:Nat):Prop:=∃v,asc l t=some v
theorem zf9 (q:R→List (Nat × α)) {f f':Nat→Bool} {t:Nat}:∀(rs:List R) (i:Nat),(∀j r,rs[j]? = some r→wr (q r) t→f (i+j)=f' (i+j))→ziB q rs i f t=ziB q rs i f' t
 | [],_,_=>rfl
 | r::rs,i,h=>by
  simp only [ziB]
  rw [zf9 q (f:=f) (f':=f') (t:=t) rs (i+1) fun j r' hj hw=>by
   have:=h (j+1) r' (by simpa using hj) hw
   rwa [show i+(j+1)=i+1+j by omega] at this]
  cases ziB q rs (i+1) f' t with
  | some v=>rfl
  | none =>
   cases ha:asc (q r) t with
   | none=>simp
   | some v =>
    have:=h 0 r rfl ⟨v,ha⟩;simp only [Nat.add_zero] at this;simp [this]
theorem zzQ (q:R→List (Nat × α)) {f:Nat→Bool} {t:Nat}:∀(rs:List R) (i:Nat),(∀j r,rs[j]? = some r→wr (q r) t→f (i+j)=false)→ziB q rs i f t=none
 | [],_,_=>rfl
 | r::rs,i,h=>by
  simp only [ziB]
  rw [zzQ q rs (i+1) fun j r' hj hw=>by
   have:=h (j+1) r' (by simpa using hj) hw
   rwa [show i+(j+1)=i+1+j by omega] at this]
  cases ha:asc (q r) t with
  | none=>simp
  | some v=>simp [show f i=false from h 0 r rfl ⟨v,ha⟩]
theorem zuC (q:R→List (Nat × α)) {f:Nat→Bool} {t:Nat} {v:α}:∀(rs:List R) (i k:Nat) (r:R),rs[k]? = some r→f (i+k)=true→asc (q r) t=some v→(∀j r',rs[j]? = some r'→wr (q r') t→k<j→f (i+j)=false)→ziB q rs i f t=some v
 | [],_,_,_,hr,_,_,_=>by simp at hr
 | r0::rs,i,0,r,hr,hf,hv,h=>by
  simp at hr;subst hr;simp only [ziB]
  rw [zzQ q rs (i+1) fun j r' hj hw=>by
   have:=h (j+1) r' (by simpa using hj) hw (by omega)
   rwa [show i+(j+1)=i+1+j by omega] at this]
  simp only [Nat.add_zero] at hf;simp [hf,hv]
 | r0::rs,i,k+1,r,hr,hf,hv,h=>by
  simp only [ziB]
  rw [zuC q rs (i+1) k r (by simpa using hr) (by rwa [show i+1+k=i+(k+1) by omega]) hv fun j r' hj hw hlt=>by
   have:=h (j+1) r' (by simpa using hj) hw (by omega)
   rwa [show i+(j+1)=i+1+j by omega] at this]
end
theorem zuD:∀(L:Hp τ) (i:Nat),lk L i=match asc L i with
  | some r=>r
  | none => .gone
 | [],_=>rfl
 | (k,v)::L,i=>by
  simp only [zux,zm1,zdo,zbX]
  cases Nat.beq k i with
  | true=>rfl
  | false=>exact zuD L i
theorem zIn {U:Hp τ} {i:Nat}:wr U i↔i∈kys U:=by
 constructor
 ·rintro ⟨v,h⟩;exact List.mem_map.2 ⟨_,zmG h,rfl⟩
 ·intro h
  induction U with
  | nil=>cases h
  | cons p U ih =>
   by_cases e:p.1=i
   ·exact ⟨p.2,by obtain ⟨k,v⟩:=p; simp at e; subst e; simp [zdo,zbX]⟩
   ·obtain ⟨k,v⟩:=p
    rcases List.mem_cons.1 h with h|h
    ·exact (e h.symm).elim
    ·obtain ⟨u,hu⟩:=ih h;exact ⟨u,by simp only [zdo,zbX]; rw [zbL.2 e]; exact hu⟩

def zDM (all:List Oper) (i:Nat):List Nat:=match all[i]? with
 | none=>[]
 | some o=>(o.after.toList.filter (Region.binds .any)).map (·.on)
theorem zuE:∀(l:List Oper) (P:List (List Nat)) (k:Nat),k<P.length→ziy (zhY P l) k=ziy P k
 | [],P,k,_=>rfl
 | o::l,P,k,hk=>by
  unfold zhY;rw [zuE l _ k (by simp; omega),zgb,zgb,List.getElem?_append_left hk]
theorem zw4:∀(l:List Oper) (P:List (List Nat)) (j:Nat) (o:Oper),l[j]? = some o→∃P',P'.length=P.length+j∧(∀k,k<P.length+j→ziy P' k=ziy (zhY P l) k)∧ziy (zhY P l) (P.length+j)=some (zzH P' o)
 | [],P,j,o,h=>by simp at h
 | o'::l,P,0,o,h=>by
  simp at h;subst h;refine ⟨P,rfl,fun k hk=>?_,?_⟩
  ·rw [zuE (o'::l) P k (by omega)]
  ·unfold zhY;rw [zuE l _ _ (by simp),zgb];simp
 | o'::l,P,j+1,o,h=>by
  unfold zhY;obtain ⟨P',h1,h2,h3⟩:=zw4 l (P++[zzH P o']) j o (by simpa using h);simp only [List.length_append,List.length_singleton] at h1 h2 h3;refine ⟨P',by omega,fun k hk=>h2 k (by omega),?_⟩;rw [show P.length+(j+1)=P.length+1+j by omega];exact h3
theorem zzR {all:List Oper} {f:Nat→Bool} (hcl:∀j,f j=true→∀e∈zDM all j,f e=true):∀(j:Nat) (l:List Nat),ziy (zhY [] all) j=some l→(∀e∈zDM all j,f e=true)→∀e∈l,f e=true:=by
 intro j
 induction j using Nat.strongRecOn with
 | _ j ih =>
  intro l hl hb e he
  have hj:j<all.length:=by
   rcases Nat.lt_or_ge j all.length with h|h
   ·exact h
   ·exfalso
    have hlen:∀(l:List Oper) (P:List (List Nat)),(zhY P l).length=P.length+l.length:=by
     intro l
     induction l with
     | nil=>intro P; rfl
     | cons o l ih=>intro P; unfold zhY; rw [ih]; simp; omega
    rw [zgb] at hl;have:=(List.getElem?_eq_some_iff.1 hl).1;rw [hlen] at this;simp at this; omega
  obtain ⟨P',h1,h2,h3⟩:=zw4 all [] j all[j] (List.getElem?_eq_getElem hj);simp only [List.length_nil,Nat.zero_add] at h1 h2 h3;rw [h3] at hl;cases hl;unfold zzH at he;obtain ⟨ed,hed,he⟩:=List.mem_flatMap.1 he
  have hbe:ed.on∈zDM all j:=by
   unfold zDM;rw [List.getElem?_eq_getElem hj];exact List.mem_map.2 ⟨ed,hed,rfl⟩
  have hfe:=hb _ hbe
  rcases List.mem_cons.1 he with rfl|he
  ·exact hfe
  ·split at he
   ·rename_i l' hl'
    have hlt:ed.on<j:=by
     rw [zgb] at hl';have:=(List.getElem?_eq_some_iff.1 hl').1;omega
    rw [h2 _ hlt] at hl';exact ih _ hlt l' hl' (hcl _ hfe) e he
   ·cases he

structure Rec (τ:Nat→Type) where
 o:Oper
 W:zE τ
 E:zE τ
 L:Hp τ
 lo:Nat
 hi:Nat
 v:XV τ
 g:List (XV τ)
 ls:List Oper
 U:Hp τ
 t:List Nat
 run:Bool
def Rec.ne (r:Rec τ):zE τ:=zHG r.ls r.o.dst r.v r.g
section
variable {ρ:Type} {X:Cx τ} {w0 w w':World} {h0 h h':Fz} {F:List Nat} {o:Oper} {E E' Eb:zE τ} {L L2:Hp τ} {ν ν':Vn τ} {φ φ':Nat→List Nat} {nid nid':Nat} {r:ρ} {a:Act}
structure RecOk (X:Cx τ) (w0:World) (h0:Fz) (F:List Nat) (all:List Oper) (Eb:zE τ) (q:Rec τ):Prop where
 refw:Ref Eb q.W
 ref:Ref Eb q.E
 up:q.lo≤q.hi
 dst:dOk X.n q.o.dst=true
 want:∀(h:Fz) (ν:Vn τ) (a:Act),zeb X h ν a (gdR all q.o.guard) q.W→Region.wanted q.o (yielded all.toArray a.tmps)=q.run
 gv:∀x∈q.g,zjQ x=true
 pass:q.run=false→q.U=[]∧q.v = .un
 does:q.run=true→Ok1 X w0 h0 F q.o q.E q.L q.lo q.v q.U q.t q.hi
def zt8 (X:Cx τ) (w0:World) (h0:Fz) (F:List Nat) (all:List Oper):List Oper→zE τ→Hp τ→Nat→List (Rec τ)→zE τ→Hp τ→Nat→Prop
 | [],Eb,L,nid,[],E',L',nid'=>E'=Eb∧L'=L∧nid'=nid
 | o::l,Eb,L,nid,q::qs,E',L',nid'=>q.o=o∧q.L=L∧q.lo=nid∧RecOk X w0 h0 F all Eb q∧zt8 X w0 h0 F all l (q.ne++Eb) (q.U++L) q.hi qs E' L' nid'
 | _,_,_,_,_,_,_,_=>False
def drs (all:List Oper):Nat→List (Rec τ)→List Dr
 | _,[]=>[]
 | i,q::qs=>⟨i,q.o.dst,zes all q.o,(if q.run=true then q.t++kys q.U else []),kys q.U⟩::drs all (i+1) qs
theorem zNk {op:OpF τ ρ} (hop:zwB X w0 h0 F op) {all:List Oper} {K:zE τ→Hp τ→Nat→Option ρ}:∀{l:List Oper} {i:Nat} {R:List Dr} {E Eb:zE τ} {L:Hp τ} {nid:Nat},zzI op X all i l R E L nid K=some r→Ref Eb E →
  ∃qs Eb' L' nid' E',zt8 X w0 h0 F all l Eb L nid qs Eb' L' nid'∧Ref Eb' E'∧zuA all ((drs all i qs).reverse++R)=true∧K E' L' nid'=some r
 | [],i,R,E,Eb,L,nid,e,hr=>by
  unfold zzI hi at e;obtain ⟨h1,e⟩:=zgF e;exact ⟨[],Eb,L,nid,E,⟨rfl,rfl,rfl⟩,hr,h1,e⟩
 | o::l,i,R,E,Eb,L,nid,e,hr=>by
  unfold zzI at e;obtain ⟨hd,e⟩:=zgF e;obtain ⟨m,E1,e,hr1,hw⟩:=zs9 e;have hr2:=hr.trans hr1;have hwant:∀(h:Fz) (ν:Vn τ) (a:Act),zeb X h ν a (gdR all o.guard) E→Region.wanted o (yielded all.toArray a.tmps)=m:=fun h ν a=>hw X h ν a o rfl
  cases m with
  | false =>
   simp only [Bool.false_eq_true,if_false] at e;rw [zDa] at e;obtain ⟨qs,Eb',L',nid',E',h1,h2,h3,h4⟩:=zNk hop e (hr2.app _);refine ⟨⟨o,E,E1,L,nid,nid, .un,[],[],[],[],false⟩::qs,Eb',L',nid',E',⟨rfl,rfl,rfl,⟨hr,hr2,Nat.le_refl _,hd,hwant,(fun _ h=>by cases h),fun _=>⟨rfl,rfl⟩,fun h=>by cases h⟩,h1⟩,h2,?_,h4⟩;simpa [drs,kys] using h3
  | true =>
   simp only [if_true] at e;obtain ⟨v,g,U,tch,n1,e1,hle,hg,hok⟩:=hop _ _ _ _ _ _ e;simp only [zve] at e1;obtain ⟨qs,Eb',L',nid',E',h1,h2,h3,h4⟩:=zNk hop e1 (hr2.app _);refine ⟨⟨o,E,E1,L,nid,n1,v,g,l,U,tch,true⟩::qs,Eb',L',nid',E',⟨rfl,rfl,rfl,⟨hr,hr2,hle,hd,hwant,hg,(fun h=>by cases h),fun _=>hok⟩,h1⟩,h2,?_,h4⟩;simpa [drs] using h3
theorem zty {R α:Type} (q:R→List (Nat × α)) {f:Nat→Bool}:∀(rs:List R) (i:Nat) (B:List (Nat × α)),(∀j,i≤j→f j=false)→zkK q rs i f B=B
 | [],_,_,_=>rfl
 | r::rs,i,B,h=>by
  simp only [zkK];rw [h i (Nat.le_refl _)];exact zty q rs (i+1) B fun j hj=>h j (by omega)
theorem zzS {R α:Type} (q:R→List (Nat × α)) {f:Nat→Bool} {t:Nat} {v:α}:∀(rs:List R) (i:Nat),ziB q rs i f t=some v→∃j r,rs[j]? = some r∧f (i+j)=true∧asc (q r) t=some v
 | [],_,h=>by cases h
 | r::rs,i,h=>by
  simp only [ziB] at h
  cases hl:ziB q rs (i+1) f t with
  | some u =>
   rw [hl] at h;cases h;obtain ⟨j,r',h1,h2,h3⟩:=zzS q rs (i+1) hl;exact ⟨j+1,r',by simpa using h1,by rwa [show i+(j+1)=i+1+j by omega],h3⟩
  | none =>
   rw [hl] at h
   by_cases hf:f i=true
   ·simp only [hf,if_true] at h;exact ⟨0,r,rfl,hf,h⟩
   ·simp [hf] at h
theorem zt8.get {all:List Oper}:∀{l:List Oper} {Eb:zE τ} {L:Hp τ} {nid:Nat} {qs:List (Rec τ)} {E':zE τ} {L':Hp τ} {nid':Nat} (k:Nat),zt8 X w0 h0 F all l Eb L nid qs E' L' nid' →
  nid≤nid'∧qs.length=l.length∧E'=zkK Rec.ne qs k (fun _=>true) Eb∧L'=zkK Rec.U qs k (fun _=>true) L ∧
  (∀(i:Nat) (q:Rec τ),qs[i]? = some q→l[i]? = some q.o∧q.L=zkK Rec.U qs k (fun j=>Nat.blt j (k+i)) L∧RecOk X w0 h0 F all (zkK Rec.ne qs k (fun j=>Nat.blt j (k+i)) Eb) q∧nid≤q.lo∧q.hi≤nid') ∧
  (∀(i j:Nat) (q q':Rec τ),qs[i]? = some q→qs[j]? = some q'→i<j→q.hi≤q'.lo)
 | [],Eb,L,nid,[],E',L',nid',k,h=>by
  obtain ⟨rfl,rfl,rfl⟩:=h;exact ⟨Nat.le_refl _,rfl,rfl,rfl,fun i q hq=>by simp at hq,fun i j q q' hq=>by simp at hq⟩
 | o :: l,Eb,L,nid,q::qs,E',L',nid',k,h=>by
  obtain ⟨rfl,hL,rfl,hR,hc⟩:=h;obtain ⟨g1,g2,g3,g4,g5,g6⟩:=zt8.get (k+1) hc;refine ⟨Nat.le_trans hR.up g1,by simp [g2],?_,?_,fun i q' hq=>?_,fun i j q1 q2 h1 h2 hij=>?_⟩
  ·simp only [zkK,if_true]; exact g3
  ·simp only [zkK,if_true]; exact g4
  ·cases i with
   | zero =>
    simp at hq;subst hq
    have e1:∀{α:Type} (f:Rec τ→List (Nat × α)) (B:List (Nat × α)),zkK f (q::qs) k (fun j=>Nat.blt j (k+0)) B=B:=fun f B=>zty f _ _ _ fun j hj=>by
     rw [← Bool.not_eq_true,Nat.blt_eq]; omega
    refine ⟨rfl,by rw [e1]; exact hL,by rw [e1]; exact hR,Nat.le_refl _,g1⟩
   | succ i =>
    obtain ⟨a1,a2,a3,a4,a5⟩:=g5 i q' (by simpa using hq)
    have hb:Nat.blt k (k+(i+1))=true:=by rw [Nat.blt_eq]; omega
    have hs:k+(i+1)=k+1+i:=by omega
    refine ⟨by simpa using a1,?_,?_,Nat.le_trans hR.up a4,a5⟩
    ·simp only [zkK,hb,if_true]; rw [hs]; exact a2
    ·simp only [zkK,hb,if_true]; rw [hs]; exact a3
  ·cases j with
   | zero=>omega
   | succ j =>
    cases i with
    | zero =>
     simp at h1;subst h1;exact (g5 j q2 (by simpa using h2)).2.2.2.1
    | succ i=>exact g6 i j q1 q2 (by simpa using h1) (by simpa using h2) (by omega)
 | [],_,_,_,_::_,_,_,_,_,h=>h.elim
 | _::_,_,_,_,[],_,_,_,_,h=>h.elim
theorem zJ0 {all:List Oper}:∀{qs:List (Rec τ)} (k i:Nat) (q:Rec τ),qs[i]? = some q→(⟨k+i,q.o.dst,zes all q.o,(if q.run=true then q.t++kys q.U else []),kys q.U⟩:Dr)∈drs all k qs
 | [],_,_,_,h=>by simp at h
 | q0::qs,k,0,q,h=>by simp at h; subst h; exact List.mem_cons_self ..
 | q0::qs,k,i+1,q,h=>by
  have:=zJ0 (all:=all) (k+1) i q (by simpa using h);rw [show k+1+i=k+(i+1) by omega] at this;exact List.mem_cons_of_mem _ this
theorem zJ1 {q : Rec τ} {t:Nat} {x:XV τ} (hg:∀y∈q.g,zjQ y=true) (h:asc q.ne t=some x):q.o.dst=some t∨(zjQ x=true∧20000≤t∧t<40000)∨(zjQ x=true∧∃d:Nat,q.o.dst=some d∧t=20000+d):=by
  unfold Rec.ne zHG at h
  have gh_ok:∀{d:Option Nat},asc (zvH q.g q.ls d []) t=some x→(zjQ x=true∧20000≤t∧t<40000)∨(zjQ x=true∧∃d':Nat,d=some d'∧t=20000+d'):=by
    intro d e;unfold zvH at e
    split at e
    · rename_i y hy
      have hgy:=hg y (by rw [hy]; exact List.mem_singleton.2 rfl)
      cases d with
      | none =>
        simp only [zdo,zbX] at e
        cases hb:Nat.beq (30000+q.ls.length%10000) t with
        | true =>
          rw [hb] at e; cases e
          have:30000+q.ls.length%10000=t:=by simpa using hb
          exact .inl ⟨hgy,by omega,by omega⟩
        | false=>rw [hb] at e; cases e
      | some d =>
        simp only [zdo,zbX] at e
        cases hb:Nat.beq (20000+d) t with
        | true =>
          rw [hb] at e; cases e
          have:20000+d=t:=by simpa using hb
          exact .inr ⟨hgy,d,rfl,this.symm⟩
        | false=>rw [hb] at e; cases e
    · cases e
  unfold putT at h
  split at h
  · rename_i d hd
    simp only [zdo,zbX] at h
    cases hb:Nat.beq d t with
    | true =>
      have:d=t:=by simpa using hb
      subst this;exact .inl hd
    | false => rw [hb] at h; rw [hd] at h; rcases gh_ok h with h1|⟨h1,d',h2,h3⟩
               · exact .inr (.inl h1)
               · exact .inr (.inr ⟨h1,d',by rw [hd]; exact h2,h3⟩)
  · rename_i hd
    rw [hd] at h
    rcases gh_ok h with h1|⟨h1,d',h2,h3⟩
    · exact .inr (.inl h1)
    · cases h2
theorem zIo {l m:List Nat} {i:Nat} (h1:i∈l) (h2:i∈m):meets l m=true:=by
 cases m with
 | nil=>cases h2
 | cons j m=>exact (zJS _ _).trans (List.any_eq_true.2 ⟨i,h1,zeE.2 h2⟩)
theorem zGb {all:List Oper} {R:List Dr} (h:zuA all R=true):(∀a∈R, ∀b∈R,a.i=b.i∨zsf a b=false∨tied (zhY [] all) a.i b.i=true)∧∀a∈R, ∃l,ziy (zhY [] all) a.i=some l∧∀j∈l,j<a.i:=by
 unfold zuA at h;simp only [zy2,Bool.and_eq_true,List.all_eq_true,Bool.or_eq_true] at h;obtain ⟨h1,h2⟩:=h;refine ⟨fun a ha b hb=>?_,fun a ha=>?_⟩
 ·rcases h1 a ha b hb with h3|h3
  ·exact .inl (by simpa using h3)
  ·split at h3
   ·simp only [Bool.or_eq_true,Bool.not_eq_true'] at h3;exact .inr h3
   ·simp only [Bool.or_eq_true,Bool.not_eq_true'] at h3;exact .inr h3.symm
 ·have:=h2 a ha
  split at this
  ·rename_i l hl
   exact ⟨l,hl,fun j hj=>by simpa using List.all_eq_true.1 this j hj⟩
  ·cases this
theorem zKI {P:List (List Nat)} {i j:Nat} (h:tied P i j=true):(∃l,ziy P i=some l∧j∈l)∨(∃l,ziy P j=some l∧i∈l):=by
 unfold tied at h;simp only [Bool.or_eq_true] at h
 rcases h with h|h
 ·left
  split at h
  ·rename_i l hl; exact ⟨l,hl,zeE.1 h⟩
  ·cases h
 ·right
  split at h
  ·rename_i l hl; exact ⟨l,hl,zeE.1 h⟩
  ·cases h
theorem zzT {all:List Oper} {o:Oper} {t:Nat} (h:t∈zes all o):t<20000∨40000≤t:=by
 have key:∀{s t:Nat},t∈(bif Nat.blt s gh then [s] else [])→t<20000:=by
  intro s t h
  cases hb:Nat.blt s gh with
  | true =>
   rw [hb] at h
   have:s<gh:=by simpa using hb
   have h:t∈[s]:=h;rw [List.mem_singleton.1 h];unfold gh at this; omega
  | false=>rw [hb] at h; cases h
 unfold zes at h
 rcases List.mem_append.1 h with h|h
 ·unfold rdO at h;obtain ⟨x,_,hx⟩:=List.mem_flatMap.1 h;unfold zw2 at hx
  split at hx
  ·exact .inl (key hx)
  ·rw [List.mem_singleton.1 hx]; unfold gb; omega
  ·cases hx
 ·unfold gdR at h
  split at h
  ·split at h
   ·exact .inl (key h)
   ·cases h
  ·cases h
theorem zy4 (qs:List (Rec τ)) (i:Nat) (f:Nat→Bool) (L:Hp τ) (k:Nat):lk (zkK Rec.U qs i f L) k=match ziB Rec.U qs i f k with
  | some v=>v
  | none=>lk L k:=by
 rw [zuD,zkt,zuD];cases ziB Rec.U qs i f k<;>rfl
theorem zsj {R α:Type} (q:R→List (Nat × α)):∀(rs:List R) (i:Nat) (f:Nat→Bool) (B:List (Nat × α)),zkK q rs i f B=zkK q rs i f []++B
 | [],_,_,_=>rfl
 | r::rs,i,f,B=>by
  simp only [zkK];rw [zsj q rs (i+1) f (if f i=true then q r++B else B),zsj q rs (i+1) f (if f i=true then q r++[] else [])]
  split<;>simp
theorem zCX (hm:X.P.follows .mixedOrders=true) (hN:X.n≤gh) {id:Nat} {l:List Oper} {qs:List (Rec τ)} {Eb' E':zE τ} {L':Hp τ} {T:List Nat} (hch:zt8 X w0 h0 F l l E L nid qs Eb' L' nid') (hrf:Ref Eb' E') (hok:zuA l ((drs l 0 qs).reverse++[])=true)
  (hTT:∀q∈qs,q.run=true→∀k∈q.t,k∈T) {L2:Hp τ} {ν0:Vn τ} {hh0:Fz} {φ0:Nat→List Nat} {a:Act} {w:World} {Q:Exit→Act→World→Prop} (hnod0:a.defers=[]) (hsize0:a.tmps.size=X.n) (M0:Mem X.P X.G w0 h0 F L2 w ν0 hh0 φ0) (hE0:zbZ X hh0 ν0 a E)
  (hL2:∀k∈T,lk L2 k=lk L k) (hn0:∀k,nid≤k→k<nid'→ν0 k=none)
  (hQ:∀ν' h' φ' a' w',a'.defers=[]→a'.tmps.size=X.n→Mem X.P X.G w0 h0 F (zkK Rec.U qs 0 (fun _=>true) []++L2) w' ν' h' φ'→ν0.le ν'→hh0.le h'→zdq ν0 ν' nid nid'→zbZ X h' ν' a' E'→Q .normal a' w'):(Code.region id l.toArray true).wp X.P Q a w:=by
 obtain ⟨c1,c2,c3,c4,c5,c6⟩:=zt8.get 0 hch;obtain ⟨hcl2,hah⟩:=zGb hok
 have hdr:∀(j:Nat) (q:Rec τ),qs[j]? = some q→(⟨j,q.o.dst,zes l q.o,(if q.run=true then q.t++kys q.U else []),kys q.U⟩:Dr)∈((drs l 0 qs).reverse++[]):=by
  intro j q hq;have:=zJ0 (all:=l) 0 j q hq;rw [Nat.zero_add] at this;simpa using this
 have hrec:∀(j:Nat) (q:Rec τ),qs[j]? = some q→RecOk X w0 h0 F l (zkK Rec.ne qs 0 (fun k=>Nat.blt k j) E) q:=fun j q hq=>by
  have:=(c5 j q hq).2.2.1;simpa using this
 -- the invariant
 refine zA6 hm (fun li a w=>li.size=l.length∧(∀j,li.getD j false=true→∀e∈zDM l j,li.getD e false=true)∧a.defers=[]∧a.tmps.size=X.n ∧
  ∃ν h φ,Mem X.P X.G w0 h0 F (zkK Rec.U qs 0 (fun j=>li.getD j false) L2) w ν h φ∧zbZ X h ν a (zkK Rec.ne qs 0 (fun j=>li.getD j false) E)∧ν0.le ν∧hh0.le h ∧
   ∀k, ν k≠none→ν0 k≠none∨∃j q,qs[j]? = some q∧li.getD j false=true∧q.lo≤k∧k<q.hi) ?_ ?_ ?_ ?_
 ·rintro li a w ⟨h,_⟩; simpa using h
 ·have hf:∀j,(Array.replicate l.toArray.size false).getD j false=false:=by
   intro j;simp [Array.getD_eq_getD_getElem?,Array.getElem?_replicate]
   split<;>simp
  refine ⟨by simp,fun j hj=>(by rw [hf] at hj; cases hj),hnod0,hsize0, ν0,hh0, φ0,?_,?_,Vn.le.refl _,Fz.le.refl _,fun k hk => .inl hk⟩
  ·rw [zty _ _ _ _ fun j _=>hf j]; exact M0.drew
  ·rw [zty _ _ _ _ fun j _=>hf j]; exact hE0
 ·rintro li a w i ⟨hls,hcl,hnod,hsize, ν,h, φ,M,hE,hle1,hle2,hν⟩ hi
  have hi':i<l.length∧li.getD i true=false∧∀e∈zDM l i,li.getD e false=true:=by
   unfold Region.ready at hi;simp only [List.mem_filter,List.mem_range,Bool.and_eq_true,Bool.not_eq_true',List.size_toArray] at hi;refine ⟨hi.1,hi.2.1,fun e he=>?_⟩;have h2:=hi.2.2
   have hoi:l.toArray[i]? = some (l[i]'hi.1):=by simp [hi.1]
   rw [hoi] at h2;simp only [Option.map_some,Option.getD_some,Array.all_eq_true'] at h2;unfold zDM at he;rw [List.getElem?_eq_getElem hi.1] at he;simp only [List.mem_map,List.mem_filter] at he;obtain ⟨ed,⟨hed,hb⟩,rfl⟩:=he;have:=h2 ed (by simpa using hed);simpa [hb] using this
  obtain ⟨hil,hiu,hpre⟩:=hi'
  have hfi:li.getD i false=false:=by
   have h1:i<li.size:=by omega
   simp [Array.getD_eq_getD_getElem?,h1] at hiu ⊢;exact hiu
  have hqi:i<qs.length:=by omega
  obtain ⟨q,hq⟩:∃q,qs[i]? = some q:=⟨_,List.getElem?_eq_getElem hqi⟩;obtain ⟨ho,hL,hR,hlo,hhi⟩:=c5 i q hq;rw [Nat.zero_add] at hL hR;have hcl':∀j,li.getD j false=true→∀e∈zDM l j,li.getD e false=true:=hcl
  -- two that zsf stand in their order
  have hT2:∀(j:Nat) (q':Rec τ),qs[j]? = some q'→j≠i→(zsf ⟨i,q.o.dst,zes l q.o,(if q.run=true then q.t++kys q.U else []),kys q.U⟩ ⟨j,q'.o.dst,zes l q'.o,(if q'.run=true then q'.t++kys q'.U else []),kys q'.U⟩=true)→li.getD j false=Nat.blt j i:=by
   intro j q' hq' hne hcla;obtain ⟨li1,hli1,hlt1⟩:=hah _ (hdr i q hq);obtain ⟨lj1,hlj1,hlt2⟩:=hah _ (hdr j q' hq')
   have htied:tied (zhY [] l) i j=true:=by
    rcases hcl2 _ (hdr i q hq) _ (hdr j q' hq') with h1|h1|h1
    ·exact (hne h1.symm).elim
    ·rw [h1] at hcla; cases hcla
    ·exact h1
   rcases zKI htied with ⟨l1,h1,h2⟩|⟨l1,h1,h2⟩
   ·have hf:=zzR (f:=fun k=>li.getD k false) hcl' i l1 h1 hpre j h2;have h1':ziy (zhY [] l) i=some li1:=hli1;rw [h1] at h1';cases h1';have:=hlt1 j h2
    have hbl:Nat.blt j i=true:=by rw [Nat.blt_eq]; exact this
    rw [hbl]; exact hf
   ·have h1':ziy (zhY [] l) j=some lj1:=hlj1;rw [h1] at h1';cases h1';have hlt:i<j:=hlt2 i h2
    have hbl:Nat.blt j i=false:=by rw [← Bool.not_eq_true,Nat.blt_eq]; omega
    rw [hbl]
    cases hfj:li.getD j false with
    | false=>rfl
    | true =>
     have:li.getD i false=true:=zzR (f:=fun k=>li.getD k false) hcl' j _ h1 (hcl' j hfj) i h2;rw [hfi] at this; cases this
  have hii:Nat.blt i i=false:=by rw [← Bool.not_eq_true,Nat.blt_eq]; omega
  have hclD:∀{q':Rec τ} {d:Nat},q'.o.dst=some d→d∈zes l q.o→∀j:Nat,zsf ⟨i,q.o.dst,zes l q.o,(if q.run=true then q.t++kys q.U else []),kys q.U⟩ ⟨j,q'.o.dst,zes l q'.o,(if q'.run=true then q'.t++kys q'.U else []),kys q'.U⟩=true:=by
   intro q' d hd hm j;simp only [zsf,hd,zeE.2 hm,Bool.true_or,Bool.or_true]
  have hclE:∀{q':Rec τ} {d:Nat},q'.o.dst=some d→q.o.dst=some d→∀j:Nat,zsf ⟨i,q.o.dst,zes l q.o,(if q.run=true then q.t++kys q.U else []),kys q.U⟩ ⟨j,q'.o.dst,zes l q'.o,(if q'.run=true then q'.t++kys q'.U else []),kys q'.U⟩=true:=by
   intro q' d hd hd2 j;simp only [zsf,hd,hd2,Nat.beq_refl,Bool.or_true]
  have hclU:∀{q':Rec τ} {k:Nat},q.run=true→k∈kys q'.U→(k∈q.t∨k∈kys q.U)→∀j:Nat,zsf ⟨i,q.o.dst,zes l q.o,(if q.run=true then q.t++kys q.U else []),kys q.U⟩ ⟨j,q'.o.dst,zes l q'.o,(if q'.run=true then q'.t++kys q'.U else []),kys q'.U⟩=true:=by
   intro q' k hrun hk hk2 j;simp only [zsf,hrun,if_true];rw [zIo (i:=k) hk (List.mem_append.2 hk2),Bool.true_or]
  -- what it reads
  have hreads:zeb X h ν a (zes l q.o) (zkK Rec.ne qs 0 (fun k=>Nat.blt k i) E):=by
   intro t ht x hx;refine hE t x ?_;rw [zkt] at hx ⊢;rw [← zf9 Rec.ne (f:=fun j=>li.getD j false) (f':=fun k=>Nat.blt k i) (t:=t) qs 0 ?_] at hx
   ·exact hx
   ·intro j q' hq' hw;rw [Nat.zero_add]
    by_cases hji:j=i
    ·subst hji; rw [hfi,hii]
    ·obtain ⟨y,hy⟩:=hw;refine hT2 j q' hq' hji ?_
     rcases zJ1 (hrec j q' hq').gv hy with h1|⟨_,h1,h2⟩|⟨_,d,h1,h2⟩
     ·exact hclD h1 ht j
     ·rcases zzT ht with h3|h3<;>omega
     ·have hdl:=(hrec j q' hq').dst;rw [h1] at hdl;have hdl2:d<X.n:=Nat.le_of_ble_eq_true hdl;have hN2:X.n≤9000:=hN
      have h4:t<40000:=by omega
      rcases zzT ht with h3|h3
      ·omega
      ·omega
  have hdone:∀j,(li.setIfInBounds i true).getD j false=(li.getD j false||Nat.beq j i):=by
   intro j
   have h1:i<li.size:=by omega
   by_cases hji:j=i
   ·subst hji;simp [Array.getD_eq_getD_getElem?,h1]
   ·have:Nat.beq j i=false:=zbL.2 hji;simp [Array.getD_eq_getD_getElem?,Ne.symm hji,this]
  have hdoneN:∀j,j≠i→(li.setIfInBounds i true).getD j false=li.getD j false:=fun j hj=>by rw [hdone,zbL.2 hj,Bool.or_false]
  have hdoneI:(li.setIfInBounds i true).getD i false=true:=by rw [hdone]; simp
  have hcl3:∀j,(li.setIfInBounds i true).getD j false=true→∀e∈zDM l j,(li.setIfInBounds i true).getD e false=true:=by
   intro j hj e he
   have hle:∀e,li.getD e false=true→(li.setIfInBounds i true).getD e false=true:=fun e h=>by rw [hdone,h]; rfl
   by_cases hji:j=i
   ·subst hji; exact hle e (hpre e he)
   ·rw [hdoneN j hji] at hj; exact hle e (hcl j hj e he)
  -- the environment behind it
  have henv:∀{a':Act} {h':Fz} {ν':Vn τ},zbZ X h' ν' a' (q.ne++zkK Rec.ne qs 0 (fun j=>li.getD j false) E)→zbZ X h' ν' a' (zkK Rec.ne qs 0 (fun j=>(li.setIfInBounds i true).getD j false) E):=by
   intro a' h' ν' hE2 t x hx
   by_cases hgv:zjQ x=true
   ·exact zyS hgv
   ·refine hE2 t x ?_;rw [zkt] at hx;rw [zmD,zkt]
    have hreal:∀{j:Nat} {q':Rec τ},qs[j]? = some q'→∀y,asc q'.ne t=some y→zjQ y=false→q'.o.dst=some t:=by
     intro j q' hq' y hy hg
     rcases zJ1 (hrec j q' hq').gv hy with h1|⟨h1,_⟩|⟨h1,_⟩
     ·exact h1
     ·rw [h1] at hg; cases hg
     ·rw [h1] at hg; cases hg
    cases hlk:ziB Rec.ne qs 0 (fun j=>(li.setIfInBounds i true).getD j false) t with
    | some y =>
     rw [hlk] at hx;cases hx;obtain ⟨j,q',hq',hfj,hy⟩:=zzS Rec.ne qs 0 hlk;rw [Nat.zero_add] at hfj;have hdj:=hreal hq' x hy (by simpa using hgv)
     cases hne:asc q.ne t with
     | some z =>
      have h1:q.o.dst=some t:=by
       rcases zJ1 (hrec i q hq).gv hne with h1|⟨h1,h2,h3⟩|⟨_,d,h2,h3⟩
       ·exact h1
       ·have hdl:=(hrec j q' hq').dst;rw [hdj] at hdl
        have hdl:t<X.n:=by simpa [dOk] using hdl
        unfold gh at hN; omega
       ·have hdl:=(hrec j q' hq').dst;rw [hdj] at hdl
        have hdl:t<X.n:=by simpa [dOk] using hdl
        unfold gh at hN; omega
      have hlast:=zuC Rec.ne (f:=fun j=>(li.setIfInBounds i true).getD j false) (t:=t) qs 0 i q hq (by rw [Nat.zero_add]; exact hdoneI) hne fun j2 q2 hq2 hw hlt=>by
       rw [Nat.zero_add,hdoneN j2 (by omega)];obtain ⟨y2,hy2⟩:=hw
       have hd2:q2.o.dst=some t:=by
        rcases zJ1 (hrec j2 q2 hq2).gv hy2 with h2|⟨_,h2,h3⟩|⟨_,d,h2,h3⟩
        ·exact h2
        ·have hdl:=(hrec i q hq).dst;rw [h1] at hdl
         have hdl:t<X.n:=by simpa [dOk] using hdl
         unfold gh at hN; omega
        ·have hdl:=(hrec i q hq).dst;rw [h1] at hdl
         have hdl:t<X.n:=by simpa [dOk] using hdl
         unfold gh at hN; omega
       rw [hT2 j2 q2 hq2 (by omega) (hclE hd2 h1 j2), ← Bool.not_eq_true,Nat.blt_eq];omega
      rw [hlk] at hlast;cases hlast;rfl
     | none =>
      rw [zf9 Rec.ne (f:=fun j=>li.getD j false) (f':=fun j=>(li.setIfInBounds i true).getD j false) (t:=t) qs 0 (fun j2 q2 hq2 hw=>by
       rw [Nat.zero_add]
       by_cases hji:j2=i
       ·subst hji;rw [hq] at hq2;cases hq2;obtain ⟨z,hz⟩:=hw;rw [hne] at hz; cases hz
       ·rw [hdoneN j2 hji]),hlk]
    | none =>
     rw [hlk] at hx
     have hni:asc q.ne t=none:=by
      cases hz:asc q.ne t with
      | none=>rfl
      | some z =>
       exfalso
       have:∀(rs:List (Rec τ)) (k:Nat) (q':Rec τ),rs[k]? = some q'→∀(i0:Nat) (f:Nat→Bool),f (i0+k)=true→asc q'.ne t=some z→ziB Rec.ne rs i0 f t≠none:=by
        intro rs
        induction rs with
        | nil=>intro k q' h; simp at h
        | cons r rs ih =>
         intro k q' hk i0 f hf hz;simp only [ziB]
         cases hl:ziB Rec.ne rs (i0+1) f t with
         | some v=>simp
         | none =>
          cases k with
          | zero =>
           simp at hk; subst hk;simp only [Nat.add_zero] at hf;simp [hf,hz]
          | succ k=>exact (ih k q' (by simpa using hk) (i0+1) f (by rwa [show i0+1+k=i0+(k+1) by omega]) hz hl).elim
       exact this qs i q hq 0 _ (by rw [Nat.zero_add]; exact hdoneI) hz hlk
     rw [hni]
     rw [zf9 Rec.ne (f:=fun j=>li.getD j false) (f':=fun j=>(li.setIfInBounds i true).getD j false) (t:=t) qs 0 (fun j2 q2 hq2 hw=>by
       rw [Nat.zero_add]
       by_cases hji:j2=i
       ·subst hji;rw [hq] at hq2;cases hq2;obtain ⟨z,hz⟩:=hw;rw [hni] at hz; cases hz
       ·rw [hdoneN j2 hji]),hlk]
     exact hx
  have hsz2:(li.setIfInBounds i true).size=l.length:=by simpa using hls
  have hol:l.toArray[i]? = some q.o:=by simpa using ho
  unfold wpOp;rw [hol];dsimp only;have hRo:=hrec i q hq;rw [hRo.want h ν a (fun t ht x hx=>(Ref.on (l:=zes l q.o) hRo.refw hreads) t (by unfold zes; exact List.mem_append_right _ ht) x hx)]
  cases hrun:q.run with
  | false =>
   obtain ⟨hU,hv⟩:=hRo.pass hrun;rw [if_neg (by simp)];refine ⟨hsz2,hcl3,by rw [ztb]; exact hnod,by rw [zo8]; exact hsize, ν,h, φ,M.congr fun k=>?_,henv ?_,hle1,hle2,fun k hk=>?_⟩
   ·rw [zy4,zy4]
    rw [zf9 Rec.U (f:=fun j=>(li.setIfInBounds i true).getD j false) (f':=fun j=>li.getD j false) (t:=k) qs 0 fun j2 q2 hq2 hw=>by
     rw [Nat.zero_add]
     by_cases hji:j2=i
     ·subst hji;rw [hq] at hq2;cases hq2;obtain ⟨z,hz⟩:=hw;rw [hU] at hz; cases hz
     ·rw [hdoneN j2 hji]]
   ·unfold Rec.ne;rw [hv];exact zta hN hRo.dst hsize hRo.gv rfl fun t x hx _=>hE t x hx
   ·rcases hν k hk with h1|⟨j,q',h1,h2,h3⟩
    ·exact .inl h1
    ·exact .inr ⟨j,q',h1,by rw [hdone,h2]; rfl,h3⟩
  | true =>
   rw [if_pos rfl]
   left
   refine hRo.does hrun _ ν h φ a w _ Q hnod M (fun t ht x hx=>(Ref.on (l:=zes l q.o) hRo.ref hreads) t (by unfold zes; exact List.mem_append_left _ ht) x hx) (fun k hk=>?_) (fun k h1 h2=>?_) fun ν' h' φ' w' u M' hν' hh hfr hv=>?_
   ·rw [hL,zy4,zy4,hL2 k (hTT q (List.mem_of_getElem? hq) hrun k hk)]
    rw [zf9 Rec.U (f:=fun j=>li.getD j false) (f':=fun k=>Nat.blt k i) (t:=k) qs 0 fun j2 q2 hq2 hw=>by
     rw [Nat.zero_add]
     by_cases hji:j2=i
     ·subst hji; rw [hfi,hii]
     ·exact hT2 j2 q2 hq2 hji (hclU hrun (zIn.1 hw) (.inl hk) j2)]
   ·cases hνk:ν k with
    | none=>rfl
    | some y =>
     exfalso
     rcases hν k (by rw [hνk]; simp) with h3|⟨j,q',h3,h4,h5,h6⟩
     ·exact h3 (hn0 k (by omega) (by omega))
     ·rcases Nat.lt_trichotomy j i with hj|hj|hj
      ·have:=c6 j i q' q h3 hq hj; omega
      ·subst hj; rw [hfi] at h4; cases h4
      ·have:=c6 i j q q' hq h3 hj; omega
   ·refine ⟨hsz2,hcl3,by rw [ztb]; exact hnod,by rw [zo8]; exact hsize, ν',h', φ',M'.congr fun k=>?_,henv ?_,hle1.trans hν',hle2.trans hh,fun k hk=>?_⟩
    ·rw [zuD,zuD,zkt,zmD,zkt]
     cases hUk:asc q.U k with
     | some z =>
      have hlast:=zuC Rec.U (f:=fun j=>(li.setIfInBounds i true).getD j false) (t:=k) qs 0 i q hq (by rw [Nat.zero_add]; exact hdoneI) hUk fun j2 q2 hq2 hw hlt=>by
       rw [Nat.zero_add,hdoneN j2 (by omega),hT2 j2 q2 hq2 (by omega) (hclU hrun (zIn.1 hw) (.inr (zIn.1 ⟨z,hUk⟩)) j2), ← Bool.not_eq_true,Nat.blt_eq];omega
      rw [hlast]
     | none =>
      rw [zf9 Rec.U (f:=fun j=>(li.setIfInBounds i true).getD j false) (f':=fun j=>li.getD j false) (t:=k) qs 0 fun j2 q2 hq2 hw=>by
       rw [Nat.zero_add]
       by_cases hji:j2=i
       ·subst hji;rw [hq] at hq2;cases hq2;obtain ⟨z,hz⟩:=hw;rw [hUk] at hz; cases hz
       ·rw [hdoneN j2 hji]]
    ·exact zta hN hRo.dst hsize hRo.gv hv fun t x hx _=>(hE.le hh hν') t x hx
    ·by_cases hk0:ν k=none
     ·obtain ⟨h1,h2⟩:=hfr k hk0 hk;exact .inr ⟨i,q,hq,hdoneI,h1,h2⟩
     ·rcases hν k hk0 with h1|⟨j,q',h1,h2,h3⟩
      ·exact .inl h1
      ·exact .inr ⟨j,q',h1,by rw [hdone,h2]; rfl,h3⟩
 ·rintro li a w ⟨hls,hcl,hnod,hsize, ν,h, φ,M,hE,hle1,hle2,hν⟩ hr
  have hall:∀i,i<l.length→li.getD i false=true:=by
   intro i
   induction i using Nat.strongRecOn with
   | _ i ih =>
    intro hi
    cases hb:li.getD i false with
    | true=>rfl
    | false =>
     exfalso
     have hmem:i∈Region.ready .any l.toArray li:=by
      unfold Region.ready;simp only [List.mem_filter,List.mem_range,Bool.and_eq_true,Bool.not_eq_true',List.size_toArray]
      have h1:i<li.size:=by omega
      refine ⟨hi,by simpa [Array.getD_eq_getD_getElem?,h1] using hb,?_⟩
      have hoi:l.toArray[i]? = some l[i]:=by simp [hi]
      rw [hoi];simp only [Option.map_some,Option.getD_some,Array.all_eq_true'];intro e he
      cases hbe:Region.binds .any e with
      | false=>rfl
      | true =>
       have hlt:e.on<i:=by
        have hqi:i<qs.length:=by omega
        obtain ⟨l1,h2,h3⟩:=hah _ (hdr i _ (List.getElem?_eq_getElem hqi));obtain ⟨P',_,_,h4⟩:=zw4 l [] i l[i] (List.getElem?_eq_getElem hi);simp only [List.length_nil,Nat.zero_add] at h4;have h2:ziy (zhY [] l) i=some l1:=h2;rw [h4] at h2;cases h2;refine h3 e.on ?_;unfold zzH;refine List.mem_flatMap.2 ⟨e,List.mem_filter.2 ⟨by simpa using he,hbe⟩,List.mem_cons_self ..⟩
       simpa using ih e.on hlt (by omega)
     rw [hr] at hmem;cases hmem
  have hcong:∀{α:Type} (f:Rec τ→List (Nat × α)) (B:List (Nat × α)) (t:Nat),asc (zkK f qs 0 (fun j=>li.getD j false) B) t=asc (zkK f qs 0 (fun _=>true) B) t:=by
   intro α f B t
   rw [zkt,zkt,zf9 f (f:=fun j=>li.getD j false) (f':=fun _=>true) (t:=t) qs 0 fun j q hq _=>by
    rw [Nat.zero_add];refine hall j ?_;have:=(List.getElem?_eq_some_iff.1 hq).1
    omega]
  refine hQ ν h φ a w hnod hsize (M.congr fun k=>?_) hle1 hle2 (fun k h1 h2=>?_) (hrf.env (fun t x hx=>hE t x ?_))
  ·rw [← zsj,zuD,zuD,hcong]
  ·rcases hν k h2 with h3|⟨j,q,h3,h4,h5,h6⟩
   ·exact (h3 h1).elim
   ·have:=(c5 j q h3).2.2.2; omega
  ·rw [hcong, ← c3]; exact hx
theorem zPm (hm:X.P.follows .mixedOrders=true) {op:OpF τ ρ} (hop:zwB X w0 h0 F op) (hN:X.n≤gh) {id:Nat} {l:List Oper} {Q:Exit→Act→World→Prop} {K:zE τ→Hp τ→Nat→Option ρ}
  (hK:∀E L nid a w,K E L nid=some r→St X w0 h0 F E L nid a w→Q .normal a w) (e:zzI op X l 0 l [] E L nid K=some r) (s:St X w0 h0 F E L nid a w):(Code.region id l.toArray true).wp X.P Q a w:=by
 obtain ⟨qs,Eb',L',nid',E',hch,hrf,hok,hfin⟩:=zNk hop e (Ref.refl E);obtain ⟨c1,_,_,c4,_,_⟩:=zt8.get 0 hch;obtain ⟨ν,h, φ,M,hE,hn⟩:=s.st;refine zCX hm hN hch hrf hok (T:=qs.flatMap (·.t)) (fun q hq _ k hk=>List.mem_flatMap.2 ⟨q,hq,hk⟩) s.nodef s.size M hE (fun _ _=>rfl) (fun k h1 _=>hn k h1) fun ν' h' φ' a' w' h1 h2 M' _ _ hfr hE'=>?_;refine hK E' L' nid' a' w' hfin ⟨h1,h2, ν',h', φ',by rw [c4,zsj]; exact M',hE',fun k hk=>?_⟩
 cases hνk:ν' k with
 | none=>rfl
 | some y =>
  have:=hfr k (hn k (by omega)) (by rw [hνk]; simp);omega
end
end Go.Rk
end
