/-
 Walks by evaluation: each operation does what its evaluation says, whatever stands beside it. Over any program.
 Walks by evaluation: loads, fields, pointers that may be nil. Over any program.
 Walks by evaluation: new blocks, stores. Over any program.
 Walks by evaluation: rows of one's own. Over any program.
 Walks by evaluation: parts of rows, places in rows, rows that are made. Over any program.
 Walks by evaluation: operations put together. Over any program.
-/
import Derived.Test.YtkmnihnifdcigaaGreatDoorYMo
set_option linter.unusedVariables false
set_option linter.unusedSimpArgs false
section
namespace Go.Rk
open Go.RowKit Go.Dm Go.Dk
variable {τ:Nat→Type}
section
variable {P:Program} {G:Sig τ} {w0 w w':World} {h0 h h' H:Fz} {F:List Nat} {L L' L2:Hp τ} {ν ν':Vn τ} {φ φ':Nat→List Nat}
theorem Mem.congr (M:Mem P G w0 h0 F L w ν h φ) (hL:∀i,lk L' i=lk L i):Mem P G w0 h0 F L' w ν h φ :=
 ⟨M.os,M.tape,M.output,M.size,M.frame,M.le,M.on,M.new,fun i=>by rw [hL]; exact M.res i,M.dis,M.out,M.gl,M.fp⟩
theorem Mem.ext (M:Mem P G w0 h0 F L w ν h φ) (hν:ν.le ν'):Mem P G w0 h0 F L w ν' h φ :=
 ⟨M.os,M.tape,M.output,M.size,M.frame,M.le,M.on,M.new,fun i=>(M.res i).of (Fz.le.refl _) hν fun _ _=>rfl,M.dis,M.out,M.gl,M.fp⟩
theorem za1 (i:Nat) (r:AR τ) (L:Hp τ):lk ((i,r)::L) i=r:=by simp [zux,zm1]
theorem zdw {i j:Nat} (r:AR τ) (L:Hp τ) (h:j≠i):lk ((i,r)::L) j=lk L j:=by simp [zux,zm1,zbL.2 (Ne.symm h)]
theorem Mem.put (M:Mem P G w0 h0 F L w ν h φ) {i:Nat} (hg:lk L i = .gone) (r:AR τ) {fp:List Nat} (hr:zmt P G h ν w r (ν i) fp) (hf:zhX w0 h F φ fp):Mem P G w0 h0 F ((i,r)::L) w ν h (up1 φ i fp):=by
 refine ⟨M.os,M.tape,M.output,M.size,M.frame,M.le,M.on,M.new,?_,?_,?_,M.gl,M.fp⟩
 ·intro j
  by_cases e:j=i
  ·subst e; rw [za1,zab]; exact hr
  ·rw [zdw r L e,za2 φ fp e]; exact M.res j
 ·intro j k b h1 h2
  by_cases e1:j=i
  ·by_cases e2:k=i
   ·rw [e1,e2]
   ·subst e1;rw [zab] at h1; rw [za2 φ fp e2] at h2;exact ((hf b h1).1 k h2).elim
  ·rw [za2 φ fp e1] at h1
   by_cases e2:k=i
   ·subst e2;rw [zab] at h2;exact ((hf b h2).1 j h1).elim
   ·rw [za2 φ fp e2] at h2; exact M.dis j k b h1 h2
 ·intro j b hb
  by_cases e:j=i
  ·subst e; rw [zab] at hb; exact (hf b hb).2
  ·rw [za2 φ fp e] at hb; exact M.out j b hb
theorem Mem.drop (M:Mem P G w0 h0 F L w ν h φ) (i:Nat):Mem P G w0 h0 F ((i, .gone)::L) w ν h (up1 φ i [])∧zhX w0 h F (up1 φ i []) (φ i):=by
 refine ⟨⟨M.os,M.tape,M.output,M.size,M.frame,M.le,M.on,M.new,?_,?_,?_,M.gl,M.fp⟩,?_⟩
 ·intro j
  by_cases e:j=i
  ·subst e; rw [za1,zab]; rfl
  ·rw [zdw _ L e,za2 φ [] e]; exact M.res j
 ·intro j k b h1 h2
  by_cases e1:j=i
  ·subst e1; rw [zab] at h1; cases h1
  ·by_cases e2:k=i
   ·subst e2; rw [zab] at h2; cases h2
   ·rw [za2 φ [] e1] at h1; rw [za2 φ [] e2] at h2; exact M.dis j k b h1 h2
 ·intro j b hb
  by_cases e:j=i
  ·subst e; rw [zab] at hb; cases hb
  ·rw [za2 φ [] e] at hb; exact M.out j b hb
 ·intro b hb;refine ⟨fun j hj=>?_,M.out i b hb⟩
  by_cases e:j=i
  ·subst e; rw [zab] at hj; cases hj
  ·rw [za2 φ [] e] at hj; exact e (M.dis j i b hj hb)
def zdq (ν ν':Vn τ) (nid nid':Nat):Prop:=∀i, ν i=none→ν' i≠none→nid≤i∧i<nid'
theorem zdq.refl (ν:Vn τ) (nid nid':Nat):zdq ν ν nid nid':=fun i h1 h2=>(h2 h1).elim
theorem Grew.fresh {U:Hp τ} {nid nid':Nat} {fp:List Nat} (g:Grew P G w0 h0 F L w ν h φ U nid nid' fp ν' φ'):zdq ν ν' nid nid':=by
 intro i h1 h2
 by_cases e:nid≤i∧i<nid'
 ·exact e
 ·rw [(g.same i e).1] at h2; exact (h2 h1).elim
theorem zwA {f:(t:Ty)→t.den τ→Nat→CV τ × Hp τ × Nat} (hle:∀t x nid c U nid',f t x nid=(c,U,nid')→nid≤nid') (hf:∀t x nid c U nid',f t x nid=(c,U,nid')→∀i∈kys U,nid≤i∧i<nid') :
  ∀{ts:List Ty} {q:DP τ ts} {nid:Nat} {cs:List (CV τ)} {U:Hp τ} {nid':Nat},zBg f ts q nid=(cs,U,nid')→∀i∈kys U,nid≤i∧i<nid'
 | [],q,nid,cs,U,nid',e,i,hi=>by cases e; cases hi
 | t::ts,q,nid,cs,U,nid',e,i,hi=>by
  unfold zBg at e
  split at e
  rename_i c U1 n1 h1
  split at e
  rename_i cs2 U2 n2 h2
  cases e;have l1:=hle _ _ _ _ _ _ h1;have l2:=zkr hle h2;simp only [kys,List.map_append] at hi
  rcases List.mem_append.1 hi with hi|hi
  ·have:=hf _ _ _ _ _ _ h1 i hi; omega
  ·have:=zwA hle hf h2 i hi; omega
theorem zy7 (G:Sig τ):∀(d:Nat) (t:Ty) (x:t.den τ) (nid:Nat) (c:CV τ) (U:Hp τ) (nid':Nat),zsd G d t x nid=(c,U,nid')→∀i∈kys U,nid≤i∧i<nid':=by
 intro d
 induction d with
 | zero=>intro t x nid c U nid' e; cases t<;>simp only [zsd,Prod.mk.injEq] at e<;>obtain ⟨_,rfl,rfl⟩:=e<;>simp [kys]
 | succ d ih =>
  intro t x nid c U nid' e;cases t
  case po n =>
   unfold zsd at e
   split at e
   rename_i cs U1 n1 h1
   cases e;have l1:=zkr (zgw G d) h1;intro i hi
   rcases List.mem_cons.1 hi with rfl|hi
   ·omega
   ·have:=zwA (zgw G d) ih h1 i hi; omega
  all_goals (simp only [zsd,Prod.mk.injEq] at e; obtain ⟨_,rfl,rfl⟩:=e; simp [kys])
theorem zHv (M:Mem P G w0 h0 F L w ν h φ) {i n nid nid':Nat} {x:τ n} {U:Hp τ} {v:Value} {q:Option ((e:Ty) × List (e.den τ))} {fp:List Nat} (e:zks G i n x nid=(U,nid')) (hg:lk L i = .gone) (hi:ν i=some (v,q)) (ht:Tr P G h w (.po n) x v fp) (hf:zhX w0 h F φ fp)
  (hn:∀i,nid≤i→i<nid'→ν i=none):nid≤nid'∧∃ν' φ' t cs b,Mem P G w0 h0 F (U++L) w ν' h φ'∧ν.le ν'∧zdq ν ν' nid nid'∧v=ptr b 0∧lk U i = .blk t cs∧(∀j, ¬(nid≤j∧j<nid')→j≠i→φ' j=φ j)∧∀j b,(j=i∨nid≤j∧j<nid')→b∈φ' j→b∈fp:=by
 unfold zks at e
 split at e
 rename_i cs U1 n1 h1
 cases e;have l1:=zkr (zgw G depth) h1
 cases ht with
 | fz _ _ _ hz _=>cases hz
 | po _ _ b vs fp hb hl hnb hmv =>
  obtain ⟨ν1, φ1,g1,c1⟩:=zy0 (zgw G depth) (zDw depth) h1 hl M hn (hf.sub fun b hb=>List.mem_cons_of_mem _ hb)
  have hni:¬(nid≤i∧i<nid'):=fun a=>by rw [hn i a.1 a.2] at hi; cases hi
  have hiU:i∉kys U1:=fun hk=>hni (zwA (zgw G depth) (zy7 G depth) h1 i hk)
  have hf1:=zhX.grew g1 (hf.sub (fp':=[b]) fun b' hb'=>by rw [List.mem_singleton.1 hb']; exact List.mem_cons_self ..) fun b' hb'=>by rw [List.mem_singleton.1 hb']; exact hnb
  have M2:=g1.mem.put (i:=i) (by rw [zcU L hiU]; exact hg) (.blk (G.ti n) (zH9 (G.fs n) cs)) (fp:=[b]) ⟨b,q,vs,(g1.le _ _ hi),rfl,hb,zJH c1 hmv⟩ hf1;refine ⟨l1, ν1,_,G.ti n,zH9 (G.fs n) cs,b,M2,g1.le,g1.fresh,rfl,za1 ..,fun j hj hne=>?_,fun j b' hj hb'=>?_⟩
  ·rw [za2 _ _ hne]; exact (g1.same j hj).2
  ·by_cases e:j=i
   ·subst e; rw [zab] at hb'; rw [List.mem_singleton.1 hb']; exact List.mem_cons_self ..
   ·rw [za2 _ _ e] at hb';exact List.mem_cons_of_mem _ (g1.fp j b' (by rcases hj with hj|hj; exact absurd hj e; exact hj.1) (by rcases hj with hj|hj; exact absurd hj e; exact hj.2) hb')
theorem zHw {i n nid nid':Nat} {x:τ n} {U:Hp τ} (e:zks G i n x nid=(U,nid')):∀j∈kys U,j=i∨nid≤j∧j<nid':=by
 unfold zks at e
 split at e
 rename_i cs U1 n1 h1
 cases e;intro j hj
 rcases List.mem_cons.1 hj with rfl|hj
 ·exact .inl rfl
 ·exact .inr (zwA (zgw G depth) (zy7 G depth) h1 j hj)
theorem Tr.pn_some {n:Nat} {x:τ n} {v:Value} {fp:List Nat} (h:Tr P G H w (.pn n) (some x) v fp):Tr P G H w (.po n) x v fp:=by
 cases h with
 | fz _ _ _ hz _=>cases hz
 | pn1 _ _ _ _ hp=>exact hp
theorem Tr.pn_none {n:Nat} {v:Value} {fp:List Nat} (h:Tr P G H w (.pn n) none v fp):v = .pointer none∧fp=[]:=by
 cases h with
 | fz _ _ _ hz _=>cases hz
 | pn0 _=>exact ⟨rfl,rfl⟩
theorem zKf (M:Mem P G w0 h0 F L2 w ν h φ) {i n nid nid':Nat} {x:τ n} {U:Hp τ} (e:zks G i n x nid=(U,nid')) (hl:lk L2 i = .tree n (some x)) (hn:∀i,nid≤i→i<nid'→ν i=none) :
  nid≤nid'∧∃ν' φ' b q,Mem P G w0 h0 F (U++L2) w ν' h φ'∧ν.le ν'∧zdq ν ν' nid nid'∧ν i=some (ptr b 0,q):=by
 have hr:=M.res i;rw [hl] at hr;obtain ⟨v,q,hv,ht⟩:=hr;obtain ⟨M1,hf⟩:=M.drop i;obtain ⟨h1, ν', φ',t,cs,b,M2,h2,h3,rfl,h5,_⟩:=zHv M1 e (za1 ..) hv (Tr.pn_some ht) hf hn;refine ⟨h1, ν', φ',b,q,M2.congr fun j=>?_,h2,h3,hv⟩
 by_cases hj:j∈kys U
 ·rw [zg9 _ hj,zg9 _ hj]
 ·rw [zcU _ hj,zcU _ hj,zdw];rintro rfl
  apply hj
  unfold zks at e
  split at e
  cases e;exact List.mem_cons_self ..
end

section
variable {ρ:Type} (X:Cx τ) (w0:World) (h0:Fz) (F:List Nat)
def Ok1 (o:Oper) (E:zE τ) (L:Hp τ) (nid:Nat) (v:XV τ) (U:Hp τ) (tch:List Nat) (nid':Nat):Prop :=
 ∀(L2:Hp τ) (ν:Vn τ) (h:Fz) (φ:Nat→List Nat) (a:Act) (w:World) (next:Act→World→Prop) (Q:Exit→Act→World→Prop),a.defers=[]→Mem X.P X.G w0 h0 F L2 w ν h φ→zeb X h ν a (rdO o.op) E →
  (∀i∈tch,lk L2 i=lk L i)→(∀i,nid≤i→i<nid'→ν i=none) →
  (∀ν' h' φ' w' u,Mem X.P X.G w0 h0 F (U++L2) w' ν' h' φ'→ν.le ν'→h.le h'→zdq ν ν' nid nid'→XOk X.P X.G h' ν' v u→next (a.put o.dst u) w')→o.wp X.P a w next Q
def zde (o:Oper) (E:zE τ) (L:Hp τ) (nid:Nat) (K:Nx τ ρ) (r:ρ):Prop :=
 ∃v g U tch nid',K v g U tch nid'=some r∧nid≤nid'∧(∀x∈g,zjQ x=true)∧Ok1 X w0 h0 F o E L nid v U tch nid'
def zwB (op:OpF τ ρ):Prop:=∀(r:ρ) (o:Oper) (E:zE τ) (L:Hp τ) (nid:Nat) (K:Nx τ ρ),op E L nid K o.op=some r→zde X w0 h0 F o E L nid K r
end
section
variable {ρ:Type} {X:Cx τ} {w0 w w':World} {h0:Fz} {F:List Nat} {o:Oper} {E:zE τ} {L:Hp τ} {nid nid':Nat} {K:Nx τ ρ} {r:ρ} {v:XV τ} {U:Hp τ} {tch:List Nat} {g:List (XV τ)}
theorem zf4 {a:Act} {u:Value} {next:Act→World→Prop} {Q:Exit→Act→World→Prop} (hx:(execOp a.eval o).run X.P w = .ok (.value u) w') (k:next (a.put o.dst u) w'):o.wp X.P a w next Q:=by
 unfold Oper.wp; rw [hx]; exact k
theorem zJf {a:Act} {next:Act→World→Prop} {Q:Exit→Act→World→Prop} (hx:(execOp a.eval o).run X.P w = .ok .skip w') (k:next (a.put o.dst undef) w'):o.wp X.P a w next Q:=by
 unfold Oper.wp; rw [hx]; exact k
theorem zaU (e:K v [] [] tch nid=some r) (hx:∀(L2:Hp τ) ν h φ (a:Act) (w:World),a.defers=[]→Mem X.P X.G w0 h0 F L2 w ν h φ→zeb X h ν a (rdO o.op) E→(∀i∈tch,lk L2 i=lk L i)→∃u,(execOp a.eval o).run X.P w = .ok (.value u) w∧XOk X.P X.G h ν v u) :
  zde X w0 h0 F o E L nid K r :=
 ⟨v,[],[],tch,nid,e,Nat.le_refl _,(fun _ h=>by cases h),fun L2 ν h φ a w next Q hd M hE ha hn k=>by
  obtain ⟨u,h1,h2⟩:=hx L2 ν h φ a w hd M hE ha
  exact zf4 h1 (k ν h φ w u M (Vn.le.refl _) (Fz.le.refl _) (zdq.refl _ _ _) h2)⟩
theorem zJg {b:BinOp} {t' ty t:Nat} {x y:Operand} {A B:XV τ} (hA:evX E x=some A) (hB:evX E y=some B) {dst:Option Nat} {p:String} {af:Array Edge} {gd:Option (Nat × Bool)}
    (e:opI nid K b A B=some r):zde X w0 h0 F ⟨dst, .binOp b t' x y ty,t,p,af,gd⟩ E L nid K r:=by
  unfold opI hi at e
  split at e
  all_goals first
  | (cases e; done)
  | (obtain ⟨z,hz,e⟩:=ob e
     refine zaU e fun L2 ν h φ a w hd M hE ha=>?_;obtain ⟨Ea,hf,hl⟩:=zdD a hd;obtain ⟨u,h1,h2⟩:=zng hl (hE.op (by simp [Op.operands])) hA rfl;obtain ⟨u',h3,h4⟩:=zng hl (hE.op (by simp [Op.operands])) hB rfl;obtain rfl:u=_:=h2;obtain rfl:u'=_:=h4
     first
     | exact ⟨_,ex_add hf h1 h3 hz,rfl⟩
     | exact ⟨_,ex_sub hf h1 h3 hz,rfl⟩
     | exact ⟨_,ex_mul hf h1 h3 hz,rfl⟩
     | exact ⟨_,ex_quo hf h1 h3 hz,rfl⟩
     | exact ⟨_,ex_rem hf h1 h3 hz,rfl⟩
     | exact ⟨_,ex_cat hf h1 h3 hz,rfl⟩)
end
end Go.Rk
end
section
namespace Go.Rk
open Go.RowKit Go.Dm Go.Dk
variable {τ:Nat→Type}
section
variable {ρ:Type} {X:Cx τ} {w0 w w':World} {h0 h H:Fz} {F:List Nat} {o:Oper} {E:zE τ} {L L2:Hp τ} {ν ν':Vn τ} {φ φ':Nat→List Nat} {nid nid':Nat} {K:Nx τ ρ} {r:ρ} {v:XV τ} {U:Hp τ} {tch:List Nat} {g:List (XV τ)}
theorem zM9 {i:Nat} {k:Bool→Hp τ→List Nat→Nat→Option ρ} (e:nlK X L nid i k=some r):∃b U nid',k b U [i] nid'=some r∧nid≤nid' ∧
  ∀(L2:Hp τ) ν h φ (w:World),Mem X.P X.G w0 h0 F L2 w ν h φ→lk L2 i=lk L i→(∀i,nid≤i→i<nid'→ν i=none) →
   ∃ν' φ' u q,Mem X.P X.G w0 h0 F (U++L2) w ν' h φ'∧ν.le ν'∧zdq ν ν' nid nid'∧ν i=some (.pointer u,q)∧(b=true→u=none)∧(b=false→∃bb,u=some ⟨bb,0,none⟩):=by
 unfold nlK at e
 split at e
 ·rename_i t cs hl
  refine ⟨false,[],nid,e,Nat.le_refl _,fun L2 ν h φ w M ha _=>?_⟩;have hr:=M.res i;rw [ha,hl] at hr;obtain ⟨b,q,vs,h1,_⟩:=hr;exact ⟨ν, φ,_,q,M,Vn.le.refl _,zdq.refl _ _ _,h1,(by simp),fun _=>⟨b,rfl⟩⟩
 ·rename_i n y hl
  cases y with
  | none =>
   refine ⟨true,_,nid,e,Nat.le_refl _,fun L2 ν h φ w M ha _=>?_⟩;have hr:=M.res i;rw [ha,hl] at hr;obtain ⟨v,q,h1,h2⟩:=hr;obtain ⟨rfl,h3⟩:=Tr.pn_none h2;obtain ⟨M1,hf⟩:=M.drop i;have M2:=M1.put (i:=i) (za1 ..) .nilp (fp:=[]) ⟨q,h1,rfl⟩ (fun b hb=>by cases hb);refine ⟨ν,_,none,q,M2.congr fun j=>?_,Vn.le.refl _,zdq.refl _ _ _,h1,fun _=>rfl,by simp⟩
   by_cases hj:j=i
   ·subst hj; exact (za1 ..).trans (za1 ..).symm
   ·show lk ((i, .nilp)::L2) j=_;rw [zdw _ _ hj,zdw _ _ hj,zdw _ _ hj]
  | some y =>
   obtain ⟨U,n1,h1⟩:∃U n1,zks X.G i n y nid=(U,n1):=⟨_,_,rfl⟩;simp only [optK,h1] at e;refine ⟨false,U,n1,e,?_,fun L2 ν h φ w M ha hn=>?_⟩
   ·unfold zks at h1
    split at h1
    rename_i h2
    cases h1;exact zkr (zgw X.G depth) h2
   ·obtain ⟨_, ν', φ',b,q,h2,h3,h4,h5⟩:=zKf M h1 (ha.trans hl) hn;exact ⟨ν', φ',_,q,h2,h3,h4,h5,by simp,fun _=>⟨b,rfl⟩⟩
 ·rename_i hl
  refine ⟨true,[],nid,e,Nat.le_refl _,fun L2 ν h φ w M ha _=>?_⟩;have hr:=M.res i;rw [ha,hl] at hr;obtain ⟨q,h1,_⟩:=hr;exact ⟨ν, φ,none,q,M,Vn.le.refl _,zdq.refl _ _ _,h1,fun _=>rfl,by simp⟩
 ·cases e
theorem zNa {i:Nat} {k:Hp τ→List Nat→Nat→Option ρ} (e:ptK X L nid i k=some r):∃U nid',k U [i] nid'=some r∧nid≤nid' ∧
  ∀(L2:Hp τ) ν h φ (w:World),Mem X.P X.G w0 h0 F L2 w ν h φ→lk L2 i=lk L i→(∀i,nid≤i→i<nid'→ν i=none) →
   ∃ν' φ' b q,Mem X.P X.G w0 h0 F (U++L2) w ν' h φ'∧ν.le ν'∧zdq ν ν' nid nid'∧ν i=some (ptr b 0,q):=by
 unfold ptK at e
 split at e
 ·rename_i t cs hl
  refine ⟨[],nid,e,Nat.le_refl _,fun L2 ν h φ w M ha _=>?_⟩;have hr:=M.res i;rw [ha,hl] at hr;obtain ⟨b,q,vs,h1,_⟩:=hr;exact ⟨ν, φ,b,q,M,Vn.le.refl _,zdq.refl _ _ _,h1⟩
 ·rename_i n y hl
  cases y with
  | none=>cases e
  | some y =>
   obtain ⟨U,n1,h1⟩:∃U n1,zks X.G i n y nid=(U,n1):=⟨_,_,rfl⟩;simp only [Option.bind_some,h1] at e;refine ⟨U,n1,e,?_,fun L2 ν h φ w M ha hn=>?_⟩
   ·unfold zks at h1
    split at h1
    rename_i h2
    cases h1;exact zkr (zgw X.G depth) h2
   ·obtain ⟨_, ν', φ',b,q,h2,h3,h4,h5⟩:=zKf M h1 (ha.trans hl) hn;exact ⟨ν', φ',b,q,h2,h3,h4,h5⟩
 ·cases e

theorem zzJ {α:Type}:∀{n o:Nat} {cs l:List α},zuz cs o n=some l→l.length=n
 | 0,o,cs,l,e=>by cases e; rfl
 | n+1,o,cs,l,e=>by
  unfold zuz at e
  split at e
  ·split at e
   ·rename_i h
    cases e;simp [zzJ h]
   ·cases e
  ·cases e
theorem zJU {a:Act} {Ea:Env} {N:Nat} {x:Operand} {t' t b ob k n:Nat} {dst:Option Nat} {p:String} {af:Array Edge} {gd:Option (Nat × Bool)} (hf:Fits N Ea a) (hx:evl Ea x=some (ptr b (ob+k))) {cs:List (CV τ)} {vs:List Value}
  (hs:zd9 w (some ⟨b,ob,none⟩) vs) (hc:CVs X.P X.G h ν cs vs) (hn:szO X.P t'=some n) (e:zF4 X.P t' (zuz cs k n)=some v):∃u,(execOp a.eval ⟨dst, .load t' x,t,p,af,gd⟩).run X.P w = .ok (.value u) w∧XOk X.P X.G h ν v u:=by
 unfold zF4 at e
 split at e
 ·rename_i l hl
  obtain ⟨h1,h2⟩:=hc.cut hl;have hlen:=zzJ hl
  split at e
  ·rename_i ha
   cases e;have h3:=h1.len;exact ⟨_,zMA (zwS ha) (zfC hn) hs rfl (by rw [h3,hlen]) hf hx,_,rfl,h1⟩
  ·rename_i ha
   split at e
   ·rename_i c
    cases e;obtain ⟨u,us,h3,h4,h5⟩:=h1;refine ⟨u,zMz (zwS ha) hs ?_ hf hx,h4⟩
    have:((vs.drop k).take n)[0]? = some u:=by rw [h3]; rfl
    rw [List.getElem?_take] at this
    split at this
    ·simpa using this
    ·cases this
   ·cases e
  ·cases e
 ·cases e
theorem RpR.get {P:Program} {G:Sig τ}:∀{e:Ty} {xs:List (e.den τ)} {vs:List Value},RpR P G h e xs vs→∀{i:Nat} {z:e.den τ},xs[i]? = some z →
  RpL P G h (ets G e) (edt G e z) ((vs.drop (i*(ets G e).length)).take (ets G e).length)∧i*(ets G e).length+(ets G e).length≤vs.length
 | _,_,_, .nil _,_,_,hz=>by simp at hz
 | _,_,_, .cons e x xs vs ws h1 h2,0,_,hz=>by
  simp at hz;subst hz;have:=h1.len;refine ⟨?_,by simp [this]⟩;rw [Nat.zero_mul,List.drop_zero,List.take_append_of_le_length (by omega),List.take_of_length_le (by omega)];exact h1
 | _,_,_, .cons e x xs vs ws h1 h2,i+1,z,hz=>by
  simp at hz;obtain ⟨h3,h4⟩:=RpR.get h2 hz;have:=h1.len;refine ⟨?_,by simp [Nat.add_mul,this]; omega⟩;rw [Nat.add_mul,Nat.one_mul,List.drop_append,List.drop_eq_nil_of_le (by omega),List.nil_append,this,Nat.add_sub_cancel];exact h3
theorem zsi {α:Type} {xs:List α} {m:Int} {z:α} (e:lAt xs m=some z):xs[m.toNat]? = some z∧0≤m:=by
 unfold lAt at e
 split at e
 ·exact ⟨e, ‹_›⟩
 ·cases e
theorem zO6 (M:Mem X.P X.G w0 h0 F L2 w ν h φ) {i k:Nat} {m:Int} {t e:Ty} {z:t.den τ} {o:Nat} {v:Value} {te:TypeId} {xs:List (e.den τ)} (hv:zcT X.P X.G h ν (.oe i k m t z o) v) (hl:lk L2 i = .row te e xs k) :
  ∃b d vs,v=ptr b (d+m.toNat*(ets X.G t).length+o)∧zd9 w (some ⟨b,d+m.toNat*(ets X.G t).length,none⟩) vs∧RpL X.P X.G h (ets X.G t) (edt X.G t z) vs:=by
 obtain ⟨b,d,n,c,q,xs',u,h1,h2,h3,rfl⟩:=hv;have hr:=M.res i;rw [hl] at hr;obtain ⟨v',q',vs,u',h4,h5,h6,h7,h8⟩:=hr;rw [h1] at h4;cases h4;rw [h2] at h8
 injection h8 with h8
 injection h8 with _ h8
 injection h8 with h8
 cases h8;obtain ⟨hz,h0⟩:=zsi h3;obtain ⟨h9,h10⟩:=h7.get hz;refine ⟨b,d,_,rfl,?_,h9⟩;obtain ⟨rfl,_⟩:=h6.len;have hs:=h6.sees;obtain ⟨_,hlt,hc⟩:=hs;refine .inr ⟨rfl,hlt,fun j u hj=>?_⟩;rw [List.getElem?_take] at hj
 split at hj
 ·rw [List.getElem?_drop] at hj;have:=hc _ _ hj;simpa [Nat.add_assoc] using this
 ·cases hj
theorem zDC (M:Mem X.P X.G w0 h0 F L2 w ν h φ) {i k:Nat} {t:TypeId} {cs:List (CV τ)} {v:Value} (hv:zcT X.P X.G h ν (.pt i k) v) (hl:lk L2 i = .blk t cs) :
  ∃b q vs, ν i=some (ptr b 0,q)∧v=ptr b k∧φ i=[b]∧w.heap[b]? = some (.cells vs.toArray t (0,0))∧CVs X.P X.G h ν cs vs∧zd9 w (some ⟨b,0,none⟩) vs:=by
 have hr:=M.res i;rw [hl] at hr;obtain ⟨b,q,vs,h1,h2,h3,h4⟩:=hr;obtain ⟨u,q',h5,rfl,_⟩:=hv;rw [h1] at h5;cases h5;refine ⟨b,q,vs,h1,by simp [zuw],h2,h3,h4, .inr ⟨rfl,(Array.getElem?_eq_some_iff.1 h3).1,fun j v hj=>by simp [World.cell?,h3,hj]⟩⟩
theorem zO7 {n:Nat} {u:Value} (hu:zcT X.P X.G h ν (.ep n none) u):zcT X.P X.G h ν .nl u:=by cases hu; rfl
theorem zO8 {n:Nat} {y:τ n} {u:Value} (hu:zcT X.P X.G h ν (.ep n (some y)) u):zcT X.P X.G h ν (.ea (.st n) y 0) u:=by
 cases hu with
 | pn1 _ _ _ hr=>cases hr; rename_i b k vs hs hr; exact ⟨b,k,vs,rfl,hs,hr⟩
theorem zNb {x:Operand} {t' t:Nat} {dst:Option Nat} {p:String} {af:Array Edge} {gd:Option (Nat × Bool)} {c:CV τ} (hx:evC E x=some c) (e:zM1 X L nid K t' c=some r):zde X w0 h0 F ⟨dst, .load t' x,t,p,af,gd⟩ E L nid K r:=by
 unfold zM1 at e
 split at e
 ·rename_i id o
  split at e
  ·rename_i bt cs hl
   split at e
   ·rename_i n hn
    split at e
    ·rename_i j hv
     cases hb:Nat.beq j id with
     | true=>rw [hb] at e; cases e
     | false =>
      rw [hb] at e;obtain ⟨b,U,nid',h1,h2,h3⟩:=zM9 (w0:=w0) (h0:=h0) (F:=F) e;refine ⟨if b=true then .c .nl else .c (.pt j 0),[],U,[id,j],nid',?_,h2,fun _ h=>by (cases h),fun L2 ν h φ a w next Q hd M hE ha hfr k=>?_⟩
      ·cases b<;>exact h1
      ·obtain ⟨Ea,hf,hl'⟩:=zdD a hd;obtain ⟨u,h4,h5⟩:=zj hl' (hE.op (by simp [Op.operands])) hx;obtain ⟨bb,q,vs,hν,rfl,_,hh,hc,hs⟩:=zDC M h5 ((ha id (by simp)).trans hl);obtain ⟨u,h6,h7⟩:=zJU (ob:=0) (dst:=dst) (t:=t) (p:=p) (af:=af) (gd:=gd) hf (by rw [Nat.zero_add]; exact h4) hs hc hn hv;obtain ⟨ν', φ',uj,q',M',hle,hfre,hνj,hb1,hb0⟩:=h3 L2 ν h φ w M (ha j (by simp)) hfr;obtain ⟨uj',q'',h8,h9,_⟩:=h7;rw [hνj] at h8;cases h8;refine zf4 h6 (k ν' h φ' w u M' hle (Fz.le.refl _) hfre ?_)
       cases b with
       | true =>
        rw [hb1 rfl] at h9;subst h9;rfl
       | false=>exact ⟨uj,q',hle _ _ hνj,h9,fun e=>(e rfl).elim⟩
    ·rename_i v _ hv
     refine zaU e fun L2 ν h φ a w hd M hE ha=>?_;obtain ⟨Ea,hf,hl'⟩:=zdD a hd;obtain ⟨u,h4,h5⟩:=zj hl' (hE.op (by simp [Op.operands])) hx;obtain ⟨bb,q,vs,hν,rfl,_,hh,hc,hs⟩:=zDC M h5 ((ha id (by simp)).trans hl);exact zJU (ob:=0) hf (by rw [Nat.zero_add]; exact h4) hs hc hn hv
    ·cases e
   ·cases e
  ·cases e
 ·rename_i ty z o
  split at e
  ·rename_i n hn
   have key:∀{v},zF4 X.P t' (zuz (zw5 X.G ty z) o n)=some v→∀(L2:Hp τ) ν h φ (a:Act) (w:World),a.defers=[]→Mem X.P X.G w0 h0 F L2 w ν h φ→zeb X h ν a (rdO (.load t' x)) E→∃u,(execOp a.eval ⟨dst, .load t' x,t,p,af,gd⟩).run X.P w = .ok (.value u) w∧XOk X.P X.G h ν v u:=by
    intro v hv L2 ν h φ a w hd M hE;obtain ⟨Ea,hf,hl'⟩:=zdD a hd;obtain ⟨u,h4,h5⟩:=zj hl' (hE.op (by simp [Op.operands])) hx;obtain ⟨b,k,vs,rfl,hs,hr⟩:=h5;exact zJU hf h4 (hs.sees M.on) (zzz hr) hn hv
   split at e
   ·rename_i n' y hv
    have fin:∀{c':CV τ},K (.c c') [] [] [] nid=some r→(∀{ν h u},zcT X.P X.G h ν (.ep n' y) u→zcT X.P X.G h ν c' u)→zde X w0 h0 F ⟨dst, .load t' x,t,p,af,gd⟩ E L nid K r:=by
     intro c' e hcc;refine zaU e fun L2 ν h φ a w hd M hE ha=>?_;obtain ⟨u,h1,h2⟩:=key hv L2 ν h φ a w hd M hE;exact ⟨u,h1,hcc h2⟩
    cases y with
    | none=>exact fin e zO7
    | some y=>exact fin e zO8
   ·rename_i v _ hv
    exact zaU e fun L2 ν h φ a w hd M hE ha=>key hv L2 ν h φ a w hd M hE
   ·cases e
  ·cases e
 ·rename_i id k m ty z o
  split at e
  ·rename_i te e' xs k' hl
   cases hb:Nat.beq k k' with
   | false=>rw [hb] at e; cases e
   | true =>
    rw [hb] at e
    have hkk:k=k':=by simpa using hb
    subst hkk
    split at e
    ·rename_i n hn
     split at e
     ·rename_i v hv
      refine zaU e fun L2 ν h φ a w hd M hE ha=>?_;obtain ⟨Ea,hf,hl'⟩:=zdD a hd;obtain ⟨u,h4,h5⟩:=zj hl' (hE.op (by simp [Op.operands])) hx;obtain ⟨b,d,vs,rfl,hs,hr⟩:=zO6 M h5 ((ha id (by simp)).trans hl);exact zJU hf h4 hs (zzz hr) hn hv
     ·cases e
    ·cases e
  ·cases e
 ·cases e
end
end Go.Rk
end
section
namespace Go.Rk
open Go.RowKit Go.Dm Go.Dk
variable {τ:Nat→Type}
section
variable {P:Program} {G:Sig τ} {w0 w w':World} {h0 h h' H:Fz} {F:List Nat} {L L' L2:Hp τ} {ν ν':Vn τ} {φ φ':Nat→List Nat}
theorem Mem.grow (M:Mem P G w0 h0 F L w ν h φ) (hb:Below w.heap.size w w'):Mem P G w0 h0 F L w' ν h φ :=
 M.upd [] (fun _ _=>rfl) (fun _ _=>rfl) (Vn.le.refl _) (Fz.le.refl _) hb.os hb.tape hb.output hb.size (fun b hb' _=>hb.block b hb') (fun b o h1 h2=>by rw [h1] at h2; cases h2) (fun b h1 h2=>(h2 h1).elim)
  (fun i hi=>by cases hi) (fun i hi=>by cases hi) (fun i hi=>by cases hi)
theorem Mem.alloc (M:Mem P G w0 h0 F L w ν h φ) {nid:Nat} (hn:ν nid=none) (o:Obj) (r:AR τ) (x:Value × Option ((e:Ty) × List (e.den τ))) (hr:zmt P G h (up1 ν nid (some x)) (w.alloc o) r (some x) [w.heap.size]) :
  Mem P G w0 h0 F ((nid,r)::L) (w.alloc o) (up1 ν nid (some x)) h (up1 φ nid [w.heap.size]) :=
 (M.grow (zoD w o)).add hn r x hr fun b hb=>by
  rw [List.mem_singleton.1 hb];refine ⟨fun i hi=>Nat.lt_irrefl _ (M.lt hi),?_, .inr M.size⟩
  cases e:h w.heap.size with
  | none=>rfl
  | some o'=>exact (Nat.lt_irrefl _ (M.in_lt (b:=w.heap.size) (by rw [e]; simp))).elim
theorem zd2 {nid:Nat} {x:Value × Option ((e:Ty) × List (e.den τ))}:zdq ν (up1 ν nid (some x)) nid (nid+1):=by
 intro i h1 h2
 by_cases e:i=nid
 ·omega
 ·rw [za2 _ _ e] at h2; exact (h2 h1).elim
theorem zdq.trans {ν'':Vn τ} {a b c:Nat} (h1:zdq ν ν' a b) (h2:zdq ν' ν'' b c) (hab:a≤b) (hbc:b≤c):zdq ν ν'' a c:=by
 intro i e1 e2
 by_cases e:ν' i=none
 ·have:=h2 i e e2; omega
 ·have:=h1 i e1 e; omega
theorem Mem.turn (M:Mem P G w0 h0 F L w ν h φ) {i b:Nat} (r:AR τ) (hφ:φ i=[b]) (hν:ν.le ν') (hos:w'.os=w.os) (htape:w'.tape=w.tape) (hout:w'.output=w.output) (hsz:w'.heap.size=w.heap.size) (hblk:∀k,k≠b→w'.heap[k]? = w.heap[k]?)
  (hr:zmt P G h ν' w' r (ν' i) [b]):Mem P G w0 h0 F ((i,r)::L) w' ν' h φ:=by
 refine M.upd [i] (fun j hj=>zdw _ _ (by simpa using hj)) (fun _ _=>rfl) hν (Fz.le.refl _) hos htape hout (by omega) (fun k _ hk=>hblk k ?_) (fun b o h1 h2=>by rw [h1] at h2; cases h2) (fun b h1 h2=>(h2 h1).elim) ?_ ?_ ?_
 ·rintro rfl
  apply hk
  rw [zdd,hφ]; simp
 ·intro j hj;rw [List.mem_singleton.1 hj,za1,hφ]; exact hr
 ·intro j hj k hk;rw [List.mem_singleton.1 hj] at hk;refine ⟨(M.out i k hk).1, .inl ?_⟩;rw [zdd]; exact List.mem_append_left _ hk
 ·intro j hj k hk b _ _;rw [List.mem_singleton.1 hj,List.mem_singleton.1 hk]
theorem zDc {i j:Nat} {ids:List Nat} {U:Hp τ} (h3:∀i∈ids, ∃e xs,lk U i = .fz e xs∧((∃te k,lk L i = .row te e xs k)∨lk L i = .fz e xs∨∃j k lo te e' ys,lk L i = .vw j k e lo xs∧lk L j = .row te e' ys k∧j∈ids)) (hj:j∈ids) :
  ∃e xs,lk U j = .fz e xs∧((∃te k,lk L j = .row te e xs k)∨lk L j = .fz e xs∨∃j' k lo te e' ys,lk L j = .vw j' k e lo xs∧lk L j' = .row te e' ys k∧j'∈i::ids):=by
 obtain ⟨e,xs,h1,h|h|⟨j',k,lo,te,e',ys,h2,h4,h5⟩⟩:=h3 j hj
 ·exact ⟨e,xs,h1, .inl h⟩
 ·exact ⟨e,xs,h1, .inr (.inl h)⟩
 ·exact ⟨e,xs,h1, .inr (.inr ⟨j',k,lo,te,e',ys,h2,h4,List.mem_cons_of_mem _ h5⟩)⟩
theorem zwF:∀{ids:List Nat} {U:Hp τ},freeze L ids=some U→kys U=ids∧∀i∈ids, ∃e xs,lk U i = .fz e xs∧((∃te k,lk L i = .row te e xs k)∨lk L i = .fz e xs∨∃j k lo te e' ys,lk L i = .vw j k e lo xs∧lk L j = .row te e' ys k∧j∈ids)
 | [],U,e=>by cases e; exact ⟨rfl,fun i hi=>by cases hi⟩
 | i :: ids,U,e=>by
  unfold freeze at e
  split at e
  ·rename_i U1 h1
   obtain ⟨h2,h3⟩:=zwF h1
   split at e
   ·rename_i te e' xs k hl
    cases e;refine ⟨by simp [kys] at h2 ⊢; exact h2,fun j hj=>?_⟩
    by_cases hji:j=i
    ·subst hji; exact ⟨e',xs,za1 .., .inl ⟨te,k,hl⟩⟩
    ·rw [zdw _ _ hji];exact zDc h3 ((List.mem_cons.1 hj).resolve_left hji)
   ·rename_i e' xs hl
    cases e;refine ⟨by simp [kys] at h2 ⊢; exact h2,fun j hj=>?_⟩
    by_cases hji:j=i
    ·subst hji; exact ⟨e',xs,za1 .., .inr (.inl hl)⟩
    ·rw [zdw _ _ hji];exact zDc h3 ((List.mem_cons.1 hj).resolve_left hji)
   ·rename_i j0 k e' lo xs hl
    split at e
    ·rename_i te e2 ys k' hl2
     cases hb:(mem ids j0&&Nat.beq k k') with
     | false=>rw [hb] at e; cases e
     | true =>
      rw [hb] at e;cases e;simp only [Bool.and_eq_true,Nat.beq_eq] at hb;obtain ⟨hm,rfl⟩:=hb;refine ⟨by simp [kys] at h2 ⊢; exact h2,fun j hj=>?_⟩
      by_cases hji:j=i
      ·subst hji; exact ⟨e',xs,za1 .., .inr (.inr ⟨j0,k,lo,te,e2,ys,hl,hl2,List.mem_cons_of_mem _ (zeE.1 hm)⟩)⟩
      ·rw [zdw _ _ hji];exact zDc h3 ((List.mem_cons.1 hj).resolve_left hji)
    ·cases e
   ·cases e
  ·cases e
theorem vw_fz {i j k lo te:Nat} {e e':Ty} {xs:List (e.den τ)} {ys:List (e'.den τ)} {fp fp2:List Nat} (r1:zmt P G h ν w (.vw j k e lo xs) (ν i) fp) (r2:zmt P G h ν w (.row te e' ys k) (ν j) fp2) (hH:h.le H) (hb:∀b∈fp2,H b=w.heap[b]?) :
  ∃v q, ν i=some (v,q)∧fp=[]∧Rp P G H (.sl e) xs v:=by
 obtain ⟨a1,n1,c1,q1,q2,u1,ys1,a2,c2,g1,g2,g3,g4,g5,g6,g7,g8⟩:=r1;obtain ⟨v',q',vs,u,h1,h2,h3,h4,h5⟩:=r2;rw [g1] at h1;cases h1;rw [g2] at h5
 injection h5 with h5
 injection h5 with _ h5
 injection h5 with h5
 cases h5;exact ⟨_,_,g5,g8,vw_rp (zwV hH h3 h4 fun b hbb=>hb b (by rw [h2]; exact hbb)) g3 g4 g6 g7.1⟩
open Classical in
noncomputable def zze (φ:Nat→List Nat) (ids:List Nat):Nat→List Nat:=fun i=>if i∈ids then [] else φ i
theorem zhp {ids:List Nat} {i:Nat} (h:i∈ids):zze φ ids i=[]:=by simp [zze,h]
theorem znc {ids:List Nat} {i:Nat} (h:i∉ids):zze φ ids i=φ i:=by simp [zze,h]
theorem Mem.freeze (M:Mem P G w0 h0 F L2 w ν h φ) {ids:List Nat} {U:Hp τ} (e:Rk.freeze L ids=some U) (ag:∀i∈ids,lk L2 i=lk L i):Mem P G w0 h0 F (U++L2) w ν (zrt h w (fps φ ids)) (zze φ ids):=by
 obtain ⟨hk,hl⟩:=zwF e;have hle:=M.lend_le ids;refine M.upd ids (fun i hi=>zcU _ (by rw [hk]; exact hi)) (fun i hi=>znc hi) (Vn.le.refl _) hle rfl rfl rfl (Nat.le_refl _) (fun _ _ _=>rfl) ?_ ?_ ?_ ?_ ?_
 ·intro b o _ h2;exact zvB M.on b o h2
 ·intro b h1 h2
  by_cases hb:b∈fps φ ids
  ·exact .inl hb
  ·rw [zkq hb] at h2; exact (h2 h1).elim
 ·intro i hi;obtain ⟨e',xs,h1,h2⟩:=hl i hi;rw [zg9 _ (by rw [hk]; exact hi),h1,zhp hi];have hr:=M.res i;rw [ag i hi] at hr
  rcases h2 with ⟨te,k,h2⟩|h2|⟨j,k,lo,te,e2,ys,h2,h3,h4⟩
  ·rw [h2] at hr;obtain ⟨v,q,vs,u,h3,h4,h5,h6,_⟩:=hr;exact ⟨v,q,h3,rfl,zwV hle h5 h6 fun b hb=>zqE (mem_fps.2 ⟨i,hi,by rw [h4]; exact hb⟩)⟩
  ·rw [h2] at hr;obtain ⟨v,q,h3,_,h4⟩:=hr;exact ⟨v,q,h3,rfl,h4.le hle⟩
  ·rw [h2] at hr;have hr2:=M.res j;rw [ag j h4,h3] at hr2;obtain ⟨v,q,h5,_,h6⟩:=vw_fz hr hr2 hle fun b hb=>zqE (mem_fps.2 ⟨j,h4,hb⟩);exact ⟨v,q,h5,rfl,h6⟩
 ·intro i hi b hb; rw [zhp hi] at hb; cases hb
 ·intro i hi j _ b hb; rw [zhp hi] at hb; cases hb
theorem Mem.look (M:Mem P G w0 h0 F L2 w ν h φ) {ids:List Nat} (ag:∀i∈ids,lk L2 i=lk L i):zbR L2 L φ (zrt h w (fps φ ids)) w ids:=⟨ag,fun _ hb=>zqE hb⟩
end

section
variable {ρ:Type} {X:Cx τ} {w0 w w':World} {h0 h H:Fz} {F:List Nat} {o:Oper} {E:zE τ} {L L2:Hp τ} {ν ν':Vn τ} {φ φ':Nat→List Nat} {nid nid':Nat} {K:Nx τ ρ} {r:ρ} {v:XV τ} {U:Hp τ} {tch:List Nat} {g:List (XV τ)}
variable {x y:Operand} {t' t ty:Nat} {dst:Option Nat} {p:String} {af:Array Edge} {gd:Option (Nat × Bool)}
theorem zLy {cs:List (CV τ)} (hz:zzE X.P t'=some cs) (e:K (.c (.pt nid 0)) [] [(nid, .blk t' cs)] [] (nid+1)=some r):zde X w0 h0 F ⟨dst, .alloc t',t,p,af,gd⟩ E L nid K r:=by
 obtain ⟨it,z,hi,hz0,hc⟩:=zA5 hz;refine ⟨_,_,_,_,_,e,Nat.le_succ _,(fun _ h=>by cases h),fun L2 ν h φ a w next Q hd M hE ha hn k=>?_⟩;have hn':=hn nid (Nat.le_refl _) (Nat.lt_succ_self _)
 have hx:(execOp a.eval ⟨dst, .alloc t',t,p,af,gd⟩).run X.P w = .ok (.value (ptr w.heap.size 0)) (w.alloc (.cells z.cells t')):=by
  simp [execOp,Instr.alloc,zeroValue,typeInfo,hi,hz0,newVar,newRow,go_sem,Result.andThen]
 have hzl:z.cells=z.cells.toList.toArray:=by simp
 refine zf4 hx (k _ h _ _ _ (M.alloc hn' _ (.blk t' cs) (ptr w.heap.size 0,none) ⟨_,none,z.cells.toList,rfl,rfl,?_,zyY hc⟩) (zbw hn') (Fz.le.refl _) zd2 ⟨_,none,zab _ _ _,rfl,fun e=>(e rfl).elim⟩);rw [← hzl]; exact zkA _
theorem box_ok {A:XV τ} {cs:List (CV τ)} (hA:evX E x=some A) (hc:zse A=some cs) (e:K (.c (.pt nid 0)) [] [(nid, .blk t' cs)] [] (nid+1)=some r):zde X w0 h0 F ⟨dst, .box t' x,t,p,af,gd⟩ E L nid K r:=by
 refine ⟨_,_,_,_,_,e,Nat.le_succ _,(fun _ h=>by cases h),fun L2 ν h φ a w next Q hd M hE ha hn k=>?_⟩;have hn':=hn nid (Nat.le_refl _) (Nat.lt_succ_self _);obtain ⟨us,h1,h2,_⟩:=ztB hc (zrj hd (hE.op (by simp [Op.operands])) hA)
 have hx:(execOp a.eval ⟨dst, .box t' x,t,p,af,gd⟩).run X.P w = .ok (.value (ptr w.heap.size 0)) (w.alloc (.cells us.toArray t')):=by
  simp only [execOp]; unfold Instr.box newVar; rw [h1]; simp [newRow,go_sem]
 exact zf4 hx (k _ h _ _ _ (M.alloc hn' _ (.blk t' cs) (ptr w.heap.size 0,none) ⟨_,none,us,rfl,rfl,zkA _,h2.le (Fz.le.refl _) (zbw hn')⟩) (zbw hn') (Fz.le.refl _) zd2 ⟨_,none,zab _ _ _,rfl,fun e=>(e rfl).elim⟩)
theorem zzf {a:Act} {b o n:Nat} {bty:TypeId} {cur:Array Value} {vs:List Value} (hx:a.eval x=ptr b o) (hy:(a.eval y).cells=⟨vs⟩) (ht:zkN X.P t'=some n) (hn:vs.length=n) (hb:w.heap[b]? = some (.cells cur bty (0,0))) (hl:o+vs.length≤cur.size) (hv:∀v∈vs,v.oneCell'=true) :
  (execOp a.eval ⟨dst, .store t' x y,t,p,af,gd⟩).run X.P w = .ok .skip (w.setRow b (cur.toList.take o++vs++cur.toList.drop (o+vs.length)).toArray):=by
 have hst:=run_storeCells_at X.P b o bty vs 0 cur w hb (by simpa using hl) hv;simp only [Nat.add_zero] at hst;simp only [execOp]; rw [hx]
 have h2:(a.eval y).cells.size=n:=by rw [hy]; simpa using hn
 have h3:(a.eval y).cells.toList=vs:=by rw [hy]
 simp [Instr.storeAt,Instr.sureAddr,storeVar,zcS ht,h2,h3,hst,Result.andThen]
theorem zKk {A:XV τ} {vs:List (CV τ)} {n id o bt:Nat} {cs cs':List (CV τ)} (hA:evX E y=some A) (hc:zse A=some vs) (ht:szO X.P t'=some n) (hn:vs.length=n) (hx:evC E x=some (.pt id o)) (hl:lk L id = .blk bt cs) (hp:zvF cs o vs=some cs')
  (e:K .un [] [(id, .blk bt cs')] [id] nid=some r):zde X w0 h0 F ⟨dst, .store t' x y,t,p,af,gd⟩ E L nid K r:=by
 refine ⟨_,_,_,_,_,e,Nat.le_refl _,(fun _ h=>by cases h),fun L2 ν h φ a w next Q hd M hE ha hfr k=>?_⟩;obtain ⟨Ea,hf,hl'⟩:=zdD a hd;obtain ⟨u,h1,h2⟩:=zj hl' (hE.op (by simp [Op.operands])) hx;obtain ⟨b,q,us,hν,rfl,hφ,hh,hcs,_⟩:=zDC M h2 ((ha id (by simp)).trans hl);obtain ⟨ws,h3,h4,_⟩:=ztB hc (zrj hd (hE.op (by simp [Op.operands])) hA);obtain ⟨h5,h6⟩:=zyZ hcs h4 hp;have hrun:=zzf (X:=X) (dst:=dst) (t:=t) (p:=p) (af:=af) (gd:=gd) (hf.ev h1) h3 (zfC ht) (by rw [h4.len,hn]) hh (by simpa using h5) h4.one;refine zJf hrun (k ν h φ _ undef (M.turn (.blk bt cs') hφ (Vn.le.refl _) rfl rfl rfl (by simp [World.setRow]) (fun j hj=>setRow_other w b j _ hj) ⟨b,q,_,hν,rfl,setRow_heap w b us.toArray _ bt (0,0) hh,?_⟩) (Vn.le.refl _) (Fz.le.refl _) (zdq.refl _ _ _) rfl);simpa using h6
end
end Go.Rk
end
section
namespace Go.Rk
open Go.RowKit Go.Dm Go.Dk
variable {τ:Nat→Type}
theorem zOk (C ws:List Value) (A N D:Nat) (h1:A+ws.length≤N) (h2:D+N≤C.length) :
  ((C.take (D+A)++ws++C.drop (D+A+ws.length)).drop D).take N=((C.drop D).take N).take A++ws++((C.drop D).take N).drop (A+ws.length):=by
 have h3:(C.take (D+A)++ws++C.drop (D+A+ws.length)).drop D=(C.drop D).take A++(ws++(C.drop D).drop (A+ws.length)):=by
  rw [List.append_assoc,List.drop_append_of_le_length (by rw [List.length_take]; omega),List.drop_take,Nat.add_sub_cancel_left,List.drop_drop,Nat.add_assoc]
 have h4:((C.drop D).take A).length=A:=by rw [List.length_take,List.length_drop]; omega
 have h5:∀R:List Value,((C.drop D).take A++(ws++R)).take N=(C.drop D).take A++(ws++R.take (N-(A+ws.length))):=by
  intro R;rw [← List.append_assoc,List.take_append,List.take_of_length_le (l:=(C.drop D).take A++ws) (by rw [List.length_append,h4]; exact h1),List.length_append,h4,List.append_assoc]
 rw [h3,h5,List.take_take,Nat.min_eq_left (by omega),List.append_assoc,List.drop_take]
section
variable {P:Program} (w:World)
theorem zwE (t ty e:TypeId) (i:TypeInfo) (ht:P.underlying t=some (.slice e)) (hi:P.info? e=some i)
  (g o sLen sCap:Nat) (cur:Array Value) (hg:w.heap[g]? = some (.cells cur e (0,0)))
  (a:Addr) (m c:Nat) (news:List Value) (hl:news.length=m*i.size) (hnews:∀j u,news[j]? = some u→w.cell? (a.add j)=some u) (h1:∀u∈news,u.oneCell'=true)
  (hroom:sLen+m≤sCap) (hfit:o+sLen*i.size+news.length≤cur.size) :
  (Builtin.append_ #[t,t] ty #[.slice (some ⟨g,o,none⟩) sLen sCap, .slice (some a) m c]).run P w =
   .ok (.slice (some ⟨g,o,none⟩) (sLen+m) sCap) (w.setRow g (cur.toList.take (o+sLen*i.size)++news++cur.toList.drop (o+sLen*i.size+news.length)).toArray):=by
 have hf:=run_firstCells_some (P:=P) w i.size m a m c news hl hnews;have hst:=run_storeCells_at P g (o+sLen*i.size) e news 0 cur w hg (by simpa using hfit) h1
 have hadd:(⟨g,o,none⟩:Addr).add (sLen*i.size)=⟨g,o+sLen*i.size,none⟩:=by unfold Addr.add; split<;>simp_all
 simp only [Nat.add_zero] at hst;simp [Builtin.append_,run_underlying ht,sizeOf,typeInfo,hi,Builtin.lenOf,hroom,hf,hadd,hst]
end
theorem zC8 {P:Program} {G:Sig τ} {w:World} (t ty e:TypeId) (i:TypeInfo) (z:Value) (size bytes:Nat) (ht:P.underlying t=some (.slice e)) (hi:P.info? e=some i) (hz:i.zero=some z)
  (hsize:i.size=size) (hby:i.bytes=bytes) (hzs:z.cells.size=size) (hsz:0<size)
  (v:Value) (n:Nat) (xs:List Value) (hown:zgV G w e size v n xs)
  (ad:Addr) (m c:Nat) (news:List Value) (hl:news.length=m*size) (hnews:∀j u,news[j]? = some u→w.cell? (ad.add j)=some u) (h1:∀u∈news,u.oneCell'=true)
  (h63:n+m≤maxLen) (hbytes:(n+m)*bytes≤140737488355328) :
  ∃ad' c' w',(Builtin.append_ #[t,t] ty #[v, .slice (some ad) m c]).run P w = .ok (.slice ad' (n+m) c') w'∧zgV G w' e size (.slice ad' (n+m) c') (n+m) (xs++news)∧w.grownBy w' v.ownBlock ∧
   ((Value.slice ad' (n+m) c').ownBlock=v.ownBlock∨(Value.slice ad' (n+m) c').ownBlock=some w.heap.size):=by
 have base:w.ownsRow 0 e size v n xs→_:=fun ho=>zko (P:=P) (w:=w) t ty e i z size bytes ht hi hz hsize hby hzs hsz v n xs ho ad m c news hl hnews h1 h63 hbytes
 cases hd:G.dr e with
 | false =>
  obtain ⟨ad',c',w',g1,g2,g3,g4⟩:=base (hown.row hd);exact ⟨ad',c',w',g1,zgV.of_row g2,g3,g4⟩
 | true =>
  obtain ⟨h2,h3⟩:=hown
  rcases h3 with ⟨rfl,rfl⟩|⟨g,d,cap,cur,rfl,_,hg,hnc,hcm,hcs,htk⟩
  ·obtain ⟨ad',c',w',g1,g2,g3,g4⟩:=base ⟨h2, .inl ⟨rfl,rfl⟩⟩;exact ⟨ad',c',w',g1,zgV.of_row g2,g3,g4⟩
  ·subst hsize;subst hby
   have hlen:(xs++news).length=(n+m)*i.size:=by rw [List.length_append,h2,hl,Nat.add_mul]
   by_cases hroom:n+m≤cap
   ·have hN:d*i.size+(n+m)*i.size≤cur.size:=by rw [← Nat.add_mul]; exact Nat.le_trans (Nat.mul_le_mul_right _ (by omega)) hcs
    have hmul:(n+m)*i.size=n*i.size+m*i.size:=Nat.add_mul ..;have hr:=zwE (P:=P) w t ty e i ht hi g (d*i.size) n cap cur hg ad m c news hl hnews h1 hroom (by omega)
    have hcl:cur.toList.length=cur.size:=by simp
    refine ⟨_,_,_,hr,⟨hlen, .inr ⟨g,d,cap,_,rfl,(fun hz=>(Bool.noConfusion (hd.symm.trans hz):_)),setRow_heap w g cur _ e _ hg,hroom,hcm,?_,?_⟩⟩,⟨rfl,rfl,rfl,by simp,fun k _ hk=>setRow_other w g k _ (fun e=>hk (by simp [Value.ownBlock,e]))⟩, .inl rfl⟩
    ·simp only [List.size_toArray,List.length_append,List.length_take,List.length_drop];omega
    ·have h7:=zOk cur.toList news (n*i.size) ((n+m)*i.size) (d*i.size) (by omega) (by omega);rw [List.toList_toArray,h7,List.take_take,Nat.min_eq_left (by omega),htk,List.drop_eq_nil_of_le (by rw [List.length_take,List.length_drop]; omega),List.append_nil]
   ·have hsm:n+m≤9223372036854775807:=by simp only [maxLen] at h63; omega
    have holds:∀j u,xs[j]? = some u→w.cell? ((⟨g,d*i.size,none⟩:Addr).add j)=some u:=by
     intro j u hu
     have hadd:(⟨g,d*i.size,none⟩:Addr).add j=⟨g,d*i.size+j,none⟩:=by unfold Addr.add; split<;>simp_all
     rw [hadd,cell_of_row w g _ cur e (0,0) hg];rw [← htk,List.getElem?_take] at hu
     split at hu
     ·rw [List.getElem?_drop] at hu; simpa using hu
     ·cases hu
    have hr:=run_append_grow (P:=P) w t ty e i z ht hi hz ⟨g,d*i.size,none⟩ n cap xs h2 holds ad m c news hl hnews (by omega) (by omega) (growslice_fits (by omega) hbytes);have hge:=grownCap_ge w (n+m) cap e;refine ⟨_,_,_,hr,zgV.of_row ⟨hlen, .inr ⟨w.heap.size,_,_,rfl,Nat.zero_le _,heap_alloc_new w.drew _,hge,grownCap_le_maxLen w (n+m) cap e h63,?_,?_⟩⟩,⟨rfl,rfl,rfl,by simp,fun k hk _=>heap_alloc_old w.drew _ hk⟩, .inr rfl⟩
    ·simp only [Array.size_append,List.size_toArray,size_zeroCells,hzs,h2,hl, ← Nat.add_mul]
     congr 1
     omega
    ·simp only [Array.toList_append,List.append_assoc];rw [← List.append_assoc, ← hlen];exact List.take_left
theorem zvd {P:Program} {G:Sig τ} {w:World} (t ty e:TypeId) (i:TypeInfo) {size c:Nat} (ht:P.underlying t=some (.slice e)) (hi:P.info? e=some i) {ad:Option Addr} {m cp n:Nat} {xs:List Value} (ho:zgV G w e size (.slice ad m cp) n xs) :
  (Builtin.append_ #[t,t] ty #[.slice ad m cp, .slice none 0 c]).run P w = .ok (.slice ad m cp) w:=by
 obtain ⟨_,hnc⟩:=ho.len;cases ad<;>simp [Builtin.append_,run_underlying ht,sizeOf,typeInfo,hi,Builtin.lenOf,Builtin.firstCells,hnc,storeCells]
section
variable {P:Program} {G:Sig τ} {w0 w w':World} {h0 h h' H:Fz} {F:List Nat} {L L' L2:Hp τ} {ν ν':Vn τ} {φ φ':Nat→List Nat}
theorem Mem.growBy (M:Mem P G w0 h0 F L w ν h φ) {row:Option Nat} (hg:w.grownBy w' row) (hf:zhX w0 h F φ row.toList):Mem P G w0 h0 F L w' ν h φ:=by
 have hne:∀b,b<w.heap.size→b∉row.toList→w'.heap[b]? = w.heap[b]? := fun b hb hr=>hg.block b hb fun e=>hr (by rw [← e]; simp);refine ⟨hg.os.trans M.os,hg.tape.trans M.tape,hg.output.trans M.output,Nat.le_trans M.size hg.size,fun b h1 h2=>?_,M.le,fun b o e=>?_,M.new,fun i=>?_,M.dis,M.out,M.gl,M.fp⟩
 ·refine (hne b (Nat.lt_of_lt_of_le h1 M.size) fun hr=>?_).trans (M.frame b h1 h2)
  rcases (hf b hr).2.2 with h3|h3
  ·exact h2 h3
  ·omega
 ·refine (hne b (M.in_lt (by rw [e]; simp)) fun hr=>?_).trans (M.on b o e);rw [(hf b hr).2.1] at e; cases e
 ·exact (M.res i).of (Fz.le.refl _) (Vn.le.refl _) fun b hb=>hne b (M.lt hb) fun hr=>(hf b hr).1 i hb
theorem zun (M:Mem P G w0 h0 F L w ν h φ) {v v':Value} {te nid:Nat} {e:Ty} {xs:List (e.den τ)} {cs:List Value} (hf:zhX w0 h F φ v.ownBlock.toList) (hn:ν nid=none) (hg:w.grownBy w' v.ownBlock) (ho:zgV G w' te (ets G e).length v' xs.length cs)
  (hr:RpR P G h e xs cs) (hv:v'.ownBlock=v.ownBlock∨v'.ownBlock=some w.heap.size):Mem P G w0 h0 F ((nid, .row te e xs nid)::L) w' (up1 ν nid (some (v',some ⟨e,xs⟩))) h (up1 φ nid v'.ownBlock.toList):=by
 refine (M.growBy hg hf).add hn _ _ ⟨v',_,cs,v',rfl,rfl,ho,hr,zab _ _ _⟩ fun b hb=>?_
 rcases hv with hv|hv
 ·rw [hv] at hb; exact hf b hb
 ·rw [hv] at hb
  obtain rfl:b=w.heap.size:=by simpa using hb
  refine ⟨fun i hi=>Nat.lt_irrefl _ (M.lt hi),?_, .inr M.size⟩
  cases e:h w.heap.size with
  | none=>rfl
  | some o'=>exact (Nat.lt_irrefl _ (M.in_lt (b:=w.heap.size) (by rw [e]; simp))).elim
theorem RpL.one:∀{ts:List Ty} {q:DP τ ts} {vs:List Value},RpL P G h ts q vs→∀v∈vs,v.oneCell'=true
 | _,_,_, .nil,v,hv=>by cases hv
 | _,_,_, .cons t ts q u us h1 h2,v,hv=>by
  rcases List.mem_cons.1 hv with rfl|hv
  ·exact (zcT.one (X:=⟨P,G,[],[],0,fun _=>undef⟩) (ν:=fun _=>none) (zJF h1)).1
  ·exact h2.one v hv
theorem RpR.one:∀{e:Ty} {xs:List (e.den τ)} {vs:List Value},RpR P G h e xs vs→∀v∈vs,v.oneCell'=true
 | _,_,_, .nil e,v,hv=>by cases hv
 | _,_,_, .cons e x xs vs ws h1 h2,v,hv=>by
  rcases List.mem_append.1 hv with hv|hv
  ·exact h1.one v hv
  ·exact h2.one v hv
theorem RpR.app:∀{e:Ty} {xs ys:List (e.den τ)} {vs ws:List Value},RpR P G h e xs vs→RpR P G h e ys ws→RpR P G h e (xs++ys) (vs++ws)
 | _,_,_,_,_, .nil _,h2=>h2
 | _,_,_,_,_, .cons e x xs vs ws h1 h2,h3=>by rw [List.append_assoc]; exact .cons e x _ vs _ h1 (h2.app h3)
theorem RpR.set:∀{e:Ty} {xs:List (e.den τ)} {vs:List Value},RpR P G h e xs vs→∀{i:Nat} {z:e.den τ} {us:List Value},i<xs.length→RpL P G h (ets G e) (edt G e z) us →
  RpR P G h e (xs.set i z) (vs.take (i*(ets G e).length)++us++vs.drop (i*(ets G e).length+(ets G e).length))
 | _,_,_, .nil _,i,z,us,hi,hz=>by simp at hi
 | _,_,_, .cons e x xs vs ws h1 h2,0,z,us,hi,hz=>by
  have:=h1.len;simp only [Nat.zero_mul,List.take_zero,List.nil_append,Nat.zero_add,List.set_cons_zero];rw [List.drop_append,List.drop_eq_nil_of_le (by omega),List.nil_append,this,Nat.sub_self,List.drop_zero];exact .cons e z xs us ws hz h2
 | _,_,_, .cons e x xs vs ws h1 h2,i+1,z,us,hi,hz=>by
  have hl:=h1.len;have:=RpR.set h2 (i:=i) (by simpa using hi) hz;rw [List.set_cons_succ]
  have e1:(vs++ws).take ((i+1)*(ets G e).length)=vs++ws.take (i*(ets G e).length):=by
   rw [List.take_append,List.take_of_length_le (by rw [hl,Nat.add_mul]; omega),hl,Nat.add_mul,Nat.one_mul,Nat.add_sub_cancel]
  have e2:(vs++ws).drop ((i+1)*(ets G e).length+(ets G e).length)=ws.drop (i*(ets G e).length+(ets G e).length):=by
   rw [List.drop_append,List.drop_eq_nil_of_le (by rw [hl,Nat.add_mul]; omega),hl,List.nil_append,Nat.add_mul,Nat.one_mul]
   congr 1; omega
  rw [e1,e2,List.append_assoc,List.append_assoc];rw [List.append_assoc] at this;exact .cons e x _ vs _ h1 this
theorem zJo (M:Mem P G w0 h0 F L2 w ν h φ) {e:Ty} {c:CV τ} {xs:List (e.den τ)} {m:List Nat} {v:Value} (k:rowO L e c=some (xs,m)) (ha:∀i∈m,lk L2 i=lk L i) (hv:zcT P G h ν c v) :
  ∃ad cp cs,v = .slice ad xs.length cp∧xs.length≤cp∧zd9 w ad cs∧RpR P G h e xs cs∧∀b,b∈(ad.map (·.block)).toList→cs≠[]→b∈fps φ m∨h b≠none:=by
 have rp:∀{v:Value} {xs:List (e.den τ)},Rp P G h (.sl e) xs v→∃ad cp cs,v = .slice ad xs.length cp∧xs.length≤cp∧zd9 w ad cs∧RpR P G h e xs cs∧∀b,b∈(ad.map (·.block)).toList→cs≠[]→b∈fps φ m∨h b≠none:=by
  intro v xs hr
  cases hr with
  | sl _ _ a c vs hc hs hr =>
   refine ⟨a,c,vs,rfl,hc,hs.sees M.on,hr,fun b hb hne => .inr ?_⟩
   rcases hs with rfl|⟨b',o,cc,e',zz,rfl,h2,_⟩
   ·exact (hne rfl).elim
   ·simp at hb; subst hb; rw [h2]; simp
 unfold rowO at k
 split at k
 ·split at k
  ·rename_i hx
   obtain ⟨rfl,rfl⟩:=zgW hx;cases k;exact rp hv
  ·cases k
 ·cases k;obtain rfl:v=_:=hv;exact ⟨none,0,[],rfl,Nat.le_refl _,rfl, .nil e,fun b hb=>by cases hb⟩
 ·rename_i id
  obtain ⟨ad,n,cp,q,hν,rfl⟩:=hv
  split at k
  ·rename_i te e' xs' kk hlk
   split at k
   ·rename_i hx
    obtain ⟨rfl,rfl⟩:=zgW hx;cases k;have hr:=M.res id;rw [ha id (List.mem_singleton.2 rfl),hlk] at hr;obtain ⟨v',q',vs,u,h1,h2,h3,h4,_⟩:=hr;rw [hν] at h1;cases h1;obtain ⟨rfl,hc⟩:=h3.len;refine ⟨ad,cp,vs,rfl,hc,h3.sees.sees,h4,fun b hb _ => .inl ?_⟩;rw [zdd,h2];refine List.mem_append_left _ ?_
    cases ad with
    | none=>simp at hb
    | some a=>simpa [Value.ownBlock] using hb
   ·cases k
  ·rename_i e' xs' hlk
   split at k
   ·rename_i hx
    obtain ⟨rfl,rfl⟩:=zgW hx;cases k;have hr:=M.res id;rw [ha id (List.mem_singleton.2 rfl),hlk] at hr;obtain ⟨v',q',h1,_,h3⟩:=hr;rw [hν] at h1;cases h1;exact rp h3
   ·cases k
  ·rename_i i kk e' lo xs' hlk
   split at k
   ·rename_i te e2 ys k' hlk2
    cases hkk:Nat.beq kk k' with
    | false=>rw [hkk] at k; cases k
    | true =>
     rw [hkk] at k
     have:kk=k':=by simpa using hkk
     subst this;dsimp only [cond_true] at k
     split at k
     ·rename_i hx
      obtain ⟨rfl,rfl⟩:=zgW hx;cases k;have hr:=M.res id;rw [ha id (List.mem_cons_self ..),hlk] at hr;obtain ⟨a1,n1,c1,q1,q2,u1,ys1,a2,c2,g1,g2,g3,g4,g5,g6,g7,_⟩:=hr;have hr2:=M.res i;rw [ha i (List.mem_cons_of_mem _ (List.mem_cons_self ..)),hlk2] at hr2;obtain ⟨v',q',vs,u,h1,h2,h3,h4,h5⟩:=hr2;rw [g1] at h1;cases h1;rw [g2] at h5
      injection h5 with h5
      injection h5 with _ h5
      injection h5 with h5
      cases h5;rw [hν] at g5;cases g5
      by_cases hx0:xs'=[]
      ·subst hx0;refine ⟨ad,cp,[],rfl,g6,?_, .nil _,fun b _ hne=>(hne rfl).elim⟩
       cases ad with
       | none=>rfl
       | some x=>exact .inl rfl
      ·obtain ⟨rfl,_⟩:=h3.len;have hsee:=h3.sees.sees
       have hcell:∀(j:Nat) v,((vs.take ((lo+xs'.length)*(ets G e').length)).drop (lo*(ets G e').length))[j]? = some v→vs[lo*(ets G e').length+j]? = some v:=by
        intro j v hj;rw [List.getElem?_drop,List.getElem?_take] at hj
        split at hj
        ·exact hj
        ·cases hj
       have hrr:=(h4.take (lo+xs'.length)).drop lo;rw [← g4] at hrr;have had:=g7.1 hx0;refine ⟨ad,cp,_,rfl,g6,by rw [had]; exact zd9.part hsee hcell,hrr,fun b hb _ => .inl ?_⟩;rw [zdd,zdd,h2];refine List.mem_append_right _ (List.mem_append_left _ ?_);rw [had] at hb
       cases a1 with
       | none=>simp at hb
       | some a =>
        have e:(a.add (lo*(ets G e').length)).block=a.block:=by unfold Addr.add; split<;>rfl
        simp [e] at hb;simpa [Value.ownBlock] using hb
     ·cases k
   ·cases k
  ·cases k
 ·cases k
end
section
variable {ρ:Type} {X:Cx τ} {w0 w w':World} {h0 h H:Fz} {F:List Nat} {o:Oper} {E:zE τ} {L L2:Hp τ} {ν ν':Vn τ} {φ φ':Nat→List Nat} {nid nid':Nat} {K:Nx τ ρ} {r:ρ} {v:XV τ} {U:Hp τ} {tch:List Nat} {g:List (XV τ)}
variable {x y:Operand} {t' t ty u':Nat} {dst:Option Nat} {p:String} {af:Array Edge} {gd:Option (Nat × Bool)}
theorem zC9 (M:Mem X.P X.G w0 h0 F L2 w ν h φ) {te:Nat} {e:Ty} {c:CV τ} {xs:List (e.den τ)} {m:List Nat} {v:Value} (k:rowA L te e c=some (xs,U,m)) (ha:∀i∈m,lk L2 i=lk L i) (hv:zcT X.P X.G h ν c v) :
  ∃φ1 cs,Mem X.P X.G w0 h0 F (U++L2) w ν h φ1∧zhX w0 h F φ1 v.ownBlock.toList∧zgV X.G w te (ets X.G e).length v xs.length cs∧RpR X.P X.G h e xs cs∧(∃a n c,v = .slice a n c)∧∀i b,b∈φ1 i→b∈φ i∧i∉m:=by
 unfold rowA at k
 split at k
 ·cases k; cases hv;exact ⟨φ,[],M,fun b hb=>by simp [Value.ownBlock] at hb,zgV.nil .., .nil _,⟨_,_,_,rfl⟩,fun i b hb=>⟨hb,by simp⟩⟩
 ·rename_i id
  split at k
  ·rename_i te' e' xs' kk hlk
   cases hb:Nat.beq te te' with
   | false=>rw [hb] at k; cases k
   | true =>
    rw [hb] at k;dsimp only [cond_true] at k
    have ht:te=te':=by simpa using hb
    subst ht
    split at k
    ·rename_i hx
     obtain ⟨rfl,rfl⟩:=zgW hx;cases k;have hr:=M.res id;rw [ha id (List.mem_singleton.2 rfl),hlk] at hr;obtain ⟨v',q',vs,u,h1,h2,h3,h4,_⟩:=hr;obtain ⟨ad,n,cp,q,hν,rfl⟩:=hv;rw [hν] at h1;cases h1;obtain ⟨M1,hf⟩:=M.drop id;rw [h2] at hf;refine ⟨_,vs,M1,hf,h3,h4,⟨_,_,_,rfl⟩,fun i b hbb=>?_⟩
     by_cases hi:i=id
     ·subst hi; rw [zab] at hbb; cases hbb
     ·rw [za2 _ _ hi] at hbb; exact ⟨hbb,by simpa using hi⟩
    ·cases k
  ·cases k
 ·cases k
theorem zzd:∀{l:List UInt8} {vs:List Value},vs=cells (fun b=>[zcV b]) l→RpR X.P X.G h .u8 l vs
 | [],vs,e=>by subst e; exact .nil _
 | b::l,vs,e=>by subst e; exact .cons .u8 b l [zcV b] _ (.cons .u8 [] b _ [] (.u8 b) .nil) (zzd rfl)
theorem zjU {P:Program} {t e:TypeId} (h:elO P t=some e):P.underlying t=some (.slice e):=by
 unfold elO at h
 split at h
 ·rename_i hu; cases h; exact hu
 ·cases h
theorem zOl {P:Program} {e:TypeId} (h:bytO P e=true):∃i,P.info? e=some i∧i.zero=some (.int .u8 0)∧i.size=1∧i.bytes=1:=by
 unfold bytO at h
 split at h
 ·rename_i i hi
  split at h
  ·rename_i hz
   simp only [Bool.and_eq_true,Nat.beq_eq] at h;exact ⟨i,hi,hz,h.1,h.2⟩
  ·cases h
 ·cases h
theorem zHE {te:Nat} {e:Ty} {a0:CV τ} {xs:List (e.den τ)} {l0:Str} {l:List (e.den τ)} (hel:elO X.P t'=some te) (hx:evC E x=some a0) (hA:rowA L te e a0=some (xs,U,tch)) (hy:evC E y=some (.s l0)) (hu:X.P.underlying u'=some .string)
  (hl:zmv (t := .u8) (t':=e) l0=some l) (hb:(bytO X.P te && !X.G.dr te)=true) (hfit:ze xs.length l.length 1=true) (k:K (.c (.os nid)) [] ((nid, .row te e (xs++l) nid)::U) tch (nid+1)=some r) :
  zde X w0 h0 F ⟨dst, .call ⟨.builtin .append,⟨[x,y]⟩,⟨[t',u']⟩⟩,t,p,af,gd⟩ E L nid K r:=by
 refine ⟨_,_,_,_,_,k,Nat.le_succ _,(fun _ h=>by cases h),fun L2 ν h φ a w next Q hd M hE ha hn k=>?_⟩;have hn':=hn nid (Nat.le_refl _) (Nat.lt_succ_self _);obtain ⟨Ea,hf,hl'⟩:=zdD a hd;obtain ⟨vx,h1,h2⟩:=zj hl' (hE.op (by simp [Op.operands,Call.operands])) hx;obtain ⟨vy,h3,h4⟩:=zj hl' (hE.op (by simp [Op.operands,Call.operands])) hy;obtain rfl:vy=_:=h4;obtain ⟨φ1,cs,M1,hfr,ho,hr,⟨ad,n,cp,rfl⟩,_⟩:=zC9 M hA ha h2;obtain ⟨rfl,rfl⟩:=zgW hl;simp only [Bool.and_eq_true,Bool.not_eq_true'] at hb;obtain ⟨ti,hti,hz,hs1,hs2⟩:=zOl hb.1;simp only [ze,Bool.and_eq_true,decide_eq_true_eq] at hfit;have f1:xs.length+List.length (α:=UInt8) l0≤9223372036854775807:=hfit.1;have f2:(xs.length+List.length (α:=UInt8) l0)*1≤140737488355328:=hfit.2;have hsz:(⟨l0.toArray⟩:ByteArray).size=l0.length:=rfl;obtain ⟨ad',c',w',hrun,g2,g3,g4⟩:=zrV (P:=X.P) (w:=w) t' u' t te ti (zjU hel) hu hti hz hs1 hs2 (.slice ad n cp) xs.length cs (ho.row hb.2) ⟨l0.toArray⟩ (by rw [hsz]; unfold maxLen; omega) (by rw [hsz]; omega);rw [hsz,zFr (en:=fun b=>[zcV b]) (fun _=>rfl)] at g2;rw [hsz] at hrun g4
 have hexec:(execOp a.eval ⟨dst, .call ⟨.builtin .append,⟨[x,y]⟩,⟨[t',u']⟩⟩,t,p,af,gd⟩).run X.P w = .ok (.value (.slice ad' (xs.length+l0.length) c')) w':=by
  simp only [execOp,resolve,invoke,builtin,Sem.run_bind,Sem.run_pure,Result.andThen_ok,List.map_toArray,List.map_cons,List.map_nil,hf.ev h1,hf.ev h3,hrun]
 refine zf4 hexec (k _ h _ _ _ (zun M1 hfr hn' g3 (zgV.of_row (by rw [List.length_append]; exact g2)) (hr.app (zzd rfl)) g4) (zbw hn') (Fz.le.refl _) zd2 ⟨_,_,_,_,zab _ _ _,rfl⟩)
theorem zHF (hT:TyOk X) {te:Nat} {e:Ty} {a0 b0:CV τ} {xs ys:List (e.den τ)} {m:List Nat} (hel:elO X.P t'=some te) (hel':elO X.P u'=some te) (hte:asc X.ty te=some e) (hx:evC E x=some a0) (hA:rowA L te e a0=some (xs,U,tch)) (hy:evC E y=some b0) (hB:rowO L e b0=some (ys,m)) (hdj:zx7 tch m=true)
  (hfit:fitO X.P xs.length ys.length te=true) (k:K (.c (.os nid)) [] ((nid, .row te e (xs++ys) nid)::U) (tch++m) (nid+1)=some r) (htu:t'=u') :
  zde X w0 h0 F ⟨dst, .call ⟨.builtin .append,⟨[x,y]⟩,⟨[t',u']⟩⟩,t,p,af,gd⟩ E L nid K r:=by
 subst htu;refine ⟨_,_,_,_,_,k,Nat.le_succ _,(fun _ h=>by cases h),fun L2 ν h φ a w next Q hd M hE ha hn k=>?_⟩;have hn':=hn nid (Nat.le_refl _) (Nat.lt_succ_self _);obtain ⟨Ea,hf,hl'⟩:=zdD a hd;obtain ⟨vx,h1,h2⟩:=zj hl' (hE.op (by simp [Op.operands,Call.operands])) hx;obtain ⟨vy,h3,h4⟩:=zj hl' (hE.op (by simp [Op.operands,Call.operands])) hy;obtain ⟨ad2,cp2,ds,rfl,hc2,hs2,hr2,_⟩:=zJo M hB (fun i hi=>ha i (List.mem_append_right _ hi)) h4;obtain ⟨φ1,cs,M1,hfr,ho,hr,⟨ad,n,cp,rfl⟩,_⟩:=zC9 M hA (fun i hi=>ha i (List.mem_append_left _ hi)) h2;obtain ⟨ti,z,hti,hz,hs1,hzs,hpos⟩:=hT.el _ (zmG hte);have hs1:ti.size=(ets X.G e).length:=hs1;unfold fitO at hfit;rw [hti] at hfit;simp only [ze,Bool.and_eq_true,decide_eq_true_eq] at hfit
 have key:∃ad' c' w',(Builtin.append_ #[t',t'] t #[.slice ad n cp, .slice ad2 ys.length cp2]).run X.P w = .ok (.slice ad' (xs.length+ys.length) c') w'∧zgV X.G w' te (ets X.G e).length (.slice ad' (xs.length+ys.length) c') (xs.length+ys.length) (cs++ds)∧w.grownBy w' (Value.slice ad n cp).ownBlock ∧
   ((Value.slice ad' (xs.length+ys.length) c').ownBlock=(Value.slice ad n cp).ownBlock∨(Value.slice ad' (xs.length+ys.length) c').ownBlock=some w.heap.size):=by
  cases ad2 with
  | none =>
   have hds:ds=[]:=hs2;subst hds;have hl2:=hr2.len
   have hys:ys.length=0:=by
    rcases Nat.eq_zero_or_pos ys.length with h|h
    ·exact h
    ·have:0<ys.length*(ets X.G e).length:=Nat.mul_pos h (by omega);simp at hl2; omega
   obtain ⟨hn,hnc⟩:=ho.len;have h5:=zvd (c:=cp2) t' t te ti (zjU hel) hti ho;rw [hys,Nat.add_zero,List.append_nil];refine ⟨ad,cp,w,?_,?_,⟨rfl,rfl,rfl,Nat.le_refl _,fun _ _ _=>rfl⟩, .inl (by subst hn; rfl)⟩
   ·rw [h5,hn]
   ·subst hn; exact ho
  | some a2 =>
   have hnews:∀j u,ds[j]? = some u→w.cell? (a2.add j)=some u:=by
    intro j u hj
    rcases hs2 with rfl|⟨hsp,hlt,hc⟩
    ·simp at hj
    ·have:a2.add j=⟨a2.block,a2.off+j,none⟩:=by
      obtain ⟨b,o,s⟩:=a2;simp only at hsp; subst hsp;unfold Addr.add; split<;>simp_all
     rw [this]; exact hc j u hj
   exact zC8 (P:=X.P) (w:=w) t' t te ti z _ ti.bytes (zjU hel) hti hz hs1 rfl (by rw [hzs,hs1]) (by omega) _ _ _ ho a2 ys.length cp2 ds hr2.len hnews hr2.one (by unfold maxLen; omega) hfit.2
 obtain ⟨ad',c',w',hrun,g2,g3,g4⟩:=key
 have hexec:(execOp a.eval ⟨dst, .call ⟨.builtin .append,⟨[x,y]⟩,⟨[t',t']⟩⟩,t,p,af,gd⟩).run X.P w = .ok (.value (.slice ad' (xs.length+ys.length) c')) w':=by
  simp only [execOp,resolve,invoke,builtin,Sem.run_bind,Sem.run_pure,Result.andThen_ok,List.map_toArray,List.map_cons,List.map_nil,hf.ev h1,hf.ev h3,hrun]
 exact zf4 hexec (k _ h _ _ _ (zun M1 hfr hn' g3 (by rw [List.length_append]; exact g2) (hr.app hr2) g4) (zbw hn') (Fz.le.refl _) zd2 ⟨_,_,_,_,zab _ _ _,rfl⟩)
end
end Go.Rk
end
section
namespace Go.Rk
open Go.RowKit Go.Dm Go.Dk
variable {τ:Nat→Type}
section
variable {ρ:Type} {X:Cx τ} {w0 w w':World} {h0 h H:Fz} {F:List Nat} {o:Oper} {E:zE τ} {L L2:Hp τ} {ν ν':Vn τ} {φ φ':Nat→List Nat} {nid nid':Nat} {K:Nx τ ρ} {r:ρ} {v:XV τ} {U:Hp τ} {tch:List Nat} {g:List (XV τ)}
variable {a:Act} {x y z:Operand} {t' t ty u':Nat} {dst:Option Nat} {p:String} {af:Array Edge} {gd:Option (Nat × Bool)}
theorem zOQ (hT:TyOk X) {te:Nat} {e:Ty} {a0:CV τ} {xs:List (e.den τ)} (hel:elO X.P t'=some te) (hel':elO X.P u'=some te) (hte:asc X.ty te=some e) (hx:evC E x=some a0) (hA:rowA L te e a0=some (xs,U,tch)) (hy:evC E y=some .n0)
  (k:K (.c (.os nid)) [] ((nid, .row te e xs nid)::U) tch (nid+1)=some r) (htu:t'=u') :
  zde X w0 h0 F ⟨dst, .call ⟨.builtin .append,⟨[x,y]⟩,⟨[t',u']⟩⟩,t,p,af,gd⟩ E L nid K r:=by
 subst htu;refine ⟨_,_,_,_,_,k,Nat.le_succ _,(fun _ h=>by cases h),fun L2 ν h φ a w next Q hd M hE ha hn k=>?_⟩;have hn':=hn nid (Nat.le_refl _) (Nat.lt_succ_self _);obtain ⟨Ea,hf,hl'⟩:=zdD a hd;obtain ⟨vx,h1,h2⟩:=zj hl' (hE.op (by simp [Op.operands,Call.operands])) hx;obtain ⟨vy,h3,h4⟩:=zj hl' (hE.op (by simp [Op.operands,Call.operands])) hy;obtain rfl:vy=_:=h4;obtain ⟨φ1,cs,M1,hfr,ho,hr,⟨ad,n,cp,rfl⟩,_⟩:=zC9 M hA ha h2;obtain ⟨ti,z,hti,hz,hs1,hzs,hpos⟩:=hT.el _ (zmG hte);have h5:=zvd (c:=0) t' t te ti (zjU hel) hti ho
 have hexec:(execOp a.eval ⟨dst, .call ⟨.builtin .append,⟨[x,y]⟩,⟨[t',t']⟩⟩,t,p,af,gd⟩).run X.P w = .ok (.value (.slice ad n cp)) w:=by
  simp only [execOp,resolve,invoke,builtin,Sem.run_bind,Sem.run_pure,Result.andThen_ok,List.map_toArray,List.map_cons,List.map_nil,hf.ev h1,hf.ev h3,h5]
 exact zf4 hexec (k _ h _ _ _ (zun M1 hfr hn' ⟨rfl,rfl,rfl,Nat.le_refl _,fun _ _ _=>rfl⟩ ho hr (.inl rfl)) (zbw hn') (Fz.le.refl _) zd2 ⟨_,_,_,_,zab _ _ _,rfl⟩)
theorem zOR (M:Mem X.P X.G w0 h0 F L2 w ν h φ) (hH:h.le H) {t:Ty} {A:XV τ} {d:t.den τ} {m:List Nat} {u:Value} (e:lokX X.G L t A=some (d,m)) (ha:zbR L2 L φ H w m) (hu:XOk X.P X.G h ν A u) :
  ∃us,u.cells=⟨us⟩∧RpL X.P X.G H (ets X.G t) (edt X.G t d) us:=by
 unfold lokX at e
 split at e
 ·rename_i n cs
  split at e
  ·rename_i q m' hq
   cases e;obtain ⟨us,rfl,hc⟩:=hu;refine ⟨us,rfl,?_⟩;show RpL _ _ _ (X.G.fs n) (X.G.dtor n (X.G.ctor n q)) us;rw [X.G.dc];exact ztw (A:=zbR L2 L φ H w) (fun _ _=>zbR.app) (zwW M hH depth) hq ha hc
  ·cases e
 ·rename_i c
  have hr:=zwW M hH _ _ _ _ _ _ e ha hu;have hc:zcT X.P X.G h ν c u:=hu;refine ⟨[u],hc.one.2,?_⟩;cases t
  case st n=>cases hr
  all_goals exact .cons _ [] _ u [] hr .nil
 ·cases e
theorem zDn (hd:a.defers=[]) (M:Mem X.P X.G w0 h0 F L2 w ν h φ) (hH:h.le H) {e:Ty}:∀{ps:List (Nat × Operand)} {k:Nat} {xs:List (e.den τ)} {m:List Nat} {pre rest:List Value},zF5 X L E e k ps=some (xs,m)→zbR L2 L φ H w m→(∀q∈ps,zeb X h ν a (zw2 q.2) E) →
  pre.length=k*(ets X.G e).length→rest.length=ps.length*(ets X.G e).length →
  ∃cs,RpR X.P X.G H e xs cs∧xs.length=ps.length∧Instr.fill (fun i=>some (i*(ets X.G e).length,(ets X.G e).length)) (pre++rest).toArray (ps.map fun q=>(q.1,a.eval q.2))=some (pre++cs).toArray
 | [],k,xs,m,pre,rest,e1,ha,hE,hp,hr=>by
  cases e1;have:rest=[]:=List.eq_nil_of_length_eq_zero (by simpa using hr);subst this;exact ⟨[], .nil e,rfl,rfl⟩
 | (i,x)::ps,k,xs,m,pre,rest,e1,ha,hE,hp,hr=>by
  unfold zF5 at e1
  cases hb:Nat.beq i k with
  | false=>rw [hb] at e1; cases e1
  | true =>
   rw [hb] at e1;dsimp only [cond_true] at e1
   have hik:i=k:=by simpa using hb
   subst hik
   split at e1
   ·rename_i A hA
    split at e1
    ·rename_i d m1 hd1
     split at e1
     ·rename_i xs' m2 hx2
      cases e1;obtain ⟨us,h1,h2⟩:=zOR M hH hd1 ha.app.1 (zrj hd (hE _ (List.mem_cons_self ..)) hA);have hl:=h2.len;simp only [List.length_cons,Nat.add_mul,Nat.one_mul] at hr
      have hrl:(rest.drop us.length).length=ps.length*(ets X.G e).length:=by rw [List.length_drop]; omega
      obtain ⟨cs,h3,h4,h5⟩:=zDn hd M hH (pre:=pre++us) (rest:=rest.drop us.length) hx2 ha.app.2 (fun q hq=>hE q (List.mem_cons_of_mem _ hq)) (by rw [List.length_append,hp,hl,Nat.add_mul,Nat.one_mul]) hrl;refine ⟨us++cs, .cons e d xs' us cs h2 h3,by simp [h4],?_⟩;have h6:=zs7 us (pre++rest) (i*(ets X.G e).length) 0 (by rw [List.length_append]; omega);simp only [Nat.add_zero] at h6;simp only [List.map_cons,Instr.fill,h1];rw [if_neg (by simp; omega)]
      have h8:(Array.zipIdx ⟨us⟩).foldl (fun cs (q:Value × Nat)=>cs.setIfInBounds (i*(ets X.G e).length+q.2) q.1) (pre++rest).toArray=(us.zipIdx).foldl (fun cs (q:Value × Nat)=>cs.setIfInBounds (i*(ets X.G e).length+q.2) q.1) (pre++rest).toArray:=by
       rw [← Array.foldl_toList]; simp
      have h9:(pre++rest).take (i*(ets X.G e).length)++us++(pre++rest).drop (i*(ets X.G e).length+us.length)=pre++us++rest.drop us.length:=by
       rw [← hp,List.take_left,List.drop_append,List.drop_eq_nil_of_le (by omega),List.nil_append,Nat.add_sub_cancel_left]
      rw [h9] at h6;refine Eq.trans (congrArg (fun z=>Instr.fill _ z _) (h8.trans h6)) ?_;rw [h5,List.append_assoc]
     ·cases e1
    ·cases e1
   ·cases e1
theorem zMx {P:Program} {te n:Nat} {ti:TypeInfo} {z:Value} {parts:List (Nat × Value)} {cells:Array Value} (hu:P.underlying t'=some (.slice te)) (hi:P.info? te=some ti) (hz:ti.zero=some z) (hb:¬(n*ti.size>2^24))
  (hf:Instr.fill (fun i=>some (i*ti.size,ti.size)) ((Array.range (n*ti.size)).map ((if n*ti.size=0 then #[] else z.cells)[· % (if n*ti.size=0 then #[] else z.cells).size]!)) parts=some cells) :
  (Instr.buildSlice t' n parts.toArray).run P w = .ok (.slice (some ⟨w.heap.size,0,none⟩) n n) (w.alloc (.cells cells te)):=by
 have hsize:∀w,(sizeOf te).run P w = .ok ti.size w:=fun w=>by simp [sizeOf,typeInfo,hi]
 have hzv:∀w,(zeroValue te).run P w = .ok z w:=fun w=>by simp [zeroValue,typeInfo,hi,hz]
 unfold Instr.buildSlice;simp only [Sem.run_bind,run_underlying hu,Result.andThen_ok,hsize];rw [if_neg hb]
 by_cases hzero:n*ti.size=0
 ·simp only [hzero,if_true] at hf ⊢;simp only [Sem.run_bind,Sem.run_pure,Result.andThen_ok,hf];simp [newRow,go_sem,Result.andThen]
 ·simp only [hzero,if_false] at hf ⊢;simp only [Sem.run_bind,Sem.run_pure,Result.andThen_ok,hzv,hf];simp [newRow,go_sem,Result.andThen]
theorem bs_ok (hT:TyOk X) {te n:Nat} {e:Ty} {ps:List (Nat × Operand)} {xs:List (e.den τ)} {ids:List Nat} (hel:elO X.P t'=some te) (hte:asc X.ty te=some e) (hx:zF5 X L E e 0 ps=some (xs,ids)) (hn:xs.length=n) (hsz:n*(ets X.G e).length≤65536) (hU:freeze L ids=some U)
  (k:K (.c (.os nid)) [] ((nid, .row te e xs nid)::U) ids (nid+1)=some r):zde X w0 h0 F ⟨dst, .buildSlice t' n ⟨ps⟩,t,p,af,gd⟩ E L nid K r:=by
 refine ⟨_,_,_,_,_,k,Nat.le_succ _,(fun _ h=>by cases h),fun L2 ν h φ a w next Q hd M hE ha hnn k=>?_⟩;have hn':=hnn nid (Nat.le_refl _) (Nat.lt_succ_self _);obtain ⟨ti,z,hti,hz,hs1,hzs,hpos⟩:=hT.el _ (zmG hte);have hs1:ti.size=(ets X.G e).length:=hs1;have hti:X.P.info? te=some ti:=hti;have hM1:=M.freeze hU ha;have hle:=M.lend_le ids
 have hm0:ps.length=n:=by
  obtain ⟨cs,_,h2,_⟩:=zDn (pre:=[]) (rest:=List.replicate (ps.length*(ets X.G e).length) undef) hd M hle hx (M.look ha) (fun q hq=>hE.op (by simp only [Op.operands,List.toList_toArray,List.mem_map]; exact ⟨q,hq,rfl⟩)) (by simp) (by simp);omega
 have hrng:∀f:Nat→Value,(Array.range (n*ti.size)).map f=((List.range (n*ti.size)).map f).toArray:=by
  intro f; apply Array.toList_inj.1; simp
 have hlen:∀f:Nat→Value,((List.range (n*ti.size)).map f).length=ps.length*(ets X.G e).length:=by intro f; simp [hm0,hs1]
 have hfill:∀zc:Array Value, ∃cs,RpR X.P X.G (zrt h w (fps φ ids)) e xs cs∧Instr.fill (fun i=>some (i*ti.size,ti.size)) ((Array.range (n*ti.size)).map (zc[· % zc.size]!)) (ps.map fun q=>(q.1,a.eval q.2))=some cs.toArray:=by
  intro zc;obtain ⟨cs,h1,_,h3⟩:=zDn (pre:=[]) (rest:=(List.range (n*ti.size)).map (zc[· % zc.size]!)) hd M hle hx (M.look ha) (fun q hq=>hE.op (by simp only [Op.operands,List.toList_toArray,List.mem_map]; exact ⟨q,hq,rfl⟩)) (by simp) (hlen _);refine ⟨cs,h1,?_⟩;rw [hrng];simp only [hs1] at h3 ⊢;simpa using h3
 have hpm:(Array.map (fun x=>match x with|(i,x)=>(i,a.eval x)) (⟨ps⟩:Array (Nat × Operand)))=(ps.map fun q=>(q.1,a.eval q.2)).toArray:=by
  have:(Array.map (fun (q:Nat × Operand)=>(q.1,a.eval q.2)) ⟨ps⟩)=(ps.map fun q=>(q.1,a.eval q.2)).toArray:=by simp
  exact this
 have key:∃cs,RpR X.P X.G (zrt h w (fps φ ids)) e xs cs∧(execOp a.eval ⟨dst, .buildSlice t' n ⟨ps⟩,t,p,af,gd⟩).run X.P w = .ok (.value (.slice (some ⟨w.heap.size,0,none⟩) n n)) (w.alloc (.cells cs.toArray te)):=by
  have hb:¬(n*ti.size>2^24):=by rw [hs1]; omega
  obtain ⟨cs,h1,h2⟩:=hfill (if n*ti.size=0 then #[] else z.cells);refine ⟨cs,h1,?_⟩;simp only [execOp];rw [hpm,Sem.run_bind,zMx (zjU hel) hti hz hb h2];rfl
 obtain ⟨cs,h1,hexec⟩:=key;have hl:=h1.len
 have ho:zgV X.G (w.alloc (.cells cs.toArray te)) te (ets X.G e).length (.slice (some ⟨w.heap.size,0,none⟩) n n) xs.length cs :=
  zgV.of_row ⟨hl, .inr ⟨w.heap.size,n,cs.toArray,by rw [hn],Nat.zero_le _,zkA _,by omega,by have:n≤n*(ets X.G e).length:=Nat.le_mul_of_pos_right _ (by omega); unfold maxLen; omega,by simp [hl,hn],by rw [← hl]; simp⟩⟩
 refine zf4 hexec (k _ _ _ _ _ (hM1.alloc hn' _ (.row te e xs nid) (.slice (some ⟨w.heap.size,0,none⟩) n n,some ⟨e,xs⟩) ⟨_,_,cs,_,rfl,rfl,ho,h1,zab _ _ _⟩) (zbw hn') hle zd2 ⟨_,_,_,_,zab _ _ _,rfl⟩)
theorem ix_ok {te:Nat} {e:Ty} {c:CV τ} {xs:List (e.den τ)} {m:Int} {d:e.den τ} (hT:TyOk X) (hel:elO X.P t'=some te) (hx:evC E x=some c) (hy:evC E y=some (.i m)) (hr:lAt xs m=some d) (hsz:szO X.P te=some (ets X.G e).length) (hpos:0<(ets X.G e).length)
  (k:K (.c (.ea e d 0)) [] [] tch nid=some r)
  (hs:∀(L2:Hp τ) ν h φ (w:World) u,Mem X.P X.G w0 h0 F L2 w ν h φ→(∀i∈tch,lk L2 i=lk L i)→zcT X.P X.G h ν c u→Rp X.P X.G h (.sl e) xs u):zde X w0 h0 F ⟨dst, .indexAddr t' x y,t,p,af,gd⟩ E L nid K r:=by
 refine zaU k fun L2 ν h φ a w hd M hE ha=>?_;obtain ⟨Ea,hf,hl'⟩:=zdD a hd;obtain ⟨vx,h1,h2⟩:=zj hl' (hE.op (by simp [Op.operands])) hx;obtain ⟨vy,h3,h4⟩:=zj hl' (hE.op (by simp [Op.operands])) hy;obtain rfl:vy=_:=h4;have hrp:=hs L2 ν h φ w vx M ha h2;obtain ⟨hz,hm0⟩:=zsi hr
 cases hrp with
 | sl _ _ ad cp vs hc hsees hrr =>
  obtain ⟨h5,h6⟩:=hrr.get hz;have hlt:m.toNat<xs.length:=(List.getElem?_eq_some_iff.1 hz).1
  rcases hsees with rfl|⟨b,o,cc,e',zz,rfl,g1,g2⟩
  ·rw [List.length_nil] at h6; omega
  ·have hadd:(⟨b,o,none⟩:Addr).add (m.toNat*(ets X.G e).length)=⟨b,o+m.toNat*(ets X.G e).length,none⟩:=by unfold Addr.add; split<;>simp_all
   refine ⟨ptr b (o+m.toNat*(ets X.G e).length),?_,b,o+m.toNat*(ets X.G e).length,_,rfl, .inr ⟨b,_,cc,e',zz,rfl,g1,fun j v hj=>?_⟩,h5⟩
   ·refine zm0 (fun w=>?_) hf h1 h3;rw [zox (zjU hel) (zfC hsz) hm0 (by omega),hadd]
   ·rw [List.getElem?_take] at hj
    split at hj
    ·rw [List.getElem?_drop] at hj;rw [Nat.add_assoc]; exact g2 _ _ hj
    ·cases hj
theorem ixo_ok {te te' id kk:Nat} {e:Ty} {xs:List (e.den τ)} {m:Int} {d:e.den τ} (hel:elO X.P t'=some te) (hx:evC E x=some (.os id)) (hy:evC E y=some (.i m)) (hlk:lk L id = .row te' e xs kk) (hr:lAt xs m=some d) (hsz:szO X.P te=some (ets X.G e).length) (hpos:0<(ets X.G e).length)
  (k:K (.c (.oe id kk m e d 0)) [] [] [id] nid=some r):zde X w0 h0 F ⟨dst, .indexAddr t' x y,t,p,af,gd⟩ E L nid K r:=by
 refine zaU k fun L2 ν h φ a w hd M hE ha=>?_;obtain ⟨Ea,hf,hl'⟩:=zdD a hd;obtain ⟨vx,h1,h2⟩:=zj hl' (hE.op (by simp [Op.operands])) hx;obtain ⟨vy,h3,h4⟩:=zj hl' (hE.op (by simp [Op.operands])) hy;obtain rfl:vy=_:=h4;obtain ⟨ad,n,cp,q,hν,rfl⟩:=h2;have hres:=M.res id;rw [ha id (List.mem_singleton.2 rfl),hlk] at hres;obtain ⟨v',q',vs,u,g1,g2,g3,g4,g5⟩:=hres;rw [hν] at g1;cases g1;obtain ⟨hz,hm0⟩:=zsi hr;have hlt:m.toNat<xs.length:=(List.getElem?_eq_some_iff.1 hz).1;obtain ⟨_,⟨e1,hz0⟩|⟨g,d0,cap,cur,e1,_⟩⟩:=g3
 ·omega
 ·cases e1
  have hadd:(⟨g,d0*(ets X.G e).length,none⟩:Addr).add (m.toNat*(ets X.G e).length)=⟨g,d0*(ets X.G e).length+m.toNat*(ets X.G e).length,none⟩:=by unfold Addr.add; split<;>simp_all
  refine ⟨ptr g (d0*(ets X.G e).length+m.toNat*(ets X.G e).length),?_,g,_,_,_,_,xs,u,hν,g5,hr,rfl⟩;refine zm0 (fun w=>?_) hf h1 h3;rw [zox (zjU hel) (zfC hsz) hm0 (by omega),hadd]
theorem zkW {P:Program} {e sz n c i j:Nat} {ad:Option Addr} (ht:P.underlying t=some (.slice e)) (hn:zkN P e=some sz) (hij:i≤j) (hj:j≤n) (hc:n≤c) :
  (Instr.slice t (.slice ad n c) (some (int i)) (some (int j)) none).run P w = .ok (.slice (if c=i then ad else ad.map (·.add (i*sz))) (j-i) (c-i)) w ∧
  (i=0→(Instr.slice t (.slice ad n c) none (some (int j)) none).run P w = .ok (.slice (if c=i then ad else ad.map (·.add (i*sz))) (j-i) (c-i)) w) ∧
  (j=n→(Instr.slice t (.slice ad n c) (some (int i)) none none).run P w = .ok (.slice (if c=i then ad else ad.map (·.add (i*sz))) (j-i) (c-i)) w):=by
 have b1:j≤c:=by omega
 refine ⟨?_,fun hi=>?_,fun hjn=>?_⟩
 ·simp [Instr.slice,Instr.sliceBounds,Instr.sliceBound,asIntOf,run_underlying ht,zcS hn,hij,b1,Result.andThen]
 ·subst hi;simp [Instr.slice,Instr.sliceBounds,Instr.sliceBound,asIntOf,run_underlying ht,zcS hn,b1,Result.andThen]
 ·subst hjn;simp [Instr.slice,Instr.sliceBounds,Instr.sliceBound,asIntOf,run_underlying ht,zcS hn,hij,Result.andThen]
theorem sli_ok (M:Mem X.P X.G w0 h0 F L2 w ν h φ) {c:CV τ} {e:Ty} {l:List (e.den τ)} {ids:List Nat} {u:Value} (k:zIe L c=some ⟨e,l,U,ids⟩) (ha:∀i∈ids,lk L2 i=lk L i) (hu:zcT X.P X.G h ν c u) :
  ∃h' φ',Mem X.P X.G w0 h0 F (U++L2) w ν h' φ'∧h.le h'∧Rp X.P X.G h' (.sl e) l u:=by
 unfold zIe at k
 split at k
 ·cases k;exact ⟨h, φ,M,Fz.le.refl _,hu⟩
 ·rename_i id
  obtain ⟨ad,n,cp,q,hν,rfl⟩:=hu
  split at k
  ·rename_i te e' xs kk hlk
   cases k
   have hfz:freeze L [id]=some [(id, .fz e l)]:=by simp [freeze,hlk]
   have M1:=M.freeze hfz ha;have hr:=M1.res id;rw [zg9 _ (by simp [kys]),za1] at hr;obtain ⟨v',q',h1,_,h3⟩:=hr;rw [hν] at h1;cases h1;exact ⟨_,_,M1,M.lend_le _,h3⟩
  ·rename_i e' xs hlk
   cases k;have hr:=M.res id;rw [ha id (List.mem_singleton.2 rfl),hlk] at hr;obtain ⟨v',q',h1,_,h3⟩:=hr;rw [hν] at h1;cases h1;exact ⟨h, φ,M,Fz.le.refl _,h3⟩
  ·cases k
 ·cases k
end
end Go.Rk
end
section
namespace Go.Rk
open Go.RowKit Go.Dm Go.Dk
variable {τ:Nat→Type}
section
variable {ρ:Type} {X:Cx τ} {w0 w w':World} {h0 h H:Fz} {F:List Nat} {o:Oper} {E:zE τ} {L L2:Hp τ} {ν ν':Vn τ} {φ φ':Nat→List Nat} {nid nid':Nat} {K:Nx τ ρ} {r:ρ} {v:XV τ} {U:Hp τ} {tch:List Nat} {g:List (XV τ)}
variable {a:Act} {x y z:Operand} {t' t ty u':Nat} {dst:Option Nat} {p:String} {af:Array Edge} {gd:Option (Nat × Bool)}
theorem zuo {te:TypeId} {e:Ty} (k:szE X te e=true):szO X.P te=some (ets X.G e).length∧0<(ets X.G e).length:=by
 unfold szE at k
 split at k
 ·rename_i n hn
  simp only [Bool.and_eq_true,Nat.beq_eq,Nat.blt_eq] at k;obtain ⟨rfl,h⟩:=k;exact ⟨hn,h⟩
 ·cases k
theorem zgF {α:Type} {b:Bool} {x:Option α} {r:α} (e:bc b x none=some r):b=true∧x=some r:=by
 cases b with
 | false=>cases e
 | true=>exact ⟨rfl,e⟩
theorem bc_f {α:Type} {b:Bool} {x:Option α} {r:α} (e:bc b none x=some r):b=false∧x=some r:=by
 cases b with
 | false=>exact ⟨rfl,e⟩
 | true=>cases e
theorem zup {lo hi:Option Operand} {te:Nat} {e:Ty} {c:CV τ} {l s:List (e.den τ)} {ids:List Nat} (hu:X.P.underlying t'=some (.slice te)) (hx:evC E x=some c) (hs:zIe L c=some ⟨e,l,U,ids⟩) (hsz:szO X.P te=some (ets X.G e).length) (i j:Nat) (hij:i≤j) (hj:j≤l.length) (hsub:s=(l.take j).drop i)
  (hlo:∀{a:Act} {Ea:Env} {N:Nat} {L2:Hp τ} {ν h φ} {w:World} {ad:Option Addr} {n cp:Nat},Fits N Ea a→(∀t,Dk.look Ea t=a.tmps[t]?)→zeb X h ν a (rdO (.slice t' x lo hi none)) E→evl Ea x=some (.slice ad n cp)→Mem X.P X.G w0 h0 F L2 w ν h φ→n=l.length→l.length≤cp →
   (execOp a.eval ⟨dst, .slice t' x lo hi none,t,p,af,gd⟩).run X.P w = .ok (.value (.slice (if cp=i then ad else ad.map (·.add (i*(ets X.G e).length))) (j-i) (cp-i))) w)
  (k:K (.c (.sl e s)) [] U ids nid=some r):zde X w0 h0 F ⟨dst, .slice t' x lo hi none,t,p,af,gd⟩ E L nid K r:=by
 refine ⟨_,_,_,_,_,k,Nat.le_refl _,(fun _ h=>by cases h),fun L2 ν h φ a w next Q hd M hE ha hn k=>?_⟩;obtain ⟨Ea,hf,hl'⟩:=zdD a hd;obtain ⟨vx,h1,h2⟩:=zj hl' (hE.op (by simp [Op.operands])) hx;obtain ⟨h', φ',M',hle,hrp⟩:=sli_ok M hs ha h2
 have hform:∃ad n cp,vx = .slice ad n cp:=by cases hrp; exact ⟨_,_,_,rfl⟩
 obtain ⟨ad,n,cp,rfl⟩:=hform;obtain ⟨hn1,hn2,hsub'⟩:=zMH hrp hij hj;have hexec:=hlo hf hl' hE h1 M hn1 hn2;subst hsub;exact zf4 hexec (k ν h' φ' w _ M' (Vn.le.refl _) hle (zdq.refl _ _ _) hsub')
theorem slice3 {te:Nat} {e:Ty} {c:CV τ} {l s:List (e.den τ)} {i j:Int} {ids:List Nat} (hu:X.P.underlying t'=some (.slice te)) (hx:evC E x=some c) (hs:zIe L c=some ⟨e,l,U,ids⟩) (hsz:szO X.P te=some (ets X.G e).length) (hy:evC E y=some (.i i)) (hz:evC E z=some (.i j)) (hr:zDJ l i j=some s)
  (k:K (.c (.sl e s)) [] U ids nid=some r):zde X w0 h0 F ⟨dst, .slice t' x (some y) (some z) none,t,p,af,gd⟩ E L nid K r:=by
 unfold zDJ at hr
 split at hr
 ·rename_i hb
  cases hr
  have ei:(i.toNat:Int)=i:=by omega
  have ej:(j.toNat:Int)=j:=by omega
  refine zup hu hx hs hsz i.toNat j.toNat (by omega) (by omega) rfl (fun {a Ea N L2 ν h φ w ad n cp} hf hl hE hvx M hn hcp=>?_) k;obtain ⟨vy,h1,h2⟩:=zj hl (hE.op (by simp [Op.operands])) hy;obtain ⟨vz,h3,h4⟩:=zj hl (hE.op (by simp [Op.operands])) hz;obtain rfl:vy=_:=h2;obtain rfl:vz=_:=h4;refine zxD hu (fun w=>?_) hf hvx h1 h3;have:=(zkW (w:=w) (ad:=ad) hu (zfC hsz) (show i.toNat≤j.toNat by omega) (show j.toNat≤n by omega) (show n≤cp by omega)).1
  rwa [ei,ej] at this
 ·cases hr
theorem slice1 {te:Nat} {e:Ty} {c:CV τ} {l s:List (e.den τ)} {i:Int} {ids:List Nat} (hu:X.P.underlying t'=some (.slice te)) (hx:evC E x=some c) (hs:zIe L c=some ⟨e,l,U,ids⟩) (hsz:szO X.P te=some (ets X.G e).length) (hy:evC E y=some (.i i)) (hr:zpo l i=some s)
  (k:K (.c (.sl e s)) [] U ids nid=some r):zde X w0 h0 F ⟨dst, .slice t' x (some y) none none,t,p,af,gd⟩ E L nid K r:=by
 unfold zpo at hr
 split at hr
 ·rename_i hb
  cases hr
  have ei:(i.toNat:Int)=i:=by omega
  refine zup hu hx hs hsz i.toNat l.length (by omega) (Nat.le_refl _) (by rw [List.take_length]) (fun {a Ea N L2 ν h φ w ad n cp} hf hl hE hvx M hn hcp=>?_) k;obtain ⟨vy,h1,h2⟩:=zj hl (hE.op (by simp [Op.operands])) hy;obtain rfl:vy=_:=h2;refine zvA hu (fun w=>?_) hf hvx h1;have:=(zkW (w:=w) (ad:=ad) hu (zfC hsz) (show i.toNat≤l.length by omega) (show l.length≤n by omega) (show n≤cp by omega)).2.2 hn.symm
  rwa [ei] at this
 ·cases hr
theorem slice2 {te:Nat} {e:Ty} {c:CV τ} {l s:List (e.den τ)} {j:Int} {ids:List Nat} (hu:X.P.underlying t'=some (.slice te)) (hx:evC E x=some c) (hs:zIe L c=some ⟨e,l,U,ids⟩) (hsz:szO X.P te=some (ets X.G e).length) (hz:evC E z=some (.i j)) (hr:lTo l j=some s)
  (k:K (.c (.sl e s)) [] U ids nid=some r):zde X w0 h0 F ⟨dst, .slice t' x none (some z) none,t,p,af,gd⟩ E L nid K r:=by
 unfold lTo at hr
 split at hr
 ·rename_i hb
  cases hr
  have ej:(j.toNat:Int)=j:=by omega
  refine zup hu hx hs hsz 0 j.toNat (by omega) (by omega) rfl (fun {a Ea N L2 ν h φ w ad n cp} hf hl hE hvx M hn hcp=>?_) k;obtain ⟨vz,h3,h4⟩:=zj hl (hE.op (by simp [Op.operands])) hz;obtain rfl:vz=_:=h4;refine zzv hu (fun w=>?_) hf hvx h3;have:=(zkW (w:=w) (ad:=ad) hu (zfC hsz) (show 0≤j.toNat by omega) (show j.toNat≤n by omega) (show n≤cp by omega)).2.1 rfl
  rwa [ej] at this
 ·cases hr
theorem Mem.drew (M:Mem X.P X.G w0 h0 F L w ν h φ):Mem X.P X.G w0 h0 F L w.drew ν h φ:=M.grow ⟨rfl,rfl,rfl,Nat.le_refl _,fun _ _=>rfl⟩
theorem Mem.newFz (M:Mem X.P X.G w0 h0 F L w ν h φ) (o:Obj):Mem X.P X.G w0 h0 F L (w.alloc o) ν (fun b=>if b=w.heap.size then some o else h b) φ∧h.le (fun b=>if b=w.heap.size then some o else h b):=by
 have hle:h.le (fun b=>if b=w.heap.size then some o else h b):=by
  intro b o' e;have:=M.in_lt (b:=b) (by rw [e]; simp);show (if b=w.heap.size then some o else h b)=_;rw [if_neg (by omega)]; exact e
 refine ⟨?_,hle⟩;refine M.upd [] (fun _ _=>rfl) (fun _ _=>rfl) (Vn.le.refl _) hle rfl rfl rfl (by simp) (fun b hb _=>zKW o hb) (fun b o' h1 h2=>?_) (fun b h1 h2=>?_) (fun i hi=>by cases hi) (fun i hi=>by cases hi) (fun i hi=>by cases hi)
 ·split at h2
  ·rename_i e
   cases h2;subst e;exact zkA _
  ·rw [h1] at h2; cases h2
 ·split at h2
  ·rename_i e; subst e; exact .inr (Nat.le_refl _)
  ·exact (h2 h1).elim
theorem zLN {te:Nat} {l:Str} (hx:evC E x=some (.s l)) (hs:X.P.underlying ty=some .string) (hd':X.P.underlying t'=some (.slice te)) (he:X.P.underlying te=some (.int .u8)) (k:K (.c (.sl .u8 l)) [] [] [] nid=some r) :
  zde X w0 h0 F ⟨dst, .convert ty t' x,t,p,af,gd⟩ E L nid K r:=by
 refine ⟨_,_,_,_,_,k,Nat.le_refl _,(fun _ h=>by cases h),fun L2 ν h φ a w next Q hd M hE ha hn k=>?_⟩;obtain ⟨Ea,hf,hl'⟩:=zdD a hd;obtain ⟨vx,h1,h2⟩:=zj hl' (hE.op (by simp [Op.operands])) hx;obtain rfl:vx=_:=h2;have hr:=run_bytes_of_string (P:=X.P) w ty t' te ⟨l.toArray⟩ hs hd' he;have hsz:(⟨l.toArray⟩:ByteArray).size=l.length:=rfl;rw [hsz] at hr;generalize hc:grownCap w l.length 0 te=c at hr
 have hcl:l.length≤c:=by rw [← hc]; exact grownCap_ge _ _ _ _
 obtain ⟨M1,hle⟩:=M.drew.newFz (.cells (bytesRow ⟨l.toArray⟩ c) te ((bytesRow ⟨l.toArray⟩ c).size,(bytesRow ⟨l.toArray⟩ c).size+1));refine zf4 (u := .slice (some ⟨w.drew.heap.size,0,none⟩) l.length c) (by simp only [execOp]; rw [hf.ev h1]; simp only [Sem.run_bind,hr,Result.andThen_ok,Sem.run_pure]; rfl) (k ν _ φ _ _ M1 (Vn.le.refl _) hle (zdq.refl _ _ _) ?_);refine .sl .u8 l _ c (cells (fun b=>[zcV b]) l) hcl (.inr ⟨w.drew.heap.size,0,_,te,_,rfl,if_pos rfl,fun i v hv=>?_⟩) (zzd rfl)
 have hce:∀m:Str,cells (fun b=>[zcV b]) m=m.map zcV:=fun m=>by
  unfold cells
  induction m with
  | nil=>rfl
  | cons x m ih=>rw [List.flatMap_cons,ih]; rfl
 rw [hce,List.getElem?_map] at hv;obtain ⟨x,hx1,hx2⟩:=Option.map_eq_some_iff.1 hv;have hil:i<l.length:=(List.getElem?_eq_some_iff.1 hx1).1;rw [Nat.zero_add];unfold bytesRow;rw [Array.getElem?_append_left (by simpa using hil),Array.getElem?_map]
 have:(⟨l.toArray⟩:ByteArray).data[i]? = some x:=by simpa using hx1
 rw [this, ← hx2];rfl
theorem zLO:∀{l:List UInt8} {vs:List Value},RpR X.P X.G h .u8 l vs→vs=cells (fun b=>[zcV b]) l
 | [],vs,e=>by cases e; rfl
 | b::l,_, .cons _ _ _ us ws h1 h2=>by
  have h3:=zLO h2
  cases h1 with
  | cons _ _ _ v vs h4 h5 =>
   cases h5;cases h4;rw [h3]; rfl
theorem str_ok {te:Nat} {c:CV τ} {l:Str} {ids:List Nat} (hx:evC E x=some c) (hd':X.P.underlying t'=some .string) (hs:X.P.underlying ty=some (.slice te)) (he:X.P.underlying te=some (.int .u8)) (hr:rowO L .u8 c=some (l,ids)) (k:K (.c (.s l)) [] [] ids nid=some r) :
  zde X w0 h0 F ⟨dst, .convert ty t' x,t,p,af,gd⟩ E L nid K r:=by
 refine zaU k fun L2 ν h φ a w hd M hE ha=>?_;obtain ⟨Ea,hf,hl'⟩:=zdD a hd;obtain ⟨vx,h1,h2⟩:=zj hl' (hE.op (by simp [Op.operands])) hx;obtain ⟨ad,cp,cs,rfl,hc,hsee,hrr,_⟩:=zJo M hr ha h2;rw [zLO hrr] at hsee;exact ⟨_,zAX (fun _=>rfl) hd' hs he hsee hf h1,rfl⟩
theorem zLP {l:Str} {i:Int} {c:UInt8} (hu:X.P.underlying t'=some .string) (hx:evC E x=some (.s l)) (hy:evC E y=some (.i i)) (hr:sAt l i=some c) (k:K (.c (.u8 c)) [] [] [] nid=some r):zde X w0 h0 F ⟨dst, .index t' x y,t,p,af,gd⟩ E L nid K r:=by
 refine zaU k fun L2 ν h φ a w hd M hE ha=>?_;obtain ⟨Ea,hf,hl'⟩:=zdD a hd;obtain ⟨vx,h1,h2⟩:=zj hl' (hE.op (by simp [Op.operands])) hx;obtain ⟨vy,h3,h4⟩:=zj hl' (hE.op (by simp [Op.operands])) hy;obtain rfl:vx=_:=h2;obtain rfl:vy=_:=h4;exact ⟨_,zMm hu hf h1 h3 hr,rfl⟩
theorem znX {lo hi:Option Operand} {l s:Str} (hx:evC E x=some (.s l))
  (hrun:∀{a:Act} {Ea:Env} {N:Nat} {ν h} {w:World},Fits N Ea a→(∀t,Dk.look Ea t=a.tmps[t]?)→zeb X h ν a (rdO (.slice t' x lo hi none)) E→evl Ea x=some (str l)→(execOp a.eval ⟨dst, .slice t' x lo hi none,t,p,af,gd⟩).run X.P w = .ok (.value (str s)) w)
  (k:K (.c (.s s)) [] [] [] nid=some r):zde X w0 h0 F ⟨dst, .slice t' x lo hi none,t,p,af,gd⟩ E L nid K r:=by
 refine zaU k fun L2 ν h φ a w hd M hE ha=>?_;obtain ⟨Ea,hf,hl'⟩:=zdD a hd;obtain ⟨vx,h1,h2⟩:=zj hl' (hE.op (by simp [Op.operands])) hx;obtain rfl:vx=_:=h2;exact ⟨_,hrun hf hl' hE h1,rfl⟩
theorem zHK {t:Ty} (x:t.den τ):zzU (t':=t) x=some x:=dif_pos rfl
theorem zOw (V ws:List Value) (i sz o:Nat) (h1:o+ws.length≤sz) (h2:i+sz≤V.length) :
  V.take i++(((V.drop i).take sz).take o++ws++((V.drop i).take sz).drop (o+ws.length))++V.drop (i+sz)=V.take (i+o)++ws++V.drop (i+o+ws.length):=by
 have e1:V.take (i+o)=V.take i++(V.drop i).take o:=by rw [List.take_add]
 have e2:((V.drop i).take sz).take o=(V.drop i).take o:=by rw [List.take_take,Nat.min_eq_left (by omega)]
 have e3:V.drop (i+o+ws.length)=((V.drop i).take sz).drop (o+ws.length)++V.drop (i+sz):=by
  have h3:V.drop i=(V.drop i).take sz++V.drop (i+sz):=by rw [← List.drop_drop,List.take_append_drop]
  have h4:V.drop (i+o+ws.length)=(V.drop i).drop (o+ws.length):=by rw [List.drop_drop,Nat.add_assoc]
  rw [h4]
  conv=>lhs; rw [h3]
  rw [List.drop_append]
  have h5:((V.drop i).take sz).length=sz:=by rw [List.length_take,List.length_drop]; omega
  rw [h5,show o+ws.length-sz=0 by omega,List.drop_zero]
 rw [e1,e2,e3];simp only [List.append_assoc]
theorem zOx (C ws:List Value) (A N:Nat) (h1:A+ws.length≤N) (h2:N≤C.length) :
  (C.take A++ws++C.drop (A+ws.length)).take N=(C.take N).take A++ws++(C.take N).drop (A+ws.length):=by
 have h3:(C.take A++ws).length=A+ws.length:=by rw [List.length_append,List.length_take]; omega
 rw [List.take_append,List.take_of_length_le (by omega),h3,List.take_take,Nat.min_eq_left (by omega),List.drop_take]
theorem zJy (C ws:List Value) (A N D:Nat) (h1:A+ws.length≤N) (h2:D+N≤C.length) :
  ((C.take (D+A)++ws++C.drop (D+A+ws.length)).drop D).take N=((C.drop D).take N).take A++ws++((C.drop D).take N).drop (A+ws.length):=by
 have h3:(C.take (D+A)++ws++C.drop (D+A+ws.length)).drop D=(C.drop D).take A++ws++(C.drop D).drop (A+ws.length):=by
  rw [List.append_assoc,List.drop_append_of_le_length (by rw [List.length_take]; omega),List.drop_take,Nat.add_sub_cancel_left,List.drop_drop,List.append_assoc,Nat.add_assoc]
 rw [h3];exact zOx _ ws A N h1 (by rw [List.length_drop]; omega)
theorem zKo {A:XV τ} {vs cs:List (CV τ)} {n id o k te:Nat} {m:Int} {ty e:Ty} {z:ty.den τ} {xs l:List (e.den τ)} {q:DP τ (ets X.G ty)} {ids:List Nat} {z':e.den τ} (hA:evX E y=some A) (hc:zse A=some vs) (ht:szO X.P t'=some n) (hn:vs.length=n) (hx:evC E x=some (.oe id k m ty z o)) (hl:lk L id = .row te e xs k)
  (hp:zvF (zw5 X.G ty z) o vs=some cs) (hq:zw0 (lok X.G L depth) (ets X.G ty) cs=some (q,ids)) (hz:zzU (ect X.G ty q)=some z') (hU:freeze L ids=some U) (hid:mem ids id=false) (hs:zw3 xs m z'=some l)
  (ek:K .un [] ((id, .row te e l nid)::U) (id::ids) (nid+1)=some r):zde X w0 h0 F ⟨dst, .store t' x y,t,p,af,gd⟩ E L nid K r:=by
 refine ⟨_,_,_,_,_,ek,Nat.le_succ _,(fun _ h=>by cases h),fun L2 ν h φ a w next Q hd M hE ha hfr kk=>?_⟩;have hn':=hfr nid (Nat.le_refl _) (Nat.lt_succ_self _);obtain ⟨Ea,hf,hl'⟩:=zdD a hd;obtain ⟨u,h1,h2⟩:=zj hl' (hE.op (by simp [Op.operands])) hx;obtain ⟨ws,g1,g2,_⟩:=ztB hc (zrj hd (hE.op (by simp [Op.operands])) hA);obtain ⟨b,dd,n',cp,q0,xs',u',hν,hνk,hlz,rfl⟩:=h2;have hr:=M.res id;rw [ha id (List.mem_cons_self ..),hl] at hr;obtain ⟨v0,q1,vsr,u1,c1,c2,c3,c4,c5⟩:=hr;rw [hν] at c1;cases c1;rw [hνk] at c5
 injection c5 with c5
 injection c5 with _ c5
 injection c5 with c5
 cases c5;rw [zHK] at hz;cases hz;have hle:=M.lend_le ids;obtain ⟨hz1,hm0⟩:=zsi hlz;obtain ⟨d1,d2⟩:=c4.get hz1;obtain ⟨f1,f2⟩:=zyZ (zzz (ν:=ν) d1) g2 hp;have ha2:∀i∈ids,lk L2 i=lk L i:=fun i hi=>ha i (List.mem_cons_of_mem _ hi);have f3:=ztw (A:=zbR L2 L φ (zrt h w (fps φ ids)) w) (fun _ _=>zbR.app) (zwW M hle depth) hq (M.look ha2) f2;have f4:=f3;rw [← zDO X.G ty q] at f4;unfold zw3 at hs
 split at hs
 ·rename_i hb
  cases hs;have hset:=RpR.set (c4.le hle) (i:=m.toNat) (by omega) f4;obtain ⟨hlen,⟨e1,_⟩|⟨g,d,cap,cur,e1,h0d,hg,hnc,hcm,hcs,htk⟩⟩:=c3
  ·cases e1
  ·cases e1
   have husl:((vsr.drop (m.toNat*(ets X.G ty).length)).take (ets X.G ty).length).length=(ets X.G ty).length:=by rw [List.length_take,List.length_drop]; omega
   have hcl:cur.toList.length=cur.size:=by simp
   have hN:d*(ets X.G ty).length+xs'.length*(ets X.G ty).length≤cur.toList.length:=by rw [hcl, ← Nat.add_mul]; exact Nat.le_trans (Nat.mul_le_mul_right _ (by omega)) hcs
   rw [husl] at f1;have hsp:=zOw vsr ws (m.toNat*(ets X.G ty).length) (ets X.G ty).length o f1 d2;rw [hsp] at hset
   have hsz2:d*(ets X.G ty).length+m.toNat*(ets X.G ty).length+o+ws.length≤cur.size:=by
    have:cur.toList.length=cur.size:=by simp
    omega
   have hrun:=zzf (X:=X) (dst:=dst) (t:=t) (p:=p) (af:=af) (gd:=gd) (hf.ev h1) g1 (zfC ht) (by rw [g2.len,hn]) hg hsz2 g2.one;have M1:=M.freeze hU ha2
   have hnin:id∉ids:=fun hi=>by rw [zeE.2 hi] at hid; cases hid
   have hne:id≠nid:=by rintro rfl; rw [hn'] at hν; cases hν
   refine zJf hrun (kk (up1 ν nid (some (undef,some ⟨ty,_⟩))) _ _ _ undef (M1.turn (i:=id) (b:=b) (.row te ty _ nid) (by rw [znc hnin,c2]; rfl) (zbw hn') rfl rfl rfl (by simp [World.setRow]) (fun j hj=>setRow_other w b j _ hj) ⟨_,q0,_,undef,(za2 ν _ hne).trans hν,rfl,?_,hset,zab _ _ _⟩) (zbw hn') hle zd2 rfl);have hlen2:=hset.len
   have hsn:(cur.toList.take (d*(ets X.G ty).length+m.toNat*(ets X.G ty).length+o)++ws++cur.toList.drop (d*(ets X.G ty).length+m.toNat*(ets X.G ty).length+o+ws.length)).toArray.size=cur.size:=by
    simp only [List.size_toArray,List.length_append,List.length_take,List.length_drop];omega
   refine ⟨hlen2, .inr ⟨b,d,cp,_,by simp,fun hz=>?_,setRow_heap w b cur _ te (0,0) hg,by simpa using hnc,hcm,?_,?_⟩⟩
   ·rw [hsn]; exact h0d hz
   ·rw [hsn]; exact hcs
   ·have h7:=zJy cur.toList ws (m.toNat*(ets X.G ty).length+o) (xs'.length*(ets X.G ty).length) (d*(ets X.G ty).length) (by omega) hN;rw [htk] at h7;simpa [Nat.add_assoc] using h7
 ·cases hs
theorem zOy {i f ft id ko:Nat} {k0:Hp τ→List Nat→Nat→Option ρ} (hfl:zF3 X.P t' i=some (f,ft)) (hx:evC E x=some (.pt id ko)) (hk:∀U l nid,k0 U l nid=K (.c (.pt id (ko+f))) [] U l nid) (e:ptK X L nid id k0=some r):zde X w0 h0 F ⟨dst, .fieldAddr t' x i,t,p,af,gd⟩ E L nid K r:=by
 obtain ⟨U,nid',h1,h2,h3⟩:=zNa (w0:=w0) (h0:=h0) (F:=F) e;rw [hk] at h1;refine ⟨_,_,_,_,_,h1,h2,(fun _ h=>by cases h),fun L2 ν h φ a w next Q hd M hE ha hn k=>?_⟩;obtain ⟨Ea,hf,hl'⟩:=zdD a hd;obtain ⟨u,g1,g2⟩:=zj hl' (hE.op (by simp [Op.operands])) hx;obtain ⟨ν', φ',b,q,M',hle,hfr,hν⟩:=h3 L2 ν h φ w M (ha id (by simp)) hn;obtain ⟨u',q',g3,rfl,_⟩:=g2;rw [hν] at g3;cases g3;refine zf4 (u:=ptr b (0+ko+f)) ?_ (k ν' h φ' w _ M' hle (Fz.le.refl _) hfr ⟨some ⟨b,0,none⟩,q,hle _ _ hν,by simp [zuw,Nat.add_assoc],fun _=>⟨b,rfl⟩⟩);simp only [execOp]; rw [hf.ev g1]; simp [zuw,zs8 hfl,Result.andThen]
theorem zOz {id k:Nat} {k0:Hp τ→List Nat→Nat→Option ρ} (hx:evC E x=some (.pt id k)) (hk:∀U l nid,k0 U l nid=K (.c (.pt id k)) [] U l nid) (e:ptK X L nid id k0=some r):zde X w0 h0 F ⟨dst, .nilCheck x,t,p,af,gd⟩ E L nid K r:=by
 obtain ⟨U,nid',h1,h2,h3⟩:=zNa (w0:=w0) (h0:=h0) (F:=F) e;rw [hk] at h1;refine ⟨_,_,_,_,_,h1,h2,(fun _ h=>by cases h),fun L2 ν h φ a w next Q hd M hE ha hn k=>?_⟩;obtain ⟨Ea,hf,hl'⟩:=zdD a hd;obtain ⟨u,g1,g2⟩:=zj hl' (hE.op (by simp [Op.operands])) hx;obtain ⟨ν', φ',b,q,M',hle,hfr,hν⟩:=h3 L2 ν h φ w M (ha id (by simp)) hn;obtain ⟨u',q',g3,rfl,g4⟩:=g2;rw [hν] at g3;cases g3;exact zf4 (zr1 hf g1) (k ν' h φ' w _ M' hle (Fz.le.refl _) hfr ⟨_,_,hle _ _ hν,rfl,fun _=>⟨b,rfl⟩⟩)
theorem zOA {bo:BinOp} {e' id:Nat} {k0:Bool→Hp τ→List Nat→Nat→Option ρ} (hu:X.P.underlying t'=some (.pointer e')) (hx:evX E x=some (.c (.pt id 0))) (hy:evX E y=some (.c .nl)) (hk:∀z U l nid,k0 z U l nid=match okX (eqO bo z) with
      | some v=>K v [] U l nid
      | none=>none) (e:nlK X L nid id k0=some r):zde X w0 h0 F ⟨dst, .binOp bo t' x y ty,t,p,af,gd⟩ E L nid K r:=by
  obtain ⟨z,U,nid',h1,h2,h3⟩:=zM9 (w0:=w0) (h0:=h0) (F:=F) e;rw [hk] at h1
  split at h1
  · rename_i v hv
    obtain ⟨b,hb,rfl⟩:=zFu hv;refine ⟨_,_,_,_,_,h1,h2,(fun _ h=>by cases h),fun L2 ν h φ a w next Q hd M hE ha hn k=>?_⟩;obtain ⟨Ea,hf,hl'⟩:=zdD a hd;obtain ⟨u,g1,g2⟩:=zng hl' (hE.op (by simp [Op.operands])) hx rfl;obtain ⟨uy,g3,g4⟩:=zng hl' (hE.op (by simp [Op.operands])) hy rfl;obtain rfl:uy=_:=g4;obtain ⟨ν', φ',up,q,M',hle,hfr,hν,hz1,hz0⟩:=h3 L2 ν h φ w M (ha id (by simp)) hn;obtain ⟨u',q',g5,rfl,_⟩:=g2;rw [hν] at g5;cases g5
    have fin:∀{vb:Bool},(execOp a.eval ⟨dst, .binOp bo t' x y ty,t,p,af,gd⟩).run X.P w = .ok (.value (.bool vb)) w→vb=b→(⟨dst, .binOp bo t' x y ty,t,p,af,gd⟩:Oper).wp X.P a w next Q:=by
      intro vb hx e;subst e;exact zf4 hx (k ν' h φ' w _ M' hle (Fz.le.refl _) hfr rfl)
    cases z with
    | true =>
      rw [hz1 rfl] at g1
      cases bo<;>first|(cases hb; done)|skip
      all_goals cases hb
      · exact fin (zCK hu hf g1 g3) rfl
      · exact fin (zCL hu hf g1 g3) rfl
    | false =>
      obtain ⟨bb,rfl⟩:=hz0 rfl
      cases bo<;>first|(cases hb; done)|skip
      all_goals cases hb
      · exact fin (zCI hu hf g1 g3) rfl
      · exact fin (zCJ hu hf g1 g3) rfl
  · cases h1
theorem zKp {te:Nat} {e:Ty} {xs s:List (e.den τ)} {lo hi:Option Operand} {i:Nat} (hu:X.P.underlying t'=some (.slice te)) (hsz:szO X.P te=some (ets X.G e).length) (k:zCP E e xs lo hi=some (i,s)):∃j,i≤j∧j≤xs.length∧s=(xs.take j).drop i ∧
  ∀{a:Act} {Ea:Env} {N:Nat} {ν h} {w:World} {ad:Option Addr} {n cp:Nat},Fits N Ea a→(∀t,Dk.look Ea t=a.tmps[t]?)→zeb X h ν a (rdO (.slice t' x lo hi none)) E→evl Ea x=some (.slice ad n cp)→n=xs.length→xs.length≤cp →
   (execOp a.eval ⟨dst, .slice t' x lo hi none,t,p,af,gd⟩).run X.P w = .ok (.value (.slice (if cp=i then ad else ad.map (·.add (i*(ets X.G e).length))) (j-i) (cp-i))) w:=by
 unfold zCP at k
 split at k
 ·split at k
  ·rename_i i hy
   split at k
   ·rename_i j hz
    split at k
    ·rename_i s' hr
     cases k;unfold zDJ at hr
     split at hr
     ·rename_i hb
      cases hr
      have ei:(i.toNat:Int)=i:=by omega
      have ej:(j.toNat:Int)=j:=by omega
      refine ⟨j.toNat,by omega,by omega,rfl,fun {a Ea N ν h w ad n cp} hf hl hE hvx hn hcp=>?_⟩;obtain ⟨vy,h1,h2⟩:=zj hl (hE.op (by simp [Op.operands])) hy;obtain ⟨vz,h3,h4⟩:=zj hl (hE.op (by simp [Op.operands])) hz;obtain rfl:vy=_:=h2;obtain rfl:vz=_:=h4;refine zxD hu (fun w=>?_) hf hvx h1 h3;have:=(zkW (w:=w) (ad:=ad) hu (zfC hsz) (show i.toNat≤j.toNat by omega) (show j.toNat≤n by omega) (show n≤cp by omega)).1
      rwa [ei,ej] at this
     ·cases hr
    ·cases k
   ·cases k
  ·cases k
 ·split at k
  ·rename_i i hy
   split at k
   ·rename_i s' hr
    cases k;unfold zpo at hr
    split at hr
    ·rename_i hb
     cases hr
     have ei:(i.toNat:Int)=i:=by omega
     refine ⟨xs.length,by omega,Nat.le_refl _,by rw [List.take_length],fun {a Ea N ν h w ad n cp} hf hl hE hvx hn hcp=>?_⟩;obtain ⟨vy,h1,h2⟩:=zj hl (hE.op (by simp [Op.operands])) hy;obtain rfl:vy=_:=h2;refine zvA hu (fun w=>?_) hf hvx h1;have:=(zkW (w:=w) (ad:=ad) hu (zfC hsz) (show i.toNat≤xs.length by omega) (show xs.length≤n by omega) (show n≤cp by omega)).2.2 hn.symm
     rwa [ei] at this
    ·cases hr
   ·cases k
  ·cases k
 ·split at k
  ·rename_i j hz
   split at k
   ·rename_i s' hr
    cases k;unfold lTo at hr
    split at hr
    ·rename_i hb
     cases hr
     have ej:(j.toNat:Int)=j:=by omega
     refine ⟨j.toNat,by omega,by omega,rfl,fun {a Ea N ν h w ad n cp} hf hl hE hvx hn hcp=>?_⟩;obtain ⟨vz,h3,h4⟩:=zj hl (hE.op (by simp [Op.operands])) hz;obtain rfl:vz=_:=h4;refine zzv hu (fun w=>?_) hf hvx h3;have:=(zkW (w:=w) (ad:=ad) hu (zfC hsz) (show 0≤j.toNat by omega) (show j.toNat≤n by omega) (show n≤cp by omega)).2.1 rfl
     rwa [ej] at this
    ·cases hr
   ·cases k
  ·cases k
 ·cases k
theorem zwK {te te' id kk i:Nat} {e':Ty} {xs s:List (e'.den τ)} {lo hi:Option Operand} (hu:X.P.underlying t'=some (.slice te)) (hx:evC E x=some (.os id)) (hlk:lk L id = .row te' e' xs kk) (hsz:szO X.P te=some (ets X.G e').length) (hp:zCP E e' xs lo hi=some (i,s))
  (e:K (.c (.os nid)) [] [(nid, .vw id kk e' i s)] [id] (nid+1)=some r):zde X w0 h0 F ⟨dst, .slice t' x lo hi none,t,p,af,gd⟩ E L nid K r:=by
 obtain ⟨j,h1,h2,hs,hrun⟩:=zKp (X:=X) (x:=x) (dst:=dst) (t:=t) (p:=p) (af:=af) (gd:=gd) hu hsz hp;refine ⟨_,_,_,_,_,e,Nat.le_succ _,(fun _ h=>by cases h),fun L2 ν h φ a w next Q hd M hE ha hfr kc=>?_⟩;have hn:=hfr nid (Nat.le_refl _) (Nat.lt_succ_self _);obtain ⟨Ea,hf,hl'⟩:=zdD a hd;obtain ⟨vx,g1,g2⟩:=zj hl' (hE.op (by simp [Op.operands])) hx;obtain ⟨ad,n,cp,q,hν,rfl⟩:=g2;have hres:=M.res id;rw [ha id (List.mem_singleton.2 rfl),hlk] at hres;obtain ⟨v',q',vs,u,c1,c2,c3,c4,c5⟩:=hres;rw [hν] at c1;cases c1
 have hnl:n=xs.length∧n≤cp:=by
  exact c3.len
 have hexec:=hrun (w:=w) hf hl' hE g1 hnl.1 (by omega)
 have hsl:s.length=j-i:=by rw [hs,List.length_drop,List.length_take]; omega
 have hadd:=M.add hn (.vw id kk e' i s) (.slice (if cp=i then ad else ad.map (·.add (i*(ets X.G e').length))) (j-i) (cp-i),none) (fp:=[])
  ⟨ad,n,cp,q,none,u,xs,_,_,(zbw hn) _ _ hν,(zbw hn) _ _ c5,by omega,by rw [hs]; congr 1; rw [← hs,hsl]; congr 1; omega,by rw [hsl],by omega,⟨fun hne=>by
   have:0<s.length:=List.length_pos_iff.2 hne
   rw [if_neg (by omega)],by omega,by omega,rfl⟩,rfl⟩ (fun b hb=>by cases hb)
 exact zf4 hexec (kc _ h _ w _ hadd (zbw hn) (Fz.le.refl _) zd2 ⟨_,_,_,none,zab _ _ _,rfl⟩)
theorem zOB {te:Nat} {e':Ty} {c:CV τ} {id k:Nat} {l:List (e'.den τ)} {lo hi':Option Operand} (hu:X.P.underlying t'=some (.slice te)) (hx:evC E x=some c) (hv:vwO L c=some (id,k,⟨e',l⟩)) (hsz:szO X.P te=some (ets X.G e').length) (e:vwX E nid K id k e' l lo hi'=some r) :
  zde X w0 h0 F ⟨dst, .slice t' x lo hi' none,t,p,af,gd⟩ E L nid K r:=by
 unfold vwO at hv
 split at hv
 ·split at hv
  ·rename_i te' e0 xs kk hlk
   cases hv;unfold vwX Rk.hi at e
   split at e
   ·rename_i y z
    split at e
    ·rename_i i hy
     split at e
     ·rename_i j hz
      obtain ⟨s,hs,e⟩:=ob e;exact zwK hu hx hlk hsz (by unfold zCP; dsimp only; rw [hy]; dsimp only; rw [hz]; dsimp only; rw [hs]) e
     ·cases e
    ·cases e
   ·rename_i y
    split at e
    ·rename_i i hy
     obtain ⟨s,hs,e⟩:=ob e;exact zwK hu hx hlk hsz (by unfold zCP; dsimp only; rw [hy]; dsimp only; rw [hs]) e
    ·cases e
   ·rename_i z
    split at e
    ·rename_i j hz
     obtain ⟨s,hs,e⟩:=ob e;exact zwK hu hx hlk hsz (by unfold zCP; dsimp only; rw [hz]; dsimp only; rw [hs]) e
    ·cases e
   ·cases e
  ·cases hv
 ·cases hv
theorem zHL (g k j:Nat):(⟨g,k,none⟩:Addr).add j=⟨g,k+j,none⟩:=by unfold Addr.add; split<;>simp_all
theorem zLQ {i k lo te fi:Nat} {e e':Ty} {ys:List (e.den τ)} {xs:List (e'.den τ)} {ad:Option Addr} {n cp:Nat} {q:Option ((e:Ty) × List (e.den τ))} {fp fp2:List Nat} (hν:ν fi=some (.slice ad n cp,q)) (r1:zmt X.P X.G h ν w (.vw i k e lo ys) (ν fi) fp) (r2:zmt X.P X.G h ν w (.row te e' xs k) (ν i) fp2) :
  e=e'∧HEq ((xs.take (lo+ys.length)).drop lo) ys∧lo+ys.length≤xs.length∧n=ys.length∧∃u, ν k=some (u,some ⟨e',xs⟩)∧((ys=[]∧(∃v q vs, ν i=some (v,q)∧fp2=v.ownBlock.toList∧zgV X.G w te (ets X.G e').length v xs.length vs∧RpR X.P X.G h e' xs vs)) ∨
   ys≠[]∧∃g d cap cur q vs,ad=some ⟨g,d*(ets X.G e').length+lo*(ets X.G e').length,none⟩∧ν i=some (.slice (some ⟨g,d*(ets X.G e').length,none⟩) xs.length cap,q)∧fp2=[g]∧(X.G.dr te=false→d=0∧cur.size=cap*(ets X.G e').length)∧w.heap[g]? = some (.cells cur te (0,0))∧xs.length≤cap∧cap≤maxLen∧(d+cap)*(ets X.G e').length≤cur.size∧(cur.toList.drop (d*(ets X.G e').length)).take (xs.length*(ets X.G e').length)=vs∧RpR X.P X.G h e' xs vs):=by
 obtain ⟨a1,n1,c1,q1,q2,u1,ys1,a2,c2,g1,g2,g3,g4,g5,g6,g7,_⟩:=r1;obtain ⟨v',q',vs,u,d1,d2,d3,d4,d5⟩:=r2;rw [g2] at d5
 injection d5 with d5
 injection d5 with d6 d5
 injection d5 with d5
 cases d5;rw [hν] at g5;cases g5;refine ⟨rfl,heq_of_eq g4.symm,g3,rfl,_,g2,?_⟩
 by_cases hne:ys=[]
 ·exact .inl ⟨hne,_,_,_,d1,d2,d3,d4⟩
 ·right
  rw [g1] at d1;cases d1;have had:=g7.1 hne;have hpos:0<ys.length:=List.length_pos_iff.2 hne;obtain ⟨hlen,⟨e1,hz0⟩|⟨g,d,cap,cur,e1,h0,h1,h2,h3,h4,h5⟩⟩:=d3
  ·omega
  ·cases e1;simp only [Option.map_some,zHL] at had;exact ⟨hne,g,d,_,cur,_,vs,had,g1,by rw [d2]; rfl,h0,h1,h2,h3,h4,h5,d4⟩
theorem zFL {te id i k te2 lo:Nat} {m:Int} {e e2:Ty} {xs:List (e.den τ)} {ys:List (e2.den τ)} {d:e.den τ} (hel:elO X.P t'=some te) (hx:evC E x=some (.os id)) (hy:evC E y=some (.i m)) (hlk:lk L id = .vw i k e lo xs) (hlk2:lk L i = .row te2 e2 ys k) (hsz:szE X te e=true) (hr:lAt xs m=some d)
  (kk:K (.c (.oe i k (lo+m.toNat:Nat) e d 0)) [] [] [id,i] nid=some r):zde X w0 h0 F ⟨dst, .indexAddr t' x y,t,p,af,gd⟩ E L nid K r:=by
 obtain ⟨hsz,_⟩:=zuo hsz;refine zaU kk fun L2 ν h φ a w hd M hE ha=>?_;obtain ⟨Ea,hf,hl'⟩:=zdD a hd;obtain ⟨vx,h1,h2⟩:=zj hl' (hE.op (by simp [Op.operands])) hx;obtain ⟨vy,h3,h4⟩:=zj hl' (hE.op (by simp [Op.operands])) hy;obtain rfl:vy=_:=h4;obtain ⟨ad,n,cp,q,hν,rfl⟩:=h2;have hres:=M.res id;rw [ha id (List.mem_cons_self ..),hlk] at hres;have hr2:=M.res i;rw [ha i (List.mem_cons_of_mem _ (List.mem_cons_self ..)),hlk2] at hr2;obtain ⟨rfl,g4,g3,hn,u,g2,h5⟩:=zLQ hν hres hr2;have g4:=eq_of_heq g4;obtain ⟨hz,hm0⟩:=zsi hr;have hlt:m.toNat<xs.length:=(List.getElem?_eq_some_iff.1 hz).1
 rcases h5 with ⟨rfl,_⟩|⟨_,g,d0,cap,cur,q2,vs,rfl,g1,_⟩
 ·simp at hlt
 ·have hget:lAt ys ((lo+m.toNat:Nat):Int)=some d:=by
   unfold lAt;rw [if_pos (by omega),Int.toNat_natCast];rw [← g4,List.getElem?_drop,List.getElem?_take] at hz
   split at hz
   ·exact hz
   ·cases hz
  refine ⟨ptr g (d0*(ets X.G e).length+(lo+m.toNat)*(ets X.G e).length),?_,g,_,_,_,_,ys,_,g1,g2,hget,by rw [Int.toNat_natCast,Nat.add_zero]⟩;refine zm0 (fun w=>?_) hf h1 h3;rw [zox (zjU hel) (zfC hsz) hm0 (by omega),zHL,Nat.add_mul,Nat.add_assoc]
theorem zLR (M:Mem X.P X.G w0 h0 F L2 w ν h φ) {te:TypeId} {e:Ty} {z:e.den τ} (k:zM3 X te e=some z):∃v us,(∀w,(zeroValue te).run X.P w = .ok v w)∧v.cells=us.toArray∧RpL X.P X.G h (ets X.G e) (edt X.G e z) us:=by
 unfold zM3 at k
 split at k
 ·rename_i zs hz
  split at k
  ·rename_i q hq
   cases k;obtain ⟨it,v,hi,hz0,hc⟩:=zA5 hz;refine ⟨v,v.cells.toList,fun w=>by simp [zeroValue,typeInfo,hi,hz0,go_sem,Result.andThen],by simp,?_⟩;rw [zDO];exact ztw (A:=zbR L2 [] φ h w) (fun _ _=>zbR.app) (zwW M (Fz.le.refl _) depth) hq ⟨fun i hi=>(by cases hi),fun b hb=>(by cases hb)⟩ (zyY (X:=X) hc)
  ·cases k
 ·cases k
theorem zCG (us:List Value) (n:Nat) (e:Ty) (z:e.den τ) (hz:RpL X.P X.G h (ets X.G e) (edt X.G e z) us):RpR X.P X.G h e (List.replicate n z) (cells (fun _:Unit=>us) (List.replicate n ())):=by
 induction n with
 | zero=>exact .nil e
 | succ n ih=>exact .cons e z _ us _ hz ih
theorem zLS {te id:Nat} (hel:elO X.P t'=some te) (hx:evC E x=some (.os id)) (e:clrX X L nid K te id=some r):zde X w0 h0 F ⟨dst, .call ⟨.builtin .clear,⟨[x]⟩,⟨[t']⟩⟩,t,p,af,gd⟩ E L nid K r:=by
 unfold clrX at e
 split at e
 ·rename_i i k e1 lo ys hlk
  split at e
  ·rename_i te' e' xs k' hlk2
   have hb:=(zgF e).1
   replace e:=(zgF e).2
   simp only [Bool.and_eq_true,Nat.beq_eq] at hb;obtain ⟨rfl,rfl,hsz⟩:=hb;obtain ⟨hsz,hpos⟩:=zuo hsz
   split at e
   ·rename_i z hz
    refine ⟨_,_,_,_,_,e,Nat.le_succ _,(fun _ h=>by cases h),fun L2 ν h φ a w next Q hd M hE ha hfr kk=>?_⟩;obtain ⟨zv,us,hzv,hzc,hzr⟩:=zLR M hz;have hn':=hfr nid (Nat.le_refl _) (Nat.lt_succ_self _);obtain ⟨Ea,hf,hl'⟩:=zdD a hd;obtain ⟨vx,h1,h2⟩:=zj hl' (hE.op (by simp [Op.operands,Call.operands])) hx;obtain ⟨ad,n,cp,q,hν,rfl⟩:=h2;have hres:=M.res id;rw [ha id (List.mem_cons_self ..),hlk] at hres;have hr2:=M.res i;rw [ha i (List.mem_cons_of_mem _ (List.mem_cons_self ..)),hlk2] at hr2;obtain ⟨rfl,_,g3,rfl,u,g2,h5⟩:=zLQ hν hres hr2
    have hrun2:∀w',(Builtin.clear_ #[t'] t #[.slice ad ys.length cp]).run X.P w = .ok (.tuple #[]) w'→(execOp a.eval ⟨dst, .call ⟨.builtin .clear,⟨[x]⟩,⟨[t']⟩⟩,t,p,af,gd⟩).run X.P w = .ok (.value (.tuple #[])) w':=by
     intro w' hr';simp only [execOp,resolve,invoke,builtin,Sem.run_bind,Sem.run_pure,Result.andThen,List.map_toArray,List.map_cons,List.map_nil,hf.ev h1,hr']
    have hu:=zjU hel;have hlz:us.length=(ets X.G e1).length:=hzr.len
    rcases h5 with ⟨rfl,v,q2,vs,c1,c2,c3,c4⟩|⟨hne0,g,d0,cap,cur,q2,vs,rfl,c1,c2,h0d,hg,hnc,hcm,hcs,htk,hrr⟩
    ·have hcl:(Builtin.clear_ #[t'] t #[.slice ad ([]:List (e1.den τ)).length cp]).run X.P w = .ok (.tuple #[]) w:=by
      cases ad<;>simp [Builtin.clear_,Sem.run_bind,run_underlying hu,Result.andThen]
     have hne:i≠nid:=by rintro rfl; rw [hn'] at c1; cases c1
     have el:xs.take lo++(List.replicate ([]:List (e1.den τ)).length z++xs.drop (lo+([]:List (e1.den τ)).length))=xs:=by simp
     rw [el] at kk;refine zf4 (hrun2 _ hcl) (kk (up1 ν nid (some (undef,some ⟨e1,xs⟩))) h φ w _ ?_ (zbw hn') (Fz.le.refl _) zd2 ⟨[],rfl,rfl⟩);refine ((M.ext (zbw hn')).upd [i] (fun j hj=>zdw _ _ (by simpa using hj)) (fun j _=>rfl) (Vn.le.refl _) (Fz.le.refl _) rfl rfl rfl (Nat.le_refl _) (fun _ _ _=>rfl) (fun b o h1 h2=>M.on b o h2) (fun b h1 h2=>(h2 h1).elim) ?_ ?_ ?_)
     ·intro j hj;obtain rfl:=List.mem_singleton.1 hj;rw [show [(j,AR.row te e1 xs nid)]++L2=(j,AR.row te e1 xs nid)::L2 from rfl,za1];exact ⟨v,q2,vs,undef,(za2 ν _ hne).trans c1,c2,c3,c4,zab _ _ _⟩
     ·intro j hj b hb;exact ⟨(M.out j b hb).1, .inl (mem_fps.2 ⟨j,hj,hb⟩)⟩
     ·intro j hj j2 hj2 b _ _;rw [List.mem_singleton.1 hj,List.mem_singleton.1 hj2]
    ·have hzl:(cells (fun _:Unit=>us) (List.replicate ys.length ())).length=ys.length*(ets X.G e1).length:=by rw [cells_length (fun _=>hlz),List.length_replicate]
     have hset:=(hrr.take lo).app ((zCG us ys.length e1 z hzr).app (hrr.drop (lo+ys.length)));have hvl:=hrr.len;have hN:(lo+ys.length)*(ets X.G e1).length≤xs.length*(ets X.G e1).length:=Nat.mul_le_mul_right _ g3
     have hN2:d0*(ets X.G e1).length+xs.length*(ets X.G e1).length≤cur.size:=by rw [← Nat.add_mul]; exact Nat.le_trans (Nat.mul_le_mul_right _ (by omega)) hcs
     have hmul:(lo+ys.length)*(ets X.G e1).length=lo*(ets X.G e1).length+ys.length*(ets X.G e1).length:=Nat.add_mul ..;have hone:∀v∈cells (fun _:Unit=>us) (List.replicate ys.length ()),v.oneCell'=true:=fun v hv=>(zCG us ys.length e1 z hzr).one v hv;have hst:=run_storeCells_at X.P g (d0*(ets X.G e1).length+lo*(ets X.G e1).length) te (cells (fun _:Unit=>us) (List.replicate ys.length ())) 0 cur w hg (by rw [hzl]; omega) hone
     have hcl:(Builtin.clear_ #[t'] t #[.slice (some ⟨g,d0*(ets X.G e1).length+lo*(ets X.G e1).length,none⟩) ys.length cp]).run X.P w = .ok (.tuple #[]) (w.setRow g (cur.toList.take (d0*(ets X.G e1).length+lo*(ets X.G e1).length)++cells (fun _:Unit=>us) (List.replicate ys.length ())++cur.toList.drop (d0*(ets X.G e1).length+lo*(ets X.G e1).length+(cells (fun _:Unit=>us) (List.replicate ys.length ())).length)).toArray):=by
      simp only [Nat.add_zero] at hst;obtain ⟨q,hy⟩:∃q,ys.length=q+1:=⟨ys.length-1,by have:=List.length_pos_iff.2 hne0; omega⟩;rw [hy] at hst ⊢;simp [Builtin.clear_,Sem.run_bind,run_underlying hu,Result.andThen,hzv,hzc,zAY (enc:=fun _:Unit=>us) (z:=()) (fun _=>hlz) hpos,hst]
     have hne:i≠nid:=by rintro rfl; rw [hn'] at c1; cases c1
     refine zf4 (hrun2 _ hcl) (kk (up1 ν nid (some (undef,some ⟨e1,_⟩))) h φ _ _ (M.turn (i:=i) (b:=g) (.row te e1 _ nid) c2 (zbw hn') rfl rfl rfl (by simp [World.setRow]) (fun j hj=>setRow_other w g j _ hj) ⟨_,q2,_,undef,(za2 ν _ hne).trans c1,rfl,?_,hset,zab _ _ _⟩) (zbw hn') (Fz.le.refl _) zd2 ⟨[],rfl,rfl⟩)
     have hll:(xs.take lo++(List.replicate ys.length z++xs.drop (lo+ys.length))).length=xs.length:=by simp; omega
     rw [hll];have hlen2:=hset.len;rw [hll] at hlen2
     have hcl2:cur.toList.length=cur.size:=by simp
     have hsn:(cur.toList.take (d0*(ets X.G e1).length+lo*(ets X.G e1).length)++cells (fun _:Unit=>us) (List.replicate ys.length ())++cur.toList.drop (d0*(ets X.G e1).length+lo*(ets X.G e1).length+(cells (fun _:Unit=>us) (List.replicate ys.length ())).length)).toArray.size=cur.size:=by
      simp only [List.size_toArray,List.length_append,List.length_take,List.length_drop,hzl];omega
     refine ⟨hlen2, .inr ⟨g,d0,cap,_,rfl,fun hz=>?_,setRow_heap w g cur _ te (0,0) hg,hnc,hcm,?_,?_⟩⟩
     ·rw [hsn]; exact h0d hz
     ·rw [hsn]; exact hcs
     ·have h7:=zJy cur.toList (cells (fun _:Unit=>us) (List.replicate ys.length ())) (lo*(ets X.G e1).length) (xs.length*(ets X.G e1).length) (d0*(ets X.G e1).length) (by rw [hzl]; omega) (by omega);rw [htk,hzl, ← hmul] at h7;rw [hzl];simpa [List.append_assoc] using h7
   ·cases e
  ·cases e
 ·cases e
theorem zKq {id i k0 te lo:Nat} {e:Ty} {xs:List (e.den τ)} (hx:evC E x=some (.os id)) (hl:lk L id = .vw i k0 e lo xs) (hu:elO X.P t'=some te) (k:K (.c (.i (xs.length:Int))) [] [] [id] nid=some r) :
  zde X w0 h0 F ⟨dst, .call ⟨.builtin .len,⟨[x]⟩,⟨[t']⟩⟩,t,p,af,gd⟩ E L nid K r:=by
 refine zaU k fun L2 ν h φ a w hd M hE ha=>?_;obtain ⟨Ea,hf,hl'⟩:=zdD a hd;obtain ⟨vx,h1,h2⟩:=zj hl' (hE.op (by simp [Op.operands,Call.operands])) hx;obtain ⟨ad,m,cp,q,hν,rfl⟩:=h2;have hr:=M.res id;rw [ha id (List.mem_singleton.2 rfl),hl] at hr;obtain ⟨a1,n1,c1,q1,q2,u1,ys1,a2,c2,g1,g2,g3,g4,g5,g6,g7,_⟩:=hr;rw [hν] at g5;cases g5;exact ⟨_,zpe (zjU hu) hf h1,rfl⟩
end
end Go.Rk
end
