/-
 Walks by evaluation: code. Over any program.
 Walks by evaluation: functions. Over any program.
 Walks by evaluation, calls and loops with them: what a whole run makes of abstract values. Over any program.
 Walks by evaluation: whole runs are right. Over any program.
 Walks by evaluation: the operations of whole runs. Over any program.
 Walks by evaluation: whole runs are right. Over any program.
 Walks by evaluation: what is checked of a translation's tables. Over any program.
-/
import Derived.Test.YtkmnihnifdcigaaGreatDoorYDr
import Derived.Test.YtkmnihnifdcigaaGreatDoorYRun
set_option linter.unusedVariables false
set_option linter.unusedSimpArgs false
section
namespace Go.Rk
open Go.RowKit Go.Dm Go.Dk
variable {τ:Nat→Type}
section
variable {ρ:Type} {X:Cx τ} {w0 w w':World} {h0 h h' H:Fz} {F:List Nat} {E E' Eb:zE τ} {L L2:Hp τ} {ν ν':Vn τ} {φ φ':Nat→List Nat} {nid nid':Nat} {r:ρ} {a:Act}
def SlV (X:Cx τ) (a:Act) (t:Nat) (ty:Ty) (v:Value):Prop:=(Nat.blt t gh=true→(∀x y,ty ≠ .pr x y)→a.tmps[t]? = some v)∧(gb≤t→v=ptr (t-gb) 0)∧(gh≤t→t<20000→v=X.fx (t-gh))
def SlVs (X:Cx τ) (a:Act):Pl→List Value→Prop
 | [],vs=>vs=[]
 | (t,ty)::l,vs=>∃v us,vs=v::us∧SlV X a t ty v∧SlVs X a l us
theorem zJi {G:Sig τ} {t:Ty} {A:XV τ} {q:t.den τ × List Nat × List Nat} (k:resX G L t A=some q):(∀x y,t ≠ .pr x y)→zjQ A=false:=by
 intro hne;unfold resX at k
 split at k
 ·rfl
 ·rfl
 ·rfl
 ·exact (hne _ _ rfl).elim
 ·cases k
theorem zJj (M:Mem X.P X.G w0 h0 F L w ν h φ) (hE:zbZ X h ν a E) (hH:h.le H):∀{l:Pl} {p:DP τ l.ts} {m n:List Nat},leaf X.G E L l=some (p,m,n)→(∀b∈fps φ n,H b=w.heap[b]?)→nod m=true→∃vs,TrXs X.P X.G H w l.ts p vs (fps φ m)∧SlVs X a l vs
 | [],p,m,n,e,_,_=>by cases e; exact ⟨[], .nil,rfl⟩
 | (t,ty)::l,p,m,n,e,hb,hn=>by
  unfold leaf at e
  split at e
  ·rename_i A hA
   split at e
   ·rename_i x m1 n1 hx
    split at e
    ·rename_i q m2 n2 hq
     cases e;obtain ⟨k1,k2,k3⟩:=zvC hn;obtain ⟨v,h1,h2,h3,h4⟩:=hE t A hA;obtain ⟨vs,g1,g2⟩:=zJj M hE hH hq (fun b hb'=>hb b (by rw [zfj]; exact List.mem_append_right _ hb')) k2;refine ⟨v::vs,?_,v,vs,rfl,⟨fun a1 a2=>h2 a1 (zJi hx a2),h3,h4⟩,g2⟩;rw [zfj];refine .cons ty _ _ v vs _ _ ?_ ?_ (M.fps_dis k3)
     ·rw [DP.hd_mk]; exact zJu (L:=L) M hH hx (fun _ _=>rfl) ⟨fun _ _=>rfl,fun b hb'=>hb b (by rw [zfj]; exact List.mem_append_left _ hb')⟩ k1 h1
     ·rw [DP.tl_mk]; exact g1
    ·cases e
   ·cases e
  ·cases e
theorem zFv {P:Program} (hP:X.P=P):∀{l:Pl} {p:DP τ l.ts} {nid:Nat} {E:zE τ} {L:Hp τ} {nid':Nat} {vs:List Value} {fp:List Nat} {L0:Hp τ} {ν:Vn τ} {φ:Nat→List Nat},zCR X.G l p nid=(E,L,nid')→Mem X.P X.G w0 h0 F L0 w ν h φ→TrXs X.P X.G h w l.ts p vs fp→SlVs X a l vs →
  zhX w0 h F φ fp→(∀i,nid≤i→i<nid'→ν i=none)→nid≤nid'∧∃ν' φ',Adds X.P X.G w0 h0 F L0 w ν h φ L nid nid' fp ν' φ'∧zbZ X h ν' a E
 | [],p,nid,E,L,nid',vs,fp,L0, ν, φ,e,M,ht,hs,hf,hn=>by
  cases e;exact ⟨Nat.le_refl _, ν, φ,(Grew.nil M _ _).adds,fun t x e=>by cases e⟩
 | (t,ty)::l,p,nid,E,L,nid',vs,fp,L0, ν, φ,e,M,ht,hs,hf,hn=>by
  unfold zCR at e
  split at e
  rename_i A U n1 h1
  split at e
  rename_i E2 L2 n2 h2
  cases e;obtain ⟨v,us,rfl,s1,s2⟩:=hs
  cases ht with
  | cons _ _ _ _ _ f f' t1 t2 hd =>
   have l1:=zvh h1;have hle2:n1≤nid':=packE_le h2;obtain ⟨_, ν1, φ1,A1,e1⟩:=zFv hP h2 M t2 s2 (hf.sub fun b hb=>List.mem_append_right _ hb) (fun i a b=>hn i (by omega) b)
   obtain ⟨ν2, φ2,A2,hx⟩:=zyV A1.mem h1 t1 (fun i a b=>by
    cases e:ν1 i with
    | none=>rfl
    | some y =>
     have:=A1.fresh i (hn i a (by omega)) (by rw [e]; simp)
     omega) (zhX.adds A1 (hf.sub fun b hb=>List.mem_append_left _ hb) hd)
   refine ⟨by omega, ν2, φ2,Adds.seq A1 A2 l1 hle2,fun t' x e=>?_⟩;simp only [zdo,zbX] at e
   cases hb:Nat.beq t t' with
   | true =>
    rw [hb] at e;cases e
    have:t=t':=by simpa using hb
    subst this;refine ⟨v,hx,fun a1 a2=>s1.1 a1 fun x y hxy=>?_,s1.2⟩;subst hxy;cases h1;cases a2
   | false =>
    rw [hb] at e;exact (e1 t' x e).le (Fz.le.refl _) A2.le
where
 packE_le:∀{l:Pl} {p:DP τ l.ts} {nid:Nat} {E:zE τ} {L:Hp τ} {nid':Nat},zCR X.G l p nid=(E,L,nid')→nid≤nid'
 | [],p,nid,E,L,nid',e=>by cases e; exact Nat.le_refl _
 | (t,ty)::l,p,nid,E,L,nid',e=>by
  unfold zCR at e
  split at e
  rename_i A U n1 h1
  split at e
  rename_i E2 L2 n2 h2
  cases e;exact Nat.le_trans (zvh h1) (packE_le h2)
theorem zHA (hg:zsb X.P X.G h) (hgl:∀p∈X.G.gl,True):zbZ X h ν a (glE X.G.gl):=by
 intro t x e;obtain ⟨p,hp,hpe⟩:=List.mem_map.1 (zmG e);cases hpe;obtain ⟨vs,h1,h2⟩:=hg.1 p hp;refine ⟨ptr p.1 0,⟨p.1,0,vs,rfl,h1,h2⟩,fun h=>?_,fun _=>by rw [Nat.add_sub_cancel_left],fun h1 h2=>?_⟩
 ·exfalso
  simp only [Nat.blt_eq,gb,gh] at h;omega
 ·exfalso
  simp only [gb] at h2;omega
theorem zbZ.app (h1:zbZ X h ν a E) (h2:zbZ X h ν a E'):zbZ X h ν a (E++E'):=by
 intro t x e;rw [zmD] at e
 cases hE:asc E t with
 | some y=>rw [hE] at e; cases e; exact h1 t _ hE
 | none=>rw [hE] at e; exact h2 t x e
def SameV (X:Cx τ) (w0:World) (h0:Fz) (F:List Nat) (w:World) (a:Act) (E:zE τ) (L:Hp τ) (s t:Nat):Prop:=∀(h:Fz) (ν:Vn τ) (φ:Nat→List Nat) x,Mem X.P X.G w0 h0 F L w ν h φ→zbZ X h ν a E→alV E L t=some x→zjq X h ν a s x
theorem zFw (M:Mem X.P X.G w0 h0 F L w ν h φ) (hE:zbZ X h ν a E):∀{al:List (Nat × Nat)},(∀p∈al,SameV X w0 h0 F w a E L p.1 p.2)→zbZ X h ν a (alias E L al)
 | [],_=>hE
 | (s,t)::al,hs=>by
  have ih:=zFw M hE (al:=al) fun p hp=>hs p (List.mem_cons_of_mem _ hp);unfold alias
  split
  ·rename_i v hv
   intro t' x e;simp only [zdo,zbX] at e
   cases hb:Nat.beq s t' with
   | true =>
    rw [hb] at e;cases e
    have:s=t':=by simpa using hb
    subst this;exact hs _ (List.mem_cons_self ..) h ν φ _ M hE hv
   | false=>rw [hb] at e; exact ih t' x e
  ·exact ih
theorem Mem.none (M:Mem X.P X.G w0 h0 F L w ν h φ) (hH:h.le H) (hon:H.on w) (hnew:∀b,H b≠none→h b≠none∨b∈F∨w0.heap.size≤b):Mem X.P X.G w0 h0 F [] w (fun _=>Option.none) H (fun _=>[]) :=
 ⟨M.os,M.tape,M.output,M.size,M.frame,M.le.trans hH,hon,fun b hb=>by
  rcases hnew b hb with h1|h1
  ·exact M.new b h1
  ·exact .inr h1,fun _=>rfl,(fun _ _ _ h=>by cases h),(fun _ _ h=>by cases h),M.gl.le hH,M.fp⟩
theorem zLh {x y:XV τ} {v u:Value} (hs:zxF (some x) (some y)=true) (hx:XOk X.P X.G h ν x v) (hy:XOk X.P X.G h ν y u):v=u:=by
 unfold zxF at hs
 split at hs
 ·rename_i i j h1 h2
  cases h1; cases h2
  have:i=j:=by simpa using hs
  subst this;obtain ⟨u1,q1,a1,a2,_⟩:=hx;obtain ⟨u2,q2,b1,b2,_⟩:=hy;rw [a1] at b1;cases b1;rw [a2,b2]
 ·rename_i i j h1 h2
  cases h1; cases h2
  have:i=j:=by simpa using hs
  subst this;obtain ⟨_,_,_,_,a1,a2⟩:=hx;obtain ⟨_,_,_,_,b1,b2⟩:=hy;rw [a1] at b1;cases b1;rw [a2,b2]
 ·cases hs
theorem zLi {x y:XV τ} (hs:zxF (some x) (some y)=true):zjQ x=false∧zjQ y=false:=by
 refine ⟨?_,?_⟩
 ·cases x<;>first|rfl|(simp [zxF] at hs)
 ·cases y<;>first|rfl|(cases x<;>simp [zxF] at hs; done)|(exfalso; unfold zxF at hs; split at hs<;>first|(rename_i h3; cases h3; done)|(rename_i _ h3; cases h3; done)|cases hs)
def SlU (X:Cx τ) (a:Act) (t:Nat) (v:Value):Prop:=(Nat.blt t gh=true→a.tmps[t]? = some v)∧(gb≤t→v=ptr (t-gb) 0)∧(gh≤t→t<20000→v=X.fx (t-gh))
theorem SlU.one {t:Nat} {u v:Value} (h1:SlU X a t u) (h2:SlU X a t v) (hlt:t<20000):u=v:=by
 cases hg:Nat.blt t gh with
 | true =>
  have h3:=h1.1 hg;rw [h2.1 hg] at h3;exact (Option.some.inj h3).symm
 | false =>
  have hge:gh≤t:=by
   have:¬ t<gh:=by rw [← Nat.blt_eq,hg]; simp
   omega
  rw [h1.2.2 hge hlt,h2.2.2 hge hlt]
theorem zjq.u {t:Nat} {x:XV τ} (hs:zjq X h ν a t x) (hg:zjQ x=false):∃v,XOk X.P X.G h ν x v∧SlU X a t v :=
 let ⟨v,h1,h2,h3,h4⟩:=hs; ⟨v,h1,fun h=>h2 h hg,h3,h4⟩
def AlU (X:Cx τ) (w:World) (a:Act) (t:Nat) (v:Value):Prop:=match t/100000 with
 | 0=>SlU X a t v
 | o+1=>∃b vs ti,SlU X a (t%100000) (ptr b 0)∧w.heap[b]? = some (.cells vs ti (0,0))∧vs[o]? = some v
theorem zFx {P:Program} {G:Sig τ}:∀{cs:List (CV τ)} {vs:List Value} {o:Nat} {c:CV τ},CVs P G h ν cs vs→ziy cs o=some c→∃v,vs[o]? = some v∧zcT P G h ν c v
 | [],_,_,_,_,e=>by cases e
 | d::cs,_,0,c,⟨v,us,rfl,h1,_⟩,e=>by cases e; exact ⟨v,rfl,h1⟩
 | d::cs,_,o+1,c,⟨v,us,rfl,_,h2⟩,e=>zFx (cs:=cs) (vs:=us) h2 e
theorem zLj (M:Mem X.P X.G w0 h0 F L w ν h φ) (hE:zbZ X h ν a E) {t:Nat} {x:XV τ} (hg:zjQ x=false) (e:alV E L t=some x):∃v,XOk X.P X.G h ν x v∧AlU X w a t v:=by
 unfold alV at e;unfold AlU
 split at e
 ·rename_i h0
  obtain ⟨v,h1,h2⟩:=(hE t x e).u hg;rw [h0];exact ⟨v,h1,h2⟩
 ·rename_i o ho
  split at e
  ·rename_i i hi
   split at e
   ·rename_i ti cs hl
    split at e
    ·rename_i c hc
     cases e;obtain ⟨pv,h1,h2⟩:=(hE _ _ hi).u rfl;have hr:=M.res i;rw [hl] at hr;obtain ⟨b,q,vs,g1,_,g2,g3⟩:=hr;obtain ⟨u,q',k1,k2,_⟩:=h1;rw [g1] at k1;cases k1;obtain rfl:pv=ptr b 0:=k2;obtain ⟨v,h3,h4⟩:=zFx g3 hc;rw [ho];exact ⟨v,h4,b,vs.toArray,ti,h2,g2,by simpa using h3⟩
    ·cases e
   ·cases e
  ·cases e
theorem AlU.one {t:Nat} {u v:Value} (h1:AlU X w a t u) (h2:AlU X w a t v) (hlt:t%100000<20000):u=v:=by
 unfold AlU at h1 h2
 split at h1
 ·rename_i h0
  rw [h0] at h2
  have:t<100000:=by omega
  rw [Nat.mod_eq_of_lt this] at hlt;exact h1.one h2 hlt
 ·rename_i o ho
  rw [ho] at h2;obtain ⟨b,vs,ti,g1,g2,g3⟩:=h1;obtain ⟨b',vs',ti',k1,k2,k3⟩:=h2;have:=g1.one k1 hlt;cases this;rw [g2] at k2;cases k2;rw [g3] at k3;exact Option.some.inj k3
theorem zLk (M:Mem X.P X.G w0 h0 F L w ν h φ) (hE:zbZ X h ν a E) {al:List (Nat × Nat)} (e:zM8 E L al=true):∀p∈al,p.2%100000<20000∧∃v,SlU X a p.1 v∧AlU X w a p.2 v:=by
 intro p hp;have hs:=List.all_eq_true.1 e p hp;simp only [Bool.and_eq_true,Nat.blt_eq] at hs;obtain ⟨hlt,hs⟩:=hs
 cases h1:asc E p.1 with
 | none=>rw [h1] at hs; cases hs
 | some x =>
  cases h2:alV E L p.2 with
  | none=>rw [h1,h2] at hs; simp [zxF] at hs
  | some y =>
   rw [h1,h2] at hs;obtain ⟨gx,gy⟩:=zLi hs;obtain ⟨v,a1,a2⟩:=(hE _ _ h1).u gx;obtain ⟨u,b1,b2⟩:=zLj M hE gy h2;have:=zLh hs a1 b1;subst this;exact ⟨hlt,v,a2,b2⟩
theorem zLl {l:Pl} {al:List (Nat × Nat)} {f:DP τ l.ts→Option ρ} (s:St X w0 h0 F E L nid a w) (e:zF6 X.G l al f E L=some r) :
  ∃p,f p=some r∧∀(K:zE τ→Hp τ→Nat→Option ρ),zCS X.G l al p K=some r→∃E' L' nid',K E' L' nid'=some r∧St X w0 h0 F E' L' nid' a w:=by
 unfold zF6 hi at e
 split at e
 ·rename_i p m n hl
  obtain ⟨hb,e⟩:=zgF e;simp only [Bool.and_eq_true] at hb;obtain ⟨⟨hnod,hdis⟩,hal⟩:=hb;refine ⟨p,e,fun K e2=>?_⟩;obtain ⟨ν,h, φ,M,hE,hn⟩:=s.st;obtain ⟨vs,ht,hs⟩:=zJj M hE (M.lend_le n) hl (fun b hb=>zqE hb) hnod;have hdis':=M.fps_dis (zwX hdis);unfold zCS hi at e2
  split at e2
  rename_i E1 L1 n1 hp
  have M0:=M.none (M.lend_le n) (zvB M.on) (fun b hb=>by
   by_cases hbn:b∈fps φ n
   ·obtain ⟨i,_,hi⟩:=mem_fps.1 hbn;exact .inr (M.out i b hi).2
   ·rw [zkq hbn] at hb; exact .inl hb)
  have hfree:zhX w0 (zrt h w (fps φ n)) F (fun _=>[]) (fps φ m):=fun b hb=>by
   obtain ⟨i,_,hi⟩:=mem_fps.1 hb;refine ⟨(fun _ h=>by cases h),?_,(M.out i b hi).2⟩;rw [zkq (hdis' b hb)]; exact (M.out i b hi).1
  obtain ⟨_, ν', φ',A,hE1⟩:=zFv (X:=X) rfl hp M0 ht hs hfree (fun _ _ _=>rfl);have M1:=A.mem;rw [List.append_nil] at M1;refine ⟨_,_,_,e2,s.nodef,s.size, ν',_, φ',M1,(zFw M1 hE1 fun q hq=>?_).app (zHA M0.gl fun _ _=>trivial),fun i hi=>?_⟩
  ·obtain ⟨hlt,v,a1,a2⟩:=zLk M hE hal q hq;intro h2 ν2 φ2 x M2 hE2 hx
   by_cases hgv:zjQ x=true
   ·exact zyS hgv
   ·obtain ⟨u,b1,b2⟩:=zLj M2 hE2 (by simpa using hgv) hx;have huv:=b2.one a2 hlt;subst huv;exact ⟨u,b1,fun h _=>a1.1 h,a1.2⟩
  ·cases e:ν' i with
   | none=>rfl
   | some y =>
    have:=A.fresh i rfl (by rw [e]; simp);omega
 ·cases e

theorem zJk {t:Nat} {c:CV τ} (hc:evC E (.tmp t)=some c):asc E t=some (.c c):=by
 have hc:(match (bif Nat.blt t gh then asc E t else none) with
  | some (.c c)=>some c
  | _=>none)=some c:=hc
 cases hb:Nat.blt t gh with
 | false=>rw [hb] at hc; cases hc
 | true =>
  rw [hb] at hc;dsimp only [cond_true] at hc
  split at hc
  ·rename_i c' hc'
   cases hc;exact hc'
  ·cases hc
def exT:Ex→Exit
 | .no => .normal
 | .ex id => .exit id
 | .rt => .ret
def KOk (X:Cx τ) (w0:World) (h0:Fz) (F:List Nat) (K:Kx τ ρ) (Q:Exit→Act→World→Prop) (r:ρ):Prop:=∀e E L nid a w,K e E L nid=some r→St X w0 h0 F E L nid a w→Q (exT e) a w
theorem KOk.thn {K:Kx τ ρ} {Q:Exit→Act→World→Prop} {next:Act→World→Prop} {K0:zE τ→Hp τ→Nat→Option ρ} (hK:KOk X w0 h0 F K Q r) (h0':∀E L nid a w,K0 E L nid=some r→St X w0 h0 F E L nid a w→next a w) :
  KOk X w0 h0 F (fun e E L nid=>match e with
   | .no=>K0 E L nid
   | e=>K e E L nid) (Exit.then next Q) r:=by
 intro e E L nid a w he s
 cases e with
 | no=>exact h0' E L nid a w he s
 | ex id=>exact hK (.ex id) E L nid a w he s
 | rt=>exact hK .rt E L nid a w he s
def Hn.dep:Hn τ ρ→Nat
 | .q _ b=>b.dep+1
 | _=>0
theorem exX_ok (hm:X.P.follows .mixedOrders=true) {op:OpF τ ρ} (hop:zwB X w0 h0 F op) (hN:X.n≤gh) (c:Code):∀(hn:Hn τ ρ) (K:Kx τ ρ) (Q:Exit→Act→World→Prop) (E:zE τ) (L:Hp τ) (nid:Nat) (a:Act) (w:World),
  exX op X c hn E L nid K=some r→hn.giv=ziG op X c hn K→KOk X w0 h0 F K Q r→St X w0 h0 F E L nid a w→c.wp X.P Q a w:=by
 induction c with
 | skip =>
  intro hn K Q E L nid a w e _ hK s;exact wp_skip (hK .no E L nid a w e s)
 | region id ops d =>
  intro hn K Q E L nid a w e _ hK s;obtain ⟨l⟩:=ops
  cases d with
  | true=>exact zPm hm hop hN (fun E L nid a w h s=>hK .no E L nid a w h s) e s
  | false=>exact wp_region_list (zDb hop hN (fun E L nid a w h s=>hK .no E L nid a w h s) e s)
 | seq x y ihx ihy =>
  intro hn K Q E L nid a w e hg hK s
  have two:∀(h1 h2:Hn τ ρ),exX op X x h1 E L nid (zJT op X y h2 K)=some r→h1.giv=ziG op X x h1 (zJT op X y h2 K)→h2.giv=ziG op X y h2 K→(Code.seq x y).wp X.P Q a w:=by
   intro h1 h2 e g1 g2;refine wp_seq (ihx h1 _ _ E L nid a w e g1 (hK.thn fun E L nid a w he s=>ihy h2 K Q E L nid a w he g2 hK s) s)
  cases hn with
  | e=>exact two .e .e e rfl rfl
  | q h1 h2 =>
   have hg':(h1.giv,h2.giv)=(ziG op X x h1 (zJT op X y h2 K),ziG op X y h2 K):=hg
   injection hg' with g1 g2
   exact two h1 h2 e g1 g2
  | n k h1 =>
   cases k with
   | zero=>exact two .e .e e rfl rfl
   | succ k =>
    cases k with
    | zero=>exact two .e h1 e rfl hg
    | succ k=>exact two .e (.n (k+1) h1) e rfl hg
  | w l al f h1=>exact two .e .e e rfl rfl
  | j l al f h1 h2 =>
   have hg':(f,h1.giv,h2.giv)=((fun t=>zCS X.G l al t fun E L nid=>exX op X y h2 E L nid K),ziG op X x h1 (zF7 X l al f K),ziG op X y h2 K):=hg
   injection hg' with g0 g12
   injection g12 with g1 g2
   refine wp_seq (ihx h1 (zF7 X l al f K) _ E L nid a w e g1 (hK.thn fun E L nid a w he s=>?_) s);obtain ⟨p,hp,hcut⟩:=zLl s he;have hp2:=congrFun g0 p;rw [hp] at hp2;obtain ⟨E',L',nid',h3,s'⟩:=hcut _ hp2.symm;exact ihy h2 K Q E' L' nid' a w h3 g2 hK s'
 | cond c x y ihx ihy =>
  intro hn K Q E L nid a w e hg hK s
  have g1:hn.fst.giv=ziG op X x hn.fst K:=by
   cases hn with
   | q h1 h2 =>
    have hg':(h1.giv,h2.giv)=(ziG op X x h1 K,ziG op X y h2 K):=hg
    injection hg' with g1 _
   | _=>rfl
  have g2:hn.sn2.giv=ziG op X y hn.sn2 K:=by
   cases hn with
   | q h1 h2 =>
    have hg':(h1.giv,h2.giv)=(ziG op X x h1 K,ziG op X y h2 K):=hg
    injection hg' with _ g2
   | _=>rfl
  obtain ⟨ν,h, φ,M,hE,hnn⟩:=s.st;obtain ⟨Ea,hf,hl⟩:=zdD a s.nodef;unfold exX at e
  split at e
  ·rename_i b hc
   obtain ⟨v,h1,h2⟩:=zj hl (hE.on _) hc;obtain rfl:v=_:=h2
   cases b with
   | true=>exact wp_cond_true (hf.ev h1) (ihx hn.fst K Q E L nid a w e g1 hK s)
   | false=>exact wp_cond_false (hf.ev h1) (ihy hn.sn2 K Q E L nid a w e g2 hK s)
  ·rename_i b hc
   obtain ⟨v,h1,h2⟩:=zj hl (hE.on _) hc;obtain rfl:v=_:=h2
   split at e
   ·rename_i t
    have ha:asc E t=some (.c (.b b)):=zJk hc
    cases b with
    | true =>
     rw [if_pos rfl] at e;exact wp_cond_true (hf.ev h1) (ihx hn.fst K Q _ L nid a w e g1 hK (s.ref ((Ref.refl E).known ha)))
    | false =>
     rw [if_neg (by simp)] at e;exact wp_cond_false (hf.ev h1) (ihy hn.sn2 K Q _ L nid a w e g2 hK (s.ref ((Ref.refl E).known ha)))
   ·cases e
  ·cases e
 | block id c ih =>
  intro hn K Q E L nid a w e hg hK s;refine wp_block (ih hn (blkK id K) _ E L nid a w e hg (fun e E L nid a w he s=>?_) s)
  cases e with
  | no=>exact hK .no E L nid a w he s
  | rt=>exact hK .rt E L nid a w he s
  | ex i =>
   unfold blkK at he;simp only at he
   cases hb:Nat.beq i id with
   | true =>
    rw [hb] at he
    have:i=id:=by simpa using hb
    subst this;exact zwG (hK .no E L nid a w he s)
   | false =>
    rw [hb] at he;exact zwH hb (hK (.ex i) E L nid a w he s)
 | loop c ih =>
  intro hn K Q E L nid a w e hg hK s
  cases hn with
  | w l al f h1 =>
   have hg':((fun n t=>f (n+1) t),(fun t=>f 0 t),fun n=>(h1 n).giv)=((fun n t=>zCS X.G l al t fun E L nid=>exX op X c (h1 n) E L nid (zF7 X l al (f n) K)),(fun _=>none),fun n=>ziG op X c (h1 n) (zF7 X l al (f n) K)):=hg
   injection hg' with g0 g12
   injection g12 with g1 g2
   have key:∀(n:Nat) (a:Act) (w:World),(∃E L nid,zF6 X.G l al (f n) E L=some r∧St X w0 h0 F E L nid a w)→c.wp X.P (Exit.then (fun a' w'=>∃m,m<n∧∃E L nid,zF6 X.G l al (f m) E L=some r∧St X w0 h0 F E L nid a' w') Q) a w:=by
    rintro n a w ⟨E,L,nid,he,s⟩;obtain ⟨p,hp,hcut⟩:=zLl s he
    cases n with
    | zero =>
     have:=congrFun g1 p;rw [hp] at this; cases this
    | succ n =>
     have hp2:=congrFun (congrFun g0 n) p;rw [hp] at hp2;obtain ⟨E',L',nid',h3,s'⟩:=hcut _ hp2.symm;exact ih (h1 n) (zF7 X l al (f n) K) _ E' L' nid' a w h3 (congrFun g2 n) (hK.thn fun E L nid a w he s=>⟨n,Nat.lt_succ_self n,E,L,nid,he,s⟩) s'
   exact zCE (fun n a w=>∃E L nid,zF6 X.G l al (f n) E L=some r∧St X w0 h0 F E L nid a w) key fuel ⟨E,L,nid,e,s⟩
  | e=>cases e
  | n k h1=>cases e
  | j l al f h1 h2=>cases e
  | q h1 h2 =>
   have key:∀(hn:Hn τ ρ) (E:zE τ) (L:Hp τ) (nid:Nat) (a:Act) (w:World),lpU (fun h E L nid K=>exX op X c h E L nid K) hn E L nid K=some r→hn.giv=lpR (fun h E L nid K=>exX op X c h E L nid K) (fun h K=>ziG op X c h K) hn K→St X w0 h0 F E L nid a w→Code.rounds X.P c Q hn.dep a w:=by
    intro hn
    induction hn with
    | q h1 h2 _ ih2 =>
     intro E L nid a w e hg s;have hg':(h1.giv,h2.giv)=(ziG op X c h1 (lpK (fun h E L nid K=>exX op X c h E L nid K) h2 K),lpR (fun h E L nid K=>exX op X c h E L nid K) (fun h K=>ziG op X c h K) h2 K):=hg
     injection hg' with g1 g2
     exact ih h1 (lpK (fun h E L nid K=>exX op X c h E L nid K) h2 K) _ E L nid a w e g1 (hK.thn fun E L nid a w he s=>ih2 E L nid a w he g2 s) s
    | _=>intro E L nid a w e; cases e
   exact wp_loop_rounds _ (key (.q h1 h2) E L nid a w e hg s)
 | exit id =>
  intro hn K Q E L nid a w e _ hK s;exact wp_exit (hK (.ex id) E L nid a w e s)
 | ret =>
  intro hn K Q E L nid a w e _ hK s;exact wp_ret (hK .rt E L nid a w e s)
 | rangeFunc _ _ _ _ _ _=>intro hn K Q E L nid a w e; cases e
 | scope _ _=>intro hn K Q E L nid a w e; cases e
 | label _=>intro hn K Q E L nid a w e; cases e
 | goto _=>intro hn K Q E L nid a w e; cases e
 | refuse _=>intro hn K Q E L nid a w e; cases e
end
end Go.Rk
end
section
namespace Go.Rk
open Go.RowKit Go.Dm Go.Dk
variable {τ:Nat→Type}
section
variable {ρ:Type} {X:Cx τ} {w0 w w':World} {h0 h h' H:Fz} {F:List Nat} {E E' Eb:zE τ} {L L2:Hp τ} {ν ν':Vn τ} {φ φ':Nat→List Nat} {nid nid':Nat} {a:Act}
theorem zGL {P:Program} {α:Type} {f:α→Sem Value}:∀{l:List α} {vs:List Value},l.length=vs.length→(∀(i:Nat) x v,l[i]? = some x→vs[i]? = some v→(f x).run P w = .ok v w)→(l.mapM f).run P w = .ok vs w
 | [],[],_,_=>by simp
 | x::l,v::vs,hl,h=>by
  have h1:=h 0 x v rfl rfl;have h2:=zGL (f:=f) (l:=l) (vs:=vs) (by simpa using hl) fun i x v a b=>h (i+1) x v (by simpa using a) (by simpa using b);simp [List.mapM_cons,h1,h2,Result.andThen]
 | [],_::_,h,_=>by simp at h
 | _::_,[],h,_=>by simp at h
def rv1 (tmps:Array Value):ResultVar→Sem Value
 | .tmp t=>pure (tmps.getD t undef)
 | .cell a t=>do loadVar t (← asAddr (tmps.getD a undef))
theorem zIK (fn:Func) (tmps:Array Value):results fn tmps=(do
  let vs ← fn.results.mapM (rv1 tmps)
  pure (if h:vs.size=1 then vs[0] else .tuple vs)):=by
 unfold results
 have:(fun x=>match x with
  | ResultVar.tmp t=>pure (tmps.getD t undef)
  | ResultVar.cell a t=>do loadVar t (← asAddr (tmps.getD a undef)))=rv1 tmps:=funext fun x=>by cases x<;>rfl
 rw [← this];rfl
theorem zxS {fn:Func} {rv:List ResultVar} {tmps:Array Value} {vs:List Value} (hr:fn.results=⟨rv⟩) (hl:rv.length=vs.length) (h:∀(i:Nat) x v,rv[i]? = some x→vs[i]? = some v→(rv1 tmps x).run X.P w = .ok v w):(results fn tmps).run X.P w = .ok (zzk vs) w:=by
 have h1:=zGL (P:=X.P) (w:=w) hl h
 have h2:(fn.results.mapM (rv1 tmps)).run X.P w = .ok vs.toArray w:=by
  rw [hr];simp [h1,Result.andThen]
 have h3:∀u:List Value,(if h:u.toArray.size=1 then u.toArray[0] else Value.tuple u.toArray)=zzk u:=by
  intro u
  match u with
  | []=>rfl
  | [v]=>rfl
  | v::v'::u=>rfl
 rw [zIK,Sem.run_bind,h2];simp only [Result.andThen_ok,Sem.run_pure,h3]
theorem zy6 (M:Mem X.P X.G w0 h0 F L w ν h φ) (hE:zbZ X h ν a E):∀{rv:List ResultVar} {xs:List (XV τ)},zsg X E L rv=some xs→(∀y∈xs,zjQ y=false)→∃vs:List Value,rv.length=vs.length∧vs.length=xs.length∧(∀(i:Nat) x v,rv[i]? = some x→vs[i]? = some v→(rv1 a.tmps x).run X.P w = .ok v w)∧∀(i:Nat) A v,xs[i]? = some A→vs[i]? = some v→XOk X.P X.G h ν A v
 | [],xs,e,_=>by cases e; exact ⟨[],rfl,rfl,(fun i x v h=>by simp at h),fun i A v h=>by simp at h⟩
 | .tmp t::rv,xs,e,hgv=>by
  unfold zsg at e;obtain ⟨hlt,e⟩:=zgF e
  split at e
  ·rename_i A hA
   split at e
   ·rename_i As hAs
    cases e;obtain ⟨vs,h1,h2,h3,h4⟩:=zy6 M hE hAs fun y hy=>hgv y (List.mem_cons_of_mem _ hy);obtain ⟨v,g1,g2,_⟩:=hE t A hA;have g2:=g2 hlt (hgv A (List.mem_cons_self ..));refine ⟨v::vs,by simp [h1],by simp [h2],fun i x u hx hu=>?_,fun i B u hB hu=>?_⟩
    ·cases i with
     | zero =>
      simp at hx hu;subst hx; subst hu;simp [rv1,Array.getD_eq_getD_getElem?,g2]
     | succ i=>exact h3 i x u (by simpa using hx) (by simpa using hu)
    ·cases i with
     | zero=>simp at hB hu; subst hB; subst hu; exact g1
     | succ i=>exact h4 i B u (by simpa using hB) (by simpa using hu)
   ·cases e
  ·cases e
 | .cell t ty::rv,xs,e,hgv=>by
  unfold zsg at e;obtain ⟨hlt,e⟩:=zgF e
  split at e
  ·rename_i id hA
   split at e
   ·rename_i bt cs hl
    split at e
    ·rename_i n hn
     split at e
     ·rename_i A hone
      split at e
      ·rename_i As hAs
       cases e;obtain ⟨vs,h1,h2,h3,h4⟩:=zy6 M hE hAs fun y hy=>hgv y (List.mem_cons_of_mem _ hy);obtain ⟨pv,g1,g2,_⟩:=hE t _ hA;have g2:=g2 hlt rfl;obtain ⟨b,q,us,hν,rfl,_,hh,hcs,hs⟩:=zDC M g1 hl
       have hld:∃u,(loadVar ty ⟨b,0,none⟩).run X.P w = .ok u w∧XOk X.P X.G h ν A u:=by
        unfold zF4 at hone
        split at hone
        ·rename_i l hcut
         obtain ⟨k1,k2⟩:=hcs.cut hcut;have hlen:=zzJ hcut
         split at hone
         ·rename_i hag
          cases hone;refine ⟨_,zvz (zwS hag) (zfC hn) (vs:=(us.drop 0).take n) (by rw [k1.len,hlen]) (fun j v hj=>?_),_,rfl,k1⟩;have:=hs.cells (o:=0) (n:=n) rfl j v hj;simpa using this
         ·rename_i hag
          split at hone
          ·rename_i c
           cases hone;obtain ⟨u,us',k3,k4,_⟩:=k1;refine ⟨u,zvy (zwS hag) (hs.cell (o:=0) ?_),k4⟩
           have:((us.drop 0).take n)[0]? = some u:=by rw [k3]; rfl
           rw [List.getElem?_take] at this
           split at this
           ·simpa using this
           ·cases this
          ·cases hone
         ·cases hone
        ·cases hone
       obtain ⟨u,k1,k2⟩:=hld;refine ⟨u::vs,by simp [h1],by simp [h2],fun i x u' hx hu=>?_,fun i B u' hB hu=>?_⟩
       ·cases i with
        | zero =>
         simp at hx hu;subst hx; subst hu;simp [rv1,Array.getD_eq_getD_getElem?,g2,asAddr,k1,Result.andThen]
        | succ i=>exact h3 i x u' (by simpa using hx) (by simpa using hu)
       ·cases i with
        | zero=>simp at hB hu; subst hB; subst hu; exact k2
        | succ i=>exact h4 i B u' (by simpa using hB) (by simpa using hu)
      ·cases e
     ·cases e
    ·cases e
   ·cases e
  ·cases e
theorem zGM (hE:zbZ X h ν a E):∀{js:List Nat} {xs:List (XV τ)},zCT E js=some xs→xs.length=js.length∧∀(i:Nat) A v,xs[i]? = some A→(js.map X.fx)[i]? = some v→XOk X.P X.G h ν A v
 | [],xs,e=>by cases e; exact ⟨rfl,fun i A v h=>by simp at h⟩
 | j :: js,xs,e=>by
  unfold zCT at e;obtain ⟨hlt,e⟩:=zgF e
  split at e
  ·rename_i A hA
   split at e
   ·rename_i As hAs
    cases e;obtain ⟨h1,h2⟩:=zGM hE hAs;obtain ⟨v,g1,_,_,g2⟩:=hE _ A hA
    have hj:j<gh:=by simpa using hlt
    have hv:v=X.fx j:=by
     have:=g2 (Nat.le_add_right ..) (by unfold gh at hj ⊢; omega)
     rwa [Nat.add_sub_cancel_left] at this
    subst hv;refine ⟨by simp [h1],fun i B u hB hu=>?_⟩
    cases i with
    | zero=>simp at hB hu; subst hB; subst hu; exact g1
    | succ i=>exact h2 i B u (by simpa using hB) (by simpa using hu)
   ·cases e
  ·cases e

theorem zGN:∀{ts:List Ty} {p:DP τ ts} {i0:Nat} {nid:Nat} {E:zE τ} {L:Hp τ} {nid':Nat} {vs:List Value} {fp:List Nat} {L0:Hp τ} {ν:Vn τ} {φ:Nat→List Nat},zCU X.G i0 ts p nid=(E,L,nid')→Mem X.P X.G w0 h0 F L0 w ν h φ→TrXs X.P X.G h w ts p vs fp→(∀(j:Nat) v,vs[j]? = some v→a.tmps[i0+j]? = some v) →
  i0+ts.length≤gh→zhX w0 h F φ fp→(∀i,nid≤i→i<nid'→ν i=none)→nid≤nid'∧(∃ν' φ',Adds X.P X.G w0 h0 F L0 w ν h φ L nid nid' fp ν' φ'∧zbZ X h ν' a E)∧∀t x,asc E t=some x→i0≤t∧t<i0+ts.length
 | [],p,i0,nid,E,L,nid',vs,fp,L0, ν, φ,e,M,ht,hs,hlt,hf,hn=>by
  cases e;exact ⟨Nat.le_refl _,⟨ν, φ,(Grew.nil M _ _).adds,fun t x e=>by cases e⟩,fun t x e=>by cases e⟩
 | ty::ts,p,i0,nid,E,L,nid',vs,fp,L0, ν, φ,e,M,ht,hs,hlt,hf,hn=>by
  unfold zCU at e
  split at e
  rename_i A U n1 h1
  split at e
  rename_i E2 L2 n2 h2
  cases e;simp only [List.length_cons] at hlt
  cases ht with
  | cons _ _ _ v us f f' t1 t2 hd =>
   have l1:=zvh h1;have hle2:n1≤nid':=packP_le h2;obtain ⟨_,⟨ν1, φ1,A1,e1⟩,hk⟩:=zGN h2 M t2 (fun j v hj=>by have:=hs (j+1) v (by simpa using hj); rwa [show i0+(j+1)=i0+1+j by omega] at this) (by omega) (hf.sub fun b hb=>List.mem_append_right _ hb) (fun i a b=>hn i (by omega) b)
   obtain ⟨ν2, φ2,A2,hx⟩:=zyV A1.mem h1 t1 (fun i a b=>by
    cases e:ν1 i with
    | none=>rfl
    | some y =>
     have:=A1.fresh i (hn i a (by omega)) (by rw [e]; simp)
     omega) (zhX.adds A1 (hf.sub fun b hb=>List.mem_append_left _ hb) hd)
   refine ⟨by omega,⟨ν2, φ2,Adds.seq A1 A2 l1 hle2,fun t' x e=>?_⟩,fun t' x e=>?_⟩
   ·simp only [zdo,zbX] at e
    cases hb:Nat.beq i0 t' with
    | true =>
     rw [hb] at e;cases e
     have:i0=t':=by simpa using hb
     subst this;refine ⟨v,hx,fun _ _=>?_,fun h=>?_,fun h=>?_⟩
     ·have:=hs 0 v rfl; rwa [Nat.add_zero] at this
     ·exfalso; unfold gb at h; unfold gh at hlt; omega
     ·exfalso; omega
    | false =>
     rw [hb] at e;exact (e1 t' x e).le (Fz.le.refl _) A2.le
   ·simp only [zdo,zbX] at e;simp only [List.length_cons]
    cases hb:Nat.beq i0 t' with
    | true =>
     have:i0=t':=by simpa using hb
     omega
    | false =>
     rw [hb] at e;have:=hk t' x e;omega
where
 packP_le:∀{ts:List Ty} {p:DP τ ts} {i0 nid:Nat} {E:zE τ} {L:Hp τ} {nid':Nat},zCU X.G i0 ts p nid=(E,L,nid')→nid≤nid'
 | [],p,i0,nid,E,L,nid',e=>by cases e; exact Nat.le_refl _
 | ty::ts,p,i0,nid,E,L,nid',e=>by
  unfold zCU at e
  split at e
  rename_i A U n1 h1
  split at e
  rename_i E2 L2 n2 h2
  cases e;exact Nat.le_trans (zvh h1) (packP_le h2)
theorem TrXs.len {P:Program} {G:Sig τ}:∀{ts:List Ty} {q:DP τ ts} {vs:List Value} {fp:List Nat},TrXs P G h w ts q vs fp→vs.length=ts.length
 | _,_,_,_, .nil=>rfl
 | _,_,_,_, .cons _ _ _ _ _ _ _ _ h2 _=>by simp [h2.len]
theorem zGO {G:Sig τ}:∀{ts:List Ty} {As:List (XV τ)} {q:DP τ ts × List Nat × List Nat},zsc G L ts As=some q→(∀t∈ts, ∀x y,t ≠ .pr x y)→∀y∈As,zjQ y=false
 | [],[],_,_,_,y,hy=>by cases hy
 | t::ts,A::As,q,e,hp,y,hy=>by
  unfold zsc at e
  split at e
  ·rename_i x l m hx
   split at e
   ·rename_i q' hq
    rcases List.mem_cons.1 hy with rfl|hy
    ·exact zJi hx (hp t (List.mem_cons_self ..))
    ·exact zGO hq (fun t ht=>hp t (List.mem_cons_of_mem _ ht)) y hy
   ·cases e
  ·cases e
 | [],_::_,_,e,_,_,_=>by cases e
 | _::_,[],_,e,_,_,_=>by cases e
theorem zAm {vs:List Value} {X:Cx τ} {a:Act} {E:zE τ} {h:Fz} {ν:Vn τ} (hE:zbZ (X.w (bkV vs)) h ν a E) (hv:∀(j:Nat) x,asc E j=some x→zjQ x=false→XOk X.P X.G h ν x (vs.getD j undef)):∀{js:List Nat},zbZ (X.w (bkV vs)) h ν a (gho E js)
 | []=>fun t x e=>by cases e
 | j :: js=>by
  unfold gho
  split
  ·rename_i v hv1
   split
   ·rename_i c hc
    cases hb:Nat.blt j gh with
    | false=>exact zAm hE hv
    | true =>
     intro t x e;simp only [cond_true,zdo,zbX] at e
     cases ht:Nat.beq (gh+j) t with
     | false=>rw [ht] at e; exact zAm hE hv t x e
     | true =>
      rw [ht] at e;cases e
      have:gh+j=t:=by simpa using ht
      subst this
      have hjg:j<gh:=by simpa using hb
      have hg:zjQ v=false:=by
       cases v with
       | gv t x=>cases hj:j/32<;>rw [hj] at hc<;>cases hc
       | _=>rfl
      refine ⟨bkV vs j,zvi (hv _ _ hv1 hg) hc,fun h=>?_,fun h=>?_,fun _ _=>?_⟩
      ·exfalso; rw [Nat.blt_eq] at h; omega
      ·exfalso; unfold gb gh at *; omega
      ·show _=bkV vs (gh+j-gh); rw [Nat.add_sub_cancel_left]
   ·exact zAm hE hv
  ·exact zAm hE hv
def noPr:Ty→Bool
 | .pr _ _=>false
 | _=>true
structure FnOkk (X:Cx τ) (f:FuncId) (fn:Func) (c:Code) (rv:List ResultVar) (k:Con τ):Prop where
 at_:X.P.funcs[f]? = some fn
 body:fn.body=some c
 name:(fn.name == "runtime.NumGoroutine")=false
 size:fn.ntmps=X.n
 small:X.n≤gh
 pars:k.ps.length≤X.n
 rs:fn.results=⟨rv⟩
 pr:k.rs.all noPr=true
theorem zPF {f:FuncId} {fn:Func} {c:Code} {rv:List ResultVar} {k:Con τ} {hn:Hn τ (DP τ k.rs)} {op:(Nat→Value)→OpF τ (DP τ k.rs)} (hm:X.P.follows .mixedOrders=true) (hop:∀fx w0 h0 F,zwB (X.w fx) w0 h0 F (op fx)) (hf:FnOkk X f fn c rv k) (hF:zsh X k c rv hn op):COk X.P X.G f k:=by
 refine ⟨⟨fn,hf.at_,by rw [hf.body]; rfl,hf.name⟩,fun h w p r vs fp hgl hfp hon htr hnone hr=>?_⟩;refine calls_of_wp hf.at_ hf.body ?_;have hfact:=congrFun hF (bkV vs)
 injection hfact with f1 f2
 have f1:=congrFun f1 p;rw [hr] at f1;unfold entX at f1
 split at f1
 rename_i E0 L0 n0 hp
 have hlen:=htr.len
 have M0:Mem (X.w (bkV vs)).P (X.w (bkV vs)).G w h fp [] w (fun _=>none) h (fun _=>[]) :=
  ⟨rfl,rfl,rfl,Nat.le_refl _,fun _ _ _=>rfl,Fz.le.refl _,hon,fun b hb => .inl hb,fun _=>rfl,(fun _ _ _ h=>by cases h),(fun _ _ h=>by cases h),hgl,hfp⟩
 have htm:∀(j:Nat) v,vs[j]? = some v→(vs.toArray++Array.replicate (fn.ntmps-vs.toArray.size) undef)[0+j]? = some v:=by
  intro j v hj;rw [Nat.zero_add,Array.getElem?_append_left (by simpa using (List.getElem?_eq_some_iff.1 hj).1)];simpa using hj
 obtain ⟨_,⟨ν', φ',A,hE0⟩,hk⟩:=zGN (X:=X.w (bkV vs)) (a:=⟨vs.toArray++Array.replicate (fn.ntmps-vs.toArray.size) undef,[]⟩) hp M0 htr htm (by have:=hf.pars; have:=hf.small; simp only [Nat.zero_add]; exact Nat.le_trans hf.pars hf.small) (fun b hb=>⟨(fun _ h=>by cases h),hnone b hb, .inl hb⟩) (fun _ _ _=>rfl)
 have hsz:(vs.toArray++Array.replicate (fn.ntmps-vs.toArray.size) undef).size=X.n:=by
  have:=hf.pars;have:=hf.size
  simp; omega
 have hS:St (X.w (bkV vs)) w h fp ((gho E0 k.bk++E0)++glE X.G.gl) L0 n0 ⟨vs.toArray++Array.replicate (fn.ntmps-vs.toArray.size) undef,[]⟩ w:=by
  refine ⟨rfl,hsz, ν',h, φ',by have:=A.mem; rwa [List.append_nil] at this,((zAm hE0 fun j x hx hg=>?_).app hE0).app (zHA hgl fun _ _=>trivial),fun i hi=>?_⟩
  ·obtain ⟨v,b1,b2,_⟩:=hE0 j x hx;have hj:=hk j x hx
   have hjg:j<gh:=by have:=hf.pars; have:=hf.small; omega
   have hv:=b2 (by rw [Nat.blt_eq]; exact hjg) hg
   have hjl:j<vs.length:=by omega
   have h3:=htm j _ (List.getElem?_eq_getElem hjl);rw [Nat.zero_add] at h3;rw [h3] at hv;cases hv;rw [List.getD_eq_getElem?_getD,List.getElem?_eq_getElem hjl];exact b1
  ·cases e:ν' i with
   | none=>rfl
   | some y =>
    have:=A.fresh i rfl (by rw [e]; simp);omega
 refine exX_ok (X:=X.w (bkV vs)) (w0:=w) (h0:=h) (F:=fp) hm (hop _ _ _ _) hf.small c hn _ (bodyPost X.P fn _) _ L0 n0 _ w f1.symm f2 ?_ hS
 -- the end
 intro e E L nid a w' he s
 have key:∀{xs ws:List (XV τ)} {l m:List Nat},zsg (X.w (bkV vs)) E L rv=some xs→zCT E k.bk=some ws→zsc X.G L k.rs (xs++ws)=some (r,l,m)→(Nat.beq xs.length k.nr&&(nod l&&zx7 l m))=true →
   a.defers=[]∧∃v,(results fn a.tmps).run X.P w' = .ok v w'∧∃h' rs fp',Ending.returned v = .returned (zzk (rs.take k.nr))∧Left h w fp h' w' fp'∧TrXs X.P X.G h' w' k.rs r rs fp'∧rs.drop k.nr=k.bk.map (bkV vs):=by
  intro xs ws l m ho hb hres hck;simp only [Bool.and_eq_true,Nat.beq_eq] at hck;obtain ⟨hnr,hnod,hdis⟩:=hck;obtain ⟨ν,h1, φ,M,hE,_⟩:=s.st
  have hgv:=zGO hres fun t ht x y e=>by
   have:=List.all_eq_true.1 hf.pr t ht;rw [e] at this; cases this
  obtain ⟨vals,o1,o2,o3,o4⟩:=zy6 M hE ho fun y hy=>hgv y (List.mem_append_left _ hy);obtain ⟨b1,b2⟩:=zGM hE hb
  have hall:∀(i:Nat) (A:XV τ) (v:Value),(xs++ws)[i]? = some A→(vals++k.bk.map (bkV vs))[i]? = some v→XOk X.P X.G h1 ν A v:=by
   intro i A v hA hv
   by_cases hi:i<xs.length
   ·rw [List.getElem?_append_left hi] at hA;rw [List.getElem?_append_left (by omega)] at hv;exact o4 i A v hA hv
   ·rw [List.getElem?_append_right (by omega)] at hA;rw [List.getElem?_append_right (by omega),o2] at hv;exact b2 _ A v hA hv
  have htr:=zzl (L:=L) M (M.lend_le m) hres (fun _ _=>rfl) (M.look fun _ _=>rfl) hnod (by simp [o2,b1]) hall;refine ⟨s.nodef,zzk vals,zxS (X:=X) hf.rs o1 o3,zrt h1 w' (fps φ m),_,fps φ l,?_,⟨M.os,M.tape,M.output,M.size,M.frame,M.le.trans (M.lend_le m),zvB M.on,fun b hb=>?_,fun b hb=>?_⟩,htr,?_⟩
  ·rw [List.take_append_of_le_length (by omega),List.take_of_length_le (by omega)]
  ·by_cases hbm:b∈fps φ m
   ·obtain ⟨i,_,hi⟩:=mem_fps.1 hbm;exact .inr (M.out i b hi).2
   ·rw [zkq hbm] at hb; exact M.new b hb
  ·obtain ⟨i,_,hi⟩:=mem_fps.1 hb;rw [zkq (M.fps_dis (zwX hdis) b hb)];exact M.out i b hi
  ·rw [List.drop_append,List.drop_eq_nil_of_le (by omega),List.nil_append,show k.nr-vals.length=0 by omega,List.drop_zero]
 have fin:(match zsg (X.w (bkV vs)) E L rv with
  | some vs=>match zCT E k.bk with
   | some ws=>match zsc X.G L k.rs (vs++ws) with
    | some (p,l,m)=>bc (Nat.beq vs.length k.nr&&(nod l&&zx7 l m)) (some p) none
    | none=>none
   | none=>none
  | none=>none)=some r→a.defers=[]∧∃v,(results fn a.tmps).run X.P w' = .ok v w'∧∃h' rs fp',Ending.returned v = .returned (zzk (rs.take k.nr))∧Left h w fp h' w' fp'∧TrXs X.P X.G h' w' k.rs r rs fp'∧rs.drop k.nr=k.bk.map (bkV vs):=by
  intro he
  split at he
  ·rename_i xs ho
   split at he
   ·rename_i ws hb
    split at he
    ·rename_i q l m hres
     obtain ⟨hck,he⟩:=zgF he;cases he;exact key ho hb hres hck
    ·cases he
   ·cases he
  ·cases he
 cases e with
 | ex id=>cases he
 | no=>exact fin he
 | rt=>exact fin he
end
end Go.Rk
end
section
namespace Go.Rk
open Go.RowKit Go.Dm Go.Dk
noncomputable section
variable {τ:Nat→Type} {ρ:Type}
abbrev Kz (τ:Nat→Type) (ρ:Type):=Ex→zE τ→Hp τ→List Nat→Nat→Option ρ
def frN {α:Type} (n:Nat) (k:Nat→α):α:=match n with
 | 0=>k 0
 | n+1=>k (n+1)
def ap {α:Type} (U L:List α):List α:=List.rec (motive:=fun _=>List α) L (fun x _ ih=>x::ih) U
theorem ap_eq {α:Type} (U L:List α):ap U L=U++L:=by
 induction U with
 | nil=>rfl
 | cons x U ih=>show x::ap U L=_; rw [ih]; rfl
def opsZ (op:OpF τ ρ) (n:Nat) (all:List Oper):List Oper→zE τ→Hp τ→List Nat→Nat→(zE τ→Hp τ→List Nat→Nat→Option ρ)→Option ρ
 | [],E,L,T,nid,K=>K E L T nid
 | o::l,E,L,T,nid,K=>bc (dOk n o.dst) (zw1 all E o.guard
   (fun E=>op E L nid (fun v g U t nid=>frN nid fun nid=>opsZ op n all l (zCQ l o.dst v g E) (ap U L) (ap t T) nid K) o.op)
   fun E=>opsZ op n all l (unT E o.dst) L T nid K) none
def zAi (op:OpF τ ρ) (n:Nat) (all:List Oper):Nat→List Oper→List Dr→zE τ→Hp τ→List Nat→Nat→(zE τ→Hp τ→List Nat→Nat→Option ρ)→Option ρ
 | _,[],R,E,L,T,nid,K=>bc (zuA all R) (K E L T nid) none
 | i,o::l,R,E,L,T,nid,K=>bc (dOk n o.dst) (zw1 all E o.guard
   (fun E=>op E L nid (fun v g U t nid=>frN nid fun nid=>zAi op n all (i+1) l (⟨i,o.dst,zes all o,ap t (kys U),kys U⟩::R) (zCQ l o.dst v g E) (ap U L) (ap t T) nid K) o.op)
   fun E=>zAi op n all (i+1) l (⟨i,o.dst,zes all o,[],[]⟩::R) (unT E o.dst) L T nid K) none
def bsM (s k:Nat):Bool:=Nat.beq (Nat.land (Nat.shiftRight s k) 1) 1
def bsA (s k:Nat):Nat:=Nat.lor s (Nat.shiftLeft 1 k)
theorem zIE (s k:Nat):bsM s k=s.testBit k:=by
 have h1:Nat.land (Nat.shiftRight s k) 1=(s >>> k)%2:=Nat.and_one_is_mod (s >>> k);unfold bsM;rw [h1,Nat.testBit_eq_decide_div_mod_eq,Nat.shiftRight_eq_div_pow]
 cases Nat.mod_two_eq_zero_or_one (s/2^k) with
 | inl h=>rw [h]; rfl
 | inr h=>rw [h]; rfl
theorem zPw (s k j:Nat):bsM (bsA s k) j=(bsM s j||Nat.beq k j):=by
 rw [zIE,zIE]
 have h1:bsA s k=s ||| (1 <<< k):=rfl
 rw [h1,Nat.testBit_or,Nat.one_shiftLeft,Nat.testBit_two_pow]
 cases hb:Nat.beq k j with
 | true=>rw [decide_eq_true (by simpa using hb)]
 | false=>rw [decide_eq_false (fun e=>by subst e; simp at hb)]
theorem zNF (j:Nat):bsM 0 j=false:=by rw [zIE]; exact Nat.zero_testBit j
def Bsr (s:Nat) (l:List Nat):Prop:=∀k,bsM s k=mem l k
theorem Bsr.nil:Bsr 0 []:=fun k=>by rw [zNF]; rfl
theorem Bsr.cons {s:Nat} {l:List Nat} (h:Bsr s l) (k:Nat):Bsr (bsA s k) (k::l):=fun j=>by
  rw [zPw,h j];rw [mem_cons]
  have:Nat.beq k j=Nat.beq j k:=by
    cases hb:Nat.beq k j with
    | true => have:k=j:=by simpa using hb
              subst this; exact hb.symm
    | false =>
      cases hc:Nat.beq j k with
      | false=>rfl
      | true => have:j=k:=by simpa using hc
                subst this; rw [hc] at hb; cases hb
  rw [this,Bool.or_comm]
def cmU (lo hi:Nat):List Nat→Hp τ→Hp τ
 | _,[]=>[]
 | sn,(k,v)::U=>bif mem sn k then cmU lo hi sn U else match v with
  | .gone=>bif Nat.ble lo k&&Nat.blt k hi then cmU lo hi (k::sn) U else (k, .gone)::cmU lo hi (k::sn) U
  | v=>(k,v)::cmU lo hi (k::sn) U
def zAj (lo hi:Nat):Nat→Hp τ→Hp τ
 | _,[]=>[]
 | s,(k,v)::U=>bif bsM s k then zAj lo hi s U else match v with
  | .gone=>bif Nat.ble lo k&&Nat.blt k hi then zAj lo hi (bsA s k) U else (k, .gone)::zAj lo hi (bsA s k) U
  | v=>(k,v)::zAj lo hi (bsA s k) U
theorem zEq {lo hi:Nat}:∀{U:Hp τ} {s:Nat} {sn:List Nat},Bsr s sn→zAj lo hi s U=cmU lo hi sn U
 | [],_,_,_=>rfl
 | (k,v)::U,s,sn,h=>by
  unfold zAj cmU;rw [h k,zEq h,zEq (h.cons k)]
def dd (lo hi:Nat):List Nat→List Nat→List Nat
 | _,[]=>[]
 | sn,t::T=>bif mem sn t||(Nat.ble lo t&&Nat.blt t hi) then dd lo hi sn T else t::dd lo hi (t::sn) T
def ddb (lo hi:Nat):Nat→List Nat→List Nat
 | _,[]=>[]
 | s,t::T=>bif bsM s t||(Nat.ble lo t&&Nat.blt t hi) then ddb lo hi s T else t::ddb lo hi (bsA s t) T
theorem zIF {lo hi:Nat}:∀{T:List Nat} {s:Nat} {sn:List Nat},Bsr s sn→ddb lo hi s T=dd lo hi sn T
 | [],_,_,_=>rfl
 | t::T,s,sn,h=>by
  unfold ddb dd;rw [h t,zIF h,zIF (h.cons t)]
def nodB:Nat→List Nat→Bool
 | _,[]=>true
 | s,i::l=>bif bsM s i then false else nodB (bsA s i) l
theorem zJ7:∀{l:List Nat} {s:Nat} {sn:List Nat},Bsr s sn→nodB s l=true→nod l=true∧∀i∈l,i∉sn
 | [],_,_,_,_=>⟨rfl,fun i h=>by cases h⟩
 | i :: l,s,sn,h,e=>by
  unfold nodB at e
  cases hb:bsM s i with
  | true=>rw [hb] at e; cases e
  | false =>
   rw [hb] at e;obtain ⟨h1,h2⟩:=zJ7 (h.cons i) e;have hni:i∉l:=fun hi=>h2 i hi (List.mem_cons_self ..);refine ⟨?_,fun j hj hs=>?_⟩
   ·unfold nod;rw [h1]
    cases hm:mem l i with
    | false=>rfl
    | true =>
     obtain ⟨j,hj,hji⟩:=List.any_eq_true.1 (ztx _ _▸hm)
     have:i=j:=by simpa using hji
     subst this;exact (hni hj).elim
   ·rcases List.mem_cons.1 hj with rfl|hj
    ·have h3:=h j;rw [hb] at h3
     have:mem sn j=true:=by rw [ztx]; exact List.any_eq_true.2 ⟨j,hs,by simp⟩
     rw [this] at h3;cases h3
    ·exact h2 j hj (List.mem_cons_of_mem _ hs)
def bsL:List Nat→Nat
 | []=>0
 | i::l=>bsA (bsL l) i
theorem zNH:∀l:List Nat,Bsr (bsL l) l
 | []=>Bsr.nil
 | i::l=>(zNH l).cons i
def zNI (l m:List Nat):Bool:=match m with
 | []=>true
 | m=>(fun s=>zBf l fun i => !bsM s i) (bsL m)
theorem zNJ {l m:List Nat} (h:zNI l m=true):zx7 l m=true:=by
 cases m with
 | nil=>rw [zzD,List.all_eq_true]; intro i _; rfl
 | cons j m =>
  have h:(zBf l fun i => !bsM (bsL (j::m)) i)=true:=h;rw [zy2] at h;rw [zzD];rw [List.all_eq_true] at h ⊢;intro i hi;rw [← zNH (j::m) i];exact h i hi
def cmT (lo hi:Nat) (L:Hp τ) (T:List Nat):List Nat:=bif zBf L fun p=>Nat.blt p.1 lo then ddb lo hi 0 T else T
def gvB:XV τ→Bool
 | .gv _ _=>true
 | _=>false
def Cx.wn (X:Cx τ) (n:Nat):Cx τ:=⟨X.P,X.G,X.ty,X.cs,n,X.fx⟩
def nfE:List Nat→zE τ→(zE τ→Option ρ)→Option ρ
 | _,[],K=>K []
 | sn,(t,v)::E,K=>bc (mem sn t) (nfE sn E K) (nfE (t::sn) E fun E=>K ((t,v)::E))
def argE:Nat→List (XV τ)→zE τ
 | _,[]=>[]
 | i,v::vs=>(i,v)::argE (i+1) vs
def zGI:Nat→List Nat→Bool
 | _,[]=>true
 | k,i::l=>bif Nat.blt k i then zGI i l else false
def nodF:List Nat→Bool
 | []=>true
 | i::l=>bif zGI i l then true else nodB 0 (i::l)
theorem zJ8:∀{l:List Nat} {k:Nat},zGI k l=true→∀j∈l,k<j
 | [],_,_,j,hj=>by cases hj
 | i::l,k,h,j,hj=>by
  unfold zGI at h
  cases hb:Nat.blt k i with
  | false=>rw [hb] at h; cases h
  | true =>
   rw [hb] at h
   have hk:k<i:=by simpa using hb
   rcases List.mem_cons.1 hj with rfl|hj
   ·exact hk
   ·exact Nat.lt_trans hk (zJ8 h j hj)
theorem zGJ:∀{l:List Nat} {k:Nat},zGI k l=true→nod (k::l)=true
 | l,k,h=>by
  have hm:mem l k=false:=by
   cases hc:mem l k with
   | false=>rfl
   | true =>
    obtain ⟨j,hj,hjk⟩:=List.any_eq_true.1 (ztx _ _▸hc);have:=zJ8 h j hj;simp at hjk;omega
  unfold nod;rw [hm]
  cases l with
  | nil=>rfl
  | cons i l =>
   unfold zGI at h
   cases hb:Nat.blt k i with
   | false=>rw [hb] at h; cases h
   | true=>rw [hb] at h; simpa using zGJ h
theorem zNK {l:List Nat} (h:nodF l=true):nod l=true:=by
 cases l with
 | nil=>rfl
 | cons i l =>
  replace h:(bif zGI i l then true else nodB 0 (i::l))=true:=h
  cases hb:zGI i l with
  | true=>exact zGJ hb
  | false=>rw [hb] at h; exact (zJ7 Bsr.nil h).1
def zv6 (X:Cx τ) (L:Hp τ) (nid:Nat) (K:Nx τ ρ) (f:FuncId) (avs:List (XV τ)) (z:Option ρ):zx6 τ→Option ρ
 | []=>z
 | (g,k)::cs=>bc (Nat.beq g f) (match zsc X.G L k.ps avs with
 | some (p,l,m)=>bc (nodF l&&zNI l m)
   (match (bif k.rs.any (zmu X.G depth) then freeze L m else some []) with
   | some Z=>match roots avs k.bk with
    | some rs=>bc (nod (zvG rs)&&(zvG rs).all (mem l)) (match k.m p with
     | some r=>resK X.G (zzG k.nr rs) k.rs r nid fun vs U nid'=>match zBh vs with
      | some v=>K v [.gv (prT k.rs) (DP.pr k.rs r)] (U++(zoA l++Z)) (l++m) nid'
      | none=>none
     | none=>zv6 X L nid K f avs z cs) z
    | none=>z
   | none=>z)
   (zv6 X L nid K f avs z cs)
 | none=>zv6 X L nid K f avs z cs) (zv6 X L nid K f avs z cs)
def zCc (E:zE τ):List ResultVar→List Nat
 | []=>[]
 | .tmp _::rs=>zCc E rs
 | .cell t _::rs=>match asc E t with
  | some (.c (.pt id 0))=>id::zCc E rs
  | _=>zCc E rs
inductive Bt (α:Type) where
 | nil
 | lf (k:Nat) (v:α)
 | nd (k:Nat) (a b:Bt α)
def Bt.get {α:Type}:Bt α→Nat→Option α
 | .nil,_=>none
 | .lf k v,f=>bif Nat.beq k f then some v else none
 | .nd k a b,f=>bif Nat.blt f k then a.get f else b.get f
structure FnS (P:Program) where
 f:FuncId
 fn:Func
 ok:P.funcs[f]? = some fn
def fnS {P:Program} {f:FuncId} {fn:Func} (h:P.funcs[f]? = some fn):FnS P:=⟨f,fn,h⟩
structure Zx (X:Cx τ) where
 ct:FuncId→zx6 τ
 ft:Bt (FnS X.P)
abbrev InF (τ:Nat→Type) (ρ:Type):=Nat→Code→zE τ→Hp τ→List Nat→Nat→Kz τ ρ→Option ρ
def inl (X:Cx τ) (Z:Zx X) (ih:InF τ ρ) (L:Hp τ) (nid:Nat) (K:Nx τ ρ) (f:FuncId) (avs:List (XV τ)) (T:List Nat):Option ρ:=match Z.ft.get f with
 | some s=>bc (Nat.beq s.f f) (match s.fn.body with
  | some c=>bc (Nat.ble avs.length s.fn.ntmps&&Nat.ble s.fn.ntmps gh) (ih s.fn.ntmps c (argE 0 avs++glE X.G.gl) L T nid fun e E L' T nid'=>match e with
   | .ex _=>none
   | _=>match zsg X E L' s.fn.results.toList with
    | some vs=>bc (vs.any gvB) none (match zBh vs with
     | some v=>K v [] (zAj nid nid' 0 (L'.take (L'.length-L.length))) (cmT nid nid' L (zCc E s.fn.results.toList++T)) nid'
     | none=>none)
    | none=>none) none
  | none=>none) none
 | none=>none
def zIG (E:zE τ):List Operand→Option (List (CV τ))
 | []=>some []
 | x::xs=>match evC E x with
  | some c=>match zIG E xs with
   | some cs=>some (c::cs)
   | none=>none
  | none=>none
def z1B (P:Program) (te:TypeId):Bool:=match P.info? te with
 | some i=>match i.zero with
  | some _=>Nat.beq i.size 1
  | none=>false
 | none=>false
def zAk (E:zE τ):Nat→List (Nat × Operand)→Option (List (CV τ))
 | _,[]=>some []
 | k,(i,x)::ps=>bif Nat.beq i k then (match evC E x with
  | some c=>match zAk E (k+1) ps with
   | some cs=>some (c::cs)
   | none=>none
  | none=>none) else none
def vwB:AR τ→Bool
 | .vw _ _ _ _ _=>true
 | .sb _ _=>true
 | _=>false
def ixZ (X:Cx τ) (L:Hp τ) (nid:Nat) (K:Nx τ ρ) (id:Nat) (te:TypeId) (m:Int):Option ρ:=match lk L id with
 | .vw i k e lo xs=>match lk L i with
  | .row _ _ _ k'=>bc (Nat.beq k k'&&szE X te e) ((lAt xs m).bind fun z=>K (.c (.oe i k (lo+m.toNat:Nat) e z 0)) [] [] [id,i] nid) none
  | _=>none
 | .sb i n=>match szO X.P te with
  | some 1=>if 0≤m∧m<n then K (.c (.pt i m.toNat)) [] [] [id] nid else none
  | _=>none
 | _=>none
def opZ (X:Cx τ) (Z:Zx X) (ih:InF τ ρ):OpF τ ρ:=fun E L nid K o=>match o with
 | .binOp b t x y u=>match evX E y with
  | some (.c .n0)=>match X.P.underlying t with
   | some (.slice _)=>match evC E x with
    | some c=>match nilZ X.G L c with
     | some (z,ids)=>match okX (eqO b z) with
      | some v=>K v [] [] ids nid
      | none=>none
     | none=>none
    | none=>none
   | _=>none
  | _=>opX X E L nid K (.binOp b t x y u)
 | .call ⟨.value f,⟨args⟩,ats⟩=>match evC E f with
  | some (.fn g)=>match zuy E args with
   | some avs=>zv6 X L nid K g avs (inl X Z ih L nid K g avs []) (Z.ct g)
   | none=>none
  | some (.cf id)=>match lk L id with
   | .clo g bs cs=>match zuy E args with
    | some avs=>zv6 X L nid (fun v g U t n=>K v g U ([id]++t) n) g (bs.map .c++(avs++cs.map .c)) (inl X Z ih L nid K g (bs.map .c++(avs++cs.map .c)) [id]) (Z.ct g)
    | none=>none
   | _=>none
  | _=>opX X E L nid K o
 | .indexAddr t x y=>match evC E x with
  | some (.os id)=>bc (vwB (lk L id)) (match elO X.P t with
   | some te=>match evC E y with
    | some (.i m)=>ixZ X L nid K id te m
    | _=>none
   | none=>none) (opX X E L nid K (.indexAddr t x y))
  | _=>opX X E L nid K (.indexAddr t x y)
 | .call ⟨.builtin .len,⟨[x]⟩,⟨[t]⟩⟩=>match evC E x with
  | some (.os id)=>match lk L id with
   | .sb _ n=>match elO X.P t with
    | some _=>K (.c (.i (n:Int))) [] [] [id] nid
    | none=>none
   | _=>opX X E L nid K (.call ⟨.builtin .len,⟨[x]⟩,⟨[t]⟩⟩)
  | _=>opX X E L nid K (.call ⟨.builtin .len,⟨[x]⟩,⟨[t]⟩⟩)
 | .makeFunc (.func f) ⟨fs⟩ ⟨caps⟩=>match zIG E fs with
  | some bs=>match zIG E caps with
   | some cs=>K (.c (.cf nid)) [] [(nid, .clo f bs cs)] [] (nid+1)
   | none=>none
  | none=>none
 | .buildSlice t n ⟨ps⟩=>match elO X.P t with
  | some te=>match asc X.ty te with
   | some _=>opX X E L nid K (.buildSlice t n ⟨ps⟩)
   | none=>bc (z1B X.P te) (match zAk E 0 ps with
    | some cs=>bc (Nat.beq cs.length n&&Nat.ble n 65536) (K (.c (.os (nid+1))) [] [(nid+1, .sb nid n),(nid, .blk te cs)] [] (nid+2)) none
    | none=>none) none
  | none=>none
 | o=>opX X E L nid K o
def inZ (X:Cx τ) (Z:Zx X):Nat→InF τ ρ
 | 0,_,_,_,_,_,_,_=>none
 | k+1,n,c,E,L,T,nid,K=>match c with
  | .skip=>K .no E L T nid
  | .region _ ⟨l⟩ d=>bc d (zAi (opZ X Z (inZ X Z k)) n l 0 l [] E L T nid (K .no)) (opsZ (opZ X Z (inZ X Z k)) n l l E L T nid (K .no))
  | .seq x y=>inZ X Z k n x E L T nid fun e E L T nid=>match e with
   | .no=>inZ X Z k n y E L T nid K
   | e=>K e E L T nid
  | .cond c x y=>match evC E c with
   | some (.k b)=>bc b (inZ X Z k n x E L T nid K) (inZ X Z k n y E L T nid K)
   | some (.b b)=>match c with
    | .tmp s=>if b=true then inZ X Z k n x ((s, .c (.k true))::E) L T nid K else inZ X Z k n y ((s, .c (.k false))::E) L T nid K
    | _=>none
   | _=>none
  | .block id c=>inZ X Z k n c E L T nid fun e E L T nid=>match e with
   | .ex i=>bc (Nat.beq i id) (K .no E L T nid) (K (.ex i) E L T nid)
   | e=>K e E L T nid
  | .loop c=>inZ X Z k n c E L T nid fun e E L T nid=>match e with
   | .no=>nfE [] E fun E=>inZ X Z k n (.loop c) E L T nid K
   | e=>K e E L T nid
  | .exit id=>K (.ex id) E L T nid
  | .ret=>K .rt E L T nid
  | _=>none
def zrun (X:Cx τ) (Z:Zx X) (k:Nat) (f:FuncId) (avs:List (XV τ)):Option Bool:=inl X Z (inZ X Z k) [] 0 (fun v _ _ _ _=>match v with
 | .c (.b b)=>some b
 | .c (.k b)=>some b
 | _=>none) f avs []
end
end Go.Rk
end
section
namespace Go.Rk
open Go.RowKit Go.Dm Go.Dk
variable {τ:Nat→Type}
section
variable {ρ:Type} {X:Cx τ} {w0 w w':World} {h0 h h' H:Fz} {F:List Nat} {E E' Eb:zE τ} {L L2:Hp τ} {ν ν':Vn τ} {φ φ':Nat→List Nat} {nid nid':Nat} {r:ρ} {a:Act}
theorem zNc {α:Type} (n:Nat) (k:Nat→α):frN n k=k n:=by cases n<;>rfl
def OkC (X:Cx τ) (w0:World) (h0:Fz) (F:List Nat) (W:(Exit→Act→World→Prop)→Act→World→Prop) (E:zE τ) (L:Hp τ) (nid:Nat) (e:Ex) (E2:zE τ) (U:Hp τ) (T:List Nat) (nid2:Nat):Prop :=
 ∀(L2:Hp τ) (ν:Vn τ) (h:Fz) (φ:Nat→List Nat) (a:Act) (w:World) (Q:Exit→Act→World→Prop),a.defers=[]→a.tmps.size=X.n→Mem X.P X.G w0 h0 F L2 w ν h φ→zbZ X h ν a E →
  (∀i∈T,lk L2 i=lk L i)→(∀i,nid≤i→i<nid2→ν i=none) →
  (∀ν' h' φ' a' w',a'.defers=[]→a'.tmps.size=X.n→Mem X.P X.G w0 h0 F (U++L2) w' ν' h' φ'→ν.le ν'→h.le h'→zdq ν ν' nid nid2→zbZ X h' ν' a' E2→Q (exT e) a' w')→W Q a w
theorem zDD {U L L2:Hp τ} {i:Nat} (h:lk L2 i=lk L i):lk (U++L2) i=lk (U++L) i:=by
 by_cases hi:i∈kys U
 ·rw [zg9 _ hi,zg9 _ hi]
 ·rw [zcU _ hi,zcU _ hi,h]
theorem zF8 {a b c:Nat} (hfr:zdq ν ν' a b) (hn:∀i,a≤i→i<c→ν i=none) (hab:a≤b):∀i,b≤i→i<c→ν' i=none:=by
 intro i h1 h2
 cases e:ν' i with
 | none=>rfl
 | some y =>
  have:=hfr i (hn i (by omega) h2) (by rw [e]; simp);omega
theorem zCV {ν'':Vn τ} {a b c:Nat} (h1:zdq ν ν' a b) (h2:zdq ν' ν'' b c) (hab:a≤b) (hbc:b≤c):zdq ν ν'' a c:=h1.trans h2 hab hbc
theorem OkC.seq {W W1 W2:(Exit→Act→World→Prop)→Act→World→Prop} {E1 E2:zE τ} {U1 U2:Hp τ} {T1 T2:List Nat} {n1 n2:Nat} {e:Ex} (h1:OkC X w0 h0 F W1 E L nid .no E1 U1 T1 n1) (h2:OkC X w0 h0 F W2 E1 (U1++L) n1 e E2 U2 T2 n2) (l1:nid≤n1) (l2:n1≤n2)
  (hW:∀Q a w,W1 (Exit.then (W2 Q) Q) a w→W Q a w):OkC X w0 h0 F W E L nid e E2 (U2++U1) (T2++T1) n2:=by
 intro L2 ν h φ a w Q hd hs M hE hT hn hQ;refine hW Q a w (h1 L2 ν h φ a w _ hd hs M hE (fun i hi=>hT i (List.mem_append_right _ hi)) (fun i a b=>hn i a (by omega)) fun ν' h' φ' a' w' hd' hs' M' hν hh hfr hE'=>?_);refine h2 (U1++L2) ν' h' φ' a' w' Q hd' hs' M' hE' (fun i hi=>zDD (hT i (List.mem_append_left _ hi))) (zF8 hfr hn l1) fun ν'' h'' φ'' a'' w'' hd'' hs'' M'' hν' hh' hfr' hE''=>?_;exact hQ ν'' h'' φ'' a'' w'' hd'' hs'' (by rw [List.append_assoc]; exact M'') (hν.trans hν') (hh.trans hh') (zCV hfr hfr' l1 l2) hE''
theorem OkC.out {W W1:(Exit→Act→World→Prop)→Act→World→Prop} {E1:zE τ} {U1:Hp τ} {T1:List Nat} {n1:Nat} {e e':Ex} (h1:OkC X w0 h0 F W1 E L nid e E1 U1 T1 n1)
  (hW:∀Q a w,(∀Q',(∀a' w',Q (exT e') a' w'→Q' (exT e) a' w')→W1 Q' a w)→W Q a w):OkC X w0 h0 F W E L nid e' E1 U1 T1 n1:=by
 intro L2 ν h φ a w Q hd hs M hE hT hn hQ;exact hW Q a w fun Q' hq=>h1 L2 ν h φ a w Q' hd hs M hE hT hn fun ν' h' φ' a' w' hd' hs' M' hν hh hfr hE'=>hq a' w' (hQ ν' h' φ' a' w' hd' hs' M' hν hh hfr hE')
theorem OkC.nil {W:(Exit→Act→World→Prop)→Act→World→Prop} {e:Ex} (hW:∀Q a w,Q (exT e) a w→W Q a w):OkC X w0 h0 F W E L nid e E [] [] nid :=
 fun _ ν h φ a w Q hd hs M hE _ _ hQ=>hW Q a w (hQ ν h φ a w hd hs M (Vn.le.refl _) (Fz.le.refl _) (zdq.refl _ _ _) hE)
theorem OkC.ref {W:(Exit→Act→World→Prop)→Act→World→Prop} {E2:zE τ} {U:Hp τ} {T:List Nat} {e:Ex} (hr:Ref E E') (h1:OkC X w0 h0 F W E' L nid e E2 U T nid'):OkC X w0 h0 F W E L nid e E2 U T nid' :=
 fun L2 ν h φ a w Q hd hs M hE=>h1 L2 ν h φ a w Q hd hs M (hr.env hE)
theorem zDE {op:OpF τ ρ} (hop:zwB X w0 h0 F op) (hN:X.n≤gh) {all:List Oper}:∀{l:List Oper} {E:zE τ} {L:Hp τ} {T0:List Nat} {nid:Nat} {K:zE τ→Hp τ→List Nat→Nat→Option ρ},opsZ op X.n all l E L T0 nid K=some r →
  ∃E2 U T nid2,K E2 (U++L) (T++T0) nid2=some r∧nid≤nid2∧OkC X w0 h0 F (fun Q a w=>wpList X.P all.toArray Q l a w) E L nid .no E2 U T nid2
 | [],E,L,T0,nid,K,e=>⟨E,[],[],nid,e,Nat.le_refl _,OkC.nil fun Q a w h=>h⟩
 | o::l,E,L,T0,nid,K,e=>by
  unfold opsZ at e;obtain ⟨hd,e⟩:=zgF e;obtain ⟨m,E1,e,hr,hw⟩:=zs9 e
  cases m with
  | false =>
   simp only [Bool.false_eq_true,if_false] at e;rw [zDa] at e;obtain ⟨E2,U,T,n2,g1,g2,g3⟩:=zDE hop hN e;refine ⟨E2,U,T,n2,g1,g2,fun L2 ν h φ a w Q hdf hs M hE hT hn hQ=>?_⟩;have hwant:=hw X h ν a o rfl (hE.on _);show wpList X.P all.toArray Q (o::l) a w;unfold wpList;rw [hwant];simp only [Bool.false_eq_true,if_false];refine g3 L2 ν h φ _ w Q (by rw [ztb]; exact hdf) (by rw [zo8]; exact hs) M ?_ hT hn hQ;exact zta hN hd hs (fun _ h=>by cases h) rfl fun t x e _=>hr.env hE t x e
  | true =>
   simp only [if_true] at e;obtain ⟨v,g,U1,tch,n1,e1,hle,hg,hok⟩:=hop _ _ _ _ _ _ e;simp only [zNc] at e1;simp only [zve,ap_eq] at e1;obtain ⟨E2,U,T,n2,g1,g2,g3⟩:=zDE hop hN e1;refine ⟨E2,U++U1,T++tch,n2,by rw [List.append_assoc,List.append_assoc]; exact g1,by omega,fun L2 ν h φ a w Q hdf hs M hE hT hn hQ=>?_⟩;have hwant:=hw X h ν a o rfl (hE.on _);show wpList X.P all.toArray Q (o::l) a w;unfold wpList;rw [hwant];simp only [if_true]
   left
   refine hok L2 ν h φ a w _ Q hdf M ((hr.env hE).on _) (fun i hi=>hT i (List.mem_append_right _ hi)) (fun i h1 h2=>hn i h1 (by omega)) fun ν' h' φ' w' u M' hν hh hfr hv=>?_;refine g3 (U1++L2) ν' h' φ' _ w' Q (by rw [ztb]; exact hdf) (by rw [zo8]; exact hs) M' (zta hN hd hs hg hv fun t x e _=>((hr.env hE).le hh hν) t x e) (fun i hi=>zDD (hT i (List.mem_append_left _ hi))) (zF8 hfr hn hle) fun ν'' h'' φ'' a'' w'' hd'' hs'' M'' hν' hh' hfr' hE''=>?_;exact hQ ν'' h'' φ'' a'' w'' hd'' hs'' (by rw [List.append_assoc]; exact M'') (hν.trans hν') (hh.trans hh') (zCV hfr hfr' hle g2) hE''
theorem zIf {op:OpF τ ρ} (hop:zwB X w0 h0 F op) {all:List Oper} {K:zE τ→Hp τ→List Nat→Nat→Option ρ}:∀{l:List Oper} {i:Nat} {R:List Dr} {E Eb:zE τ} {L:Hp τ} {T0:List Nat} {nid:Nat},zAi op X.n all i l R E L T0 nid K=some r→Ref Eb E →
  ∃qs Eb' L' nid' E' T,zt8 X w0 h0 F all l Eb L nid qs Eb' L' nid'∧Ref Eb' E'∧zuA all ((drs all i qs).reverse++R)=true∧K E' L' (T++T0) nid'=some r∧∀q∈qs,q.run=true→∀k∈q.t,k∈T
 | [],i,R,E,Eb,L,T0,nid,e,hr=>by
  unfold zAi at e;obtain ⟨h1,e⟩:=zgF e;exact ⟨[],Eb,L,nid,E,[],⟨rfl,rfl,rfl⟩,hr,h1,e,fun q hq=>by cases hq⟩
 | o::l,i,R,E,Eb,L,T0,nid,e,hr=>by
  unfold zAi at e;obtain ⟨hd,e⟩:=zgF e;obtain ⟨m,E1,e,hr1,hw⟩:=zs9 e;have hr2:=hr.trans hr1;have hwant:∀(h:Fz) (ν:Vn τ) (a:Act),zeb X h ν a (gdR all o.guard) E→Region.wanted o (yielded all.toArray a.tmps)=m:=fun h ν a=>hw X h ν a o rfl
  cases m with
  | false =>
   simp only [Bool.false_eq_true,if_false] at e;rw [zDa] at e;obtain ⟨qs,Eb',L',nid',E',T,h1,h2,h3,h4,h5⟩:=zIf hop e (hr2.app _);refine ⟨⟨o,E,E1,L,nid,nid, .un,[],[],[],[],false⟩::qs,Eb',L',nid',E',T,⟨rfl,rfl,rfl,⟨hr,hr2,Nat.le_refl _,hd,hwant,(fun _ h=>by cases h),fun _=>⟨rfl,rfl⟩,fun h=>by cases h⟩,h1⟩,h2,?_,h4,fun q hq hrun k hk=>?_⟩
   ·simpa [drs,kys] using h3
   ·rcases List.mem_cons.1 hq with rfl|hq
    ·cases hrun
    ·exact h5 q hq hrun k hk
  | true =>
   simp only [if_true] at e;obtain ⟨v,g,U,tch,n1,e1,hle,hg,hok⟩:=hop _ _ _ _ _ _ e;simp only [zNc] at e1;simp only [zve,ap_eq] at e1;obtain ⟨qs,Eb',L',nid',E',T,h1,h2,h3,h4,h5⟩:=zIf hop e1 (hr2.app _);refine ⟨⟨o,E,E1,L,nid,n1,v,g,l,U,tch,true⟩::qs,Eb',L',nid',E',T++tch,⟨rfl,rfl,rfl,⟨hr,hr2,hle,hd,hwant,hg,(fun h=>by cases h),fun _=>hok⟩,h1⟩,h2,?_,by rw [List.append_assoc]; exact h4,fun q hq hrun k hk=>?_⟩
   ·simpa [drs] using h3
   ·rcases List.mem_cons.1 hq with rfl|hq
    ·exact List.mem_append_right _ hk
    ·exact List.mem_append_left _ (h5 q hq hrun k hk)
theorem zNd (hm:X.P.follows .mixedOrders=true) (hN:X.n≤gh) {op:OpF τ ρ} (hop:zwB X w0 h0 F op) {id:Nat} {l:List Oper} {T0:List Nat} {K:zE τ→Hp τ→List Nat→Nat→Option ρ} (e:zAi op X.n l 0 l [] E L T0 nid K=some r) :
  ∃E2 U T nid2,K E2 (U++L) (T++T0) nid2=some r∧nid≤nid2∧OkC X w0 h0 F (fun Q a w=>(Code.region id l.toArray true).wp X.P Q a w) E L nid .no E2 U T nid2:=by
 obtain ⟨qs,Eb',L',nid',E',T,hch,hrf,hok,hfin,hTT⟩:=zIf hop e (Ref.refl E);obtain ⟨c1,_,_,c4,_,_⟩:=zt8.get 0 hch;refine ⟨E',zkK Rec.U qs 0 (fun _=>true) [],T,nid',by rw [← zsj, ← c4]; exact hfin,c1,fun L2 ν h φ a w Q hd hs M hE hT hn hQ=>?_⟩;exact zCX hm hN hch hrf hok hTT hd hs M hE hT hn hQ
theorem zIg:∀{E:zE τ} {sn:List Nat} {K:zE τ→Option ρ},nfE sn E K=some r→∃E',K E'=some r∧∀t x,asc E' t=some x→asc E t=some x∧t∉sn
 | [],sn,K,e=>⟨[],e,fun t x h=>by cases h⟩
 | (t,v)::E,sn,K,e=>by
  unfold nfE at e
  cases hm:mem sn t with
  | true =>
   rw [hm] at e;obtain ⟨E',h1,h2⟩:=zIg (K:=K) (sn:=sn) e;refine ⟨E',h1,fun t' x hx=>?_⟩;obtain ⟨h3,h4⟩:=h2 t' x hx;refine ⟨?_,h4⟩;have:Nat.beq t t'=false:=zbL.2 fun e=>h4 (e▸zeE.1 hm);simp only [zdo,zbX,this,cond_false]; exact h3
  | false =>
   rw [hm] at e;obtain ⟨E',h1,h2⟩:=zIg (K:=fun E=>K ((t,v)::E)) (sn:=t::sn) e;refine ⟨_,h1,fun t' x hx=>?_⟩;simp only [zdo,zbX] at hx ⊢
   cases hb:Nat.beq t t' with
   | true =>
    rw [hb] at hx
    have:t=t':=by simpa using hb
    subst this;exact ⟨hx,fun h=>by rw [zeE.2 h] at hm; cases hm⟩
   | false =>
    rw [hb] at hx;obtain ⟨h3,h4⟩:=h2 t' x hx;exact ⟨h3,fun h=>h4 (List.mem_cons_of_mem _ h)⟩
theorem zDF {n:Nat} {h:Fz} {ν:Vn τ} {a:Act} {E:zE τ}:zbZ (X.wn n) h ν a E↔zbZ X h ν a E:=Iff.rfl
def Wm (P:Program) (m:Nat):Code→(Exit→Act→World→Prop)→Act→World→Prop
 | .loop c,Q,a,w=>Code.rounds P c Q m a w
 | c,Q,a,w=>c.wp P Q a w
theorem Wm_wp {P:Program} {m:Nat} {c:Code} {Q:Exit→Act→World→Prop} {a:Act} {w:World} (h:Wm P m c Q a w):c.wp P Q a w:=by
 cases c with
 | loop c=>exact wp_loop_rounds m h
 | _=>exact h
theorem OkC.wp {m:Nat} {c:Code} {E2:zE τ} {U:Hp τ} {T:List Nat} {e:Ex} (h1:OkC X w0 h0 F (Wm X.P m c) E L nid e E2 U T nid'):OkC X w0 h0 F (fun Q a w=>c.wp X.P Q a w) E L nid e E2 U T nid' :=
 fun L2 ν h φ a w Q hd hs M hE hT hn hQ=>Wm_wp (h1 L2 ν h φ a w Q hd hs M hE hT hn hQ)
def InOk (X:Cx τ) (w0:World) (h0:Fz) (F:List Nat) (ih:InF τ ρ):Prop:=∀(r:ρ) (n:Nat) (c:Code) (E:zE τ) (L:Hp τ) (T0:List Nat) (nid:Nat) (K:Kz τ ρ),n≤gh→ih n c E L T0 nid K=some r →
 ∃e E2 U T nid2 m,K e E2 (U++L) (T++T0) nid2=some r∧nid≤nid2∧OkC (X.wn n) w0 h0 F (Wm X.P m c) E L nid e E2 U T nid2
theorem zDG {lo hi:Nat}:∀{U:Hp τ} {sn:List Nat} {L:Hp τ},(∀k,lo≤k→k<hi→lk L k = .gone)→∀k,k∉sn→lk (cmU lo hi sn U++L) k=lk (U++L) k
 | [],_,_,_,_,_=>rfl
 | (j,v) :: U,sn,L,hg,k,hk=>by
  have skip:lk ((j,v)::U++L) k=bif Nat.beq j k then v else lk (U++L) k:=zm1 ..
  have keep:∀(u:AR τ),lk ((j,u)::cmU lo hi (j::sn) U++L) k=bif Nat.beq j k then u else lk (U++L) k:=by
   intro u;rw [List.cons_append,zm1]
   cases hb:Nat.beq j k with
   | true=>rfl
   | false =>
    have hne:¬ j=k:=zbL.1 hb
    exact zDG hg k fun h=>by
     rcases List.mem_cons.1 h with h|h
     ·exact hne h.symm
     ·exact hk h
  rw [skip];unfold cmU
  cases hm:mem sn j with
  | true =>
   have hne:Nat.beq j k=false:=zbL.2 fun e=>hk (e▸zeE.1 hm);rw [hne];exact zDG hg k hk
  | false =>
   simp only [cond_false]
   split
   ·cases hb:(Nat.ble lo j&&Nat.blt j hi) with
    | false=>exact keep .gone
    | true =>
     simp only [cond_true]
     cases hjk:Nat.beq j k with
     | true =>
      have:j=k:=by simpa using hjk
      subst this;simp only [Bool.and_eq_true,Nat.ble_eq,Nat.blt_eq] at hb
      have hin:∀(U:Hp τ) (sn:List Nat),j∈sn→j∉kys (cmU lo hi sn U):=by
       intro U
       induction U with
       | nil=>intro sn _ h; cases h
       | cons p U ih =>
        obtain ⟨i,v⟩:=p;intro sn hs;unfold cmU
        cases hmi:mem sn i with
        | true=>exact ih sn hs
        | false =>
         simp only [cond_false]
         have hne:¬ j=i:=fun e=>by rw [← e,zeE.2 hs] at hmi; cases hmi
         split
         ·cases (Nat.ble lo i&&Nat.blt i hi) with
          | true=>exact ih _ (List.mem_cons_of_mem _ hs)
          | false =>
           intro h
           rcases List.mem_cons.1 h with h|h
           ·exact hne h
           ·exact ih _ (List.mem_cons_of_mem _ hs) h
         ·intro h
          rcases List.mem_cons.1 h with h|h
          ·exact hne h
          ·exact ih _ (List.mem_cons_of_mem _ hs) h
      rw [zcU _ (hin U (j::sn) (List.mem_cons_self ..)),hg j hb.1 hb.2]; rfl
     | false =>
      have hne:¬ j=k:=zbL.1 hjk
      exact zDG hg k fun h=>by
       rcases List.mem_cons.1 h with h|h
       ·exact hne h.symm
       ·exact hk h
   ·exact keep _
theorem zIh {lo hi:Nat}:∀{T:List Nat} {sn:List Nat} {t:Nat},t∈T→t∈sn∨(lo≤t∧t<hi)∨t∈dd lo hi sn T
 | [],_,_,h=>by cases h
 | s :: T,sn,t,h=>by
  unfold dd
  cases hb:(mem sn s||(Nat.ble lo s&&Nat.blt s hi)) with
  | true =>
   simp only [cond_true]
   rcases List.mem_cons.1 h with rfl|h
   ·rw [Bool.or_eq_true,Bool.and_eq_true] at hb
    rcases hb with hb|hb
    ·exact .inl (zeE.1 hb)
    ·exact .inr (.inl (by simpa using hb))
   ·exact zIh h
  | false =>
   simp only [cond_false]
   rcases List.mem_cons.1 h with rfl|h
   ·exact .inr (.inr (List.mem_cons_self ..))
   ·rcases zIh (sn:=s::sn) h with h1|h1|h1
    ·rcases List.mem_cons.1 h1 with rfl|h1
     ·exact .inr (.inr (List.mem_cons_self ..))
     ·exact .inl h1
    ·exact .inr (.inl h1)
    ·exact .inr (.inr (List.mem_cons_of_mem _ h1))
theorem zNe {lo hi:Nat} {T:List Nat} (h:∀i∈cmT lo hi L T,lk L2 i=lk L i) (hg:∀i,lo≤i→i<hi→lk L2 i = .gone):∀i∈T,lk L2 i=lk L i:=by
 intro i hi';unfold cmT at h
 cases hb:(zBf L fun p=>Nat.blt p.1 lo) with
 | false=>rw [hb] at h; exact h i hi'
 | true =>
  rw [hb] at h;have h:∀i∈ddb lo hi 0 T,lk L2 i=lk L i:=h;rw [zIF Bsr.nil] at h
  rcases zIh (lo:=lo) (hi:=hi) (sn:=[]) hi' with h1|⟨h1,h2⟩|h1
  ·cases h1
  ·rw [hg i h1 h2]
   have:i∉kys L:=fun hk=>by
    obtain ⟨p,hp,rfl⟩:=List.mem_map.1 hk;have:=List.all_eq_true.1 (zy2 _ _▸hb) p hp;rw [Nat.blt_eq] at this; omega
   have h3:=zcU (U:=L) [] this;rw [List.append_nil] at h3;rw [h3]; rfl
  ·exact h i h1
theorem zF9:∀{avs:List (XV τ)} {i t:Nat} {A:XV τ},asc (argE i avs) t=some A→i≤t∧avs[t-i]? = some A
 | [],_,_,_,h=>by cases h
 | v::vs,i,t,A,h=>by
  simp only [argE,zdo,zbX] at h
  cases hb:Nat.beq i t with
  | true =>
   rw [hb] at h
   have:i=t:=by simpa using hb
   subst this;cases h;exact ⟨Nat.le_refl _,by simp⟩
  | false =>
   rw [hb] at h;have hne:¬ i=t:=zbL.1 hb;obtain ⟨h1,h2⟩:=zF9 h;refine ⟨by omega,?_⟩;rw [show t-i=(t-(i+1))+1 by omega]; exact h2
def zCW (X:Cx τ) (w0:World) (h0:Fz) (F:List Nat) (f:FuncId) (avs:List (XV τ)) (L:Hp τ) (nid:Nat) (v:XV τ) (U:Hp τ) (T:List Nat) (nid':Nat):Prop :=
 zcD X.P f∧∀(L2:Hp τ) (ν:Vn τ) (h:Fz) (φ:Nat→List Nat) (w:World) (vals:List Value),Mem X.P X.G w0 h0 F L2 w ν h φ→vals.length=avs.length→(∀(i:Nat) (A:XV τ) (u:Value),avs[i]? = some A→vals[i]? = some u→XOk X.P X.G h ν A u) →
  (∀i∈T,lk L2 i=lk L i)→(∀i,nid≤i→i<nid'→ν i=none) →
  Calls X.P f vals.toArray w fun e w'=>∃u ν' h' φ',e = .returned u∧Mem X.P X.G w0 h0 F (U++L2) w' ν' h' φ'∧ν.le ν'∧h.le h'∧zdq ν ν' nid nid'∧XOk X.P X.G h' ν' v u
theorem zuB {L':Hp τ} {E:zE τ}:∀{rv:List ResultVar},(∀i∈zCc E rv,lk L' i=lk L i)→zsg X E L' rv=zsg X E L rv
 | [],_=>rfl
 | .tmp t::rv,h=>by
  unfold zsg;rw [zuB (rv:=rv) h]
 | .cell t ty::rv,h=>by
  unfold zCc at h;unfold zsg
  split
  ·rename_i id hx
   rw [hx] at h;have h:∀i∈id::zCc E rv,lk L' i=lk L i:=h;rw [h id (List.mem_cons_self ..),zuB (rv:=rv) fun i hi=>h i (List.mem_cons_of_mem _ hi)]
  ·rfl
theorem zJV:∀{xs:List (XV τ)} {vs:List Value},vs.length=xs.length→(∀(i:Nat) (A:XV τ) (v:Value),xs[i]? = some A→vs[i]? = some v→XOk X.P X.G h ν A v)→zFJ X.P X.G h ν xs vs
 | [],vs,hl,_=>List.eq_nil_of_length_eq_zero hl
 | x::xs,[],hl,_=>by simp at hl
 | x::xs,v::vs,hl,hv=>⟨v,vs,rfl,hv 0 x v rfl rfl,zJV (by simpa using hl) fun i A u h1 h2=>hv (i+1) A u h1 h2⟩
theorem gvB_eq {x:XV τ}:gvB x=zjQ x:=by cases x<;>rfl
theorem zIi (hNm:∀(f:FuncId) (fn:Func),X.P.funcs[f]? = some fn→(fn.name == "runtime.NumGoroutine")=false) {Z:Zx X} {ih:InF τ ρ} (hih:InOk X w0 h0 F ih) {K:Nx τ ρ} {f:FuncId} {avs:List (XV τ)} {T0:List Nat} (e:inl X Z ih L nid K f avs T0=some r) :
  ∃v U T nid',K v [] U T nid'=some r∧nid≤nid'∧zCW X w0 h0 F f avs L nid v U T nid'∧∀{L2:Hp τ},(∀i∈T,lk L2 i=lk L i)→(∀i,nid≤i→i<nid'→lk L2 i = .gone)→∀i∈T0,lk L2 i=lk L i:=by
 unfold inl at e
 split at e
 ·rename_i s hs
  have e2:=(zgF e).2;have hsf:=(zgF e).1
  clear e
  obtain ⟨f',fn,hfn⟩:=s;have:f=f':=(show f'=f by simpa using hsf).symm;subst this;dsimp only at e2
  split at e2
  ·rename_i c hc
   obtain ⟨hb,e⟩:=zgF e2;simp only [Bool.and_eq_true,Nat.ble_eq] at hb;obtain ⟨ex,E2,U,T,n2,m,e,hle,hok⟩:=hih _ _ _ _ _ _ _ _ hb.2 e
   have main:∀{xs:List (XV τ)} {v:XV τ},(∀i,ex ≠ .ex i)→zsg X E2 (U++L) fn.results.toList=some xs→xs.any gvB=false→zBh xs=some v→zCW X w0 h0 F f avs L nid v (zAj nid n2 0 ((U++L).take ((U++L).length-L.length))) (cmT nid n2 L (zCc E2 fn.results.toList++(T++T0))) n2:=by
    intro xs v hex ho hgv htp;refine ⟨⟨fn,hfn,by rw [hc]; rfl,hNm f fn hfn⟩,fun L2 ν h φ w vals M hlen hvals hT hn=>?_⟩
    have htake:(U++L).take ((U++L).length-L.length)=U:=by
     rw [List.length_append,Nat.add_sub_cancel]; exact List.take_left
    rw [htake];have hgone:∀i,nid≤i→i<n2→lk L2 i = .gone:=fun i h1 h2=>M.gone_of (hn i h1 h2);have hT':=zNe hT hgone;refine calls_of_wp hfn hc ?_
    have hsz:(vals.toArray++Array.replicate (fn.ntmps-vals.toArray.size) undef).size=fn.ntmps:=by simp; omega
    refine Wm_wp (hok L2 ν h φ ⟨vals.toArray++Array.replicate (fn.ntmps-vals.toArray.size) undef,[]⟩ w _ rfl hsz M ?_ (fun i hi=>hT' i (List.mem_append_right _ (List.mem_append_left _ hi))) hn ?_)
    ·refine zbZ.app (X:=X) (fun t x hx=>?_) (zHA M.gl fun _ _=>trivial);obtain ⟨_,h2⟩:=zF9 hx;rw [Nat.sub_zero] at h2;have hlt:t<avs.length:=(List.getElem?_eq_some_iff.1 h2).1;have hv:vals[t]? = some vals[t]:=List.getElem?_eq_getElem (by omega)
     have hgh:t<gh:=by omega
     refine ⟨vals[t],hvals t x _ h2 hv,fun _ _=>?_,fun h=>?_,fun h=>?_⟩
     ·show (vals.toArray++Array.replicate (fn.ntmps-vals.toArray.size) undef)[t]? = _;rw [Array.getElem?_append_left (by simp; omega)];simp
     ·exfalso; unfold gb gh at *; omega
     ·exfalso; omega
    ·intro ν' h' φ' a' w' hd' hs' M' hν hh hfr hE'
     have hgv2:∀y∈xs,zjQ y=false:=fun y hy=>by
      rw [← gvB_eq]
      cases hg:gvB y with
      | false=>rfl
      | true=>rw [List.any_eq_true.2 ⟨y,hy,hg⟩] at hgv; cases hgv
     have ho2:zsg X E2 (U++L2) fn.results.toList=some xs:=by
      rw [zuB (L:=U++L) fun i hi=>zDD (hT' i (List.mem_append_left _ hi))]; exact ho
     obtain ⟨vs,o1,o2,o3,o4⟩:=zy6 (X:=X) M' hE' ho2 hgv2;have hres:=zxS (X:=X) (w:=w') (fn:=fn) (rv:=fn.results.toList) (tmps:=a'.tmps) rfl o1 o3
     have hpost:∃u ν2 h2 φ2,Ending.returned (zzk vs) = .returned u∧Mem X.P X.G w0 h0 F (zAj nid n2 0 U++L2) w' ν2 h2 φ2∧ν.le ν2∧h.le h2∧zdq ν ν2 nid n2∧XOk X.P X.G h2 ν2 v u :=
      ⟨_, ν',h', φ',rfl,M'.congr fun k=>by rw [zEq Bsr.nil]; exact zDG hgone k (by simp),hν,hh,hfr,zJx htp (zJV o2 o4)⟩
     cases ex with
     | no=>exact ⟨hd',_,hres,hpost⟩
     | rt=>exact ⟨hd',_,hres,hpost⟩
     | ex i=>exact (hex i rfl).elim
   have done:∀{xs:List (XV τ)} {v:XV τ},(∀i,ex ≠ .ex i)→zsg X E2 (U++L) fn.results.toList=some xs→xs.any gvB=false→zBh xs=some v→K v [] (zAj nid n2 0 ((U++L).take ((U++L).length-L.length))) (cmT nid n2 L (zCc E2 fn.results.toList++(T++T0))) n2=some r →
     ∃v U T nid',K v [] U T nid'=some r∧nid≤nid'∧zCW X w0 h0 F f avs L nid v U T nid'∧∀{L2:Hp τ},(∀i∈T,lk L2 i=lk L i)→(∀i,nid≤i→i<nid'→lk L2 i = .gone)→∀i∈T0,lk L2 i=lk L i :=
    fun hex ho hgv htp e=>⟨_,_,_,_,e,hle,main hex ho hgv htp,fun hT hg i hi=>zNe hT hg i (List.mem_append_right _ (List.mem_append_right _ hi))⟩
   have go:(∀i,ex ≠ .ex i)→(match zsg X E2 (U++L) fn.results.toList with
     | some vs=>bc (vs.any gvB) none (match zBh vs with
      | some v=>K v [] (zAj nid n2 0 ((U++L).take ((U++L).length-L.length))) (cmT nid n2 L (zCc E2 fn.results.toList++(T++T0))) n2
      | none=>none)
     | none=>none)=some r→∃v U T nid',K v [] U T nid'=some r∧nid≤nid'∧zCW X w0 h0 F f avs L nid v U T nid'∧∀{L2:Hp τ},(∀i∈T,lk L2 i=lk L i)→(∀i,nid≤i→i<nid'→lk L2 i = .gone)→∀i∈T0,lk L2 i=lk L i:=by
    intro hex e
    split at e
    ·rename_i xs ho
     obtain ⟨hgv,e⟩:=bc_f e
     split at e
     ·rename_i v htp
      exact done hex ho hgv htp e
     ·cases e
    ·cases e
   cases ex with
   | ex i=>cases e
   | no=>exact go (fun i h=>by cases h) e
   | rt=>exact go (fun i h=>by cases h) e
  ·cases e2
 ·cases e
end
end Go.Rk
end
section
namespace Go.Rk
open Go.RowKit Go.Dm Go.Dk
variable {τ:Nat→Type}
section
variable {ρ:Type} {X:Cx τ} {w0 w w':World} {h0 h h' H:Fz} {F:List Nat} {o:Oper} {E:zE τ} {L L2:Hp τ} {ν ν':Vn τ} {φ φ':Nat→List Nat} {nid nid':Nat} {K:Nx τ ρ} {r:ρ} {v:XV τ} {U:Hp τ} {tch:List Nat} {g:List (XV τ)}
variable {a:Act} {x y z:Operand} {t' t ty u':Nat} {dst:Option Nat} {p:String} {af:Array Edge} {gd:Option (Nat × Bool)}
theorem zKJ {f:Nat} {args:List Operand} {avs:List (XV τ)} {ats:Array TypeId} {T:List Nat} (hx:evC E x=some (.fn f)) (hargs:zuy E args=some avs) (k:K v [] U T nid'=some r) (hle:nid≤nid') (hi:zCW X w0 h0 F f avs L nid v U T nid') :
  zde X w0 h0 F ⟨dst, .call ⟨.value x,⟨args⟩,ats⟩,t,p,af,gd⟩ E L nid K r:=by
 refine ⟨_,_,_,_,_,k,hle,(fun _ h=>by cases h),fun L2 ν h φ a w next Q hd M hE ha hfr kk=>?_⟩;obtain ⟨hlen,hidx⟩:=zwC hargs
 have hvs:∀(i:Nat) (A:XV τ) (v:Value),avs[i]? = some A→(args.map a.eval)[i]? = some v→XOk X.P X.G h ν A v:=by
  intro i A v hA hv;obtain ⟨z,hz,hzA⟩:=hidx i A hA;rw [List.getElem?_map,hz] at hv;cases hv;exact zrj hd (hE.op (by simp only [Op.operands,Call.operands]; simp; exact .inr (List.mem_of_getElem? hz))) hzA
 have hcalls:=hi.2 L2 ν h φ w (args.map a.eval) M (by simp [hlen]) hvs ha hfr;obtain ⟨Ea,hf,hl'⟩:=zdD a hd;obtain ⟨vx,g1,g2⟩:=zj hl' (hE.op (by simp [Op.operands,Call.operands])) hx;obtain rfl:vx=_:=g2;have hexec:=zAZ (X:=X) (w:=w) (dst:=dst) (t:=t) (p:=p) (af:=af) (gd:=gd) (ats:=ats) (args:=⟨args⟩) (vs:=args.map a.eval) hi.1 (hf.ev g1) (by simp);unfold Oper.wp;rw [hexec];refine Calls.mono hcalls ?_;rintro e1 w' ⟨u, ν',h', φ',rfl,M',hν,hh,hfr',hv⟩;exact kk ν' h' φ' w' u M' hν hh hfr' hv
theorem CVs.getl:∀{cs:List (CV τ)} {vs:List Value},CVs X.P X.G h ν cs vs→vs.length=cs.length∧∀(i:Nat) (c:CV τ) (v:Value),cs[i]? = some c→vs[i]? = some v→zcT X.P X.G h ν c v
 | [],vs,e=>by cases e; exact ⟨rfl,fun i c v h=>by simp at h⟩
 | c::cs,_,⟨u,us,rfl,h1,h2⟩=>by
  obtain ⟨h3,h4⟩:=CVs.getl h2;refine ⟨by simp [h3],fun i d v hc hv=>?_⟩
  cases i with
  | zero=>simp at hc hv; subst hc; subst hv; exact h1
  | succ i=>exact h4 i d v (by simpa using hc) (by simpa using hv)
theorem zGc {f id:Nat} {args:List Operand} {avs:List (XV τ)} {bs cs:List (CV τ)} {ats:Array TypeId} (hx:evC E x=some (.cf id)) (hlk:lk L id = .clo f bs cs) (hargs:zuy E args=some avs) :
  Entr X w0 h0 F E L [id] ⟨dst, .call ⟨.value x,⟨args⟩,ats⟩,t,p,af,gd⟩ f (bs.map .c++(avs++cs.map .c)):=fun L2 ν h φ a w hd M hE ha hcall=>by
 obtain ⟨hlen,hidx⟩:=zwC hargs;obtain ⟨Ea,hf,hl'⟩:=zdD a hd;obtain ⟨vx,g1,g2⟩:=zj hl' (hE.op (by simp [Op.operands,Call.operands])) hx;obtain ⟨f',us',vs',q,g3,rfl⟩:=g2;have hres:=M.res id;rw [ha id (List.mem_singleton.2 rfl),hlk] at hres;obtain ⟨us,vs,q',g4,_,g5,g6⟩:=hres;rw [g3] at g4;cases g4;obtain ⟨hbl,hbg⟩:=CVs.getl g5;obtain ⟨hcl,hcg⟩:=CVs.getl g6;refine ⟨us'++(args.map a.eval++vs'),by simp [hlen,hcl,hbl],fun i A v hA hv=>?_,zA0 (X:=X) (w:=w) (dst:=dst) (t:=t) (p:=p) (af:=af) (gd:=gd) (ats:=ats) (args:=⟨args⟩) (us:=us') (vs:=args.map a.eval) (cs:=vs') hcall (hf.ev g1) (by simp)⟩
 by_cases hb:i<bs.length
 ·rw [List.getElem?_append_left (by simpa using hb),List.getElem?_map] at hA;rw [List.getElem?_append_left (by omega)] at hv;obtain ⟨c,hc,rfl⟩:=Option.map_eq_some_iff.1 hA;exact hbg _ c v hc hv
 rw [List.getElem?_append_right (by simp; omega)] at hA;rw [List.getElem?_append_right (by omega)] at hv;simp only [List.length_map] at hA;rw [hbl] at hv
 by_cases hi:i-bs.length<avs.length
 ·rw [List.getElem?_append_left hi] at hA;rw [List.getElem?_append_left (by simp; omega)] at hv;obtain ⟨z,hz,hzA⟩:=hidx _ A hA;rw [List.getElem?_map,hz] at hv;cases hv;exact zrj hd (hE.op (by simp only [Op.operands,Call.operands]; simp; exact .inr (List.mem_of_getElem? hz))) hzA
 ·rw [List.getElem?_append_right (by omega),List.getElem?_map] at hA;rw [List.getElem?_append_right (by simp; omega)] at hv;obtain ⟨c,hc,rfl⟩:=Option.map_eq_some_iff.1 hA;simp only [List.length_map] at hv;rw [← hlen] at hv;exact hcg _ c v hc hv
theorem zIp {f id:Nat} {args:List Operand} {avs:List (XV τ)} {bs cs:List (CV τ)} {ats:Array TypeId} {T:List Nat} (hx:evC E x=some (.cf id)) (hlk:lk L id = .clo f bs cs) (hargs:zuy E args=some avs) (k:K v [] U T nid'=some r) (hle:nid≤nid') (hi:zCW X w0 h0 F f (bs.map .c++(avs++cs.map .c)) L nid v U T nid')
  (hT:∀{L2:Hp τ},(∀i∈T,lk L2 i=lk L i)→(∀i,nid≤i→i<nid'→lk L2 i = .gone)→∀i∈[id],lk L2 i=lk L i) :
  zde X w0 h0 F ⟨dst, .call ⟨.value x,⟨args⟩,ats⟩,t,p,af,gd⟩ E L nid K r:=by
 refine ⟨_,_,_,_,_,k,hle,(fun _ h=>by cases h),fun L2 ν h φ a w next Q hd M hE ha hfr kk=>?_⟩;obtain ⟨vals,h1,h2,hexec⟩:=zGc (dst:=dst) (ats:=ats) (t:=t) (p:=p) (af:=af) (gd:=gd) hx hlk hargs L2 ν h φ a w hd M hE (hT ha fun i h1 h2=>M.gone_of (hfr i h1 h2)) hi.1;have hcalls:=hi.2 L2 ν h φ w vals M h1 h2 ha hfr;unfold Oper.wp;rw [hexec];refine Calls.mono hcalls ?_;rintro e1 w' ⟨u, ν',h', φ',rfl,M',hν,hh,hfr',hv⟩;exact kk ν' h' φ' w' u M' hν hh hfr' hv
theorem zDN {Ea:Env} {N:Nat} (hf:Fits N Ea a) (hl:∀t,Dk.look Ea t=a.tmps[t]?):∀{xs:List Operand} {cs:List (CV τ)},zIG E xs=some cs→(∀x∈xs,zeb X h ν a (zw2 x) E)→CVs X.P X.G h ν cs (xs.map a.eval)
 | [],cs,e,_=>by cases e; rfl
 | x::xs,cs,e,hE=>by
  unfold zIG at e
  split at e
  ·rename_i c hc
   split at e
   ·rename_i cs' hcs
    cases e;obtain ⟨v,h1,h2⟩:=zj hl (hE x (List.mem_cons_self ..)) hc;exact ⟨a.eval x,xs.map a.eval,rfl,by rw [hf.ev h1]; exact h2,zDN hf hl hcs fun x hx=>hE x (List.mem_cons_of_mem _ hx)⟩
   ·cases e
  ·cases e
theorem zKK {f:Nat} {fs caps:List Operand} {bs cs:List (CV τ)} (hb:zIG E fs=some bs) (hc:zIG E caps=some cs) (k:K (.c (.cf nid)) [] [(nid, .clo f bs cs)] [] (nid+1)=some r):zde X w0 h0 F ⟨dst, .makeFunc (.func f) ⟨fs⟩ ⟨caps⟩,t,p,af,gd⟩ E L nid K r:=by
 refine ⟨_,_,_,_,_,k,Nat.le_succ _,(fun _ h=>by cases h),fun L2 ν h φ a w next Q hd M hE ha hfr kk=>?_⟩;have hn:=hfr nid (Nat.le_refl _) (Nat.lt_succ_self _);obtain ⟨Ea,hf,hl'⟩:=zdD a hd;have hbv:=zDN (h:=h) (ν:=ν) hf hl' hb fun x hx=>hE.op (by simp [Op.operands]; exact .inl hx);have hcv:=zDN (h:=h) (ν:=ν) hf hl' hc fun x hx=>hE.op (by simp [Op.operands]; exact .inr hx)
 have hrun:(execOp a.eval ⟨dst, .makeFunc (.func f) ⟨fs⟩ ⟨caps⟩,t,p,af,gd⟩).run X.P w = .ok (.value (.func (.func f) ⟨fs.map a.eval⟩ ⟨caps.map a.eval⟩)) w:=by
  simp [execOp,Instr.makeFunc,Result.andThen]
 refine zf4 hrun (kk (up1 ν nid (some (.func (.func f) ⟨fs.map a.eval⟩ ⟨caps.map a.eval⟩,none))) h _ w _ (M.add hn (.clo f bs cs) _ (fp:=[]) ⟨_,_,_,rfl,rfl,hbv.le (Fz.le.refl _) (zbw hn),hcv.le (Fz.le.refl _) (zbw hn)⟩ (fun b hb=>by cases hb)) (zbw hn) (Fz.le.refl _) zd2 ⟨f,_,_,none,zab _ _ _,rfl⟩)
theorem ztz {Ea:Env} {N:Nat} (hf:Fits N Ea a) (hl:∀t,Dk.look Ea t=a.tmps[t]?):∀{ps:List (Nat × Operand)} {k:Nat} {cs:List (CV τ)} {pre rest:List Value},zAk E k ps=some cs→(∀q∈ps,zeb X h ν a (zw2 q.2) E)→pre.length=k→rest.length=ps.length →
  cs.length=ps.length∧CVs X.P X.G h ν cs (ps.map fun q=>a.eval q.2)∧Instr.fill (fun i=>some (i*1,1)) (pre++rest).toArray (ps.map fun q=>(q.1,a.eval q.2))=some (pre++ps.map fun q=>a.eval q.2).toArray
 | [],k,cs,pre,rest,e,_,_,hr=>by
  cases e;have:rest=[]:=List.eq_nil_of_length_eq_zero hr;subst this;exact ⟨rfl,rfl,by simp [Instr.fill]⟩
 | (i,x)::ps,k,cs,pre,rest,e,hE,hp,hr=>by
  unfold zAk at e
  cases hb:Nat.beq i k with
  | false=>rw [hb] at e; cases e
  | true =>
   rw [hb,cond_true] at e
   have:i=k:=by simpa using hb
   subst this
   split at e
   ·rename_i c hc
    split at e
    ·rename_i cs' hcs
     cases e;obtain ⟨v,h1,h2⟩:=zj hl (hE (i,x) (List.mem_cons_self ..)) hc;have hv:a.eval x=v:=hf.ev h1
     cases rest with
     | nil=>simp at hr
     | cons r0 rest =>
      obtain ⟨g1,g2,g3⟩:=ztz hf hl (pre:=pre++[a.eval x]) (rest:=rest) hcs (fun q hq=>hE q (List.mem_cons_of_mem _ hq)) (by simp [hp]) (by simpa using hr);refine ⟨by simp [g1],⟨_,_,rfl,by show zcT X.P X.G h ν c (a.eval x); rw [hv]; exact h2,g2⟩,?_⟩
      have hcell:(a.eval x).cells = #[a.eval x]:=by rw [hv]; exact (zcT.one h2).2
      simp only [List.map_cons,Instr.fill,hcell];rw [if_neg (by simp; omega)]
      have h8:(Array.zipIdx #[a.eval x]).foldl (fun cs (q:Value × Nat)=>cs.setIfInBounds (i*1+q.2) q.1) (pre++r0::rest).toArray=(pre++[a.eval x]++rest).toArray:=by simp [← hp]
      refine Eq.trans (congrArg (fun z=>Instr.fill _ z _) h8) ?_;rw [g3]; simp
    ·cases e
   ·cases e
theorem zPn {te n:Nat} {ps:List (Nat × Operand)} {cs:List (CV τ)} (hel:elO X.P t'=some te) (hz1:z1B X.P te=true) (hc:zAk E 0 ps=some cs) (hn:cs.length=n) (hsz:n≤65536)
  (k:K (.c (.os (nid+1))) [] [(nid+1, .sb nid n),(nid, .blk te cs)] [] (nid+2)=some r):zde X w0 h0 F ⟨dst, .buildSlice t' n ⟨ps⟩,t,p,af,gd⟩ E L nid K r:=by
 unfold z1B at hz1
 split at hz1
 ·rename_i ti hti
  split at hz1
  ·rename_i z hz
   have hs1:ti.size=1:=by simpa using hz1
   refine ⟨_,_,_,_,_,k,by omega,(fun _ h=>by cases h),fun L2 ν h φ a w next Q hd M hE ha hfr kk=>?_⟩;have hn0:=hfr nid (Nat.le_refl _) (by omega);have hn1:=hfr (nid+1) (by omega) (by omega);obtain ⟨Ea,hf,hl'⟩:=zdD a hd;have hEo:∀q∈ps,zeb X h ν a (zw2 q.2) E:=fun q hq=>hE.op (by simp only [Op.operands,List.toList_toArray,List.mem_map]; exact ⟨q,hq,rfl⟩)
   have hrng:∀f:Nat→Value,(Array.range (n*ti.size)).map f=((List.range (n*ti.size)).map f).toArray:=by
    intro f; apply Array.toList_inj.1; simp
   have hpl:ps.length=n:=by
    have:=(ztz (h:=h) (ν:=ν) hf hl' (pre:=[]) (rest:=List.replicate ps.length undef) hc hEo rfl (by simp)).1;omega
   have hfill:∀zc:Array Value,Instr.fill (fun i=>some (i*ti.size,ti.size)) ((Array.range (n*ti.size)).map (zc[· % zc.size]!)) (ps.map fun q=>(q.1,a.eval q.2))=some (ps.map fun q=>a.eval q.2).toArray:=by
    intro zc;obtain ⟨_,_,h3⟩:=ztz (h:=h) (ν:=ν) hf hl' (pre:=[]) (rest:=(List.range (n*ti.size)).map (zc[· % zc.size]!)) hc hEo rfl (by simp [hs1,hpl]);rw [hrng];simp only [hs1] at h3 ⊢;simpa using h3
   have hcv:=(ztz (h:=h) (ν:=ν) hf hl' (pre:=[]) (rest:=List.replicate ps.length undef) hc hEo rfl (by simp)).2.1
   have hpm:(Array.map (fun x=>match x with|(i,x)=>(i,a.eval x)) (⟨ps⟩:Array (Nat × Operand)))=(ps.map fun q=>(q.1,a.eval q.2)).toArray:=by
    have:(Array.map (fun (q:Nat × Operand)=>(q.1,a.eval q.2)) ⟨ps⟩)=(ps.map fun q=>(q.1,a.eval q.2)).toArray:=by simp
    exact this
   have hexec:(execOp a.eval ⟨dst, .buildSlice t' n ⟨ps⟩,t,p,af,gd⟩).run X.P w = .ok (.value (.slice (some ⟨w.heap.size,0,none⟩) n n)) (w.alloc (.cells (ps.map fun q=>a.eval q.2).toArray te)):=by
    have hb:¬(n*ti.size>2^24):=by rw [hs1]; omega
    simp only [execOp];rw [hpm,Sem.run_bind,zMx (zjU hel) hti hz hb (hfill _)];rfl
   have M1:=M.alloc hn0 (.cells (ps.map fun q=>a.eval q.2).toArray te) (.blk te cs) (ptr w.heap.size 0,none) ⟨_,none,_,rfl,rfl,zkA _,hcv.le (Fz.le.refl _) (zbw hn0)⟩
   have hne:¬ nid+1=nid:=by omega
   have hn1':up1 ν nid (some (ptr w.heap.size 0,none)) (nid+1)=none:=(za2 _ _ hne).trans hn1;have M2:=M1.add hn1' (.sb nid n) (.slice (some ⟨w.heap.size,0,none⟩) n n,none) (fp:=[]) ⟨w.heap.size,none,none,(zbw hn1') _ _ (zab _ _ _),rfl,rfl⟩ (fun b hb=>by cases hb);refine zf4 hexec (kk _ h _ _ _ M2 ((zbw hn0).trans (zbw hn1')) (Fz.le.refl _) (fun i h1 h2=>?_) ⟨_,_,_,none,zab _ _ _,rfl⟩)
   by_cases e1:i=nid+1
   ·omega
   ·rw [za2 _ _ e1] at h2
    by_cases e2:i=nid
    ·omega
    ·rw [za2 _ _ e2] at h2; exact (h2 h1).elim
  ·cases hz1
 ·cases hz1
theorem zKL {id i n te:Nat} (hx:evC E x=some (.os id)) (hl:lk L id = .sb i n) (hu:elO X.P t'=some te) (k:K (.c (.i (n:Int))) [] [] [id] nid=some r) :
  zde X w0 h0 F ⟨dst, .call ⟨.builtin .len,⟨[x]⟩,⟨[t']⟩⟩,t,p,af,gd⟩ E L nid K r:=by
 refine zaU k fun L2 ν h φ a w hd M hE ha=>?_;obtain ⟨Ea,hf,hl'⟩:=zdD a hd;obtain ⟨vx,h1,h2⟩:=zj hl' (hE.op (by simp [Op.operands,Call.operands])) hx;obtain ⟨ad,m,cp,q,hν,rfl⟩:=h2;have hr:=M.res id;rw [ha id (List.mem_singleton.2 rfl),hl] at hr;obtain ⟨b,q1,q2,g1,g2,_⟩:=hr;rw [hν] at g2;cases g2;exact ⟨_,zpe (zjU hu) hf h1,rfl⟩
theorem zNl {te id:Nat} {m:Int} (hel:elO X.P t'=some te) (hx:evC E x=some (.os id)) (hy:evC E y=some (.i m)) (e:ixZ X L nid K id te m=some r):zde X w0 h0 F ⟨dst, .indexAddr t' x y,t,p,af,gd⟩ E L nid K r:=by
 unfold ixZ at e
 split at e
 ·rename_i i kk e' lo xs hlk
  split at e
  ·rename_i te2 e2 ys k' hlk2
   obtain ⟨hb,e3⟩:=zgF e;simp only [Bool.and_eq_true,Nat.beq_eq] at hb;obtain ⟨hkk,hsz⟩:=hb;subst hkk;obtain ⟨d,hr,e4⟩:=ob e3;exact zFL hel hx hy hlk hlk2 hsz hr e4
  ·cases e
 ·rename_i i n hlk
  split at e
  ·rename_i hsz
   split at e
   ·rename_i hm
    refine zaU e fun L2 ν h φ a w hd M hE ha=>?_;obtain ⟨Ea,hf,hl'⟩:=zdD a hd;obtain ⟨vx,h1,h2⟩:=zj hl' (hE.op (by simp [Op.operands])) hx;obtain ⟨vy,h3,h4⟩:=zj hl' (hE.op (by simp [Op.operands])) hy;obtain rfl:vy=_:=h4;obtain ⟨ad,n',cp,q,hν,rfl⟩:=h2;have hres:=M.res id;rw [ha id (List.mem_singleton.2 rfl),hlk] at hres;obtain ⟨b,q1,q2,g1,g2,_⟩:=hres;rw [hν] at g2;cases g2;refine ⟨ptr b m.toNat,?_,some ⟨b,0,none⟩,q2,g1,by simp [zuw],fun _=>⟨b,rfl⟩⟩;refine zm0 (fun w=>?_) hf h1 h3;rw [zox (zjU hel) (zfC hsz) hm.1 (by omega),zHL,Nat.zero_add,Nat.mul_one]
   ·cases e
  ·cases e
 ·cases e
end
end Go.Rk
end
section
namespace Go.Rk
open Go.RowKit Go.Dm Go.Dk
variable {τ:Nat→Type}
section
variable {ρ:Type} {X:Cx τ} {w0 w w':World} {h0 h h' H:Fz} {F:List Nat} {E:zE τ} {L L2:Hp τ} {ν ν':Vn τ} {φ φ':Nat→List Nat} {nid nid':Nat} {r:ρ}
theorem zzc {K:Nx τ ρ} {f:FuncId} {avs:List (XV τ)} {z:Option ρ}:∀{cs:zx6 τ},zv6 X L nid K f avs z cs=some r→(∃q∈cs,znw X L nid K f avs [q]=some r)∨z=some r
 | [],e => .inr e
 | (g,k) :: cs,e=>by
  have ih:zv6 X L nid K f avs z cs=some r→(∃q∈(g,k)::cs,znw X L nid K f avs [q]=some r)∨z=some r:=fun e=>(zzc e).imp (fun ⟨q,h1,h2⟩=>⟨q,List.mem_cons_of_mem _ h1,h2⟩) id;unfold zv6 at e
  cases hg:Nat.beq g f with
  | false=>rw [hg,bcF] at e; exact ih e
  | true =>
   rw [hg,bcT] at e
   cases hr:zsc X.G L k.ps avs with
   | none=>rw [hr] at e; exact ih e
   | some q =>
    obtain ⟨p,l,m⟩:=q;rw [hr] at e;dsimp only at e
    cases hn:(nodF l&&zNI l m) with
    | false=>rw [hn,bcF] at e; exact ih e
    | true =>
     rw [hn,bcT] at e;simp only [Bool.and_eq_true] at hn
     have hn2:(nod l&&zx7 l m)=true:=by rw [zNK hn.1,zNJ hn.2]; rfl
     split at e
     ·rename_i Z hZ
      split at e
      ·rename_i rs hrs
       cases hrt:(nod (zvG rs)&&(zvG rs).all (mem l)) with
       | false=>rw [hrt,bcF] at e; exact .inr e
       | true =>
        rw [hrt,bcT] at e
        split at e
        ·rename_i R hR
         refine .inl ⟨(g,k),List.mem_cons_self ..,?_⟩;unfold znw;rw [hg,bcT,hr];dsimp only;rw [hn2,bcT,hZ];dsimp only;rw [hrs];dsimp only;rw [hrt,bcT,hR];exact e
        ·exact ih e
      ·exact .inr e
     ·exact .inr e
theorem zLx (hT:TyOk X) (hC:∀q∈X.cs,COk X.P X.G q.1 q.2) (hNm:∀(f:FuncId) (fn:Func),X.P.funcs[f]? = some fn→(fn.name == "runtime.NumGoroutine")=false) {Z:Zx X} (hZ:∀f, ∀q∈Z.ct f,COk X.P X.G q.1 q.2) {ih:InF τ ρ} (hih:InOk X w0 h0 F ih):zwB X w0 h0 F (opZ X Z ih):=by
 intro r o E L nid K e;obtain ⟨dst,op,t,p,af,gd⟩:=o;dsimp only at e;unfold opZ at e
 split at e
 ·split at e
  ·rename_i hy
   split at e
   ·rename_i hu
    split at e
    ·rename_i hx
     split at e
     ·rename_i hz
      split at e
      ·rename_i hb
       exact zA1 hu hx hy hz hb e
      ·cases e
     ·cases e
    ·cases e
   ·cases e
  ·exact zri hT hC e
 ·rename_i f args ats
  split at e
  ·rename_i g hx
   split at e
   ·rename_i avs hargs
    rcases zzc e with ⟨q,hq,e⟩|e
    ·exact zHx hx hargs (fun q' hq'=>by rw [List.mem_singleton.1 hq']; exact hZ g q hq) e
    ·obtain ⟨v,U,T,n2,h1,h2,h3,_⟩:=zIi hNm hih e;exact zKJ hx hargs h1 h2 h3
   ·cases e
  ·rename_i id hx
   split at e
   ·rename_i g bs cs hlk
    split at e
    ·rename_i avs hargs
     rcases zzc e with ⟨q,hq,e⟩|e
     ·exact zs6 [id] (zGc hx hlk hargs) (fun q' hq'=>by rw [List.mem_singleton.1 hq']; exact hZ g q hq) e
     ·obtain ⟨v,U,T,n2,h1,h2,h3,h4⟩:=zIi hNm hih e;exact zIp hx hlk hargs h1 h2 h3 h4
    ·cases e
   ·cases e
  ·exact zri hT hC e
 ·split at e
  ·rename_i id hx
   cases hb:vwB (lk L id) with
   | true =>
    rw [hb] at e
    replace e:=(bc_tt e)
    split at e
    ·rename_i te hel
     split at e
     ·rename_i m hy
      exact zNl hel hx hy e
     ·cases e
    ·cases e
   | false=>rw [hb] at e; exact zri hT hC e
  ·exact zri hT hC e
 ·split at e
  ·rename_i id hx
   split at e
   ·rename_i hlk
    split at e
    ·rename_i te hu
     exact zKL hx hlk hu e
    ·cases e
   ·exact zri hT hC e
  ·exact zri hT hC e
 ·split at e
  ·rename_i bs hb
   split at e
   ·rename_i cs hc
    exact zKK hb hc e
   ·cases e
  ·cases e
 ·split at e
  ·rename_i te hel
   split at e
   ·exact zri hT hC e
   ·obtain ⟨hz1,e⟩:=zgF e
    split at e
    ·rename_i cs hc
     obtain ⟨hb,e⟩:=zgF e;simp only [Bool.and_eq_true,Nat.beq_eq,Nat.ble_eq] at hb;exact zPn hel hz1 hc hb.1 hb.2 e
    ·cases e
  ·cases e
 ·exact zri hT hC e
where
 bc_tt {α:Type} {x y:Option α} {r:α} (e:bc true x y=some r):x=some r:=e
theorem zwB.wn {op:OpF τ ρ} (n:Nat) (h:zwB X w0 h0 F op):zwB (X.wn n) w0 h0 F op:=h
theorem zHD (hm:X.P.follows .mixedOrders=true) {Z:Zx X} (hZ:∀f, ∀q∈Z.ct f,COk X.P X.G q.1 q.2) (hT:TyOk X) (hC:∀q∈X.cs,COk X.P X.G q.1 q.2) (hNm:∀(f:FuncId) (fn:Func),X.P.funcs[f]? = some fn→(fn.name == "runtime.NumGoroutine")=false):∀(k:Nat),InOk (ρ:=ρ) X w0 h0 F (inZ X Z k)
 | 0=>by intro r n c E L T0 nid K _ e; cases e
 | k + 1=>by
  have IH:=zHD hm hZ hT hC hNm k;have hop:zwB (ρ:=ρ) X w0 h0 F (opZ X Z (inZ X Z k)):=zLx hT hC hNm hZ IH;intro r n c E L T0 nid K hn e;unfold inZ at e
  split at e
  ·exact ⟨.no,E,[],[],nid,0,e,Nat.le_refl _,OkC.nil fun Q a w h=>wp_skip h⟩
  ·rename_i id l d
   cases d with
   | true =>
    obtain ⟨E2,U,T,n2,g1,g2,g3⟩:=zNd (X:=X.wn n) hm hn (hop.wn n) (id:=id) e;exact ⟨.no,E2,U,T,n2,0,g1,g2,g3⟩
   | false =>
    obtain ⟨E2,U,T,n2,g1,g2,g3⟩:=zDE (X:=X.wn n) (hop.wn n) hn e;exact ⟨.no,E2,U,T,n2,0,g1,g2,fun L2 ν h φ a w Q a1 a2 a3 a4 a5 a6 a7=>wp_region_list (g3 L2 ν h φ a w Q a1 a2 a3 a4 a5 a6 a7)⟩
  ·rename_i x y
   obtain ⟨ex,E1,U1,T1,n1,m1,g1,g2,g3⟩:=IH _ _ _ _ _ _ _ _ hn e
   cases ex with
   | no =>
    obtain ⟨ex,E2,U2,T2,n2,m2,f1,f2,f3⟩:=IH _ _ _ _ _ _ _ _ hn g1;refine ⟨ex,E2,U2++U1,T2++T1,n2,0,by rw [List.append_assoc,List.append_assoc]; exact f1,Nat.le_trans g2 f2,OkC.seq g3.wp f3.wp g2 f2 fun Q a w h=>wp_seq h⟩
   | ex i=>exact ⟨.ex i,E1,U1,T1,n1,0,g1,g2,g3.wp.out fun Q a w h=>wp_seq (h _ fun _ _ q=>q)⟩
   | rt=>exact ⟨.rt,E1,U1,T1,n1,0,g1,g2,g3.wp.out fun Q a w h=>wp_seq (h _ fun _ _ q=>q)⟩
  ·rename_i c x y
   split at e
   ·rename_i b hc
    cases b with
    | true =>
     obtain ⟨ex,E1,U1,T1,n1,m1,g1,g2,g3⟩:=IH _ _ _ _ _ _ _ _ hn e;refine ⟨ex,E1,U1,T1,n1,0,g1,g2,fun L2 ν h φ a w Q a1 a2 a3 a4 a5 a6 a7=>?_⟩;obtain ⟨Ea,hf,hl⟩:=zdD a a1;obtain ⟨v,h1,h2⟩:=zj hl (zbZ.on (zDF.1 a4) _) hc;obtain rfl:v=_:=h2;exact wp_cond_true (hf.ev h1) (g3.wp L2 ν h φ a w Q a1 a2 a3 a4 a5 a6 a7)
    | false =>
     obtain ⟨ex,E1,U1,T1,n1,m1,g1,g2,g3⟩:=IH _ _ _ _ _ _ _ _ hn e;refine ⟨ex,E1,U1,T1,n1,0,g1,g2,fun L2 ν h φ a w Q a1 a2 a3 a4 a5 a6 a7=>?_⟩;obtain ⟨Ea,hf,hl⟩:=zdD a a1;obtain ⟨v,h1,h2⟩:=zj hl (zbZ.on (zDF.1 a4) _) hc;obtain rfl:v=_:=h2;exact wp_cond_false (hf.ev h1) (g3.wp L2 ν h φ a w Q a1 a2 a3 a4 a5 a6 a7)
   ·rename_i b hc
    split at e
    ·rename_i s
     have ha:asc E s=some (.c (.b b)):=zJk hc
     cases b with
     | true =>
      rw [if_pos rfl] at e;obtain ⟨ex,E1,U1,T1,n1,m1,g1,g2,g3⟩:=IH _ _ _ _ _ _ _ _ hn e;refine ⟨ex,E1,U1,T1,n1,0,g1,g2,fun L2 ν h φ a w Q a1 a2 a3 a4 a5 a6 a7=>?_⟩;obtain ⟨Ea,hf,hl⟩:=zdD a a1;obtain ⟨v,h1,h2⟩:=zj hl (zbZ.on (zDF.1 a4) _) hc;obtain rfl:v=_:=h2;exact wp_cond_true (hf.ev h1) (g3.wp L2 ν h φ a w Q a1 a2 a3 (Ref.env ((Ref.refl E).known ha) a4) a5 a6 a7)
     | false =>
      rw [if_neg (by simp)] at e;obtain ⟨ex,E1,U1,T1,n1,m1,g1,g2,g3⟩:=IH _ _ _ _ _ _ _ _ hn e;refine ⟨ex,E1,U1,T1,n1,0,g1,g2,fun L2 ν h φ a w Q a1 a2 a3 a4 a5 a6 a7=>?_⟩;obtain ⟨Ea,hf,hl⟩:=zdD a a1;obtain ⟨v,h1,h2⟩:=zj hl (zbZ.on (zDF.1 a4) _) hc;obtain rfl:v=_:=h2;exact wp_cond_false (hf.ev h1) (g3.wp L2 ν h φ a w Q a1 a2 a3 (Ref.env ((Ref.refl E).known ha) a4) a5 a6 a7)
    ·cases e
   ·cases e
  ·rename_i id c
   obtain ⟨ex,E1,U1,T1,n1,m1,g1,g2,g3⟩:=IH _ _ _ _ _ _ _ _ hn e
   cases ex with
   | no=>exact ⟨.no,E1,U1,T1,n1,0,g1,g2,g3.wp.out fun Q a w h=>wp_block (h _ fun _ _ q=>q)⟩
   | rt=>exact ⟨.rt,E1,U1,T1,n1,0,g1,g2,g3.wp.out fun Q a w h=>wp_block (h _ fun _ _ q=>q)⟩
   | ex i =>
    cases hb:Nat.beq i id with
    | true =>
     simp only [hb] at g1
     have:i=id:=by simpa using hb
     subst this;exact ⟨.no,E1,U1,T1,n1,0,g1,g2,g3.wp.out fun Q a w h=>wp_block (h _ fun _ _ q=>zwG q)⟩
    | false =>
     simp only [hb] at g1;exact ⟨.ex i,E1,U1,T1,n1,0,g1,g2,g3.wp.out fun Q a w h=>wp_block (h _ fun _ _ q=>zwH hb q)⟩
  ·rename_i c
   obtain ⟨ex,E1,U1,T1,n1,m1,g1,g2,g3⟩:=IH _ _ _ _ _ _ _ _ hn e
   cases ex with
   | no =>
    obtain ⟨E1',e2,hE⟩:=zIg g1;obtain ⟨ex,E2,U2,T2,n2,m2,f1,f2,f3⟩:=IH _ _ _ _ _ _ _ _ hn e2;refine ⟨ex,E2,U2++U1,T2++T1,n2,m2+1,by rw [List.append_assoc,List.append_assoc]; exact f1,Nat.le_trans g2 f2,OkC.seq g3.wp (f3.ref (E:=E1) fun t x h => .inl (hE t x h).1) g2 f2 fun Q a w h=>h⟩
   | ex i=>exact ⟨.ex i,E1,U1,T1,n1,1,g1,g2,g3.wp.out fun Q a w h=>h _ fun _ _ q=>q⟩
   | rt=>exact ⟨.rt,E1,U1,T1,n1,1,g1,g2,g3.wp.out fun Q a w h=>h _ fun _ _ q=>q⟩
  ·rename_i id
   exact ⟨.ex id,E,[],[],nid,0,e,Nat.le_refl _,OkC.nil fun Q a w h=>wp_exit h⟩
  ·exact ⟨.rt,E,[],[],nid,0,e,Nat.le_refl _,OkC.nil fun Q a w h=>wp_ret h⟩
  ·cases e
theorem zOi (hm:X.P.follows .mixedOrders=true) {Z:Zx X} (hZ:∀f, ∀q∈Z.ct f,COk X.P X.G q.1 q.2) (hT:TyOk X) (hC:∀q∈X.cs,COk X.P X.G q.1 q.2) (hNm:∀(f:FuncId) (fn:Func),X.P.funcs[f]? = some fn→(fn.name == "runtime.NumGoroutine")=false)
  {k:Nat} {f:FuncId} {avs:List (XV τ)} {b:Bool} (e:zrun X Z k f avs=some b) {h:Fz} {w:World} {vals:List Value} (hgl:zsb X.P X.G h) (hfp:zDA X.P X.G) (hon:h.on w) (hlen:vals.length=avs.length)
  (hv:∀(i:Nat) (A:XV τ) (u:Value),avs[i]? = some A→vals[i]? = some u→XOk X.P X.G h (fun _=>none) A u):zcD X.P f∧Calls X.P f vals.toArray w fun e w'=>e = .returned (.bool b)∧∃h',Left h w [] h' w' []:=by
 unfold zrun at e;obtain ⟨v,U,T,n2,h1,h2,h3,_⟩:=zIi (w0:=w) (h0:=h) (F:=[]) hNm (zHD hm hZ hT hC hNm k) e
 have M0:Mem X.P X.G w h [] [] w (fun _=>none) h (fun _=>[]) :=
  ⟨rfl,rfl,rfl,Nat.le_refl _,fun _ _ _=>rfl,Fz.le.refl _,hon,fun b hb => .inl hb,fun _=>rfl,(fun _ _ _ h=>by cases h),(fun _ _ h=>by cases h),hgl,hfp⟩
 refine ⟨h3.1,Calls.mono (h3.2 [] _ h _ w vals M0 hlen hv (fun i hi=>?_) fun _ _ _=>rfl) ?_⟩
 ·rfl
 rintro e1 w' ⟨u, ν',h', φ',rfl,M',_,hh,_,hx⟩
 have hu:u = .bool b:=by
  split at h1
  ·cases h1; exact hx
  ·cases h1; exact hx
  ·cases h1
 subst hu;exact ⟨rfl,h',M'.os,M'.tape,M'.output,M'.size,M'.frame,M'.le,M'.on,M'.new,fun b hb=>by cases hb⟩
end
end Go.Rk
end
section
namespace Go.Rk
open Go.RowKit Go.Dm Go.Dk
variable {τ:Nat→Type}
def eqV:(t:Ty)→t.den τ→t.den τ→Bool
 | .bool,(x:Bool),(y:Bool)=>x==y
 | .int,(x:Int),(y:Int)=>x==y
 | .u8,(x:UInt8),(y:UInt8)=>x==y
 | .u16,(x:UInt16),(y:UInt16)=>x==y
 | .str,(x:Str),(y:Str)=>x==y
 | _,_,_=>true
def eqD:(ts:List Ty)→DP τ ts→DP τ ts→Bool
 | [],_,_=>true
 | [t],x,y=>eqV t x y
 | t::u::ts,p,q=>eqV t p.1 q.1&&eqD (u::ts) p.2 q.2
def elB (P:Program) (G:Sig τ) (te:TypeId) (e:Ty):Bool:=match P.info? te with
 | some i=>match i.zero with
  | some z=>Nat.beq i.size (ets G e).length&&Nat.beq z.cells.size i.size&&Nat.blt 0 i.size
  | none=>false
 | none=>false
def scB (P:Program) (t:TypeId):Ty→Bool
 | .bool=>match P.underlying t with
  | some .bool=>true
  | _=>false
 | .str=>match P.underlying t with
  | some .string=>true
  | _=>false
 | .int=>match P.underlying t with
  | some (.int .i64)=>true
  | _=>false
 | .u8=>match P.underlying t with
  | some (.int .u8)=>true
  | _=>false
 | .u16=>match P.underlying t with
  | some (.int .u16)=>true
  | _=>false
 | _=>false
def zzs (inner:TypeId→List Ty→Option (List Ty)):List Field→List Ty→Nat→Option (List Ty)
 | [],ts,_=>some ts
 | f::fs,ts,i=>bif Nat.beq f.offset i&&decide (f.name ≠ "_") then (match inner f.type ts with
  | some rs=>zzs inner fs rs (i+(ts.length-rs.length))
  | none=>none) else none
def inn0 (P:Program) (t:TypeId):List Ty→Option (List Ty)
 | u::us=>bif scB P t u then some us else none
 | []=>none
def inn1 (P:Program) (t:TypeId) (ts:List Ty):Option (List Ty):=match P.underlying t with
 | some (.struct ⟨gs⟩)=>match zzs (inn0 P) gs ts 0 with
  | some rs=>match szO P t with
   | some s=>bif !(P.stoodInHeld t)&&Nat.beq (s+rs.length) ts.length then some rs else none
   | none=>none
  | none=>none
 | _=>inn0 P t ts
def zDm (P:Program) (fs:List Field) (ts:List Ty):Bool:=match zzs (inn1 P) fs ts 0 with
 | some []=>true
 | _=>false
def zMu (P:Program) (G:Sig τ) (t:TypeId) (n:Nat):Bool:=match P.underlying t with
 | some (.struct ⟨fs⟩) => !(P.stoodInHeld t) && !(P.eqGuardType P.depth t)&&zDm P fs (G.fs n)
 | _=>false
def tyB (P:Program) (G:Sig τ) (ty:List (TypeId × Ty)):Bool:=ty.all fun p=>elB P G p.1 p.2&&(match p.2 with
 | .st n=>bif (G.fs n).all zhn then zMu P G p.1 n else true
 | _=>true)
section
variable {P:Program} {G:Sig τ} {h:Fz} {w:World}
theorem u16_eq (b c:UInt16):((b.toNat:Int)==(c.toNat:Int))=(b==c):=by
 rw [Bool.eq_iff_iff]; simp only [beq_iff_eq,Int.natCast_inj,UInt16.toNat_inj]
theorem zOM {ti:TypeId} {t:Ty} {x y:t.den τ} {v u:Value} (hb:scB P ti t=true) (h1:Rp P G h t x v) (h2:Rp P G h t y u) (d:Nat):(Op.equalIn (d+1) ti v u).run P w = .ok (eqV t x y) w∧(isAgg ti).run P w = .ok false w:=by
 have ia:∀{d:TypeDesc},P.underlying ti=some d→(∀f,d ≠ .struct f)→(∀n e,d ≠ .array n e)→(isAgg ti).run P w = .ok false w:=by
  intro d hu h1 h2;unfold isAgg;simp only [Sem.run_bind,run_underlying hu,Result.andThen_ok]
  cases d<;>first|rfl|exact (h1 _ rfl).elim|exact (h2 _ _ rfl).elim
 cases h1<;>first|(cases hb; done)|skip
 all_goals
  cases h2;unfold scB at hb;dsimp only at hb
  split at hb
  ·rename_i hu
   refine ⟨?_,ia hu (fun _ h=>by cases h) (fun _ _ h=>by cases h)⟩
   first
    | exact run_equalIn_bool' w d ti _ _ hu
    | exact run_equalIn_int w d ti .i64 .i64 _ _ hu
    | exact (run_equalIn_int w d ti .u8 .u8 _ _ hu).trans (congrArg (fun b=>Result.ok b w) (zDh _ _))
    | exact (run_equalIn_int w d ti .u16 .u16 _ _ hu).trans (congrArg (fun b=>Result.ok b w) (u16_eq _ _))
    | exact (run_equalIn_string w d ti _ _ hu).trans (by simp only [ByteArray.toList_eq]; rfl)
  ·cases hb
theorem zMv {t:Ty} {ts:List Ty} {p q:DP τ (t::ts)}:eqD (t::ts) p q=(eqV t p.hd q.hd&&eqD ts p.tl q.tl):=by
 cases ts with
 | nil=>simp [eqD,DP.hd]
 | cons u ts=>rfl
theorem zON {p q:DP τ []}:eqD [] p q=true:=rfl
def EqOk (P:Program) (G:Sig τ) (h:Fz) (w:World) (e:Nat) (inner:TypeId→List Ty→Option (List Ty)):Prop:=∀(t:TypeId) (ts rs:List Ty) (p q:DP τ ts) (vs us xs ys:List Value) (i:Nat),inner t ts=some rs→RpL P G h ts p vs→RpL P G h ts q us →
 (∀(k:Nat) (v:Value),k+rs.length<ts.length→vs[k]? = some v→xs[i+k]? = some v)→(∀(k:Nat) (v:Value),k+rs.length<ts.length→us[k]? = some v→ys[i+k]? = some v) →
 rs.length≤ts.length∧∃(p' q':DP τ rs) (b:Bool) (av bv:Value),RpL P G h rs p' (vs.drop (ts.length-rs.length))∧RpL P G h rs q' (us.drop (ts.length-rs.length))∧eqD ts p q=(b&&eqD rs p' q')∧(part t ⟨xs⟩ i).run P w = .ok av w∧(part t ⟨ys⟩ i).run P w = .ok bv w∧(Op.equalIn e t av bv).run P w = .ok b w
theorem zwQ {inner:TypeId→List Ty→Option (List Ty)} (hi:∀t ts rs,inner t ts=some rs→rs.length≤ts.length):∀{fs:List Field} {ts rs:List Ty} {i:Nat},zzs inner fs ts i=some rs→rs.length≤ts.length
 | [],ts,rs,i,e=>by cases e; exact Nat.le_refl _
 | f::fs,ts,rs,i,e=>by
  unfold zzs at e
  cases hb:(Nat.beq f.offset i&&decide (f.name ≠ "_")) with
  | false=>rw [hb] at e; cases e
  | true =>
   rw [hb] at e;dsimp only [cond_true] at e
   split at e
   ·rename_i r1 h1
    exact Nat.le_trans (zwQ hi e) (hi _ _ _ h1)
   ·cases e
theorem zzt {P:Program} (t:TypeId) (ts rs:List Ty) (e:inn0 P t ts=some rs):rs.length≤ts.length:=by
 unfold inn0 at e
 split at e
 ·rename_i u us
  cases hb:scB P t u with
  | false=>rw [hb] at e; cases e
  | true=>rw [hb] at e; cases e; simp
 ·cases e
theorem zMw {P:Program} (t:TypeId) (ts rs:List Ty) (e:inn1 P t ts=some rs):rs.length≤ts.length:=by
 unfold inn1 at e
 split at e
 ·split at e
  ·rename_i h1
   split at e
   ·rename_i s _
    cases hb:(!(P.stoodInHeld t)&&Nat.beq (s+_) ts.length) with
    | false=>rw [hb] at e; cases e
    | true=>rw [hb] at e; cases e; exact zwQ zzt h1
   ·cases e
  ·cases e
 ·exact zzt _ _ _ e
theorem zwR {e:Nat} {inner:TypeId→List Ty→Option (List Ty)} (hlen:∀t ts rs,inner t ts=some rs→rs.length≤ts.length) (hi:EqOk P G h w e inner):∀{fs:List Field} {ts rs:List Ty} {i:Nat} {p q:DP τ ts} {xs ys vs us:List Value},zzs inner fs ts i=some rs→RpL P G h ts p vs→RpL P G h ts q us →
  (∀(k:Nat) (v:Value),k+rs.length<ts.length→vs[k]? = some v→xs[i+k]? = some v)→(∀(k:Nat) (v:Value),k+rs.length<ts.length→us[k]? = some v→ys[i+k]? = some v) →
  ∃(p' q':DP τ rs) (b:Bool),RpL P G h rs p' (vs.drop (ts.length-rs.length))∧RpL P G h rs q' (us.drop (ts.length-rs.length))∧eqD ts p q=(b&&eqD rs p' q')∧(Op.eqFields e ⟨xs⟩ ⟨ys⟩ fs).run P w = .ok b w
 | [],ts,rs,i,p,q,xs,ys,vs,us,hb,h1,h2,_,_=>by
  cases hb;rw [Nat.sub_self,List.drop_zero,List.drop_zero];exact ⟨p,q,true,h1,h2,by simp,by simp [Op.eqFields]⟩
 | f :: fs,ts,rs,i,p,q,xs,ys,vs,us,hb,h1,h2,hx,hy=>by
  unfold zzs at hb
  cases hc:(Nat.beq f.offset i&&decide (f.name ≠ "_")) with
  | false=>rw [hc] at hb; cases hb
  | true =>
   rw [hc] at hb;dsimp only [cond_true] at hb;simp only [Bool.and_eq_true,Nat.beq_eq,decide_eq_true_eq] at hc;obtain ⟨ho,hn⟩:=hc
   split at hb
   ·rename_i r1 hr1
    have hl1:=zwQ hlen hb;obtain ⟨hl,p1,q1,b1,av,bv,g1,g2,g3,g4,g5,g6⟩:=hi _ _ _ p q vs us xs ys i hr1 h1 h2 (fun k v hk=>hx k v (by omega)) (fun k v hk=>hy k v (by omega));obtain ⟨p2,q2,b2,k1,k2,k3,k4⟩:=zwR hlen hi (xs:=xs) (ys:=ys) hb g1 g2
     (fun k v hk hv=>by rw [List.getElem?_drop] at hv; rw [Nat.add_assoc]; exact hx _ v (by omega) hv) (fun k v hk hv=>by rw [List.getElem?_drop] at hv; rw [Nat.add_assoc]; exact hy _ v (by omega) hv)
    rw [List.drop_drop,show ts.length-r1.length+(r1.length-rs.length)=ts.length-rs.length by omega] at k1 k2;refine ⟨p2,q2,b1&&b2,k1,k2,by rw [g3,k3,Bool.and_assoc],?_⟩;rw [← ho] at g4 g5;simp only [Op.eqFields,hn,ne_eq,not_false_iff,if_true,Sem.run_bind,g4,g5,g6,Result.andThen_ok]
    cases b1 with
    | true=>simpa using k4
    | false=>simp
   ·cases hb
theorem zJD (e:Nat):EqOk P G h w (e+1) (inn0 P):=by
 intro t ts rs p q vs us xs ys i hb h1 h2 hx hy;unfold inn0 at hb
 split at hb
 ·rename_i u ts'
  cases hs:scB P t u with
  | false=>rw [hs] at hb; cases hb
  | true =>
   rw [hs] at hb;cases hb
   cases h1 with
   | cons _ _ _ v vs a1 a2 =>
    cases h2 with
    | cons _ _ _ u' us b1 b2 =>
     obtain ⟨e1,e2⟩:=zOM (w:=w) hs a1 b1 e;have hx0:xs[i]? = some v:=hx 0 v (by simp) rfl;have hy0:ys[i]? = some u':=hy 0 u' (by simp) rfl;refine ⟨by simp,p.tl,q.tl,eqV u p.hd q.hd,v,u',?_,?_,zMv,by simp [part,e2,hx0,Result.andThen],by simp [part,e2,hy0,Result.andThen],e1⟩
     ·simpa using a2
     ·simpa using b2
 ·cases hb
theorem zOO (e:Nat):EqOk P G h w (e+2) (inn1 P):=by
 intro t ts rs p q vs us xs ys i hb h1 h2 hx hy;unfold inn1 at hb
 split at hb
 ·rename_i gs hu
  split at hb
  ·rename_i r1 hf
   split at hb
   ·rename_i s hsz
    cases hc:(!(P.stoodInHeld t)&&Nat.beq (s+r1.length) ts.length) with
    | false=>rw [hc] at hb; cases hb
    | true =>
     rw [hc] at hb;cases hb;simp only [Bool.and_eq_true,Bool.not_eq_true',Nat.beq_eq] at hc;obtain ⟨h3,h4⟩:=hc
     have hcut:∀{zs ws:List Value},(∀(k:Nat) (v:Value),k+rs.length<ts.length→zs[k]? = some v→ws[i+k]? = some v)→∀(k:Nat) (v:Value),k+rs.length<ts.length→zs[k]? = some v→((ws.drop i).take s)[0+k]? = some v:=by
      intro zs ws hz k v hk hv;rw [Nat.zero_add,List.getElem?_take,if_pos (by omega),List.getElem?_drop];exact hz k v hk hv
     obtain ⟨p',q',b,g1,g2,g3,g4⟩:=zwR zzt (zJD e) hf h1 h2 (hcut hx) (hcut hy)
     have hfo:P.fieldsOf t=⟨gs⟩:=by unfold Program.fieldsOf; rw [hu]
     have hag:(isAgg t).run P w = .ok true w:=by simp [isAgg,run_underlying hu,Result.andThen]
     have hpt:∀ws:List Value,(part t ⟨ws⟩ i).run P w = .ok (.agg ⟨(ws.drop i).take s⟩) w:=by
      intro ws;simp [part,hag,zcS (zfC hsz),Result.andThen,List.extract_eq_take_drop]
     refine ⟨by omega,p',q',b,_,_,g1,g2,g3,hpt xs,hpt ys,?_⟩;rw [run_equalIn_struct w (e+1) t _ _ (by rw [hfo]; exact hu) h3,hfo];exact g4
   ·cases hb
  ·cases hb
 ·obtain ⟨a1,p',q',b,av,bv,g⟩:=zJD (P:=P) (G:=G) (h:=h) (w:=w) (e+1) t ts rs p q vs us xs ys i hb h1 h2 hx hy;exact ⟨a1,p',q',b,av,bv,g⟩
theorem zHW {fs:List Field} {ts:List Ty} {p q:DP τ ts} {xs ys vs us:List Value} (d:Nat) (hb:zDm P fs ts=true) (h1:RpL P G h ts p vs) (h2:RpL P G h ts q us) (hx:∀(k:Nat) (v:Value),vs[k]? = some v→xs[k]? = some v) (hy:∀(k:Nat) (v:Value),us[k]? = some v→ys[k]? = some v) :
  (Op.eqFields (d+2) ⟨xs⟩ ⟨ys⟩ fs).run P w = .ok (eqD ts p q) w:=by
 unfold zDm at hb
 split at hb
 ·rename_i hf
  obtain ⟨p',q',b,_,_,e1,e2⟩:=zwR zMw (zOO d) hf h1 h2 (fun k v _ hk=>by rw [Nat.zero_add]; exact hx k v hk) (fun k v _ hk=>by rw [Nat.zero_add]; exact hy k v hk);rw [e1,e2,zON,Bool.and_true]
 ·cases hb
theorem zOP {X:Cx τ} (h1:tyB X.P X.G X.ty=true) (h2:∀n x y,(X.G.fs n).all zhn=true→(∃t,asc X.ty t=some (.st n))→X.G.eq n x y=eqD (X.G.fs n) (X.G.dtor n x) (X.G.dtor n y)):TyOk X:=by
 refine ⟨fun p hp=>?_,fun t n hn hs p q h xs ys hx hy=>?_⟩
 ·have:=List.all_eq_true.1 h1 p hp;simp only [Bool.and_eq_true] at this;have h3:=this.1;unfold elB at h3
  split at h3
  ·rename_i i hi
   split at h3
   ·rename_i z hz
    simp only [Bool.and_eq_true,Nat.beq_eq,Nat.blt_eq] at h3;exact ⟨i,z,hi,hz,h3.1.1,h3.1.2,h3.2⟩
   ·cases h3
  ·cases h3
 ·have:=List.all_eq_true.1 h1 (t, .st n) (zmG hn);simp only [Bool.and_eq_true] at this;have h3:=this.2;rw [hs] at h3;have h3:zMu X.P X.G t n=true:=h3;unfold zMu at h3
  split at h3
  ·rename_i fs hu
   simp only [Bool.and_eq_true,Bool.not_eq_true'] at h3;obtain ⟨⟨h4,h5⟩,h6⟩:=h3;refine ⟨h5,fun w=>?_⟩
   have hfo:X.P.fieldsOf t=⟨fs⟩:=by unfold Program.fieldsOf; rw [hu]
   rw [run_equalIn_struct w 9999 t ⟨xs⟩ ⟨ys⟩ (by rw [hfo]; exact hu) h4,hfo];rw [h2 n _ _ hs ⟨t,hn⟩,X.G.dc,X.G.dc];exact zHW 9997 h6 hx hy (fun k v hk=>hk) (fun k v hk=>hk)
  ·cases h3
end
end Go.Rk
end
