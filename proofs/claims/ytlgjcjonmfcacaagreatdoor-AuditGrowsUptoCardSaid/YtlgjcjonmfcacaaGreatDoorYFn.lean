/-
 Walks by evaluation: calls, and operations as a whole. Over any program.
 Walks by evaluation: regions. Over any program.
 Walks by evaluation: regions that draw their order. Over any program.
 Walks by evaluation: code. Over any program.
 Walks by evaluation: functions. Over any program.
-/
import Derived.Test.YtlgjcjonmfcacaaGreatDoorYCa
import Derived.Test.YtlgjcjonmfcacaaGreatDoorP0
set_option linter.unusedVariables false
set_option linter.unusedSimpArgs false
set_option linter.unusedVariables false
set_option linter.unusedSimpArgs false
section
namespace Go.Rk
open Go.RowKit Go.Dm Go.Dk
variable {τ:Nat→Type}
section
variable {ρ:Type} {X:Cx τ} {w0 w w':World} {h0 h h' H:Fz} {F:List Nat} {o:Oper} {E:zu τ} {L L2:Hp τ} {ν ν':Vn τ} {φ φ':Nat→List Nat} {nid nid':Nat} {K:Nx τ ρ} {r:ρ} {v:XV τ} {U:Hp τ} {tch:List Nat} {g:List (XV τ)}
variable {a:Act} {x y z:Operand} {t' t ty u':Nat} {dst:Option Nat} {p:String} {af:Array Edge} {gd:Option (Nat × Bool)}
theorem zwj:∀{args:List Operand} {avs:List (XV τ)},zuU E args=some avs→avs.length=args.length∧∀(i:Nat) (A:XV τ),avs[i]? = some A→∃z,args[i]? = some z∧evX E z=some A
 | [],avs,e=>by cases e; exact ⟨rfl,fun i A h=>by simp at h⟩
 | z::args,avs,e=>by
  unfold zuU at e
  split at e
  ·rename_i A hA
   split at e
   ·rename_i As hAs
    cases e;obtain ⟨h1,h2⟩:=zwj hAs;refine ⟨by simp [h1],fun i B hB=>?_⟩
    cases i with
    | zero=>simp at hB; subst hB; exact ⟨z,rfl,hA⟩
    | succ i=>exact h2 i B hB
   ·cases e
  ·cases e
theorem zAu {f:Nat} {args:Array Operand} {vs:List Value} {ats:Array TypeId} (hfn:zcC X.P f) (hv:a.eval x = .func (.func f) #[] #[]) (hargs:args.map a.eval=vs.toArray) :
  (execOp a.eval { dst:=dst,op := .call { callee := .value x,args:=args,argTypes:=ats },type:=t,pos:=p,after:=af,guard:=gd }).run X.P w = .ok (.enter f vs.toArray) w:=by
 obtain ⟨fn,hfn,hbody,hname⟩:=hfn;simp only [execOp,resolve,hargs];rw [hv];simp only [Deferred.ofValue]
 have hb:¬ fn.body=none:=by intro e; rw [e] at hbody; cases hbody
 have hn:¬ fn.name = "runtime.NumGoroutine" := by intro e; rw [e] at hname; cases hname
 simp [invoke,callFunc,hfn,hn,hb]
theorem Mem.called (M:Mem X.P X.G w0 h0 F L2 w ν h φ) {l m:List Nat} {Z:Hp τ} {h2:Fz} {fp':List Nat} (hl:Left (zrw h w (fps φ m)) w (fps φ l) h' w' fp') (hlm:∀i∈l,i∉m) (ha:∀i∈l++m,lk L2 i=lk L i)
  (hz:(Rk.freeze L m=some Z∧h2=h')∨(Z=[]∧h2=h)):∃φ',Mem X.P X.G w0 h0 F ((zn3 l++Z)++L2) w' ν h2 φ'∧zhr w0 h2 F φ' fp':=by
 have hH:=M.lend_le m;have hHon:=zvt (h:=h) (bs:=fps φ m) M.on
 have hlh:∀b∈fps φ l,h b=none:=fun b hb=>by obtain ⟨i,_,hi⟩:=mem_fps.1 hb; exact (M.out i b hi).1
 have hmem:∀b,zrw h w (fps φ m) b≠none→h b≠none∨b∈fps φ m:=by
  intro b hb
  by_cases e:b∈fps φ m
  ·exact .inr e
  ·rw [zjX e] at hb; exact .inl hb
 have hfree:∀{φ':Nat→List Nat} {h2:Fz},(∀i b,b∈φ' i→b∈φ i∧i∉l)→(∀b,h2 b≠none→h' b≠none)→zhr w0 h2 F φ' fp':=by
  intro φ' h2 h1 h3 b hb;obtain ⟨g1,g2⟩:=hl.own b hb;refine ⟨fun i hi=>?_,?_,?_⟩
  ·obtain ⟨h5,h6⟩:=h1 i b hi
   rcases g2 with g2|g2
   ·obtain ⟨j,hj,hbj⟩:=mem_fps.1 g2;exact h6 (M.dis i j b h5 hbj▸hj)
   ·have:=M.lt h5; omega
  ·cases e:h2 b with
   | none=>rfl
   | some o=>exact (h3 b (by rw [e]; simp) g1).elim
  ·rcases g2 with g2|g2
   ·obtain ⟨j,_,hbj⟩:=mem_fps.1 g2; exact (M.out j b hbj).2
   ·exact .inr (Nat.le_trans M.size g2)
 rcases hz with ⟨hf,rfl⟩|⟨rfl,rfl⟩
 ·obtain ⟨hk,hlz⟩:=zxs hf
  have hin:∀i,i∉l++m→lk ((zn3 l++Z)++L2) i=lk L2 i:=fun i hi=>zcJ _ (by
   simp only [kys,List.map_append];intro hc
   rcases List.mem_append.1 hc with hc|hc
   ·exact hi (List.mem_append_left _ (by rw [← zo9 (τ:=τ) l]; exact hc))
   ·exact hi (List.mem_append_right _ (by rw [← hk]; exact hc)))
  have hlk:∀i∈l++m,lk ((zn3 l++Z)++L2) i=lk (zn3 l++Z) i:=fun i hi=>zgX _ (by
   simp only [kys,List.map_append]
   rcases List.mem_append.1 hi with hi|hi
   ·exact List.mem_append_left _ (by have:=zo9 (τ:=τ) l; rw [kys] at this; rw [this]; exact hi)
   ·exact List.mem_append_right _ (by rw [kys] at hk; rw [hk]; exact hi))
  have hlkm:∀i∈m,lk (zn3 l++Z) i=lk Z i:=fun i hi=>by
   rw [zcJ];rw [zo9];exact fun hc=>hlm i hc hi
  refine ⟨zAD φ (l++m),?_,hfree (fun i b hb=>?_) (fun b hb=>hb)⟩
  ·refine M.upd (l++m) hin (fun i hi=>znj hi) (Vn.le.refl _) (hH.trans hl.le) hl.os hl.tape hl.output hl.size (fun b hb hc=>hl.frame b hb fun hd=>hc (by rw [ze4]; exact List.mem_append_left _ hd))
    (fun b o _ e=>hl.on b o e) (fun b e1 e2=>?_) (fun i hi=>?_) (fun i hi b hb=>by rw [zhZ hi] at hb; cases hb) (fun i hi j _ b hb=>by rw [zhZ hi] at hb; cases hb)
   ·rcases hl.new b e2 with h1|h1|h1
    ·rcases hmem b h1 with h2|h2
     ·exact (h2 e1).elim
     ·exact .inl (by rw [ze4]; exact List.mem_append_right _ h2)
    ·exact .inl (by rw [ze4]; exact List.mem_append_left _ h1)
    ·exact .inr h1
   ·rw [hlk i hi,zhZ hi]
    by_cases hil:i∈l
    ·rw [zzf l Z hil]; rfl
    ·have him:i∈m:=(List.mem_append.1 hi).resolve_left hil;rw [hlkm i him]
     have hlent:∀j∈m, ∀b∈φ j,h2 b=w.heap[b]? := fun j hj b hb=>by
      have hbm:b∈fps φ m:=mem_fps.2 ⟨j,hj,hb⟩;have hlt:=M.lt hb
      have:zrw h w (fps φ m) b=some w.heap[b]:=by rw [zqg hbm]; exact Array.getElem?_eq_getElem hlt
      rw [hl.le _ _ this]; exact (Array.getElem?_eq_getElem hlt).symm
     obtain ⟨e',xs,h1,h2⟩:=hlz i him;rw [h1];have hr:=M.res i;rw [ha i hi] at hr
     rcases h2 with ⟨te,k,h2⟩|h2|⟨j,k,lo,te,e2,ys,h2,h3,h4⟩
     ·rw [h2] at hr;obtain ⟨v,q,vs,u,h3,h4,h5,h6,_⟩:=hr;exact ⟨v,q,h3,rfl,zwO (w:=w) (hH.trans hl.le) h5 h6 fun b hb=>hlent i him b (by rw [h4]; exact hb)⟩
     ·rw [h2] at hr;obtain ⟨v,q,h3,_,h4⟩:=hr;exact ⟨v,q,h3,rfl,h4.le (hH.trans hl.le)⟩
     ·rw [h2] at hr;have hr2:=M.res j;rw [ha j (List.mem_append_right _ h4),h3] at hr2;obtain ⟨v,q,h5,_,h6⟩:=vw_fz hr hr2 (hH.trans hl.le) fun b hb=>hlent j h4 b hb;exact ⟨v,q,h5,rfl,h6⟩
  ·by_cases hi:i∈l++m
   ·rw [zhZ hi] at hb; cases hb
   ·rw [znj hi] at hb; exact ⟨hb,fun hc=>hi (List.mem_append_left _ hc)⟩
 ·have hin:∀i,i∉l→lk ((zn3 l++[])++L2) i=lk L2 i:=fun i hi=>zcJ _ (by rw [List.append_nil,zo9]; exact hi);refine ⟨zAD φ l,?_,hfree (fun i b hb=>?_) (fun b hb=>?_)⟩
  ·refine M.upd l hin (fun i hi=>znj hi) (Vn.le.refl _) (Fz.le.refl _) hl.os hl.tape hl.output hl.size (fun b hb hc=>hl.frame b hb hc)
    (fun b o e1 e2=>by rw [e1] at e2; cases e2) (fun b e1 e2=>(e2 e1).elim) (fun i hi=>?_) (fun i hi b hb=>by rw [zhZ hi] at hb; cases hb) (fun i hi j _ b hb=>by rw [zhZ hi] at hb; cases hb)
   rw [zhZ hi,zgX _ (by rw [List.append_nil,zo9]; exact hi),zzf l [] hi]; rfl
  ·by_cases hi:i∈l
   ·rw [zhZ hi] at hb; cases hb
   ·rw [znj hi] at hb; exact ⟨hb,hi⟩
  ·cases e:h2 b with
   | none=>exact (hb e).elim
   | some o=>rw [hl.le _ _ (hH _ _ e)]; simp
theorem bcT {α:Type} {x y:α}:bc true x y=x:=rfl
theorem bcF {α:Type} {x y:α}:bc false x y=y:=rfl
def Entr (X:Cx τ) (w0:World) (h0:Fz) (F:List Nat) (E:zu τ) (L:Hp τ) (T0:List Nat) (o:Oper) (f:Nat) (avs:List (XV τ)):Prop:=∀(L2:Hp τ) (ν:Vn τ) (h:Fz) (φ:Nat→List Nat) (a:Act) (w:World),a.defers=[]→Mem X.P X.G w0 h0 F L2 w ν h φ→zd8 X h ν a (rdO o.op) E→(∀i∈T0,lk L2 i=lk L i)→zcC X.P f →
 ∃vs:List Value,vs.length=avs.length∧(∀(i:Nat) (A:XV τ) (v:Value),avs[i]? = some A→vs[i]? = some v→XOk X.P X.G h ν A v)∧(execOp a.eval o).run X.P w = .ok (.enter f vs.toArray) w
theorem zsN {f:Nat} {avs:List (XV τ)} (T0:List Nat) (hen:Entr X w0 h0 F E L T0 o f avs):∀{cs:zyt τ},(∀q∈cs,COk X.P X.G q.1 q.2)→znw X L nid (fun v g U t n=>K v g U (T0++t) n) f avs cs=some r →
  zc4 X w0 h0 F o E L nid K r
 | [],_,e=>by cases e
 | (g,k) :: cs,hC,e=>by
  have ih:znw X L nid (fun v g U t n=>K v g U (T0++t) n) f avs cs=some r→zc4 X w0 h0 F o E L nid K r:=zsN T0 hen fun q hq=>hC q (List.mem_cons_of_mem _ hq);unfold znw at e
  cases hg:Nat.beq g f with
  | false=>rw [hg,bcF] at e; exact ih e
  | true =>
   rw [hg,bcT] at e
   have hgf:g=f:=by simpa using hg
   subst hgf
   split at e
   ·rename_i pp l m hres
    cases hn:(nod l&&zyu l m) with
    | false=>rw [hn,bcF] at e; exact ih e
    | true =>
     rw [hn,bcT] at e;simp only [Bool.and_eq_true] at hn
     split at e
     ·rename_i Z hZ
      split at e
      ·rename_i rs hrs
       obtain ⟨hroots,e⟩:=zgF e;simp only [Bool.and_eq_true,List.all_eq_true] at hroots;obtain ⟨R,hR,e⟩:=ob e;obtain ⟨outl,U,nid',h1,h2,_,h4⟩:=zOb (P:=X.P) (w0:=w0) (h0:=h0) (F:=F) _ _ _ _ _ e
       split at h1
       ·rename_i v hv
        refine ⟨_,_,_,_,_,h1,h2,fun z hz=>by rw [List.mem_singleton.1 hz]; rfl,fun L2 ν h φ a w next Q hd M hE ha0 hfr kk=>?_⟩;have ha:∀i∈l++m,lk L2 i=lk L i:=fun i hi=>ha0 i (List.mem_append_right _ hi);obtain ⟨hcall,hok⟩:=hC _ (List.mem_cons_self ..);have hdis:=zwQ hn.2;obtain ⟨avals,hlen,hvs,hexec⟩:=hen L2 ν h φ a w hd M hE (fun i hi=>ha0 i (List.mem_append_left _ hi)) hcall;have hH:=M.lend_le m;have hlook:zbJ L2 L φ (zrw h w (fps φ m)) w m:=M.look fun i hi=>ha i (List.mem_append_right _ hi);have htr:=zza M hH hres (fun i hi=>ha i (List.mem_append_left _ hi)) hlook hn.1 hlen hvs
        have hnone:∀b∈fps φ l,zrw h w (fps φ m) b=none:=by
         intro b hb;rw [zjX (M.fps_dis hdis b hb)];obtain ⟨i,_,hi⟩:=mem_fps.1 hb;exact (M.out i b hi).1
        have hcalls:=hok _ w pp R avals _ (M.gl.le hH) M.fp (zvt M.on) htr hnone hR;unfold Oper.wp;rw [hexec];refine Calls.mono hcalls ?_;rintro e1 w' ⟨h',rvs,fp',rfl,hleft,hres',hback⟩
        have hzz:(freeze L m=some Z∧(if k.rs.any (zmB X.G depth)=true then h' else h)=h')∨(Z=[]∧(if k.rs.any (zmB X.G depth)=true then h' else h)=h):=by
         cases hs:k.rs.any (zmB X.G depth) with
         | true=>rw [hs] at hZ; exact .inl ⟨hZ,by simp⟩
         | false=>rw [hs] at hZ; cases hZ; exact .inr ⟨rfl,by simp⟩
        obtain ⟨φ',M',hfree⟩:=Mem.called (Z:=Z) M hleft hdis ha hzz
        have hres2:TrXs X.P X.G (if k.rs.any (zmB X.G depth)=true then h' else h) w' k.rs R rvs fp':=by
         cases hs:k.rs.any (zmB X.G depth) with
         | true=>simpa using hres'
         | false=>simpa using zFv (h':=h) hres' hs
        have hgl:∀i∈zv4 rs,lk ((zn3 l++Z)++L2) i = .gone:=by
         intro i hi;have hil:i∈l:=zep.1 (hroots.2 i hi);rw [zgX,zzf l Z hil];simp only [kys,List.map_append];exact List.mem_append_left _ (by have:=zo9 (τ:=τ) l; rw [kys] at this; rw [this]; exact hil)
        have hRo:zmJ ((zn3 l++Z)++L2) ν (zAj k.nr rs) rvs:=zCD (by
         rw [hback]
         exact zvj (P:=X.P) (G:=X.G) (h:=h) hlen hvs hrs hroots.1 hgl)
        obtain ⟨ν', φ'',A,hxs⟩:=h4 _ w' ν _ φ' rvs fp' M' hres2 hfr hfree hRo;rw [zzd (zp3 hrs)] at hxs
        have hle2:h.le (if k.rs.any (zmB X.G depth)=true then h' else h):=by
         split
         ·exact hH.trans hleft.le
         ·exact Fz.le.refl _
        exact kk ν' _ φ'' w' _ (by rw [List.append_assoc]; exact A.mem) A.le hle2 A.fresh (zJh hv hxs)
       ·cases h1
      ·cases e
     ·cases e
   ·exact ih e
theorem zEJ {args:List Operand} {avs:List (XV τ)} {x:Operand} {ats:Array TypeId} (hargs:zuU E args=some avs) (hd:a.defers=[]) (hE:zd8 X h ν a (rdO (.call ⟨.value x,⟨args⟩,ats⟩)) E) :
  (args.map a.eval).length=avs.length∧∀(i:Nat) (A:XV τ) (v:Value),avs[i]? = some A→(args.map a.eval)[i]? = some v→XOk X.P X.G h ν A v:=by
 obtain ⟨hlen,hidx⟩:=zwj hargs;refine ⟨by simp [hlen],fun i A v hA hv=>?_⟩;obtain ⟨z,hz,hzA⟩:=hidx i A hA;rw [List.getElem?_map,hz] at hv;cases hv;exact zrj hd (hE.op (by simp only [Op.operands,Call.operands]; simp; exact .inr (List.mem_of_getElem? hz))) hzA
theorem zGV {f:Nat} {args:List Operand} {avs:List (XV τ)} {ats:Array TypeId} (hx:evC E x=some (.fn f)) (hargs:zuU E args=some avs) {cs:zyt τ} (hC:∀q∈cs,COk X.P X.G q.1 q.2) (e:znw X L nid K f avs cs=some r) :
  zc4 X w0 h0 F ⟨dst, .call ⟨.value x,⟨args⟩,ats⟩,t,p,af,gd⟩ E L nid K r :=
 zsN [] (fun L2 ν h φ a w hd M hE _ hcall=>by
  obtain ⟨h1,h2⟩:=zEJ hargs hd hE;obtain ⟨Ea,hf,hl'⟩:=zdC a hd;obtain ⟨vx,g1,g2⟩:=zh hl' (hE.op (by simp [Op.operands,Call.operands])) hx;obtain rfl:vx=_:=g2
  exact ⟨_,h1,h2,zAu (X:=X) (w:=w) (dst:=dst) (t:=t) (p:=p) (af:=af) (gd:=gd) (ats:=ats) (args:=⟨args⟩) (vs:=args.map a.eval) hcall (hf.ev g1) (by simp)⟩) hC e
theorem zAv {f:Nat} {args:Array Operand} {us vs cs:List Value} {ats:Array TypeId} (hfn:zcC X.P f) (hv:a.eval x = .func (.func f) ⟨us⟩ ⟨cs⟩) (hargs:args.map a.eval=vs.toArray) :
  (execOp a.eval { dst:=dst,op := .call { callee := .value x,args:=args,argTypes:=ats },type:=t,pos:=p,after:=af,guard:=gd }).run X.P w = .ok (.enter f (us++(vs++cs)).toArray) w:=by
 obtain ⟨fn,hfn,hbody,hname⟩:=hfn;simp only [execOp,resolve,hargs];rw [hv];simp only [Deferred.ofValue]
 have hb:¬ fn.body=none:=by intro e; rw [e] at hbody; cases hbody
 have hn:¬ fn.name = "runtime.NumGoroutine" := by intro e; rw [e] at hname; cases hname
 simp [invoke,callFunc,hfn,hn,hb]
theorem zNo {f:Nat} {args:List Operand} {avs:List (XV τ)} {ats:Array TypeId} {tc:Ty} {xc:tc.den τ} (hx:evC E x=some (.cl f tc xc)) (hargs:zuU E args=some avs) {cs:zyt τ} (hC:∀q∈cs,COk X.P X.G q.1 q.2) (e:znw X L nid K f (avs++[.c (tc.av xc)]) cs=some r) :
  zc4 X w0 h0 F ⟨dst, .call ⟨.value x,⟨args⟩,ats⟩,t,p,af,gd⟩ E L nid K r :=
 zsN [] (fun L2 ν h φ a w hd M hE _ hcall=>by
  obtain ⟨h1,h2⟩:=zEJ hargs hd hE;obtain ⟨Ea,hf,hl'⟩:=zdC a hd;obtain ⟨vx,g1,g2⟩:=zh hl' (hE.op (by simp [Op.operands,Call.operands])) hx;have g2:Rp X.P X.G h (.cl f tc) xc vx:=g2
  cases g2 with
  | cl _ _ _ u hr =>
   refine ⟨args.map a.eval++[u],by simp [h1],fun i A v hA hv=>?_,?_⟩
   ·by_cases hi:i<avs.length
    ·rw [List.getElem?_append_left hi] at hA;rw [List.getElem?_append_left (by omega)] at hv;exact h2 i A v hA hv
    ·rw [List.getElem?_append_right (by omega)] at hA;rw [List.getElem?_append_right (by omega),h1] at hv
     cases hj:i-avs.length with
     | zero =>
      rw [hj] at hA hv;cases hA;cases hv;exact zJz hr
     | succ j=>rw [hj] at hA; simp at hA
   ·have:=zAv (X:=X) (w:=w) (dst:=dst) (t:=t) (p:=p) (af:=af) (gd:=gd) (ats:=ats) (args:=⟨args⟩) (us:=[]) (vs:=args.map a.eval) (cs:=[u]) hcall (hf.ev g1) (by simp)
    simpa using this) hC e
theorem zPk {f:Nat} {c:CV τ} (hx:evC E x=some c) (k:K (.c (.cf nid)) [] [(nid, .clo f [] [c])] [] (nid+1)=some r):zc4 X w0 h0 F ⟨dst, .makeFunc (.func f) ⟨[]⟩ ⟨[x]⟩,t,p,af,gd⟩ E L nid K r:=by
 refine ⟨_,_,_,_,_,k,Nat.le_succ _,(fun _ h=>by cases h),fun L2 ν h φ a w next Q hd M hE ha hfr kk=>?_⟩;have hn:=hfr nid (Nat.le_refl _) (Nat.lt_succ_self _);obtain ⟨Ea,hf,hl'⟩:=zdC a hd;obtain ⟨vx,g1,g2⟩:=zh hl' (hE.op (by simp [Op.operands])) hx
 have hrun:(execOp a.eval ⟨dst, .makeFunc (.func f) ⟨[]⟩ ⟨[x]⟩,t,p,af,gd⟩).run X.P w = .ok (.value (.func (.func f) ⟨[]⟩ ⟨[a.eval x]⟩)) w:=by
  simp [execOp,Instr.makeFunc,Result.andThen]
 rw [hf.ev g1] at hrun;refine zfz hrun (kk (up1 ν nid (some (.func (.func f) ⟨[]⟩ ⟨[vx]⟩,none))) h _ w _ (M.add hn (.clo f [] [c]) _ (fp:=[]) ⟨_,_,_,rfl,rfl,rfl,⟨vx,[],rfl,g2.le (Fz.le.refl _) (zbj hn),rfl⟩⟩ (fun b hb=>by cases hb)) (zbj hn) (Fz.le.refl _) zd4 ⟨f,_,_,none,zU _ _ _,rfl⟩)
theorem zNp {f i:Nat} {args:List Operand} {avs:List (XV τ)} {ats:Array TypeId} (hx:evC E x=some (.mv f i)) (hargs:zuU E args=some avs) {cs:zyt τ} (hC:∀q∈cs,COk X.P X.G q.1 q.2) (e:znw X L nid K f (.c (.pt i 0)::avs) cs=some r) :
  zc4 X w0 h0 F ⟨dst, .call ⟨.value x,⟨args⟩,ats⟩,t,p,af,gd⟩ E L nid K r :=
 zsN [] (fun L2 ν h φ a w hd M hE _ hcall=>by
  obtain ⟨h1,h2⟩:=zEJ hargs hd hE;obtain ⟨Ea,hf,hl'⟩:=zdC a hd;obtain ⟨vx,g1,g2⟩:=zh hl' (hE.op (by simp [Op.operands,Call.operands])) hx;obtain ⟨u,q,hν,rfl⟩:=g2;refine ⟨.pointer u::args.map a.eval,by simp [h1],fun j A v hA hv=>?_,?_⟩
  ·cases j with
   | zero =>
    cases hA;cases hv;exact ⟨u,q,hν,by cases u<;>rfl,fun e=>(e rfl).elim⟩
   | succ j=>exact h2 j A v (by simpa using hA) (by simpa using hv)
  ·have:=zAv (X:=X) (w:=w) (dst:=dst) (t:=t) (p:=p) (af:=af) (gd:=gd) (ats:=ats) (args:=⟨args⟩) (us:=[.pointer u]) (vs:=args.map a.eval) (cs:=[]) hcall (hf.ev g1) (by simp)
   simpa using this) hC e
theorem zNq {f i:Nat} (hx:evC E x=some (.pt i 0)) (k:K (.c (.mv f i)) [] [] [] nid=some r):zc4 X w0 h0 F ⟨dst, .makeFunc (.func f) ⟨[x]⟩ ⟨[]⟩,t,p,af,gd⟩ E L nid K r:=by
 refine zaK k fun L2 ν h φ a w hd M hE ha=>?_;obtain ⟨Ea,hf,hl'⟩:=zdC a hd;obtain ⟨vx,g1,g2⟩:=zh hl' (hE.op (by simp [Op.operands])) hx;obtain ⟨u,q,hν,rfl,_⟩:=g2
 have hrun:(execOp a.eval ⟨dst, .makeFunc (.func f) ⟨[x]⟩ ⟨[]⟩,t,p,af,gd⟩).run X.P w = .ok (.value (.func (.func f) ⟨[a.eval x]⟩ ⟨[]⟩)) w:=by
  simp [execOp,Instr.makeFunc,Result.andThen]
 rw [hf.ev g1] at hrun;exact ⟨_,hrun,u,q,hν,by cases u<;>rfl⟩
theorem zNr {P:Program} {t et:TypeId} (h:mpO P t=some et):∃kt,P.underlying t=some (.map kt et)∧P.underlying kt=some (.int .i64):=by
 unfold mpO at h
 split at h
 ·rename_i kt et' h1
  split at h
  ·rename_i h2; cases h; exact ⟨kt,h1,h2⟩
  ·cases h
 ·cases h
theorem zPl {P:Program} {t:TypeId} (h:strZ P t=true) (w:World):(zeroValue t).run P w = .ok (str []) w:=by
 unfold strZ at h
 split at h
 ·rename_i i hi
  split at h
  ·rename_i hz
   simp [zeroValue,typeInfo,hi,hz,go_sem,Result.andThen,str]
  ·cases h
 ·cases h
theorem zNs (k:K (.c (.mp nid)) [] [(nid, .mp [])] [] (nid+1)=some r):zc4 X w0 h0 F ⟨dst, .makeMap t' none,t,p,af,gd⟩ E L nid K r:=by
 refine ⟨_,_,_,_,_,k,Nat.le_succ _,(fun _ h=>by cases h),fun L2 ν h φ a w next Q hd M hE ha hfr kk=>?_⟩;have hn:=hfr nid (Nat.le_refl _) (Nat.lt_succ_self _);have hr:(execOp a.eval ⟨dst, .makeMap t' none,t,p,af,gd⟩).run X.P w = .ok (.value (.map (some w.heap.size))) (w.alloc (.map #[] 0)):=rfl;exact zfz hr (kk _ h _ _ _ (M.alloc hn _ (.mp []) (.map (some w.heap.size),none) ⟨_,none,rfl,rfl,zkC _⟩) (zbj hn) (Fz.le.refl _) zd4 ⟨_,none,zU _ _ _,rfl⟩)
theorem zKR {id:Nat} {et:TypeId} {l:List (Int × Str)} {kx:Int} {vx:Str} (ht:mpO X.P t'=some et) (hx:evC E x=some (.mp id)) (hl:lk L id = .mp l) (hy:evC E y=some (.i kx)) (hz:evC E z=some (.s vx)) (hf0:(l.find? fun q=>q.1==kx)=none)
  (k:K .un [] [(id, .mp (l++[(kx,vx)]))] [id] nid=some r):zc4 X w0 h0 F ⟨dst, .insert t' x y z,t,p,af,gd⟩ E L nid K r:=by
 obtain ⟨kt,h1,h2⟩:=zNr ht;refine ⟨_,_,_,_,_,k,Nat.le_refl _,(fun _ h=>by cases h),fun L2 ν h φ a w next Q hd M hE ha hfr kk=>?_⟩;obtain ⟨Ea,hf,hl'⟩:=zdC a hd;obtain ⟨ux,g1,g2⟩:=zh hl' (hE.op (by simp [Op.operands])) hx;obtain ⟨uy,g3,g4⟩:=zh hl' (hE.op (by simp [Op.operands])) hy;obtain ⟨uz,g5,g6⟩:=zh hl' (hE.op (by simp [Op.operands])) hz;obtain rfl:uy=_:=g4;obtain rfl:uz=_:=g6;obtain ⟨b,q,hν,rfl⟩:=g2;have hr:=M.res id;rw [ha id (List.mem_singleton.2 rfl),hl] at hr;obtain ⟨b',q',c1,c2,c3⟩:=hr;rw [hν] at c1;cases c1;have hlt:b<w.heap.size:=(Array.getElem?_eq_some_iff.1 c3).1
 have hrun:(execOp a.eval ⟨dst, .insert t' x y z,t,p,af,gd⟩).run X.P w = .ok .skip { w with heap:=w.heap.setIfInBounds b (zrX (l++[(kx,vx)])) }:=by
  simp only [execOp]; rw [hf.ev g1,hf.ev g3,hf.ev g5];simp [zHz h1 h2 c3 hf0,Result.andThen]
 refine zHV hrun (kk ν h φ _ undef (M.turn (.mp (l++[(kx,vx)])) c2 (Vn.le.refl _) rfl rfl rfl (by simp) (fun j hj=>by simp [Array.getElem?_setIfInBounds,Ne.symm hj]) ⟨b,q,hν,rfl,?_⟩) (Vn.le.refl _) (Fz.le.refl _) (zde.refl _ _ _) rfl);show ({ w with heap:=w.heap.setIfInBounds b (zrX (l++[(kx,vx)])) }:World).heap[b]? = _;simp [Array.getElem?_setIfInBounds,hlt]
theorem zIP {id:Nat} {et:TypeId} {l:List (Int × Str)} {kx:Int} (ht:mpO X.P t'=some et) (hs:strZ X.P et=true) (hx:evC E x=some (.mp id)) (hl:lk L id = .mp l) (hy:evC E y=some (.i kx))
  (k:K (.t [(false,[.s (zqh l kx).1]),(false,[.b (zqh l kx).2])]) [] [] [id] nid=some r):zc4 X w0 h0 F ⟨dst, .lookup t' x y true,t,p,af,gd⟩ E L nid K r:=by
 obtain ⟨kt,h1,h2⟩:=zNr ht;refine zaK k fun L2 ν h φ a w hd M hE ha=>?_;obtain ⟨Ea,hf,hl'⟩:=zdC a hd;obtain ⟨ux,g1,g2⟩:=zh hl' (hE.op (by simp [Op.operands])) hx;obtain ⟨uy,g3,g4⟩:=zh hl' (hE.op (by simp [Op.operands])) hy;obtain rfl:uy=_:=g4;obtain ⟨b,q,hν,rfl⟩:=g2;have hr:=M.res id;rw [ha id (List.mem_singleton.2 rfl),hl] at hr;obtain ⟨b',q',c1,c2,c3⟩:=hr;rw [hν] at c1;cases c1;refine ⟨_,?_,_,rfl,_,_,rfl,rfl,_,_,rfl,rfl,rfl⟩;simp only [execOp];rw [hf.ev g1,hf.ev g3];simp only [Sem.run_bind,zHA h1 h2 (zPl hs) c3,Result.andThen,Sem.run_pure]
theorem zNt {m:Int} {K:Nat→Option ρ}:∀{n k:Nat},arK m n k K=some r→∃j,k≤j∧j<k+n∧m=(j:Int)∧K j=some r
 | 0,k,e=>by cases e
 | n+1,k,e=>by
  unfold arK at e
  split at e
  ·rename_i h
   exact ⟨k,Nat.le_refl _,by omega,by simpa [isN] using h,e⟩
  ·obtain ⟨j,h1,h2,h3,h4⟩:=zNt e;exact ⟨j,by omega,by omega,h3,h4⟩
theorem arr_ok {n s id j:Nat} {m:Int} {bt:TypeId} {cs:List (CV τ)} (ha:arO X.P t'=some (n,s)) (hx:evC E x=some (.pt id 0)) (hy:evC E y=some (.i m)) (hl:lk L id = .blk bt cs) (hj:j<n) (hm:m=(j:Int)) (k:K (.c (.pt id (j*s))) [] [] [id] nid=some r) :
  zc4 X w0 h0 F ⟨dst, .indexAddr t' x y,t,p,af,gd⟩ E L nid K r:=by
 refine zaK k fun L2 ν h φ a w hd M hE hal=>?_;obtain ⟨Ea,hf,hl'⟩:=zdC a hd;obtain ⟨vx,h1,h2⟩:=zh hl' (hE.op (by simp [Op.operands])) hx;obtain ⟨vy,h3,h4⟩:=zh hl' (hE.op (by simp [Op.operands])) hy;obtain rfl:vy=_:=h4;obtain ⟨u,q,g1,g2,_⟩:=h2;have hr:=M.res id;rw [hal id (List.mem_singleton.2 rfl),hl] at hr;obtain ⟨b,q',vs,g3,_,g4,_⟩:=hr;rw [g1] at g3;cases g3;obtain rfl:vx=ptr b 0:=g2;subst hm
 obtain ⟨e,hu,hs⟩:∃e,X.P.underlying t'=some (.array n e)∧zkT X.P e=some s:=by
  unfold arO at ha
  split at ha
  ·rename_i n' e he
   cases hb:Nat.ble n' 8 with
   | false=>rw [hb] at ha; cases ha
   | true =>
    rw [hb] at ha;dsimp only [cond_true] at ha
    split at ha
    ·rename_i s' hs
     cases ha;exact ⟨e,he,zfA hs⟩
    ·cases ha
  ·cases ha
 have hadd:(⟨b,0,none⟩:Addr).add (j*s)=⟨b,j*s,none⟩:=by unfold Addr.add; split<;>simp_all
 refine ⟨ptr b (j*s),?_,some ⟨b,0,none⟩,q,g1,by simp [zuo],fun _=>⟨b,rfl⟩⟩;refine zBO (fun w=>?_) hf h1 h3;simp [Instr.indexAt,Instr.sureAddr,ptr,asIntOf,run_underlying hu,zcV hs,hj,hadd,Result.andThen]
theorem fm_ok {m:UInt8→Option Bool} {c:UInt8} {b:Bool} {ats:Array TypeId} (hf:evC E x=some (.fm m)) (hy:evC E y=some (.u8 c)) (hm:m c=some b) (k:K (.c (.b b)) [] [] [] nid=some r):zc4 X w0 h0 F ⟨dst, .call ⟨.value x,⟨[y]⟩,ats⟩,t,p,af,gd⟩ E L nid K r:=by
 refine ⟨_,_,_,_,_,k,Nat.le_refl _,(fun _ h=>by cases h),fun L2 ν h φ a w next Q hd M hE ha hn k=>?_⟩;obtain ⟨Ea,hfi,hl'⟩:=zdC a hd;obtain ⟨vf,g1,g2⟩:=zh hl' (hE.op (by simp [Op.operands,Call.operands])) hf;obtain ⟨vy,g3,g4⟩:=zh hl' (hE.op (by simp [Op.operands,Call.operands])) hy;obtain rfl:vy=_:=g4;have g2:Rp X.P X.G h .fn m vf:=g2
 cases g2 with
 | fn _ f hfn =>
  have hexec:=zAu (X:=X) (w:=w) (dst:=dst) (t:=t) (p:=p) (af:=af) (gd:=gd) (ats:=ats) (args:=⟨[y]⟩) (vs:=[zcW c]) hfn.1 (hfi.ev g1) (by simp [hfi.ev g3]);unfold Oper.wp;rw [hexec];refine Calls.mono (hfn.2 c b w hm) ?_;rintro e w' ⟨rfl,hb⟩;exact k ν h φ w' _ (M.grow hb) (Vn.le.refl _) (Fz.le.refl _) (zde.refl _ _ _) rfl
theorem conv_i {n m:Int} {us:TypeDesc} (hx:evC E x=some (.i n)) (ht:X.P.underlying t'=some (.int .i64)) (hs:X.P.underlying ty=some us) (hr:zJE n=some m) (k:K (.c (.i m)) [] [] [] nid=some r):zc4 X w0 h0 F ⟨dst, .convert ty t' x,t,p,af,gd⟩ E L nid K r:=by
 refine zaK k fun L2 ν h φ a w hd M hE ha=>?_;obtain ⟨Ea,hf,hl'⟩:=zdC a hd;obtain ⟨vx,h1,h2⟩:=zh hl' (hE.op (by simp [Op.operands])) hx;obtain rfl:vx=_:=h2;exact ⟨_,zKd ht hs hf h1 hr,rfl⟩
theorem zNu {id e:Nat} {n:Nat} (hx:evC E x=some (.os id)) (hu:elO X.P t'=some e) (k:K (.c (.i (n:Int))) [] [] [id] nid=some r) (hn:(∃te e xs kk,lk L id = .row te e xs kk∧xs.length=n)∨(∃e xs,lk L id = .fz e xs∧xs.length=n)) :
  zc4 X w0 h0 F ⟨dst, .call ⟨.builtin .len,⟨[x]⟩,⟨[t']⟩⟩,t,p,af,gd⟩ E L nid K r:=by
 refine zaK k fun L2 ν h φ a w hd M hE ha=>?_;obtain ⟨Ea,hf,hl'⟩:=zdC a hd;obtain ⟨vx,h1,h2⟩:=zh hl' (hE.op (by simp [Op.operands,Call.operands])) hx;obtain ⟨ad,m,cp,q,hν,rfl⟩:=h2
 have hm:m=n:=by
  have hr:=M.res id;rw [ha id (List.mem_singleton.2 rfl)] at hr
  rcases hn with ⟨te,e,xs,kk,hl,rfl⟩|⟨e,xs,hl,rfl⟩
  ·rw [hl] at hr;obtain ⟨v',q',vs,u,h3,h4,h5,_⟩:=hr;rw [hν] at h3;cases h3;exact h5.len.1
  ·rw [hl] at hr;obtain ⟨v',q',h3,_,h4⟩:=hr;rw [hν] at h3;cases h3;cases h4; rfl
 subst hm;exact ⟨_,zpc (zjZ hu) hf h1,rfl⟩
theorem zq3 {e:Ty} (xs:List (e.den τ)):zmz (t':=e) xs=some xs:=dif_pos rfl
theorem zKS {c:CV τ} {e:Ty} {xs:List (e.den τ)} {ids:List Nat} (k:rowZ L c=some ⟨e,xs,ids⟩):zEB L e c=some (xs,ids):=by
 unfold rowZ at k
 split at k
 ·cases k; unfold zEB; dsimp only; rw [zq3]
 ·rename_i id
  split at k
  ·rename_i hl; cases k; unfold zEB; dsimp only; rw [hl]; dsimp only; rw [zq3]
  ·rename_i hl; cases k; unfold zEB; dsimp only; rw [hl]; dsimp only; rw [zq3]
  ·rename_i i kk e' lo xs' hl
   split at k
   ·rename_i te e2 ys k' hl2
    cases hb:Nat.beq kk k' with
    | false=>rw [hb] at k; cases k
    | true =>
     rw [hb] at k;cases k;unfold zEB; dsimp only; rw [hl]; dsimp only; rw [hl2]; dsimp only; rw [hb,cond_true,zq3]
   ·cases k
  ·cases k
 ·cases k
theorem zPm (M:Mem X.P X.G w0 h0 F L2 w ν h φ) {c:CV τ} {z:Bool} {ids:List Nat} {v:Value} (k:nilZ X.G L c=some (z,ids)) (ha:∀i∈ids,lk L2 i=lk L i) (hv:zcI X.P X.G h ν c v):∃ad n cp,v = .slice ad n cp∧ad.isNone=z:=by
 unfold nilZ at k
 split at k
 ·cases k; cases hv; exact ⟨none,0,0,rfl,rfl⟩
 ·split at k
  ·rename_i e x xs ids' hr
   split at k
   ·rename_i c0 cs hets
    cases k;have hrp:=zDo M (M.lend_le ids) (zKS hr) ha (fun b hb=>zqg hb) hv
    cases hrp with
    | sl _ _ ad cp vs hc hs hrr =>
     refine ⟨ad,_,cp,rfl,?_⟩
     rcases hs with rfl|⟨b,o,cc,e',zz,rfl,_⟩
     ·have:=hrr.len;rw [hets] at this;simp only [List.length_nil,List.length_cons] at this;rw [Nat.mul_comm,Nat.succ_mul] at this;omega
     ·rfl
   ·cases k
  ·cases k
theorem zAw {bo:BinOp} {el:Nat} {c:CV τ} {zb:Bool} {ids:List Nat} (hu:X.P.underlying t'=some (.slice el)) (hx:evC E x=some c) (hy:evX E y=some (.c .n0)) (hz:nilZ X.G L c=some (zb,ids)) (hb:okX (eqO bo zb)=some v) (k:K v [] [] ids nid=some r) :
  zc4 X w0 h0 F ⟨dst, .binOp bo t' x y ty,t,p,af,gd⟩ E L nid K r:=by
 obtain ⟨b,hb,rfl⟩:=zDj hb;refine zaK k fun L2 ν h φ a w hd M hE ha=>?_;obtain ⟨Ea,hf,hl'⟩:=zdC a hd;obtain ⟨vx,h1,h2⟩:=zh hl' (hE.op (by simp [Op.operands])) hx;obtain ⟨uy,g3,g4⟩:=zno hl' (hE.op (by simp [Op.operands])) hy rfl;obtain rfl:uy=_:=g4;obtain ⟨ad,n,cp,rfl,hn⟩:=zPm M hz ha h2
 cases bo<;>first|(cases hb; done)|skip
 all_goals cases hb
 ·exact ⟨_,zCW hu hf h1 g3,by rw [hn]; rfl⟩
 ·exact ⟨_,zKT hu hf h1 g3,by rw [hn]; rfl⟩
theorem zNv {id:Nat} {e:Ty} {xs:List (e.den τ)} (h:rwO L id=some ⟨e,xs⟩):rowZ L (.os id)=some ⟨e,xs,[id]⟩:=by
 unfold rwO at h;unfold rowZ;dsimp only
 split at h
 ·rename_i hl; cases h; rw [hl]
 ·rename_i hl; cases h; rw [hl]
 ·cases h
theorem zGW {x:Operand} {c:CV τ} (h:evX E x=some (.c c)):evC E x=some c:=by unfold evC; rw [h]
theorem zq4 (hT:TyOk X) (hC:∀q∈X.cs,COk X.P X.G q.1 q.2) (e:opX X E L nid K o.op=some r):zc4 X w0 h0 F o E L nid K r:=by
 obtain ⟨dst,op,t,p,af,gd⟩:=o;dsimp only at e;unfold opX at e
 split at e
 ·rename_i v hv
  exact zaK e fun L2 ν h φ a w hd M hE ha=>opP_ok hT hd M.on hE hv
 ·split at e
  ·split at e
   ·rename_i A hA
    split at e
    ·rename_i B hB
     split at e
     ·split at e
      ·split at e
       ·rename_i hu
        exact zOP hu hA hB (fun _ _ _ _=>rfl) e
       ·cases e
      ·exact zHW hA hB e
     ·split at e
      ·split at e
       ·rename_i hu
        split at e
        ·rename_i hv0
         exact zAw hu (zGW hA) hB rfl hv0 e
        ·cases e
       ·cases e
      ·rename_i id
       split at e
       ·rename_i hu
        split at e
        ·rename_i ee xs hr
         split at e
         ·rename_i c0 cs0 hets
          obtain ⟨z0,hz0,e2⟩:=ob e
          clear e
          cases xs with
          | nil=>cases hz0
          | cons x0 xs0 =>
           cases hv0:okX (eqO _ false) with
           | none=>rw [hv0] at e2; cases e2
           | some v0 =>
            rw [hv0] at e2;refine zAw hu (zGW hA) hB ?_ hv0 e2;unfold nilZ;dsimp only;rw [zNv hr];dsimp only;rw [hets]
         ·cases e
        ·cases e
       ·cases e
      ·exact zHW hA hB e
     ·exact zHW hA hB e
    ·cases e
   ·cases e
  ·split at e
   ·rename_i hx
    exact zOO hx (fun _ _ _=>rfl) e
   ·cases e
  ·split at e
   ·rename_i hf
    split at e
    ·rename_i hx
     exact zON hf hx (fun _ _ _=>rfl) e
    ·cases e
   ·cases e
  ·split at e
   ·rename_i hu
    split at e
    ·rename_i hx
     split at e
     ·rename_i hy
      obtain ⟨z,hz,e⟩:=ob e;exact zME hu hx hy hz e
     ·cases e
    ·cases e
   ·cases e
  ·split at e
   ·rename_i hu
    split at e
    ·rename_i l hx
     split at e
     ·split at e
      ·rename_i hy
       split at e
       ·rename_i hz
        obtain ⟨s,hs,e⟩:=ob e;refine zn0 hx (fun hf hl hE h1=>?_) e;obtain ⟨vy,h2,h3⟩:=zh hl (hE.op (by simp [Op.operands])) hy;obtain ⟨vz,h4,h5⟩:=zh hl (hE.op (by simp [Op.operands])) hz;obtain rfl:vy=_:=h3;obtain rfl:vz=_:=h5;exact zLK hu hf h1 h2 h4 hs
       ·cases e
      ·cases e
     ·split at e
      ·rename_i hy
       obtain ⟨s,hs,e⟩:=ob e;refine zn0 hx (fun hf hl hE h1=>?_) e;obtain ⟨vy,h2,h3⟩:=zh hl (hE.op (by simp [Op.operands])) hy;obtain rfl:vy=_:=h3;exact zKc hu hf h1 h2 hs
      ·cases e
     ·split at e
      ·rename_i hz
       obtain ⟨s,hs,e⟩:=ob e;refine zn0 hx (fun hf hl hE h1=>?_) e;obtain ⟨vz,h4,h5⟩:=zh hl (hE.op (by simp [Op.operands])) hz;obtain rfl:vz=_:=h5;exact zOn hu hf h1 h4 hs
      ·cases e
     ·exact zn0 hx (fun hf hl hE h1=>zLM hu hf h1) e
    ·cases e
   ·rename_i te hu
    split at e
    ·rename_i c hx
     split at e
     ·rename_i hv
      obtain ⟨hsz,e⟩:=zgF e;exact zOQ hu hx hv (zuz hsz).1 e
     ·split at e
      ·rename_i e' l U ids hs
       obtain ⟨hsz,e⟩:=zgF e;obtain ⟨hsz,_⟩:=zuz hsz
       split at e
       ·split at e
        ·rename_i hy
         split at e
         ·rename_i hz
          obtain ⟨s,hr,e⟩:=ob e;exact slice3 hu hx hs hsz hy hz hr e
         ·cases e
        ·cases e
       ·split at e
        ·rename_i hy
         obtain ⟨s,hr,e⟩:=ob e;exact slice1 hu hx hs hsz hy hr e
        ·cases e
       ·split at e
        ·rename_i hz
         obtain ⟨s,hr,e⟩:=ob e;exact slice2 hu hx hs hsz hz hr e
        ·cases e
       ·cases e
      ·cases e
    ·cases e
   ·cases e
  ·split at e
   ·rename_i hx
    split at e
    ·rename_i hs
     split at e
     ·rename_i hd'
      obtain ⟨m,hm,e⟩:=ob e;exact conv_i hx hd' hs hm e
     ·cases e
    ·cases e
   ·rename_i hx
    split at e
    ·rename_i hs
     split at e
     ·rename_i hd'
      split at e
      ·rename_i he
       exact zMC hx hs hd' he e
      ·cases e
     ·cases e
    ·cases e
   ·rename_i hx
    split at e
    ·rename_i hd'
     split at e
     ·rename_i hs
      split at e
      ·rename_i he
       split at e
       ·rename_i hr
        exact str_ok hx hd' hs he hr e
       ·cases e
      ·cases e
     ·cases e
    ·cases e
   ·cases e
  ·split at e
   ·rename_i hz
    exact zNG hz e
   ·cases e
  ·split at e
   ·rename_i hA
    split at e
    ·rename_i hc
     exact box_ok hA hc e
    ·cases e
   ·cases e
  ·split at e
   ·rename_i hx
    exact zNB hx e
   ·cases e
  ·split at e
   ·rename_i A hA
    split at e
    ·rename_i vs hc
     split at e
     ·rename_i n hn
      obtain ⟨hl,e⟩:=zgF e
      have hl:vs.length=n:=by simpa using hl
      split at e
      ·rename_i c hx
       unfold zM9 at e
       split at e
       ·split at e
        ·rename_i hlk
         split at e
         ·rename_i hp
          exact zKY hA hc hn hl hx hlk hp e
         ·cases e
        ·cases e
       ·split at e
        ·rename_i hlk
         have hk:=Nat.eq_of_beq_eq_true (zgF e).1
         replace e:=(zgF e).2
         subst hk
         split at e
         ·rename_i hp
          split at e
          ·rename_i hq
           split at e
           ·rename_i hz
            split at e
            ·rename_i hU
             obtain ⟨hid,e⟩:=bc_f e;obtain ⟨l,hs,e⟩:=ob e;exact zKn hA hc hn hl hx hlk hp hq hz hU hid hs e
            ·cases e
           ·cases e
          ·cases e
         ·cases e
        ·cases e
       ·cases e
      ·cases e
     ·cases e
    ·cases e
   ·cases e
  ·split at e
   ·rename_i ha
    split at e
    ·rename_i hy
     split at e
     ·rename_i hx
      split at e
      ·rename_i hl
       obtain ⟨j,_,h2,h3,e⟩:=zNt e;exact arr_ok ha hx hy hl (by omega) h3 e
      ·cases e
     ·cases e
    ·cases e
   ·split at e
    ·rename_i te hel
     split at e
     ·rename_i m hy
      split at e
      ·rename_i e' xs hx
       obtain ⟨hsz,e⟩:=zgF e;obtain ⟨hsz,hpos⟩:=zuz hsz;obtain ⟨d,hd,e⟩:=ob e;exact ix_ok hT hel hx hy hd hsz hpos e fun _ _ _ _ _ _ _ _ h=>h
      ·rename_i id hx
       split at e
       ·rename_i hlk
        obtain ⟨hsz,e⟩:=zgF e;obtain ⟨hsz,hpos⟩:=zuz hsz;obtain ⟨d,hd,e⟩:=ob e;exact ixo_ok hel hx hy hlk hd hsz hpos e
       ·rename_i hlk
        obtain ⟨hsz,e⟩:=zgF e;obtain ⟨hsz,hpos⟩:=zuz hsz;obtain ⟨d,hd,e⟩:=ob e;refine ix_ok hT hel hx hy hd hsz hpos e fun L2 ν h φ w u M ha hu=>?_;obtain ⟨ad,n,cp,q,hν,rfl⟩:=hu;have hr:=M.res id;rw [ha id (List.mem_singleton.2 rfl),hlk] at hr;obtain ⟨v',q',h3,_,h4⟩:=hr;rw [hν] at h3;cases h3;exact h4
       ·rename_i hlk
        split at e
        ·rename_i hlk2
         obtain ⟨hb,e3⟩:=zgF e;simp only [Bool.and_eq_true,Nat.beq_eq] at hb;obtain ⟨hkk,hsz⟩:=hb;subst hkk;obtain ⟨d,hr,e4⟩:=ob e3;exact zFS hel hx hy hlk hlk2 hsz hr e4
        ·cases e
       ·cases e
      ·cases e
     ·cases e
    ·cases e
  ·split at e
   ·rename_i hel
    split at e
    ·rename_i hte
     split at e
     ·rename_i hx
      obtain ⟨hb,e⟩:=zgF e;simp only [Bool.and_eq_true,Nat.beq_eq,Nat.ble_eq] at hb
      split at e
      ·rename_i hU
       exact bs_ok hT hel hte hx hb.1 hb.2 hU e
      ·cases e
     ·cases e
    ·cases e
   ·cases e
  ·split at e
   ·rename_i id hx
    split at e
    ·rename_i hu
     split at e
     ·rename_i hl
      exact zNu hx hu e (.inl ⟨_,_,_,_,hl,rfl⟩)
     ·rename_i hl
      exact zNu hx hu e (.inr ⟨_,_,hl,rfl⟩)
     ·rename_i hl
      exact zKp hx hl hu e
     ·cases e
    ·cases e
   ·cases e
  ·split at e
   ·rename_i te hel
    split at e
    ·rename_i e' hte
     split at e
     ·rename_i hx
      split at e
      ·rename_i hA
       split at e
       ·rename_i hy
        split at e
        ·rename_i hu
         split at e
         ·rename_i hl
          obtain ⟨hb,e⟩:=zgF e;obtain ⟨hfit,e⟩:=og e;exact zH7 hel hx hA hy hu hl hb hfit e
         ·cases e
        ·cases e
       ·rename_i hy
        have hb:=Nat.eq_of_beq_eq_true (zgF e).1
        replace e:=(zgF e).2
        subst hb;exact zPe hT hel hel hte hx hA hy e rfl
       ·rename_i hy
        split at e
        ·rename_i hB
         have hb:=(zgF e).1
         replace e:=(zgF e).2
         simp only [Bool.and_eq_true,Nat.beq_eq] at hb;obtain ⟨hdj,rfl⟩:=hb;obtain ⟨hfit,e⟩:=og e;exact zH8 hT hel hel hte hx hA hy hB hdj hfit e rfl
        ·cases e
       ·cases e
      ·cases e
     ·cases e
    ·cases e
   ·cases e
  ·split at e
   ·rename_i hel
    split at e
    ·rename_i hx
     exact zMH hel hx e
    ·cases e
   ·cases e
  ·split at e
   ·rename_i hx
    split at e
    ·rename_i hargs
     exact zGV hx hargs hC e
    ·cases e
   ·rename_i hx
    split at e
    ·rename_i hargs
     exact zNo hx hargs hC e
    ·cases e
   ·rename_i hx
    split at e
    ·rename_i hargs
     exact zNp hx hargs hC e
    ·cases e
   ·rename_i hf
    split at e
    ·split at e
     ·rename_i hy
      obtain ⟨b,hb,e⟩:=ob e;exact fm_ok hf hy hb e
     ·cases e
    ·cases e
   ·cases e
  ·split at e
   ·rename_i hx
    exact zPk hx e
   ·cases e
  ·split at e
   ·rename_i hx
    exact zNq hx e
   ·cases e
  ·exact zNs e
  ·split at e
   ·rename_i ht
    split at e
    ·rename_i hx
     split at e
     ·rename_i hl
      split at e
      ·rename_i hy
       split at e
       ·rename_i hz
        split at e
        ·rename_i hf
         exact zKR ht hx hl hy hz hf e
        ·cases e
       ·cases e
      ·cases e
     ·cases e
    ·cases e
   ·cases e
  ·split at e
   ·rename_i ht
    have hs:=(zgF e).1
    replace e:=(zgF e).2
    split at e
    ·rename_i hx
     split at e
     ·rename_i hl
      split at e
      ·rename_i hy
       exact zIP ht hs hx hl hy e
      ·cases e
     ·cases e
    ·cases e
   ·cases e
  ·cases e
end
end Go.Rk
end
section
namespace Go.Rk
open Go.RowKit Go.Dm Go.Dk
variable {τ:Nat→Type}
section
variable {ρ:Type} {X:Cx τ} {w0 w w':World} {h0 h h':Fz} {F:List Nat} {o:Oper} {E E' E'':zu τ} {L L2:Hp τ} {ν ν':Vn τ} {φ φ':Nat→List Nat} {nid nid':Nat} {r:ρ} {a:Act}
def zbZ (X:Cx τ) (h:Fz) (ν:Vn τ) (a:Act) (E:zu τ):Prop:=∀t x,asc E t=some x→zjo X h ν a t x
theorem zbZ.on (hE:zbZ X h ν a E) (l:List Nat):zd8 X h ν a l E:=fun t _ x e=>hE t x e
theorem zjo.le (hh:h.le h') (hν:ν.le ν') {t:Nat} {x:XV τ} (hs:zjo X h ν a t x):zjo X h' ν' a t x :=
 let ⟨v,h1,h2⟩:=hs; ⟨v,h1.le hh hν,h2⟩
def Ref (E E':zu τ):Prop:=∀t x,asc E' t=some x→asc E t=some x∨∃b,x = .c (.k b)∧asc E t=some (.c (.b b))
theorem Ref.refl (E:zu τ):Ref E E:=fun _ _ e => .inl e
theorem zjo.ref {t:Nat} {b:Bool} (hs:zjo X h ν a t (.c (.b b))):zjo X h ν a t (.c (.k b)):=hs
theorem Ref.env (hr:Ref E E') (hE:zbZ X h ν a E):zbZ X h ν a E':=by
 intro t x e
 rcases hr t x e with h1|⟨b,rfl,h1⟩
 ·exact hE t x h1
 ·exact (hE t _ h1).ref
theorem Ref.on {l:List Nat} (hr:Ref E E') (hE:zd8 X h ν a l E):zd8 X h ν a l E':=by
 intro t ht x e
 rcases hr t x e with h1|⟨b,rfl,h1⟩
 ·exact hE t ht x h1
 ·exact (hE t ht _ h1).ref
theorem zmI {α:Type}:∀(U L:List (Nat × α)) (t:Nat),asc (U++L) t=match asc U t with
  | some v=>some v
  | none=>asc L t
 | [],L,t=>rfl
 | (k,v)::U,L,t=>by
  simp only [List.cons_append,zdf,zbP]
  cases Nat.beq k t with
  | true=>rfl
  | false=>exact zmI U L t
theorem Ref.app (hr:Ref E E') (N:zu τ):Ref (N++E) (N++E'):=by
 intro t x e;rw [zmI] at e ⊢
 cases hn:asc N t with
 | some v=>rw [hn] at e; exact .inl e
 | none=>rw [hn] at e; exact hr t x e
theorem Ref.known (hr:Ref E E') {s:Nat} {b:Bool} (hb:asc E' s=some (.c (.b b))):Ref E ((s, .c (.k b))::E'):=by
 intro t x e;simp only [zdf,zbP] at e
 cases hst:Nat.beq s t with
 | true =>
  rw [hst] at e;cases e
  have:s=t:=by simpa using hst
  subst this
  rcases hr s _ hb with h1|⟨b',h1,_⟩
  ·exact .inr ⟨b,rfl,h1⟩
  ·cases h1
 | false=>rw [hst] at e; exact hr t x e
theorem Ref.trans (h1:Ref E E') (h2:Ref E' E''):Ref E E'':=by
 intro t x e
 rcases h2 t x e with h3|⟨b,rfl,h3⟩
 ·exact h1 t x h3
 ·rcases h1 t _ h3 with h4|⟨b',h4,_⟩
  ·exact .inr ⟨b,rfl,h4⟩
  ·cases h4
theorem zN7 {all:List Oper} {j s:Nat} (e:dstO all j=some s):(all.toArray[j]?).bind (·.dst)=some s:=by
 unfold dstO at e
 split at e
 ·rename_i o ho
  rw [zgb] at ho;simp [ho,e]
 ·cases e
theorem zs8 {all:List Oper} {g:Option (Nat × Bool)} {run pass:zu τ→Option ρ} (e:zxk all E g run pass=some r) :
  ∃(m:Bool) (E':zu τ),(if m then run E' else pass E')=some r∧Ref E E'∧∀(X:Cx τ) (h:Fz) (ν:Vn τ) (a:Act) (o:Oper),o.guard=g→zd8 X h ν a (gdR all g) E→Region.wanted o (yielded all.toArray a.tmps)=m:=by
 unfold zxk hi at e
 split at e
 ·exact ⟨true,E,e,Ref.refl E,fun X h ν a o hg _=>by simp [Region.wanted,hg]⟩
 ·rename_i j w
  split at e
  ·rename_i s hs
   obtain ⟨hlt,e⟩:=zgF e;have hs':=zN7 hs
   have hy:∀{X:Cx τ} {h:Fz} {ν:Vn τ} {a:Act} {x:XV τ},zd8 X h ν a (gdR all (some (j,w))) E→asc E s=some x→zjP x=false→∃v,XOk X.P X.G h ν x v∧a.tmps[s]? = some v:=by
    intro X h ν a x hE hx hg;obtain ⟨v,h1,h2,_⟩:=hE s (by simp [gdR,hs,hlt]) x hx;exact ⟨v,h1,h2 hlt hg⟩
   have hb:∀{b:Bool} {X:Cx τ} {h:Fz} {ν:Vn τ} {a:Act} {o:Oper},(asc E s=some (.c (.b b))∨asc E s=some (.c (.k b)))→o.guard=some (j,w)→zd8 X h ν a (gdR all (some (j,w))) E→Region.wanted o (yielded all.toArray a.tmps)=(b==w):=by
    intro b X h ν a o hx hg hE
    have:a.tmps[s]? = some (.bool b):=by
     rcases hx with hx|hx
     ·obtain ⟨v,h1,h2⟩:=hy hE hx rfl; rw [h2,show v=_ from h1]
     ·obtain ⟨v,h1,h2⟩:=hy hE hx rfl; rw [h2,show v=_ from h1]
    have hyl:yielded all.toArray a.tmps j=some b:=by
     unfold yielded; rw [hs']; simp [this]
    cases b<;>cases w<;>simp [Region.wanted,hg,hyl]
   split at e
   ·rename_i hx
    refine ⟨false,E,e,Ref.refl E,fun X h ν a o hg hE=>?_⟩;obtain ⟨v,h1,h2⟩:=hy hE hx rfl
    have hyl:yielded all.toArray a.tmps j=none:=by
     unfold yielded; rw [hs']; simp [h2,show v=undef from h1,undef]
    simp [Region.wanted,hg,hyl]
   ·rename_i b hx
    refine ⟨b==w,E,?_,Ref.refl E,fun X h ν a o hg hE=>hb (.inr hx) hg hE⟩;cases b<;>cases w<;>exact e
   ·rename_i b hx
    cases b with
    | true =>
     rw [if_pos rfl] at e;refine ⟨true==w,_,?_,(Ref.refl E).known hx,fun X h ν a o hg hE=>hb (.inl hx) hg hE⟩;cases w<;>exact e
    | false =>
     rw [if_neg (by simp)] at e;refine ⟨false==w,_,?_,(Ref.refl E).known hx,fun X h ν a o hg hE=>hb (.inl hx) hg hE⟩;cases w<;>exact e
   ·cases e
  ·cases e

structure St (X:Cx τ) (w0:World) (h0:Fz) (F:List Nat) (E:zu τ) (L:Hp τ) (nid:Nat) (a:Act) (w:World):Prop where
 nodef:a.defers=[]
 size:a.tmps.size=X.n
 st:∃ν h φ,Mem X.P X.G w0 h0 F L w ν h φ∧zbZ X h ν a E∧∀i,nid≤i→ν i=none
theorem St.ref (s:St X w0 h0 F E L nid a w) (hr:Ref E E'):St X w0 h0 F E' L nid a w :=
 ⟨s.nodef,s.size,let ⟨ν,h, φ,M,hE,hn⟩:=s.st; ⟨ν,h, φ,M,hr.env hE,hn⟩⟩
def zHx (l:List Oper) (d:Option Nat) (v:XV τ) (g:List (XV τ)):zu τ:=putT v (zv5 g l d []) d
theorem zvg (l:List Oper) (d:Option Nat) (v:XV τ) (g:List (XV τ)) (E:zu τ):zCQ l d v g E=zHx l d v g++E:=by
 unfold zCQ zHx putT zv5
 cases d with
 | none =>
  cases g with
  | nil=>rfl
  | cons x g=>cases g<;>rfl
 | some d =>
  cases g with
  | nil=>rfl
  | cons x g=>cases g<;>rfl
theorem zC3 (d:Option Nat) (E:zu τ):unT E d=zHx [] d .un []++E:=by cases d<;>rfl
theorem zyR {t:Nat} {x:XV τ} (hg:zjP x=true):zjo X h ν a t x:=by
 cases x with
 | gv t' y=>exact ⟨if t<20000 then X.fx (t-gh) else ptr (t-gb) 0,trivial,(fun _ e=>by cases e),fun h=>if_neg (by unfold gb at h; omega),fun _ h=>if_pos h⟩
 | _=>cases hg
theorem zs9 {l:List Oper} {d:Option Nat} {v:XV τ} {g:List (XV τ)} {u:Value} (hN:X.n≤gh) (hd:dOk X.n d=true) (hs:a.tmps.size=X.n) (hg:∀x∈g,zjP x=true) (hv:XOk X.P X.G h ν v u) (hE:∀t x,asc E t=some x→d≠some t→zjo X h ν a t x) :
  zbZ X h ν (a.put d u) (zHx l d v g++E):=by
 have old:∀t x,asc E t=some x→d≠some t→zjo X h ν (a.put d u) t x:=by
  intro t x e hne;obtain ⟨v',h1,h2,h3⟩:=hE t x e hne;refine ⟨v',h1,fun a1 a2=>?_,h3⟩
  cases d with
  | none=>exact h2 a1 a2
  | some d =>
   have:d≠t:=fun e=>hne (by rw [e]);simp [Act.put,this,h2 a1 a2]
 have gh_ok:∀t x,asc (zv5 g l d []) t=some x→zjo X h ν (a.put d u) t x:=by
  intro t x e;unfold zv5 at e
  split at e
  ·rename_i y
   have hy:=hg y (List.mem_singleton.2 rfl)
   cases d with
   | none =>
    simp only [zdf,zbP] at e
    cases hb:Nat.beq (30000+l.length%10000) t with
    | true=>rw [hb] at e; cases e; exact zyR hy
    | false=>rw [hb] at e; cases e
   | some d =>
    simp only [zdf,zbP] at e
    cases hb:Nat.beq (20000+d) t with
    | true=>rw [hb] at e; cases e; exact zyR hy
    | false=>rw [hb] at e; cases e
  ·cases e
 intro t x e;unfold zHx putT at e
 cases d with
 | none =>
  simp only at e;rw [zmI] at e
  cases hgt:asc (zv5 g l none []) t with
  | some y=>rw [hgt] at e; cases e; exact gh_ok t _ hgt
  | none=>rw [hgt] at e; exact old t x e (by simp)
 | some d =>
  simp only [List.cons_append,zdf,zbP] at e
  cases hb:Nat.beq d t with
  | true =>
   rw [hb] at e;cases e
   have:d=t:=by simpa using hb
   subst this
   have hlt:d<X.n:=by simpa [dOk] using hd
   refine ⟨u,hv,fun _ _=>?_,fun hge=>?_,fun hge=>?_⟩
   ·simp [Act.put,hs,hlt]
   ·exfalso
    unfold gb at hge; unfold gh at hN; omega
   ·exfalso; omega
  | false =>
   rw [hb,cond_false,zmI] at e
   cases hgt:asc (zv5 g l (some d) []) t with
   | some y=>rw [hgt] at e; cases e; exact gh_ok t _ hgt
   | none =>
    rw [hgt] at e;refine old t x e ?_;intro e2;cases e2;simp at hb
theorem zbZ.le (hh:h.le h') (hν:ν.le ν') (hE:zbZ X h ν a E):zbZ X h' ν' a E:=fun t x e=>(hE t x e).le hh hν
theorem zo8 (a:Act) (d:Option Nat) (v:Value):(a.put d v).tmps.size=a.tmps.size:=by cases d<;>simp [Act.put]
theorem zta (a:Act) (d:Option Nat) (v:Value):(a.put d v).defers=a.defers:=by cases d<;>rfl
theorem zC4 {op:OpF τ ρ} (hop:zvw X w0 h0 F op) (hN:X.n≤gh) {all:List Oper} {Q:Exit→Act→World→Prop} {K:zu τ→Hp τ→Nat→Option ρ}
  (hK:∀E L nid a w,K E L nid=some r→St X w0 h0 F E L nid a w→Q .normal a w):∀{l:List Oper} {E:zu τ} {L:Hp τ} {nid:Nat} {a:Act} {w:World},opsX op X all l E L nid K=some r→St X w0 h0 F E L nid a w→wpList X.P all.toArray Q l a w
 | [],E,L,nid,a,w,e,s=>hK _ _ _ _ _ e s
 | o :: l,E,L,nid,a,w,e,s=>by
  unfold opsX at e;obtain ⟨hd,e⟩:=zgF e;obtain ⟨m,E',e,hr,hw⟩:=zs8 e;obtain ⟨ν,h, φ,M,hE,hn⟩:=s.st;have hwant:=hw X h ν a o rfl (hE.on _);unfold wpList;rw [hwant]
  cases m with
  | false =>
   simp only [Bool.false_eq_true,if_false] at e ⊢;rw [zC3] at e;refine zC4 hop hN hK e ⟨?_,?_, ν,h, φ,M,?_,hn⟩
   ·rw [zta]; exact s.nodef
   ·rw [zo8]; exact s.size
   ·exact zs9 hN hd s.size (fun _ h=>by cases h) rfl fun t x e _=>hr.env hE t x e
  | true =>
   simp only [if_true] at e ⊢
   left
   obtain ⟨v,g,U,tch,nid',e1,hle,hg,hok⟩:=hop _ _ _ _ _ _ e;refine hok L ν h φ a w _ Q s.nodef M ((hr.env hE).on _) (fun _ _=>rfl) (fun i h1 _=>hn i h1) fun ν' h' φ' w' u M' hν hh hfr hv=>?_;simp only [zvg] at e1;refine zC4 hop hN hK e1 ⟨?_,?_, ν',h', φ',M',?_,fun i hi=>?_⟩
   ·rw [zta]; exact s.nodef
   ·rw [zo8]; exact s.size
   ·exact zs9 hN hd s.size hg hv fun t x e _=>((hr.env hE).le hh hν) t x e
   ·cases e:ν' i with
    | none=>rfl
    | some y =>
     have:=hfr i (hn i (by omega)) (by rw [e]; simp);omega
end
end Go.Rk
end
section
namespace Go.Rk
open Go.RowKit Go.Dm Go.Dk
variable {τ:Nat→Type}

section
variable {R α:Type}
noncomputable def zkL (q:R→List (Nat × α)):List R→Nat→(Nat→Bool)→List (Nat × α)→List (Nat × α)
 | [],_,_,B=>B
 | r::rs,i,f,B=>zkL q rs (i+1) f (if f i=true then q r++B else B)
noncomputable def ziB (q:R→List (Nat × α)):List R→Nat→(Nat→Bool)→Nat→Option α
 | [],_,_,_=>none
 | r::rs,i,f,t=>match ziB q rs (i+1) f t with
  | some v=>some v
  | none=>if f i=true then asc (q r) t else none
theorem zky (q:R→List (Nat × α)):∀(rs:List R) (i:Nat) (f:Nat→Bool) (B:List (Nat × α)) (t:Nat),asc (zkL q rs i f B) t=match ziB q rs i f t with
  | some v=>some v
  | none=>asc B t
 | [],_,_,_,_=>rfl
 | r :: rs,i,f,B,t=>by
  simp only [zkL,ziB];rw [zky q rs (i+1) f _ t]
  cases ziB q rs (i+1) f t with
  | some v=>rfl
  | none =>
   by_cases hf:f i=true
   ·simp only [hf,if_true]
    first
     | (rw [zmI]; done)
     | (rw [zmI]; cases asc (q r) t<;>rfl)
   ·simp only [hf,if_false,Bool.false_eq_true]
def wr (l:List (Nat × α)) (t:Nat):Prop:=∃v,asc l t=some v
theorem zf6 (q:R→List (Nat × α)) {f f':Nat→Bool} {t:Nat}:∀(rs:List R) (i:Nat),(∀j r,rs[j]? = some r→wr (q r) t→f (i+j)=f' (i+j))→ziB q rs i f t=ziB q rs i f' t
 | [],_,_=>rfl
 | r::rs,i,h=>by
  simp only [ziB]
  rw [zf6 q (f:=f) (f':=f') (t:=t) rs (i+1) fun j r' hj hw=>by
   have:=h (j+1) r' (by simpa using hj) hw
   rwa [show i+(j+1)=i+1+j by omega] at this]
  cases ziB q rs (i+1) f' t with
  | some v=>rfl
  | none =>
   cases ha:asc (q r) t with
   | none=>simp
   | some v =>
    have:=h 0 r rfl ⟨v,ha⟩;simp only [Nat.add_zero] at this;simp [this]
theorem zAo (q:R→List (Nat × α)) {f:Nat→Bool} {t:Nat}:∀(rs:List R) (i:Nat),(∀j r,rs[j]? = some r→wr (q r) t→f (i+j)=false)→ziB q rs i f t=none
 | [],_,_=>rfl
 | r::rs,i,h=>by
  simp only [ziB]
  rw [zAo q rs (i+1) fun j r' hj hw=>by
   have:=h (j+1) r' (by simpa using hj) hw
   rwa [show i+(j+1)=i+1+j by omega] at this]
  cases ha:asc (q r) t with
  | none=>simp
  | some v=>simp [show f i=false from h 0 r rfl ⟨v,ha⟩]
theorem zu0 (q:R→List (Nat × α)) {f:Nat→Bool} {t:Nat} {v:α}:∀(rs:List R) (i k:Nat) (r:R),rs[k]? = some r→f (i+k)=true→asc (q r) t=some v→(∀j r',rs[j]? = some r'→wr (q r') t→k<j→f (i+j)=false)→ziB q rs i f t=some v
 | [],_,_,_,hr,_,_,_=>by simp at hr
 | r0::rs,i,0,r,hr,hf,hv,h=>by
  simp at hr;subst hr;simp only [ziB]
  rw [zAo q rs (i+1) fun j r' hj hw=>by
   have:=h (j+1) r' (by simpa using hj) hw (by omega)
   rwa [show i+(j+1)=i+1+j by omega] at this]
  simp only [Nat.add_zero] at hf;simp [hf,hv]
 | r0::rs,i,k+1,r,hr,hf,hv,h=>by
  simp only [ziB]
  rw [zu0 q rs (i+1) k r (by simpa using hr) (by rwa [show i+1+k=i+(k+1) by omega]) hv fun j r' hj hw hlt=>by
   have:=h (j+1) r' (by simpa using hj) hw (by omega)
   rwa [show i+(j+1)=i+1+j by omega] at this]
end
theorem zu1:∀(L:Hp τ) (i:Nat),lk L i=match asc L i with
  | some r=>r
  | none => .gone
 | [],_=>rfl
 | (k,v)::L,i=>by
  simp only [zup,zmH,zdf,zbP]
  cases Nat.beq k i with
  | true=>rfl
  | false=>exact zu1 L i
theorem zIL {U:Hp τ} {i:Nat}:wr U i↔i∈kys U:=by
 constructor
 ·rintro ⟨v,h⟩;exact List.mem_map.2 ⟨_,zmP h,rfl⟩
 ·intro h
  induction U with
  | nil=>cases h
  | cons p U ih =>
   by_cases e:p.1=i
   ·exact ⟨p.2,by obtain ⟨k,v⟩:=p; simp at e; subst e; simp [zdf,zbP]⟩
   ·obtain ⟨k,v⟩:=p
    rcases List.mem_cons.1 h with h|h
    ·exact (e h.symm).elim
    ·obtain ⟨u,hu⟩:=ih h;exact ⟨u,by simp only [zdf,zbP]; rw [zbN.2 e]; exact hu⟩

def zEH (all:List Oper) (i:Nat):List Nat:=match all[i]? with
 | none=>[]
 | some o=>(o.after.toList.filter (Region.binds .any)).map (·.on)
theorem zu2:∀(l:List Oper) (P:List (List Nat)) (k:Nat),k<P.length→zh2 (zhs P l) k=zh2 P k
 | [],P,k,_=>rfl
 | o::l,P,k,hk=>by
  unfold zhs;rw [zu2 l _ k (by simp; omega),zgb,zgb,List.getElem?_append_left hk]
theorem zxm:∀(l:List Oper) (P:List (List Nat)) (j:Nat) (o:Oper),l[j]? = some o→∃P',P'.length=P.length+j∧(∀k,k<P.length+j→zh2 P' k=zh2 (zhs P l) k)∧zh2 (zhs P l) (P.length+j)=some (zAk P' o)
 | [],P,j,o,h=>by simp at h
 | o'::l,P,0,o,h=>by
  simp at h;subst h;refine ⟨P,rfl,fun k hk=>?_,?_⟩
  ·rw [zu2 (o'::l) P k (by omega)]
  ·unfold zhs;rw [zu2 l _ _ (by simp),zgb];simp
 | o'::l,P,j+1,o,h=>by
  unfold zhs;obtain ⟨P',h1,h2,h3⟩:=zxm l (P++[zAk P o']) j o (by simpa using h);simp only [List.length_append,List.length_singleton] at h1 h2 h3;refine ⟨P',by omega,fun k hk=>h2 k (by omega),?_⟩;rw [show P.length+(j+1)=P.length+1+j by omega];exact h3
theorem zAp {all:List Oper} {f:Nat→Bool} (hcl:∀j,f j=true→∀e∈zEH all j,f e=true):∀(j:Nat) (l:List Nat),zh2 (zhs [] all) j=some l→(∀e∈zEH all j,f e=true)→∀e∈l,f e=true:=by
 intro j
 induction j using Nat.strongRecOn with
 | _ j ih =>
  intro l hl hb e he
  have hj:j<all.length:=by
   rcases Nat.lt_or_ge j all.length with h|h
   ·exact h
   ·exfalso
    have hlen:∀(l:List Oper) (P:List (List Nat)),(zhs P l).length=P.length+l.length:=by
     intro l
     induction l with
     | nil=>intro P; rfl
     | cons o l ih=>intro P; unfold zhs; rw [ih]; simp; omega
    rw [zgb] at hl;have:=(List.getElem?_eq_some_iff.1 hl).1;rw [hlen] at this;simp at this; omega
  obtain ⟨P',h1,h2,h3⟩:=zxm all [] j all[j] (List.getElem?_eq_getElem hj);simp only [List.length_nil,Nat.zero_add] at h1 h2 h3;rw [h3] at hl;cases hl;unfold zAk at he;obtain ⟨ed,hed,he⟩:=List.mem_flatMap.1 he
  have hbe:ed.on∈zEH all j:=by
   unfold zEH;rw [List.getElem?_eq_getElem hj];exact List.mem_map.2 ⟨ed,hed,rfl⟩
  have hfe:=hb _ hbe
  rcases List.mem_cons.1 he with rfl|he
  ·exact hfe
  ·split at he
   ·rename_i l' hl'
    have hlt:ed.on<j:=by
     rw [zgb] at hl';have:=(List.getElem?_eq_some_iff.1 hl').1;omega
    rw [h2 _ hlt] at hl';exact ih _ hlt l' hl' (hcl _ hfe) e he
   ·cases he

structure Rec (τ:Nat→Type) where
 o:Oper
 W:zu τ
 E:zu τ
 L:Hp τ
 lo:Nat
 hi:Nat
 v:XV τ
 g:List (XV τ)
 ls:List Oper
 U:Hp τ
 t:List Nat
 run:Bool
def Rec.ne (r:Rec τ):zu τ:=zHx r.ls r.o.dst r.v r.g
section
variable {ρ:Type} {X:Cx τ} {w0 w w':World} {h0 h h':Fz} {F:List Nat} {o:Oper} {E E' Eb:zu τ} {L L2:Hp τ} {ν ν':Vn τ} {φ φ':Nat→List Nat} {nid nid':Nat} {r:ρ} {a:Act}
structure RecOk (X:Cx τ) (w0:World) (h0:Fz) (F:List Nat) (all:List Oper) (Eb:zu τ) (q:Rec τ):Prop where
 refw:Ref Eb q.W
 ref:Ref Eb q.E
 up:q.lo≤q.hi
 dst:dOk X.n q.o.dst=true
 want:∀(h:Fz) (ν:Vn τ) (a:Act),zd8 X h ν a (gdR all q.o.guard) q.W→Region.wanted q.o (yielded all.toArray a.tmps)=q.run
 gv:∀x∈q.g,zjP x=true
 pass:q.run=false→q.U=[]∧q.v = .un
 does:q.run=true→Ok1 X w0 h0 F q.o q.E q.L q.lo q.v q.U q.t q.hi
def zua (X:Cx τ) (w0:World) (h0:Fz) (F:List Nat) (all:List Oper):List Oper→zu τ→Hp τ→Nat→List (Rec τ)→zu τ→Hp τ→Nat→Prop
 | [],Eb,L,nid,[],E',L',nid'=>E'=Eb∧L'=L∧nid'=nid
 | o::l,Eb,L,nid,q::qs,E',L',nid'=>q.o=o∧q.L=L∧q.lo=nid∧RecOk X w0 h0 F all Eb q∧zua X w0 h0 F all l (q.ne++Eb) (q.U++L) q.hi qs E' L' nid'
 | _,_,_,_,_,_,_,_=>False
def drs (all:List Oper):Nat→List (Rec τ)→List Dr
 | _,[]=>[]
 | i,q::qs=>⟨i,q.o.dst,zd9 all q.o,(if q.run=true then q.t++kys q.U else []),kys q.U⟩::drs all (i+1) qs
theorem zNh {op:OpF τ ρ} (hop:zvw X w0 h0 F op) {all:List Oper} {K:zu τ→Hp τ→Nat→Option ρ}:∀{l:List Oper} {i:Nat} {R:List Dr} {E Eb:zu τ} {L:Hp τ} {nid:Nat},zAl op X all i l R E L nid K=some r→Ref Eb E →
  ∃qs Eb' L' nid' E',zua X w0 h0 F all l Eb L nid qs Eb' L' nid'∧Ref Eb' E'∧zuW all ((drs all i qs).reverse++R)=true∧K E' L' nid'=some r
 | [],i,R,E,Eb,L,nid,e,hr=>by
  unfold zAl hi at e;obtain ⟨h1,e⟩:=zgF e;exact ⟨[],Eb,L,nid,E,⟨rfl,rfl,rfl⟩,hr,h1,e⟩
 | o::l,i,R,E,Eb,L,nid,e,hr=>by
  unfold zAl at e;obtain ⟨hd,e⟩:=zgF e;obtain ⟨m,E1,e,hr1,hw⟩:=zs8 e;have hr2:=hr.trans hr1;have hwant:∀(h:Fz) (ν:Vn τ) (a:Act),zd8 X h ν a (gdR all o.guard) E→Region.wanted o (yielded all.toArray a.tmps)=m:=fun h ν a=>hw X h ν a o rfl
  cases m with
  | false =>
   simp only [Bool.false_eq_true,if_false] at e;rw [zC3] at e;obtain ⟨qs,Eb',L',nid',E',h1,h2,h3,h4⟩:=zNh hop e (hr2.app _);refine ⟨⟨o,E,E1,L,nid,nid, .un,[],[],[],[],false⟩::qs,Eb',L',nid',E',⟨rfl,rfl,rfl,⟨hr,hr2,Nat.le_refl _,hd,hwant,(fun _ h=>by cases h),fun _=>⟨rfl,rfl⟩,fun h=>by cases h⟩,h1⟩,h2,?_,h4⟩;simpa [drs,kys] using h3
  | true =>
   simp only [if_true] at e;obtain ⟨v,g,U,tch,n1,e1,hle,hg,hok⟩:=hop _ _ _ _ _ _ e;simp only [zvg] at e1;obtain ⟨qs,Eb',L',nid',E',h1,h2,h3,h4⟩:=zNh hop e1 (hr2.app _);refine ⟨⟨o,E,E1,L,nid,n1,v,g,l,U,tch,true⟩::qs,Eb',L',nid',E',⟨rfl,rfl,rfl,⟨hr,hr2,hle,hd,hwant,hg,(fun h=>by cases h),fun _=>hok⟩,h1⟩,h2,?_,h4⟩;simpa [drs] using h3
theorem ztx {R α:Type} (q:R→List (Nat × α)) {f:Nat→Bool}:∀(rs:List R) (i:Nat) (B:List (Nat × α)),(∀j,i≤j→f j=false)→zkL q rs i f B=B
 | [],_,_,_=>rfl
 | r::rs,i,B,h=>by
  simp only [zkL];rw [h i (Nat.le_refl _)];exact ztx q rs (i+1) B fun j hj=>h j (by omega)
theorem zAq {R α:Type} (q:R→List (Nat × α)) {f:Nat→Bool} {t:Nat} {v:α}:∀(rs:List R) (i:Nat),ziB q rs i f t=some v→∃j r,rs[j]? = some r∧f (i+j)=true∧asc (q r) t=some v
 | [],_,h=>by cases h
 | r::rs,i,h=>by
  simp only [ziB] at h
  cases hl:ziB q rs (i+1) f t with
  | some u =>
   rw [hl] at h;cases h;obtain ⟨j,r',h1,h2,h3⟩:=zAq q rs (i+1) hl;exact ⟨j+1,r',by simpa using h1,by rwa [show i+(j+1)=i+1+j by omega],h3⟩
  | none =>
   rw [hl] at h
   by_cases hf:f i=true
   ·simp only [hf,if_true] at h;exact ⟨0,r,rfl,hf,h⟩
   ·simp [hf] at h
theorem zua.get {all:List Oper}:∀{l:List Oper} {Eb:zu τ} {L:Hp τ} {nid:Nat} {qs:List (Rec τ)} {E':zu τ} {L':Hp τ} {nid':Nat} (k:Nat),zua X w0 h0 F all l Eb L nid qs E' L' nid' →
  nid≤nid'∧qs.length=l.length∧E'=zkL Rec.ne qs k (fun _=>true) Eb∧L'=zkL Rec.U qs k (fun _=>true) L ∧
  (∀(i:Nat) (q:Rec τ),qs[i]? = some q→l[i]? = some q.o∧q.L=zkL Rec.U qs k (fun j=>Nat.blt j (k+i)) L∧RecOk X w0 h0 F all (zkL Rec.ne qs k (fun j=>Nat.blt j (k+i)) Eb) q∧nid≤q.lo∧q.hi≤nid') ∧
  (∀(i j:Nat) (q q':Rec τ),qs[i]? = some q→qs[j]? = some q'→i<j→q.hi≤q'.lo)
 | [],Eb,L,nid,[],E',L',nid',k,h=>by
  obtain ⟨rfl,rfl,rfl⟩:=h;exact ⟨Nat.le_refl _,rfl,rfl,rfl,fun i q hq=>by simp at hq,fun i j q q' hq=>by simp at hq⟩
 | o :: l,Eb,L,nid,q::qs,E',L',nid',k,h=>by
  obtain ⟨rfl,hL,rfl,hR,hc⟩:=h;obtain ⟨g1,g2,g3,g4,g5,g6⟩:=zua.get (k+1) hc;refine ⟨Nat.le_trans hR.up g1,by simp [g2],?_,?_,fun i q' hq=>?_,fun i j q1 q2 h1 h2 hij=>?_⟩
  ·simp only [zkL,if_true]; exact g3
  ·simp only [zkL,if_true]; exact g4
  ·cases i with
   | zero =>
    simp at hq;subst hq
    have e1:∀{α:Type} (f:Rec τ→List (Nat × α)) (B:List (Nat × α)),zkL f (q::qs) k (fun j=>Nat.blt j (k+0)) B=B:=fun f B=>ztx f _ _ _ fun j hj=>by
     rw [← Bool.not_eq_true,Nat.blt_eq]; omega
    refine ⟨rfl,by rw [e1]; exact hL,by rw [e1]; exact hR,Nat.le_refl _,g1⟩
   | succ i =>
    obtain ⟨a1,a2,a3,a4,a5⟩:=g5 i q' (by simpa using hq)
    have hb:Nat.blt k (k+(i+1))=true:=by rw [Nat.blt_eq]; omega
    have hs:k+(i+1)=k+1+i:=by omega
    refine ⟨by simpa using a1,?_,?_,Nat.le_trans hR.up a4,a5⟩
    ·simp only [zkL,hb,if_true]; rw [hs]; exact a2
    ·simp only [zkL,hb,if_true]; rw [hs]; exact a3
  ·cases j with
   | zero=>omega
   | succ j =>
    cases i with
    | zero =>
     simp at h1;subst h1;exact (g5 j q2 (by simpa using h2)).2.2.2.1
    | succ i=>exact g6 i j q1 q2 (by simpa using h1) (by simpa using h2) (by omega)
 | [],_,_,_,_::_,_,_,_,_,h=>h.elim
 | _::_,_,_,_,[],_,_,_,_,h=>h.elim
theorem zJV {all:List Oper}:∀{qs:List (Rec τ)} (k i:Nat) (q:Rec τ),qs[i]? = some q→(⟨k+i,q.o.dst,zd9 all q.o,(if q.run=true then q.t++kys q.U else []),kys q.U⟩:Dr)∈drs all k qs
 | [],_,_,_,h=>by simp at h
 | q0::qs,k,0,q,h=>by simp at h; subst h; exact List.mem_cons_self ..
 | q0::qs,k,i+1,q,h=>by
  have:=zJV (all:=all) (k+1) i q (by simpa using h);rw [show k+1+i=k+(i+1) by omega] at this;exact List.mem_cons_of_mem _ this
theorem zJW {q : Rec τ} {t:Nat} {x:XV τ} (hg:∀y∈q.g,zjP y=true) (h:asc q.ne t=some x):q.o.dst=some t∨(zjP x=true∧20000≤t∧t<40000)∨(zjP x=true∧∃d:Nat,q.o.dst=some d∧t=20000+d):=by
  unfold Rec.ne zHx at h
  have gh_ok:∀{d:Option Nat},asc (zv5 q.g q.ls d []) t=some x→(zjP x=true∧20000≤t∧t<40000)∨(zjP x=true∧∃d':Nat,d=some d'∧t=20000+d'):=by
    intro d e;unfold zv5 at e
    split at e
    · rename_i y hy
      have hgy:=hg y (by rw [hy]; exact List.mem_singleton.2 rfl)
      cases d with
      | none =>
        simp only [zdf,zbP] at e
        cases hb:Nat.beq (30000+q.ls.length%10000) t with
        | true =>
          rw [hb] at e; cases e
          have:30000+q.ls.length%10000=t:=by simpa using hb
          exact .inl ⟨hgy,by omega,by omega⟩
        | false=>rw [hb] at e; cases e
      | some d =>
        simp only [zdf,zbP] at e
        cases hb:Nat.beq (20000+d) t with
        | true =>
          rw [hb] at e; cases e
          have:20000+d=t:=by simpa using hb
          exact .inr ⟨hgy,d,rfl,this.symm⟩
        | false=>rw [hb] at e; cases e
    · cases e
  unfold putT at h
  split at h
  · rename_i d hd
    simp only [zdf,zbP] at h
    cases hb:Nat.beq d t with
    | true =>
      have:d=t:=by simpa using hb
      subst this;exact .inl hd
    | false => rw [hb] at h; rw [hd] at h; rcases gh_ok h with h1|⟨h1,d',h2,h3⟩
               · exact .inr (.inl h1)
               · exact .inr (.inr ⟨h1,d',by rw [hd]; exact h2,h3⟩)
  · rename_i hd
    rw [hd] at h
    rcases gh_ok h with h1|⟨h1,d',h2,h3⟩
    · exact .inr (.inl h1)
    · cases h2
theorem zIM {l m:List Nat} {i:Nat} (h1:i∈l) (h2:i∈m):meets l m=true:=by
 cases m with
 | nil=>cases h2
 | cons j m=>exact (zJT _ _).trans (List.any_eq_true.2 ⟨i,h1,zep.2 h2⟩)
theorem zGO {all:List Oper} {R:List Dr} (h:zuW all R=true):(∀a∈R, ∀b∈R,a.i=b.i∨zsF a b=false∨tied (zhs [] all) a.i b.i=true)∧∀a∈R, ∃l,zh2 (zhs [] all) a.i=some l∧∀j∈l,j<a.i:=by
 unfold zuW at h;simp only [zy4,Bool.and_eq_true,List.all_eq_true,Bool.or_eq_true] at h;obtain ⟨h1,h2⟩:=h;refine ⟨fun a ha b hb=>?_,fun a ha=>?_⟩
 ·rcases h1 a ha b hb with h3|h3
  ·exact .inl (by simpa using h3)
  ·split at h3
   ·simp only [Bool.or_eq_true,Bool.not_eq_true'] at h3;exact .inr h3
   ·simp only [Bool.or_eq_true,Bool.not_eq_true'] at h3;exact .inr h3.symm
 ·have:=h2 a ha
  split at this
  ·rename_i l hl
   exact ⟨l,hl,fun j hj=>by simpa using List.all_eq_true.1 this j hj⟩
  ·cases this
theorem zKM {P:List (List Nat)} {i j:Nat} (h:tied P i j=true):(∃l,zh2 P i=some l∧j∈l)∨(∃l,zh2 P j=some l∧i∈l):=by
 unfold tied at h;simp only [Bool.or_eq_true] at h
 rcases h with h|h
 ·left
  split at h
  ·rename_i l hl; exact ⟨l,hl,zep.1 h⟩
  ·cases h
 ·right
  split at h
  ·rename_i l hl; exact ⟨l,hl,zep.1 h⟩
  ·cases h
theorem zAr {all:List Oper} {o:Oper} {t:Nat} (h:t∈zd9 all o):t<20000∨40000≤t:=by
 have key:∀{s t:Nat},t∈(bif Nat.blt s gh then [s] else [])→t<20000:=by
  intro s t h
  cases hb:Nat.blt s gh with
  | true =>
   rw [hb] at h
   have:s<gh:=by simpa using hb
   have h:t∈[s]:=h;rw [List.mem_singleton.1 h];unfold gh at this; omega
  | false=>rw [hb] at h; cases h
 unfold zd9 at h
 rcases List.mem_append.1 h with h|h
 ·unfold rdO at h;obtain ⟨x,_,hx⟩:=List.mem_flatMap.1 h;unfold zxl at hx
  split at hx
  ·exact .inl (key hx)
  ·rw [List.mem_singleton.1 hx]; unfold gb; omega
  ·cases hx
 ·unfold gdR at h
  split at h
  ·split at h
   ·exact .inl (key h)
   ·cases h
  ·cases h
theorem zy6 (qs:List (Rec τ)) (i:Nat) (f:Nat→Bool) (L:Hp τ) (k:Nat):lk (zkL Rec.U qs i f L) k=match ziB Rec.U qs i f k with
  | some v=>v
  | none=>lk L k:=by
 rw [zu1,zky,zu1];cases ziB Rec.U qs i f k<;>rfl
theorem zsM {R α:Type} (q:R→List (Nat × α)):∀(rs:List R) (i:Nat) (f:Nat→Bool) (B:List (Nat × α)),zkL q rs i f B=zkL q rs i f []++B
 | [],_,_,_=>rfl
 | r::rs,i,f,B=>by
  simp only [zkL];rw [zsM q rs (i+1) f (if f i=true then q r++B else B),zsM q rs (i+1) f (if f i=true then q r++[] else [])]
  split<;>simp
theorem zCV (hm:X.P.follows .mixedOrders=true) (hN:X.n≤gh) {id:Nat} {l:List Oper} {qs:List (Rec τ)} {Eb' E':zu τ} {L':Hp τ} {T:List Nat} (hch:zua X w0 h0 F l l E L nid qs Eb' L' nid') (hrf:Ref Eb' E') (hok:zuW l ((drs l 0 qs).reverse++[])=true)
  (hTT:∀q∈qs,q.run=true→∀k∈q.t,k∈T) {L2:Hp τ} {ν0:Vn τ} {hh0:Fz} {φ0:Nat→List Nat} {a:Act} {w:World} {Q:Exit→Act→World→Prop} (hnod0:a.defers=[]) (hsize0:a.tmps.size=X.n) (M0:Mem X.P X.G w0 h0 F L2 w ν0 hh0 φ0) (hE0:zbZ X hh0 ν0 a E)
  (hL2:∀k∈T,lk L2 k=lk L k) (hn0:∀k,nid≤k→k<nid'→ν0 k=none)
  (hQ:∀ν' h' φ' a' w',a'.defers=[]→a'.tmps.size=X.n→Mem X.P X.G w0 h0 F (zkL Rec.U qs 0 (fun _=>true) []++L2) w' ν' h' φ'→ν0.le ν'→hh0.le h'→zde ν0 ν' nid nid'→zbZ X h' ν' a' E'→Q .normal a' w'):(Code.region id l.toArray true).wp X.P Q a w:=by
 obtain ⟨c1,c2,c3,c4,c5,c6⟩:=zua.get 0 hch;obtain ⟨hcl2,hah⟩:=zGO hok
 have hdr:∀(j:Nat) (q:Rec τ),qs[j]? = some q→(⟨j,q.o.dst,zd9 l q.o,(if q.run=true then q.t++kys q.U else []),kys q.U⟩:Dr)∈((drs l 0 qs).reverse++[]):=by
  intro j q hq;have:=zJV (all:=l) 0 j q hq;rw [Nat.zero_add] at this;simpa using this
 have hrec:∀(j:Nat) (q:Rec τ),qs[j]? = some q→RecOk X w0 h0 F l (zkL Rec.ne qs 0 (fun k=>Nat.blt k j) E) q:=fun j q hq=>by
  have:=(c5 j q hq).2.2.1;simpa using this
 -- the invariant
 refine zBf hm (fun li a w=>li.size=l.length∧(∀j,li.getD j false=true→∀e∈zEH l j,li.getD e false=true)∧a.defers=[]∧a.tmps.size=X.n ∧
  ∃ν h φ,Mem X.P X.G w0 h0 F (zkL Rec.U qs 0 (fun j=>li.getD j false) L2) w ν h φ∧zbZ X h ν a (zkL Rec.ne qs 0 (fun j=>li.getD j false) E)∧ν0.le ν∧hh0.le h ∧
   ∀k, ν k≠none→ν0 k≠none∨∃j q,qs[j]? = some q∧li.getD j false=true∧q.lo≤k∧k<q.hi) ?_ ?_ ?_ ?_
 ·rintro li a w ⟨h,_⟩; simpa using h
 ·have hf:∀j,(Array.replicate l.toArray.size false).getD j false=false:=by
   intro j;simp [Array.getD_eq_getD_getElem?,Array.getElem?_replicate]
   split<;>simp
  refine ⟨by simp,fun j hj=>(by rw [hf] at hj; cases hj),hnod0,hsize0, ν0,hh0, φ0,?_,?_,Vn.le.refl _,Fz.le.refl _,fun k hk => .inl hk⟩
  ·rw [ztx _ _ _ _ fun j _=>hf j]; exact M0.drew
  ·rw [ztx _ _ _ _ fun j _=>hf j]; exact hE0
 ·rintro li a w i ⟨hls,hcl,hnod,hsize, ν,h, φ,M,hE,hle1,hle2,hν⟩ hi
  have hi':i<l.length∧li.getD i true=false∧∀e∈zEH l i,li.getD e false=true:=by
   unfold Region.ready at hi;simp only [List.mem_filter,List.mem_range,Bool.and_eq_true,Bool.not_eq_true',List.size_toArray] at hi;refine ⟨hi.1,hi.2.1,fun e he=>?_⟩;have h2:=hi.2.2
   have hoi:l.toArray[i]? = some (l[i]'hi.1):=by simp [hi.1]
   rw [hoi] at h2;simp only [Option.map_some,Option.getD_some,Array.all_eq_true'] at h2;unfold zEH at he;rw [List.getElem?_eq_getElem hi.1] at he;simp only [List.mem_map,List.mem_filter] at he;obtain ⟨ed,⟨hed,hb⟩,rfl⟩:=he;have:=h2 ed (by simpa using hed);simpa [hb] using this
  obtain ⟨hil,hiu,hpre⟩:=hi'
  have hfi:li.getD i false=false:=by
   have h1:i<li.size:=by omega
   simp [Array.getD_eq_getD_getElem?,h1] at hiu ⊢;exact hiu
  have hqi:i<qs.length:=by omega
  obtain ⟨q,hq⟩:∃q,qs[i]? = some q:=⟨_,List.getElem?_eq_getElem hqi⟩;obtain ⟨ho,hL,hR,hlo,hhi⟩:=c5 i q hq;rw [Nat.zero_add] at hL hR;have hcl':∀j,li.getD j false=true→∀e∈zEH l j,li.getD e false=true:=hcl
  -- two that zsF stand in their order
  have hT2:∀(j:Nat) (q':Rec τ),qs[j]? = some q'→j≠i→(zsF ⟨i,q.o.dst,zd9 l q.o,(if q.run=true then q.t++kys q.U else []),kys q.U⟩ ⟨j,q'.o.dst,zd9 l q'.o,(if q'.run=true then q'.t++kys q'.U else []),kys q'.U⟩=true)→li.getD j false=Nat.blt j i:=by
   intro j q' hq' hne hcla;obtain ⟨li1,hli1,hlt1⟩:=hah _ (hdr i q hq);obtain ⟨lj1,hlj1,hlt2⟩:=hah _ (hdr j q' hq')
   have htied:tied (zhs [] l) i j=true:=by
    rcases hcl2 _ (hdr i q hq) _ (hdr j q' hq') with h1|h1|h1
    ·exact (hne h1.symm).elim
    ·rw [h1] at hcla; cases hcla
    ·exact h1
   rcases zKM htied with ⟨l1,h1,h2⟩|⟨l1,h1,h2⟩
   ·have hf:=zAp (f:=fun k=>li.getD k false) hcl' i l1 h1 hpre j h2;have h1':zh2 (zhs [] l) i=some li1:=hli1;rw [h1] at h1';cases h1';have:=hlt1 j h2
    have hbl:Nat.blt j i=true:=by rw [Nat.blt_eq]; exact this
    rw [hbl]; exact hf
   ·have h1':zh2 (zhs [] l) j=some lj1:=hlj1;rw [h1] at h1';cases h1';have hlt:i<j:=hlt2 i h2
    have hbl:Nat.blt j i=false:=by rw [← Bool.not_eq_true,Nat.blt_eq]; omega
    rw [hbl]
    cases hfj:li.getD j false with
    | false=>rfl
    | true =>
     have:li.getD i false=true:=zAp (f:=fun k=>li.getD k false) hcl' j _ h1 (hcl' j hfj) i h2;rw [hfi] at this; cases this
  have hii:Nat.blt i i=false:=by rw [← Bool.not_eq_true,Nat.blt_eq]; omega
  have hclD:∀{q':Rec τ} {d:Nat},q'.o.dst=some d→d∈zd9 l q.o→∀j:Nat,zsF ⟨i,q.o.dst,zd9 l q.o,(if q.run=true then q.t++kys q.U else []),kys q.U⟩ ⟨j,q'.o.dst,zd9 l q'.o,(if q'.run=true then q'.t++kys q'.U else []),kys q'.U⟩=true:=by
   intro q' d hd hm j;simp only [zsF,hd,zep.2 hm,Bool.true_or,Bool.or_true]
  have hclE:∀{q':Rec τ} {d:Nat},q'.o.dst=some d→q.o.dst=some d→∀j:Nat,zsF ⟨i,q.o.dst,zd9 l q.o,(if q.run=true then q.t++kys q.U else []),kys q.U⟩ ⟨j,q'.o.dst,zd9 l q'.o,(if q'.run=true then q'.t++kys q'.U else []),kys q'.U⟩=true:=by
   intro q' d hd hd2 j;simp only [zsF,hd,hd2,Nat.beq_refl,Bool.or_true]
  have hclU:∀{q':Rec τ} {k:Nat},q.run=true→k∈kys q'.U→(k∈q.t∨k∈kys q.U)→∀j:Nat,zsF ⟨i,q.o.dst,zd9 l q.o,(if q.run=true then q.t++kys q.U else []),kys q.U⟩ ⟨j,q'.o.dst,zd9 l q'.o,(if q'.run=true then q'.t++kys q'.U else []),kys q'.U⟩=true:=by
   intro q' k hrun hk hk2 j;simp only [zsF,hrun,if_true];rw [zIM (i:=k) hk (List.mem_append.2 hk2),Bool.true_or]
  -- what it reads
  have hreads:zd8 X h ν a (zd9 l q.o) (zkL Rec.ne qs 0 (fun k=>Nat.blt k i) E):=by
   intro t ht x hx;refine hE t x ?_;rw [zky] at hx ⊢;rw [← zf6 Rec.ne (f:=fun j=>li.getD j false) (f':=fun k=>Nat.blt k i) (t:=t) qs 0 ?_] at hx
   ·exact hx
   ·intro j q' hq' hw;rw [Nat.zero_add]
    by_cases hji:j=i
    ·subst hji; rw [hfi,hii]
    ·obtain ⟨y,hy⟩:=hw;refine hT2 j q' hq' hji ?_
     rcases zJW (hrec j q' hq').gv hy with h1|⟨_,h1,h2⟩|⟨_,d,h1,h2⟩
     ·exact hclD h1 ht j
     ·rcases zAr ht with h3|h3<;>omega
     ·have hdl:=(hrec j q' hq').dst;rw [h1] at hdl;have hdl2:d<X.n:=Nat.le_of_ble_eq_true hdl;have hN2:X.n≤9000:=hN
      have h4:t<40000:=by omega
      rcases zAr ht with h3|h3
      ·omega
      ·omega
  have hdone:∀j,(li.setIfInBounds i true).getD j false=(li.getD j false||Nat.beq j i):=by
   intro j
   have h1:i<li.size:=by omega
   by_cases hji:j=i
   ·subst hji;simp [Array.getD_eq_getD_getElem?,h1]
   ·have:Nat.beq j i=false:=zbN.2 hji;simp [Array.getD_eq_getD_getElem?,Ne.symm hji,this]
  have hdoneN:∀j,j≠i→(li.setIfInBounds i true).getD j false=li.getD j false:=fun j hj=>by rw [hdone,zbN.2 hj,Bool.or_false]
  have hdoneI:(li.setIfInBounds i true).getD i false=true:=by rw [hdone]; simp
  have hcl3:∀j,(li.setIfInBounds i true).getD j false=true→∀e∈zEH l j,(li.setIfInBounds i true).getD e false=true:=by
   intro j hj e he
   have hle:∀e,li.getD e false=true→(li.setIfInBounds i true).getD e false=true:=fun e h=>by rw [hdone,h]; rfl
   by_cases hji:j=i
   ·subst hji; exact hle e (hpre e he)
   ·rw [hdoneN j hji] at hj; exact hle e (hcl j hj e he)
  -- the environment behind it
  have henv:∀{a':Act} {h':Fz} {ν':Vn τ},zbZ X h' ν' a' (q.ne++zkL Rec.ne qs 0 (fun j=>li.getD j false) E)→zbZ X h' ν' a' (zkL Rec.ne qs 0 (fun j=>(li.setIfInBounds i true).getD j false) E):=by
   intro a' h' ν' hE2 t x hx
   by_cases hgv:zjP x=true
   ·exact zyR hgv
   ·refine hE2 t x ?_;rw [zky] at hx;rw [zmI,zky]
    have hreal:∀{j:Nat} {q':Rec τ},qs[j]? = some q'→∀y,asc q'.ne t=some y→zjP y=false→q'.o.dst=some t:=by
     intro j q' hq' y hy hg
     rcases zJW (hrec j q' hq').gv hy with h1|⟨h1,_⟩|⟨h1,_⟩
     ·exact h1
     ·rw [h1] at hg; cases hg
     ·rw [h1] at hg; cases hg
    cases hlk:ziB Rec.ne qs 0 (fun j=>(li.setIfInBounds i true).getD j false) t with
    | some y =>
     rw [hlk] at hx;cases hx;obtain ⟨j,q',hq',hfj,hy⟩:=zAq Rec.ne qs 0 hlk;rw [Nat.zero_add] at hfj;have hdj:=hreal hq' x hy (by simpa using hgv)
     cases hne:asc q.ne t with
     | some z =>
      have h1:q.o.dst=some t:=by
       rcases zJW (hrec i q hq).gv hne with h1|⟨h1,h2,h3⟩|⟨_,d,h2,h3⟩
       ·exact h1
       ·have hdl:=(hrec j q' hq').dst;rw [hdj] at hdl
        have hdl:t<X.n:=by simpa [dOk] using hdl
        unfold gh at hN; omega
       ·have hdl:=(hrec j q' hq').dst;rw [hdj] at hdl
        have hdl:t<X.n:=by simpa [dOk] using hdl
        unfold gh at hN; omega
      have hlast:=zu0 Rec.ne (f:=fun j=>(li.setIfInBounds i true).getD j false) (t:=t) qs 0 i q hq (by rw [Nat.zero_add]; exact hdoneI) hne fun j2 q2 hq2 hw hlt=>by
       rw [Nat.zero_add,hdoneN j2 (by omega)];obtain ⟨y2,hy2⟩:=hw
       have hd2:q2.o.dst=some t:=by
        rcases zJW (hrec j2 q2 hq2).gv hy2 with h2|⟨_,h2,h3⟩|⟨_,d,h2,h3⟩
        ·exact h2
        ·have hdl:=(hrec i q hq).dst;rw [h1] at hdl
         have hdl:t<X.n:=by simpa [dOk] using hdl
         unfold gh at hN; omega
        ·have hdl:=(hrec i q hq).dst;rw [h1] at hdl
         have hdl:t<X.n:=by simpa [dOk] using hdl
         unfold gh at hN; omega
       rw [hT2 j2 q2 hq2 (by omega) (hclE hd2 h1 j2), ← Bool.not_eq_true,Nat.blt_eq];omega
      rw [hlk] at hlast;cases hlast;rfl
     | none =>
      rw [zf6 Rec.ne (f:=fun j=>li.getD j false) (f':=fun j=>(li.setIfInBounds i true).getD j false) (t:=t) qs 0 (fun j2 q2 hq2 hw=>by
       rw [Nat.zero_add]
       by_cases hji:j2=i
       ·subst hji;rw [hq] at hq2;cases hq2;obtain ⟨z,hz⟩:=hw;rw [hne] at hz; cases hz
       ·rw [hdoneN j2 hji]),hlk]
    | none =>
     rw [hlk] at hx
     have hni:asc q.ne t=none:=by
      cases hz:asc q.ne t with
      | none=>rfl
      | some z =>
       exfalso
       have:∀(rs:List (Rec τ)) (k:Nat) (q':Rec τ),rs[k]? = some q'→∀(i0:Nat) (f:Nat→Bool),f (i0+k)=true→asc q'.ne t=some z→ziB Rec.ne rs i0 f t≠none:=by
        intro rs
        induction rs with
        | nil=>intro k q' h; simp at h
        | cons r rs ih =>
         intro k q' hk i0 f hf hz;simp only [ziB]
         cases hl:ziB Rec.ne rs (i0+1) f t with
         | some v=>simp
         | none =>
          cases k with
          | zero =>
           simp at hk; subst hk;simp only [Nat.add_zero] at hf;simp [hf,hz]
          | succ k=>exact (ih k q' (by simpa using hk) (i0+1) f (by rwa [show i0+1+k=i0+(k+1) by omega]) hz hl).elim
       exact this qs i q hq 0 _ (by rw [Nat.zero_add]; exact hdoneI) hz hlk
     rw [hni]
     rw [zf6 Rec.ne (f:=fun j=>li.getD j false) (f':=fun j=>(li.setIfInBounds i true).getD j false) (t:=t) qs 0 (fun j2 q2 hq2 hw=>by
       rw [Nat.zero_add]
       by_cases hji:j2=i
       ·subst hji;rw [hq] at hq2;cases hq2;obtain ⟨z,hz⟩:=hw;rw [hni] at hz; cases hz
       ·rw [hdoneN j2 hji]),hlk]
     exact hx
  have hsz2:(li.setIfInBounds i true).size=l.length:=by simpa using hls
  have hol:l.toArray[i]? = some q.o:=by simpa using ho
  unfold wpOp;rw [hol];dsimp only;have hRo:=hrec i q hq;rw [hRo.want h ν a (fun t ht x hx=>(Ref.on (l:=zd9 l q.o) hRo.refw hreads) t (by unfold zd9; exact List.mem_append_right _ ht) x hx)]
  cases hrun:q.run with
  | false =>
   obtain ⟨hU,hv⟩:=hRo.pass hrun;rw [if_neg (by simp)];refine ⟨hsz2,hcl3,by rw [zta]; exact hnod,by rw [zo8]; exact hsize, ν,h, φ,M.congr fun k=>?_,henv ?_,hle1,hle2,fun k hk=>?_⟩
   ·rw [zy6,zy6]
    rw [zf6 Rec.U (f:=fun j=>(li.setIfInBounds i true).getD j false) (f':=fun j=>li.getD j false) (t:=k) qs 0 fun j2 q2 hq2 hw=>by
     rw [Nat.zero_add]
     by_cases hji:j2=i
     ·subst hji;rw [hq] at hq2;cases hq2;obtain ⟨z,hz⟩:=hw;rw [hU] at hz; cases hz
     ·rw [hdoneN j2 hji]]
   ·unfold Rec.ne;rw [hv];exact zs9 hN hRo.dst hsize hRo.gv rfl fun t x hx _=>hE t x hx
   ·rcases hν k hk with h1|⟨j,q',h1,h2,h3⟩
    ·exact .inl h1
    ·exact .inr ⟨j,q',h1,by rw [hdone,h2]; rfl,h3⟩
  | true =>
   rw [if_pos rfl]
   left
   refine hRo.does hrun _ ν h φ a w _ Q hnod M (fun t ht x hx=>(Ref.on (l:=zd9 l q.o) hRo.ref hreads) t (by unfold zd9; exact List.mem_append_left _ ht) x hx) (fun k hk=>?_) (fun k h1 h2=>?_) fun ν' h' φ' w' u M' hν' hh hfr hv=>?_
   ·rw [hL,zy6,zy6,hL2 k (hTT q (List.mem_of_getElem? hq) hrun k hk)]
    rw [zf6 Rec.U (f:=fun j=>li.getD j false) (f':=fun k=>Nat.blt k i) (t:=k) qs 0 fun j2 q2 hq2 hw=>by
     rw [Nat.zero_add]
     by_cases hji:j2=i
     ·subst hji; rw [hfi,hii]
     ·exact hT2 j2 q2 hq2 hji (hclU hrun (zIL.1 hw) (.inl hk) j2)]
   ·cases hνk:ν k with
    | none=>rfl
    | some y =>
     exfalso
     rcases hν k (by rw [hνk]; simp) with h3|⟨j,q',h3,h4,h5,h6⟩
     ·exact h3 (hn0 k (by omega) (by omega))
     ·rcases Nat.lt_trichotomy j i with hj|hj|hj
      ·have:=c6 j i q' q h3 hq hj; omega
      ·subst hj; rw [hfi] at h4; cases h4
      ·have:=c6 i j q q' hq h3 hj; omega
   ·refine ⟨hsz2,hcl3,by rw [zta]; exact hnod,by rw [zo8]; exact hsize, ν',h', φ',M'.congr fun k=>?_,henv ?_,hle1.trans hν',hle2.trans hh,fun k hk=>?_⟩
    ·rw [zu1,zu1,zky,zmI,zky]
     cases hUk:asc q.U k with
     | some z =>
      have hlast:=zu0 Rec.U (f:=fun j=>(li.setIfInBounds i true).getD j false) (t:=k) qs 0 i q hq (by rw [Nat.zero_add]; exact hdoneI) hUk fun j2 q2 hq2 hw hlt=>by
       rw [Nat.zero_add,hdoneN j2 (by omega),hT2 j2 q2 hq2 (by omega) (hclU hrun (zIL.1 hw) (.inr (zIL.1 ⟨z,hUk⟩)) j2), ← Bool.not_eq_true,Nat.blt_eq];omega
      rw [hlast]
     | none =>
      rw [zf6 Rec.U (f:=fun j=>(li.setIfInBounds i true).getD j false) (f':=fun j=>li.getD j false) (t:=k) qs 0 fun j2 q2 hq2 hw=>by
       rw [Nat.zero_add]
       by_cases hji:j2=i
       ·subst hji;rw [hq] at hq2;cases hq2;obtain ⟨z,hz⟩:=hw;rw [hUk] at hz; cases hz
       ·rw [hdoneN j2 hji]]
    ·exact zs9 hN hRo.dst hsize hRo.gv hv fun t x hx _=>(hE.le hh hν') t x hx
    ·by_cases hk0:ν k=none
     ·obtain ⟨h1,h2⟩:=hfr k hk0 hk;exact .inr ⟨i,q,hq,hdoneI,h1,h2⟩
     ·rcases hν k hk0 with h1|⟨j,q',h1,h2,h3⟩
      ·exact .inl h1
      ·exact .inr ⟨j,q',h1,by rw [hdone,h2]; rfl,h3⟩
 ·rintro li a w ⟨hls,hcl,hnod,hsize, ν,h, φ,M,hE,hle1,hle2,hν⟩ hr
  have hall:∀i,i<l.length→li.getD i false=true:=by
   intro i
   induction i using Nat.strongRecOn with
   | _ i ih =>
    intro hi
    cases hb:li.getD i false with
    | true=>rfl
    | false =>
     exfalso
     have hmem:i∈Region.ready .any l.toArray li:=by
      unfold Region.ready;simp only [List.mem_filter,List.mem_range,Bool.and_eq_true,Bool.not_eq_true',List.size_toArray]
      have h1:i<li.size:=by omega
      refine ⟨hi,by simpa [Array.getD_eq_getD_getElem?,h1] using hb,?_⟩
      have hoi:l.toArray[i]? = some l[i]:=by simp [hi]
      rw [hoi];simp only [Option.map_some,Option.getD_some,Array.all_eq_true'];intro e he
      cases hbe:Region.binds .any e with
      | false=>rfl
      | true =>
       have hlt:e.on<i:=by
        have hqi:i<qs.length:=by omega
        obtain ⟨l1,h2,h3⟩:=hah _ (hdr i _ (List.getElem?_eq_getElem hqi));obtain ⟨P',_,_,h4⟩:=zxm l [] i l[i] (List.getElem?_eq_getElem hi);simp only [List.length_nil,Nat.zero_add] at h4;have h2:zh2 (zhs [] l) i=some l1:=h2;rw [h4] at h2;cases h2;refine h3 e.on ?_;unfold zAk;refine List.mem_flatMap.2 ⟨e,List.mem_filter.2 ⟨by simpa using he,hbe⟩,List.mem_cons_self ..⟩
       simpa using ih e.on hlt (by omega)
     rw [hr] at hmem;cases hmem
  have hcong:∀{α:Type} (f:Rec τ→List (Nat × α)) (B:List (Nat × α)) (t:Nat),asc (zkL f qs 0 (fun j=>li.getD j false) B) t=asc (zkL f qs 0 (fun _=>true) B) t:=by
   intro α f B t
   rw [zky,zky,zf6 f (f:=fun j=>li.getD j false) (f':=fun _=>true) (t:=t) qs 0 fun j q hq _=>by
    rw [Nat.zero_add];refine hall j ?_;have:=(List.getElem?_eq_some_iff.1 hq).1
    omega]
  refine hQ ν h φ a w hnod hsize (M.congr fun k=>?_) hle1 hle2 (fun k h1 h2=>?_) (hrf.env (fun t x hx=>hE t x ?_))
  ·rw [← zsM,zu1,zu1,hcong]
  ·rcases hν k h2 with h3|⟨j,q,h3,h4,h5,h6⟩
   ·exact (h3 h1).elim
   ·have:=(c5 j q h3).2.2.2; omega
  ·rw [hcong, ← c3]; exact hx
theorem zPg (hm:X.P.follows .mixedOrders=true) {op:OpF τ ρ} (hop:zvw X w0 h0 F op) (hN:X.n≤gh) {id:Nat} {l:List Oper} {Q:Exit→Act→World→Prop} {K:zu τ→Hp τ→Nat→Option ρ}
  (hK:∀E L nid a w,K E L nid=some r→St X w0 h0 F E L nid a w→Q .normal a w) (e:zAl op X l 0 l [] E L nid K=some r) (s:St X w0 h0 F E L nid a w):(Code.region id l.toArray true).wp X.P Q a w:=by
 obtain ⟨qs,Eb',L',nid',E',hch,hrf,hok,hfin⟩:=zNh hop e (Ref.refl E);obtain ⟨c1,_,_,c4,_,_⟩:=zua.get 0 hch;obtain ⟨ν,h, φ,M,hE,hn⟩:=s.st;refine zCV hm hN hch hrf hok (T:=qs.flatMap (·.t)) (fun q hq _ k hk=>List.mem_flatMap.2 ⟨q,hq,hk⟩) s.nodef s.size M hE (fun _ _=>rfl) (fun k h1 _=>hn k h1) fun ν' h' φ' a' w' h1 h2 M' _ _ hfr hE'=>?_;refine hK E' L' nid' a' w' hfin ⟨h1,h2, ν',h', φ',by rw [c4,zsM]; exact M',hE',fun k hk=>?_⟩
 cases hνk:ν' k with
 | none=>rfl
 | some y =>
  have:=hfr k (hn k (by omega)) (by rw [hνk]; simp);omega
end
end Go.Rk
end
section
namespace Go.Rk
open Go.RowKit Go.Dm Go.Dk
variable {τ:Nat→Type}
section
variable {ρ:Type} {X:Cx τ} {w0 w w':World} {h0 h h' H:Fz} {F:List Nat} {E E' Eb:zu τ} {L L2:Hp τ} {ν ν':Vn τ} {φ φ':Nat→List Nat} {nid nid':Nat} {r:ρ} {a:Act}
def SlV (X:Cx τ) (a:Act) (t:Nat) (ty:Ty) (v:Value):Prop:=(Nat.blt t gh=true→(∀x y,ty ≠ .pr x y)→a.tmps[t]? = some v)∧(gb≤t→v=ptr (t-gb) 0)∧(gh≤t→t<20000→v=X.fx (t-gh))
def SlVs (X:Cx τ) (a:Act):Pl→List Value→Prop
 | [],vs=>vs=[]
 | (t,ty)::l,vs=>∃v us,vs=v::us∧SlV X a t ty v∧SlVs X a l us
theorem zJ6 {G:Sig τ} {t:Ty} {A:XV τ} {q:t.den τ × List Nat × List Nat} (k:resX G L t A=some q):(∀x y,t ≠ .pr x y)→zjP A=false:=by
 intro hne;unfold resX at k
 split at k
 ·rfl
 ·rfl
 ·rfl
 ·exact (hne _ _ rfl).elim
 ·cases k
theorem zJ7 (M:Mem X.P X.G w0 h0 F L w ν h φ) (hE:zbZ X h ν a E) (hH:h.le H):∀{l:Pl} {p:DP τ l.ts} {m n:List Nat},leaf X.G E L l=some (p,m,n)→(∀b∈fps φ n,H b=w.heap[b]?)→nod m=true→∃vs,TrXs X.P X.G H w l.ts p vs (fps φ m)∧SlVs X a l vs
 | [],p,m,n,e,_,_=>by cases e; exact ⟨[], .nil,rfl⟩
 | (t,ty)::l,p,m,n,e,hb,hn=>by
  unfold leaf at e
  split at e
  ·rename_i A hA
   split at e
   ·rename_i x m1 n1 hx
    split at e
    ·rename_i q m2 n2 hq
     cases e;obtain ⟨k1,k2,k3⟩:=zvu hn;obtain ⟨v,h1,h2,h3,h4⟩:=hE t A hA;obtain ⟨vs,g1,g2⟩:=zJ7 M hE hH hq (fun b hb'=>hb b (by rw [ze4]; exact List.mem_append_right _ hb')) k2;refine ⟨v::vs,?_,v,vs,rfl,⟨fun a1 a2=>h2 a1 (zJ6 hx a2),h3,h4⟩,g2⟩;rw [ze4];refine .cons ty _ _ v vs _ _ ?_ ?_ (M.fps_dis k3)
     ·rw [DP.hd_mk]; exact zJe (L:=L) M hH hx (fun _ _=>rfl) ⟨fun _ _=>rfl,fun b hb'=>hb b (by rw [ze4]; exact List.mem_append_left _ hb')⟩ k1 h1
     ·rw [DP.tl_mk]; exact g1
    ·cases e
   ·cases e
  ·cases e
theorem zHs {P:Program} (hP:X.P=P):∀{l:Pl} {p:DP τ l.ts} {nid:Nat} {E:zu τ} {L:Hp τ} {nid':Nat} {vs:List Value} {fp:List Nat} {L0:Hp τ} {ν:Vn τ} {φ:Nat→List Nat},zCR X.G l p nid=(E,L,nid')→Mem X.P X.G w0 h0 F L0 w ν h φ→TrXs X.P X.G h w l.ts p vs fp→SlVs X a l vs →
  zhr w0 h F φ fp→(∀i,nid≤i→i<nid'→ν i=none)→nid≤nid'∧∃ν' φ',Adds X.P X.G w0 h0 F L0 w ν h φ L nid nid' fp ν' φ'∧zbZ X h ν' a E
 | [],p,nid,E,L,nid',vs,fp,L0, ν, φ,e,M,ht,hs,hf,hn=>by
  cases e;exact ⟨Nat.le_refl _, ν, φ,(Grew.nil M _ _).adds,fun t x e=>by cases e⟩
 | (t,ty)::l,p,nid,E,L,nid',vs,fp,L0, ν, φ,e,M,ht,hs,hf,hn=>by
  unfold zCR at e
  split at e
  rename_i A U n1 h1
  split at e
  rename_i E2 L2 n2 h2
  cases e;obtain ⟨v,us,rfl,s1,s2⟩:=hs
  cases ht with
  | cons _ _ _ _ _ f f' t1 t2 hd =>
   have l1:=zvh h1;have hle2:n1≤nid':=packE_le h2;obtain ⟨_, ν1, φ1,A1,e1⟩:=zHs hP h2 M t2 s2 (hf.sub fun b hb=>List.mem_append_right _ hb) (fun i a b=>hn i (by omega) b)
   obtain ⟨ν2, φ2,A2,hx⟩:=zyS A1.mem h1 t1 (fun i a b=>by
    cases e:ν1 i with
    | none=>rfl
    | some y =>
     have:=A1.fresh i (hn i a (by omega)) (by rw [e]; simp)
     omega) (zhr.adds A1 (hf.sub fun b hb=>List.mem_append_left _ hb) hd)
   refine ⟨by omega, ν2, φ2,Adds.seq A1 A2 l1 hle2,fun t' x e=>?_⟩;simp only [zdf,zbP] at e
   cases hb:Nat.beq t t' with
   | true =>
    rw [hb] at e;cases e
    have:t=t':=by simpa using hb
    subst this;refine ⟨v,hx,fun a1 a2=>s1.1 a1 fun x y hxy=>?_,s1.2⟩;subst hxy;cases h1;cases a2
   | false =>
    rw [hb] at e;exact (e1 t' x e).le (Fz.le.refl _) A2.le
where
 packE_le:∀{l:Pl} {p:DP τ l.ts} {nid:Nat} {E:zu τ} {L:Hp τ} {nid':Nat},zCR X.G l p nid=(E,L,nid')→nid≤nid'
 | [],p,nid,E,L,nid',e=>by cases e; exact Nat.le_refl _
 | (t,ty)::l,p,nid,E,L,nid',e=>by
  unfold zCR at e
  split at e
  rename_i A U n1 h1
  split at e
  rename_i E2 L2 n2 h2
  cases e;exact Nat.le_trans (zvh h1) (packE_le h2)
theorem zI7 (hg:zrU X.P X.G h) (hgl:∀p∈X.G.gl,True):zbZ X h ν a (glE X.G.gl):=by
 intro t x e;obtain ⟨p,hp,hpe⟩:=List.mem_map.1 (zmP e);cases hpe;obtain ⟨vs,h1,h2⟩:=hg.1 p hp;refine ⟨ptr p.1 0,⟨p.1,0,vs,rfl,h1,h2⟩,fun h=>?_,fun _=>by rw [Nat.add_sub_cancel_left],fun h1 h2=>?_⟩
 ·exfalso
  simp only [Nat.blt_eq,gb,gh] at h;omega
 ·exfalso
  simp only [gb] at h2;omega
theorem zbZ.app (h1:zbZ X h ν a E) (h2:zbZ X h ν a E'):zbZ X h ν a (E++E'):=by
 intro t x e;rw [zmI] at e
 cases hE:asc E t with
 | some y=>rw [hE] at e; cases e; exact h1 t _ hE
 | none=>rw [hE] at e; exact h2 t x e
def SameV (X:Cx τ) (w0:World) (h0:Fz) (F:List Nat) (w:World) (a:Act) (E:zu τ) (L:Hp τ) (s t:Nat):Prop:=∀(h:Fz) (ν:Vn τ) (φ:Nat→List Nat) x,Mem X.P X.G w0 h0 F L w ν h φ→zbZ X h ν a E→alV E L t=some x→zjo X h ν a s x
theorem zHt (M:Mem X.P X.G w0 h0 F L w ν h φ) (hE:zbZ X h ν a E):∀{al:List (Nat × Nat)},(∀p∈al,SameV X w0 h0 F w a E L p.1 p.2)→zbZ X h ν a (alias E L al)
 | [],_=>hE
 | (s,t)::al,hs=>by
  have ih:=zHt M hE (al:=al) fun p hp=>hs p (List.mem_cons_of_mem _ hp);unfold alias
  split
  ·rename_i v hv
   intro t' x e;simp only [zdf,zbP] at e
   cases hb:Nat.beq s t' with
   | true =>
    rw [hb] at e;cases e
    have:s=t':=by simpa using hb
    subst this;exact hs _ (List.mem_cons_self ..) h ν φ _ M hE hv
   | false=>rw [hb] at e; exact ih t' x e
  ·exact ih
theorem Mem.none (M:Mem X.P X.G w0 h0 F L w ν h φ) (hH:h.le H) (hon:H.on w) (hnew:∀b,H b≠none→h b≠none∨b∈F∨w0.heap.size≤b):Mem X.P X.G w0 h0 F [] w (fun _=>Option.none) H (fun _=>[]) :=
 ⟨M.os,M.tape,M.output,M.size,M.frame,M.le.trans hH,hon,fun b hb=>by
  rcases hnew b hb with h1|h1
  ·exact M.new b h1
  ·exact .inr h1,fun _=>rfl,(fun _ _ _ h=>by cases h),(fun _ _ h=>by cases h),M.gl.le hH,M.fp⟩
theorem zNY {x y:XV τ} {v u:Value} (hs:zxF (some x) (some y)=true) (hx:XOk X.P X.G h ν x v) (hy:XOk X.P X.G h ν y u):v=u:=by
 unfold zxF at hs
 split at hs
 ·rename_i i j h1 h2
  cases h1; cases h2
  have:i=j:=by simpa using hs
  subst this;obtain ⟨u1,q1,a1,a2,_⟩:=hx;obtain ⟨u2,q2,b1,b2,_⟩:=hy;rw [a1] at b1;cases b1;rw [a2,b2]
 ·rename_i i j h1 h2
  cases h1; cases h2
  have:i=j:=by simpa using hs
  subst this;obtain ⟨_,_,_,_,a1,a2⟩:=hx;obtain ⟨_,_,_,_,b1,b2⟩:=hy;rw [a1] at b1;cases b1;rw [a2,b2]
 ·cases hs
theorem zNZ {x y:XV τ} (hs:zxF (some x) (some y)=true):zjP x=false∧zjP y=false:=by
 refine ⟨?_,?_⟩
 ·cases x<;>first|rfl|(simp [zxF] at hs)
 ·cases y<;>first|rfl|(cases x<;>simp [zxF] at hs; done)|(exfalso; unfold zxF at hs; split at hs<;>first|(rename_i h3; cases h3; done)|(rename_i _ h3; cases h3; done)|cases hs)
def SlU (X:Cx τ) (a:Act) (t:Nat) (v:Value):Prop:=(Nat.blt t gh=true→a.tmps[t]? = some v)∧(gb≤t→v=ptr (t-gb) 0)∧(gh≤t→t<20000→v=X.fx (t-gh))
theorem SlU.one {t:Nat} {u v:Value} (h1:SlU X a t u) (h2:SlU X a t v) (hlt:t<20000):u=v:=by
 cases hg:Nat.blt t gh with
 | true =>
  have h3:=h1.1 hg;rw [h2.1 hg] at h3;exact (Option.some.inj h3).symm
 | false =>
  have hge:gh≤t:=by
   have:¬ t<gh:=by rw [← Nat.blt_eq,hg]; simp
   omega
  rw [h1.2.2 hge hlt,h2.2.2 hge hlt]
theorem zjo.u {t:Nat} {x:XV τ} (hs:zjo X h ν a t x) (hg:zjP x=false):∃v,XOk X.P X.G h ν x v∧SlU X a t v :=
 let ⟨v,h1,h2,h3,h4⟩:=hs; ⟨v,h1,fun h=>h2 h hg,h3,h4⟩
def AlU (X:Cx τ) (w:World) (a:Act) (t:Nat) (v:Value):Prop:=match t/100000 with
 | 0=>SlU X a t v
 | o+1=>∃b vs ti,SlU X a (t%100000) (ptr b 0)∧w.heap[b]? = some (.cells vs ti (0,0))∧vs[o]? = some v
theorem zHu {P:Program} {G:Sig τ}:∀{cs:List (CV τ)} {vs:List Value} {o:Nat} {c:CV τ},CVs P G h ν cs vs→zh2 cs o=some c→∃v,vs[o]? = some v∧zcI P G h ν c v
 | [],_,_,_,_,e=>by cases e
 | d::cs,_,0,c,⟨v,us,rfl,h1,_⟩,e=>by cases e; exact ⟨v,rfl,h1⟩
 | d::cs,_,o+1,c,⟨v,us,rfl,_,h2⟩,e=>zHu (cs:=cs) (vs:=us) h2 e
theorem zN0 (M:Mem X.P X.G w0 h0 F L w ν h φ) (hE:zbZ X h ν a E) {t:Nat} {x:XV τ} (hg:zjP x=false) (e:alV E L t=some x):∃v,XOk X.P X.G h ν x v∧AlU X w a t v:=by
 unfold alV at e;unfold AlU
 split at e
 ·rename_i h0
  obtain ⟨v,h1,h2⟩:=(hE t x e).u hg;rw [h0];exact ⟨v,h1,h2⟩
 ·rename_i o ho
  split at e
  ·rename_i i hi
   split at e
   ·rename_i ti cs hl
    split at e
    ·rename_i c hc
     cases e;obtain ⟨pv,h1,h2⟩:=(hE _ _ hi).u rfl;have hr:=M.res i;rw [hl] at hr;obtain ⟨b,q,vs,g1,_,g2,g3⟩:=hr;obtain ⟨u,q',k1,k2,_⟩:=h1;rw [g1] at k1;cases k1;obtain rfl:pv=ptr b 0:=k2;obtain ⟨v,h3,h4⟩:=zHu g3 hc;rw [ho];exact ⟨v,h4,b,vs.toArray,ti,h2,g2,by simpa using h3⟩
    ·cases e
   ·cases e
  ·cases e
theorem AlU.one {t:Nat} {u v:Value} (h1:AlU X w a t u) (h2:AlU X w a t v) (hlt:t%100000<20000):u=v:=by
 unfold AlU at h1 h2
 split at h1
 ·rename_i h0
  rw [h0] at h2
  have:t<100000:=by omega
  rw [Nat.mod_eq_of_lt this] at hlt;exact h1.one h2 hlt
 ·rename_i o ho
  rw [ho] at h2;obtain ⟨b,vs,ti,g1,g2,g3⟩:=h1;obtain ⟨b',vs',ti',k1,k2,k3⟩:=h2;have:=g1.one k1 hlt;cases this;rw [g2] at k2;cases k2;rw [g3] at k3;exact Option.some.inj k3
theorem zN1 (M:Mem X.P X.G w0 h0 F L w ν h φ) (hE:zbZ X h ν a E) {al:List (Nat × Nat)} (e:zNf E L al=true):∀p∈al,p.2%100000<20000∧∃v,SlU X a p.1 v∧AlU X w a p.2 v:=by
 intro p hp;have hs:=List.all_eq_true.1 e p hp;simp only [Bool.and_eq_true,Nat.blt_eq] at hs;obtain ⟨hlt,hs⟩:=hs
 cases h1:asc E p.1 with
 | none=>rw [h1] at hs; cases hs
 | some x =>
  cases h2:alV E L p.2 with
  | none=>rw [h1,h2] at hs; simp [zxF] at hs
  | some y =>
   rw [h1,h2] at hs;obtain ⟨gx,gy⟩:=zNZ hs;obtain ⟨v,a1,a2⟩:=(hE _ _ h1).u gx;obtain ⟨u,b1,b2⟩:=zN0 M hE gy h2;have:=zNY hs a1 b1;subst this;exact ⟨hlt,v,a2,b2⟩
theorem zN2 {l:Pl} {al:List (Nat × Nat)} {f:DP τ l.ts→Option ρ} (s:St X w0 h0 F E L nid a w) (e:zGJ X.G l al f E L=some r) :
  ∃p,f p=some r∧∀(K:zu τ→Hp τ→Nat→Option ρ),zCS X.G l al p K=some r→∃E' L' nid',K E' L' nid'=some r∧St X w0 h0 F E' L' nid' a w:=by
 unfold zGJ hi at e
 split at e
 ·rename_i p m n hl
  obtain ⟨hb,e⟩:=zgF e;simp only [Bool.and_eq_true] at hb;obtain ⟨⟨hnod,hdis⟩,hal⟩:=hb;refine ⟨p,e,fun K e2=>?_⟩;obtain ⟨ν,h, φ,M,hE,hn⟩:=s.st;obtain ⟨vs,ht,hs⟩:=zJ7 M hE (M.lend_le n) hl (fun b hb=>zqg hb) hnod;have hdis':=M.fps_dis (zwQ hdis);unfold zCS hi at e2
  split at e2
  rename_i E1 L1 n1 hp
  have M0:=M.none (M.lend_le n) (zvt M.on) (fun b hb=>by
   by_cases hbn:b∈fps φ n
   ·obtain ⟨i,_,hi⟩:=mem_fps.1 hbn;exact .inr (M.out i b hi).2
   ·rw [zjX hbn] at hb; exact .inl hb)
  have hfree:zhr w0 (zrw h w (fps φ n)) F (fun _=>[]) (fps φ m):=fun b hb=>by
   obtain ⟨i,_,hi⟩:=mem_fps.1 hb;refine ⟨(fun _ h=>by cases h),?_,(M.out i b hi).2⟩;rw [zjX (hdis' b hb)]; exact (M.out i b hi).1
  obtain ⟨_, ν', φ',A,hE1⟩:=zHs (X:=X) rfl hp M0 ht hs hfree (fun _ _ _=>rfl);have M1:=A.mem;rw [List.append_nil] at M1;refine ⟨_,_,_,e2,s.nodef,s.size, ν',_, φ',M1,(zHt M1 hE1 fun q hq=>?_).app (zI7 M0.gl fun _ _=>trivial),fun i hi=>?_⟩
  ·obtain ⟨hlt,v,a1,a2⟩:=zN1 M hE hal q hq;intro h2 ν2 φ2 x M2 hE2 hx
   by_cases hgv:zjP x=true
   ·exact zyR hgv
   ·obtain ⟨u,b1,b2⟩:=zN0 M2 hE2 (by simpa using hgv) hx;have huv:=b2.one a2 hlt;subst huv;exact ⟨u,b1,fun h _=>a1.1 h,a1.2⟩
  ·cases e:ν' i with
   | none=>rfl
   | some y =>
    have:=A.fresh i rfl (by rw [e]; simp);omega
 ·cases e

theorem zJ8 {t:Nat} {c:CV τ} (hc:evC E (.tmp t)=some c):asc E t=some (.c c):=by
 have hc:(match (bif Nat.blt t gh then asc E t else none) with
  | some (.c c)=>some c
  | _=>none)=some c:=hc
 cases hb:Nat.blt t gh with
 | false=>rw [hb] at hc; cases hc
 | true =>
  rw [hb] at hc;dsimp only [cond_true] at hc
  split at hc
  ·rename_i c' hc'
   cases hc;exact hc'
  ·cases hc
def exT:Ex→Exit
 | .no => .normal
 | .ex id => .exit id
 | .rt => .ret
def KOk (X:Cx τ) (w0:World) (h0:Fz) (F:List Nat) (K:Kx τ ρ) (Q:Exit→Act→World→Prop) (r:ρ):Prop:=∀e E L nid a w,K e E L nid=some r→St X w0 h0 F E L nid a w→Q (exT e) a w
theorem KOk.thn {K:Kx τ ρ} {Q:Exit→Act→World→Prop} {next:Act→World→Prop} {K0:zu τ→Hp τ→Nat→Option ρ} (hK:KOk X w0 h0 F K Q r) (h0':∀E L nid a w,K0 E L nid=some r→St X w0 h0 F E L nid a w→next a w) :
  KOk X w0 h0 F (fun e E L nid=>match e with
   | .no=>K0 E L nid
   | e=>K e E L nid) (Exit.then next Q) r:=by
 intro e E L nid a w he s
 cases e with
 | no=>exact h0' E L nid a w he s
 | ex id=>exact hK (.ex id) E L nid a w he s
 | rt=>exact hK .rt E L nid a w he s
def Hn.dep:Hn τ ρ→Nat
 | .q _ b=>b.dep+1
 | _=>0
theorem exX_ok (hm:X.P.follows .mixedOrders=true) {op:OpF τ ρ} (hop:zvw X w0 h0 F op) (hN:X.n≤gh) (c:Code):∀(hn:Hn τ ρ) (K:Kx τ ρ) (Q:Exit→Act→World→Prop) (E:zu τ) (L:Hp τ) (nid:Nat) (a:Act) (w:World),
  exX op X c hn E L nid K=some r→hn.giv=ziE op X c hn K→KOk X w0 h0 F K Q r→St X w0 h0 F E L nid a w→c.wp X.P Q a w:=by
 induction c with
 | skip =>
  intro hn K Q E L nid a w e _ hK s;exact wp_skip (hK .no E L nid a w e s)
 | region id ops d =>
  intro hn K Q E L nid a w e _ hK s;obtain ⟨l⟩:=ops
  cases d with
  | true=>exact zPg hm hop hN (fun E L nid a w h s=>hK .no E L nid a w h s) e s
  | false=>exact wp_region_list (zC4 hop hN (fun E L nid a w h s=>hK .no E L nid a w h s) e s)
 | seq x y ihx ihy =>
  intro hn K Q E L nid a w e hg hK s
  have two:∀(h1 h2:Hn τ ρ),exX op X x h1 E L nid (zJU op X y h2 K)=some r→h1.giv=ziE op X x h1 (zJU op X y h2 K)→h2.giv=ziE op X y h2 K→(Code.seq x y).wp X.P Q a w:=by
   intro h1 h2 e g1 g2;refine wp_seq (ihx h1 _ _ E L nid a w e g1 (hK.thn fun E L nid a w he s=>ihy h2 K Q E L nid a w he g2 hK s) s)
  cases hn with
  | e=>exact two .e .e e rfl rfl
  | q h1 h2 =>
   have hg':(h1.giv,h2.giv)=(ziE op X x h1 (zJU op X y h2 K),ziE op X y h2 K):=hg
   injection hg' with g1 g2
   exact two h1 h2 e g1 g2
  | n k h1 =>
   cases k with
   | zero=>exact two .e .e e rfl rfl
   | succ k =>
    cases k with
    | zero=>exact two .e h1 e rfl hg
    | succ k=>exact two .e (.n (k+1) h1) e rfl hg
  | w l al f h1=>exact two .e .e e rfl rfl
  | j l al f h1 h2 =>
   have hg':(f,h1.giv,h2.giv)=((fun t=>zCS X.G l al t fun E L nid=>exX op X y h2 E L nid K),ziE op X x h1 (zGK X l al f K),ziE op X y h2 K):=hg
   injection hg' with g0 g12
   injection g12 with g1 g2
   refine wp_seq (ihx h1 (zGK X l al f K) _ E L nid a w e g1 (hK.thn fun E L nid a w he s=>?_) s);obtain ⟨p,hp,hcut⟩:=zN2 s he;have hp2:=congrFun g0 p;rw [hp] at hp2;obtain ⟨E',L',nid',h3,s'⟩:=hcut _ hp2.symm;exact ihy h2 K Q E' L' nid' a w h3 g2 hK s'
 | cond c x y ihx ihy =>
  intro hn K Q E L nid a w e hg hK s
  have g1:hn.fst.giv=ziE op X x hn.fst K:=by
   cases hn with
   | q h1 h2 =>
    have hg':(h1.giv,h2.giv)=(ziE op X x h1 K,ziE op X y h2 K):=hg
    injection hg' with g1 _
   | _=>rfl
  have g2:hn.sn2.giv=ziE op X y hn.sn2 K:=by
   cases hn with
   | q h1 h2 =>
    have hg':(h1.giv,h2.giv)=(ziE op X x h1 K,ziE op X y h2 K):=hg
    injection hg' with _ g2
   | _=>rfl
  obtain ⟨ν,h, φ,M,hE,hnn⟩:=s.st;obtain ⟨Ea,hf,hl⟩:=zdC a s.nodef;unfold exX at e
  split at e
  ·rename_i b hc
   obtain ⟨v,h1,h2⟩:=zh hl (hE.on _) hc;obtain rfl:v=_:=h2
   cases b with
   | true=>exact wp_cond_true (hf.ev h1) (ihx hn.fst K Q E L nid a w e g1 hK s)
   | false=>exact wp_cond_false (hf.ev h1) (ihy hn.sn2 K Q E L nid a w e g2 hK s)
  ·rename_i b hc
   obtain ⟨v,h1,h2⟩:=zh hl (hE.on _) hc;obtain rfl:v=_:=h2
   split at e
   ·rename_i t
    have ha:asc E t=some (.c (.b b)):=zJ8 hc
    cases b with
    | true =>
     rw [if_pos rfl] at e;exact wp_cond_true (hf.ev h1) (ihx hn.fst K Q _ L nid a w e g1 hK (s.ref ((Ref.refl E).known ha)))
    | false =>
     rw [if_neg (by simp)] at e;exact wp_cond_false (hf.ev h1) (ihy hn.sn2 K Q _ L nid a w e g2 hK (s.ref ((Ref.refl E).known ha)))
   ·cases e
  ·cases e
 | block id c ih =>
  intro hn K Q E L nid a w e hg hK s;refine wp_block (ih hn (blkK id K) _ E L nid a w e hg (fun e E L nid a w he s=>?_) s)
  cases e with
  | no=>exact hK .no E L nid a w he s
  | rt=>exact hK .rt E L nid a w he s
  | ex i =>
   unfold blkK at he;simp only at he
   cases hb:Nat.beq i id with
   | true =>
    rw [hb] at he
    have:i=id:=by simpa using hb
    subst this;exact zxq (hK .no E L nid a w he s)
   | false =>
    rw [hb] at he;exact zxr hb (hK (.ex i) E L nid a w he s)
 | loop c ih =>
  intro hn K Q E L nid a w e hg hK s
  cases hn with
  | w l al f h1 =>
   have hg':((fun n t=>f (n+1) t),(fun t=>f 0 t),fun n=>(h1 n).giv)=((fun n t=>zCS X.G l al t fun E L nid=>exX op X c (h1 n) E L nid (zGK X l al (f n) K)),(fun _=>none),fun n=>ziE op X c (h1 n) (zGK X l al (f n) K)):=hg
   injection hg' with g0 g12
   injection g12 with g1 g2
   have key:∀(n:Nat) (a:Act) (w:World),(∃E L nid,zGJ X.G l al (f n) E L=some r∧St X w0 h0 F E L nid a w)→c.wp X.P (Exit.then (fun a' w'=>∃m,m<n∧∃E L nid,zGJ X.G l al (f m) E L=some r∧St X w0 h0 F E L nid a' w') Q) a w:=by
    rintro n a w ⟨E,L,nid,he,s⟩;obtain ⟨p,hp,hcut⟩:=zN2 s he
    cases n with
    | zero =>
     have:=congrFun g1 p;rw [hp] at this; cases this
    | succ n =>
     have hp2:=congrFun (congrFun g0 n) p;rw [hp] at hp2;obtain ⟨E',L',nid',h3,s'⟩:=hcut _ hp2.symm;exact ih (h1 n) (zGK X l al (f n) K) _ E' L' nid' a w h3 (congrFun g2 n) (hK.thn fun E L nid a w he s=>⟨n,Nat.lt_succ_self n,E,L,nid,he,s⟩) s'
   exact zCX (fun n a w=>∃E L nid,zGJ X.G l al (f n) E L=some r∧St X w0 h0 F E L nid a w) key fuel ⟨E,L,nid,e,s⟩
  | e=>cases e
  | n k h1=>cases e
  | j l al f h1 h2=>cases e
  | q h1 h2 =>
   have key:∀(hn:Hn τ ρ) (E:zu τ) (L:Hp τ) (nid:Nat) (a:Act) (w:World),lpU (fun h E L nid K=>exX op X c h E L nid K) hn E L nid K=some r→hn.giv=lpR (fun h E L nid K=>exX op X c h E L nid K) (fun h K=>ziE op X c h K) hn K→St X w0 h0 F E L nid a w→Code.rounds X.P c Q hn.dep a w:=by
    intro hn
    induction hn with
    | q h1 h2 _ ih2 =>
     intro E L nid a w e hg s;have hg':(h1.giv,h2.giv)=(ziE op X c h1 (lpK (fun h E L nid K=>exX op X c h E L nid K) h2 K),lpR (fun h E L nid K=>exX op X c h E L nid K) (fun h K=>ziE op X c h K) h2 K):=hg
     injection hg' with g1 g2
     exact ih h1 (lpK (fun h E L nid K=>exX op X c h E L nid K) h2 K) _ E L nid a w e g1 (hK.thn fun E L nid a w he s=>ih2 E L nid a w he g2 s) s
    | _=>intro E L nid a w e; cases e
   exact wp_loop_rounds _ (key (.q h1 h2) E L nid a w e hg s)
 | exit id =>
  intro hn K Q E L nid a w e _ hK s;exact wp_exit (hK (.ex id) E L nid a w e s)
 | ret =>
  intro hn K Q E L nid a w e _ hK s;exact wp_ret (hK .rt E L nid a w e s)
 | rangeFunc _ _ _ _ _ _=>intro hn K Q E L nid a w e; cases e
 | scope _ _=>intro hn K Q E L nid a w e; cases e
 | label _=>intro hn K Q E L nid a w e; cases e
 | goto _=>intro hn K Q E L nid a w e; cases e
 | refuse _=>intro hn K Q E L nid a w e; cases e
end
end Go.Rk
end
section
namespace Go.Rk
open Go.RowKit Go.Dm Go.Dk
variable {τ:Nat→Type}
section
variable {ρ:Type} {X:Cx τ} {w0 w w':World} {h0 h h' H:Fz} {F:List Nat} {E E' Eb:zu τ} {L L2:Hp τ} {ν ν':Vn τ} {φ φ':Nat→List Nat} {nid nid':Nat} {a:Act}
theorem zFT {P:Program} {α:Type} {f:α→Sem Value}:∀{l:List α} {vs:List Value},l.length=vs.length→(∀(i:Nat) x v,l[i]? = some x→vs[i]? = some v→(f x).run P w = .ok v w)→(l.mapM f).run P w = .ok vs w
 | [],[],_,_=>by simp
 | x::l,v::vs,hl,h=>by
  have h1:=h 0 x v rfl rfl;have h2:=zFT (f:=f) (l:=l) (vs:=vs) (by simpa using hl) fun i x v a b=>h (i+1) x v (by simpa using a) (by simpa using b);simp [List.mapM_cons,h1,h2,Result.andThen]
 | [],_::_,h,_=>by simp at h
 | _::_,[],h,_=>by simp at h
def rv1 (tmps:Array Value):ResultVar→Sem Value
 | .tmp t=>pure (tmps.getD t undef)
 | .cell a t=>do loadVar t (← asAddr (tmps.getD a undef))
theorem zH3 (fn:Func) (tmps:Array Value):results fn tmps=(do
  let vs ← fn.results.mapM (rv1 tmps)
  pure (if h:vs.size=1 then vs[0] else .tuple vs)):=by
 unfold results
 have:(fun x=>match x with
  | ResultVar.tmp t=>pure (tmps.getD t undef)
  | ResultVar.cell a t=>do loadVar t (← asAddr (tmps.getD a undef)))=rv1 tmps:=funext fun x=>by cases x<;>rfl
 rw [← this];rfl
theorem zxC {fn:Func} {rv:List ResultVar} {tmps:Array Value} {vs:List Value} (hr:fn.results=⟨rv⟩) (hl:rv.length=vs.length) (h:∀(i:Nat) x v,rv[i]? = some x→vs[i]? = some v→(rv1 tmps x).run X.P w = .ok v w):(results fn tmps).run X.P w = .ok (zy9 vs) w:=by
 have h1:=zFT (P:=X.P) (w:=w) hl h
 have h2:(fn.results.mapM (rv1 tmps)).run X.P w = .ok vs.toArray w:=by
  rw [hr];simp [h1,Result.andThen]
 have h3:∀u:List Value,(if h:u.toArray.size=1 then u.toArray[0] else Value.tuple u.toArray)=zy9 u:=by
  intro u
  match u with
  | []=>rfl
  | [v]=>rfl
  | v::v'::u=>rfl
 rw [zH3,Sem.run_bind,h2];simp only [Result.andThen_ok,Sem.run_pure,h3]
theorem zy0 (M:Mem X.P X.G w0 h0 F L w ν h φ) (hE:zbZ X h ν a E):∀{rv:List ResultVar} {xs:List (XV τ)},zsG X E L rv=some xs→(∀y∈xs,zjP y=false)→∃vs:List Value,rv.length=vs.length∧vs.length=xs.length∧(∀(i:Nat) x v,rv[i]? = some x→vs[i]? = some v→(rv1 a.tmps x).run X.P w = .ok v w)∧∀(i:Nat) A v,xs[i]? = some A→vs[i]? = some v→XOk X.P X.G h ν A v
 | [],xs,e,_=>by cases e; exact ⟨[],rfl,rfl,(fun i x v h=>by simp at h),fun i A v h=>by simp at h⟩
 | .tmp t::rv,xs,e,hgv=>by
  unfold zsG at e;obtain ⟨hlt,e⟩:=zgF e
  split at e
  ·rename_i A hA
   split at e
   ·rename_i As hAs
    cases e;obtain ⟨vs,h1,h2,h3,h4⟩:=zy0 M hE hAs fun y hy=>hgv y (List.mem_cons_of_mem _ hy);obtain ⟨v,g1,g2,_⟩:=hE t A hA;have g2:=g2 hlt (hgv A (List.mem_cons_self ..));refine ⟨v::vs,by simp [h1],by simp [h2],fun i x u hx hu=>?_,fun i B u hB hu=>?_⟩
    ·cases i with
     | zero =>
      simp at hx hu;subst hx; subst hu;simp [rv1,Array.getD_eq_getD_getElem?,g2]
     | succ i=>exact h3 i x u (by simpa using hx) (by simpa using hu)
    ·cases i with
     | zero=>simp at hB hu; subst hB; subst hu; exact g1
     | succ i=>exact h4 i B u (by simpa using hB) (by simpa using hu)
   ·cases e
  ·cases e
 | .cell t ty::rv,xs,e,hgv=>by
  unfold zsG at e;obtain ⟨hlt,e⟩:=zgF e
  split at e
  ·rename_i id hA
   split at e
   ·rename_i bt cs hl
    split at e
    ·rename_i n hn
     split at e
     ·rename_i A hone
      split at e
      ·rename_i As hAs
       cases e;obtain ⟨vs,h1,h2,h3,h4⟩:=zy0 M hE hAs fun y hy=>hgv y (List.mem_cons_of_mem _ hy);obtain ⟨pv,g1,g2,_⟩:=hE t _ hA;have g2:=g2 hlt rfl;obtain ⟨b,q,us,hν,rfl,_,hh,hcs,hs⟩:=zEO M g1 hl
       have hld:∃u,(loadVar ty ⟨b,0,none⟩).run X.P w = .ok u w∧XOk X.P X.G h ν A u:=by
        unfold zGH at hone
        split at hone
        ·rename_i l hcut
         obtain ⟨k1,k2⟩:=hcs.cut hcut;have hlen:=zAC hcut
         split at hone
         ·rename_i hag
          cases hone;refine ⟨_,zwp (zwW hag) (zfA hn) (vs:=(us.drop 0).take n) (by rw [k1.len,hlen]) (fun j v hj=>?_),_,rfl,k1⟩;have:=hs.cells (o:=0) (n:=n) rfl j v hj;simpa using this
         ·rename_i hag
          split at hone
          ·rename_i c
           cases hone;obtain ⟨u,us',k3,k4,_⟩:=k1;refine ⟨u,zwo (zwW hag) (hs.cell (o:=0) ?_),k4⟩
           have:((us.drop 0).take n)[0]? = some u:=by rw [k3]; rfl
           rw [List.getElem?_take] at this
           split at this
           ·simpa using this
           ·cases this
          ·cases hone
         ·cases hone
        ·cases hone
       obtain ⟨u,k1,k2⟩:=hld;refine ⟨u::vs,by simp [h1],by simp [h2],fun i x u' hx hu=>?_,fun i B u' hB hu=>?_⟩
       ·cases i with
        | zero =>
         simp at hx hu;subst hx; subst hu;simp [rv1,Array.getD_eq_getD_getElem?,g2,asAddr,k1,Result.andThen]
        | succ i=>exact h3 i x u' (by simpa using hx) (by simpa using hu)
       ·cases i with
        | zero=>simp at hB hu; subst hB; subst hu; exact k2
        | succ i=>exact h4 i B u' (by simpa using hB) (by simpa using hu)
      ·cases e
     ·cases e
    ·cases e
   ·cases e
  ·cases e
theorem zFU (hE:zbZ X h ν a E):∀{js:List Nat} {xs:List (XV τ)},zCT E js=some xs→xs.length=js.length∧∀(i:Nat) A v,xs[i]? = some A→(js.map X.fx)[i]? = some v→XOk X.P X.G h ν A v
 | [],xs,e=>by cases e; exact ⟨rfl,fun i A v h=>by simp at h⟩
 | j :: js,xs,e=>by
  unfold zCT at e;obtain ⟨hlt,e⟩:=zgF e
  split at e
  ·rename_i A hA
   split at e
   ·rename_i As hAs
    cases e;obtain ⟨h1,h2⟩:=zFU hE hAs;obtain ⟨v,g1,_,_,g2⟩:=hE _ A hA
    have hj:j<gh:=by simpa using hlt
    have hv:v=X.fx j:=by
     have:=g2 (Nat.le_add_right ..) (by unfold gh at hj ⊢; omega)
     rwa [Nat.add_sub_cancel_left] at this
    subst hv;refine ⟨by simp [h1],fun i B u hB hu=>?_⟩
    cases i with
    | zero=>simp at hB hu; subst hB; subst hu; exact g1
    | succ i=>exact h2 i B u (by simpa using hB) (by simpa using hu)
   ·cases e
  ·cases e

theorem zFV:∀{ts:List Ty} {p:DP τ ts} {i0:Nat} {nid:Nat} {E:zu τ} {L:Hp τ} {nid':Nat} {vs:List Value} {fp:List Nat} {L0:Hp τ} {ν:Vn τ} {φ:Nat→List Nat},zCU X.G i0 ts p nid=(E,L,nid')→Mem X.P X.G w0 h0 F L0 w ν h φ→TrXs X.P X.G h w ts p vs fp→(∀(j:Nat) v,vs[j]? = some v→a.tmps[i0+j]? = some v) →
  i0+ts.length≤gh→zhr w0 h F φ fp→(∀i,nid≤i→i<nid'→ν i=none)→nid≤nid'∧(∃ν' φ',Adds X.P X.G w0 h0 F L0 w ν h φ L nid nid' fp ν' φ'∧zbZ X h ν' a E)∧∀t x,asc E t=some x→i0≤t∧t<i0+ts.length
 | [],p,i0,nid,E,L,nid',vs,fp,L0, ν, φ,e,M,ht,hs,hlt,hf,hn=>by
  cases e;exact ⟨Nat.le_refl _,⟨ν, φ,(Grew.nil M _ _).adds,fun t x e=>by cases e⟩,fun t x e=>by cases e⟩
 | ty::ts,p,i0,nid,E,L,nid',vs,fp,L0, ν, φ,e,M,ht,hs,hlt,hf,hn=>by
  unfold zCU at e
  split at e
  rename_i A U n1 h1
  split at e
  rename_i E2 L2 n2 h2
  cases e;simp only [List.length_cons] at hlt
  cases ht with
  | cons _ _ _ v us f f' t1 t2 hd =>
   have l1:=zvh h1;have hle2:n1≤nid':=packP_le h2;obtain ⟨_,⟨ν1, φ1,A1,e1⟩,hk⟩:=zFV h2 M t2 (fun j v hj=>by have:=hs (j+1) v (by simpa using hj); rwa [show i0+(j+1)=i0+1+j by omega] at this) (by omega) (hf.sub fun b hb=>List.mem_append_right _ hb) (fun i a b=>hn i (by omega) b)
   obtain ⟨ν2, φ2,A2,hx⟩:=zyS A1.mem h1 t1 (fun i a b=>by
    cases e:ν1 i with
    | none=>rfl
    | some y =>
     have:=A1.fresh i (hn i a (by omega)) (by rw [e]; simp)
     omega) (zhr.adds A1 (hf.sub fun b hb=>List.mem_append_left _ hb) hd)
   refine ⟨by omega,⟨ν2, φ2,Adds.seq A1 A2 l1 hle2,fun t' x e=>?_⟩,fun t' x e=>?_⟩
   ·simp only [zdf,zbP] at e
    cases hb:Nat.beq i0 t' with
    | true =>
     rw [hb] at e;cases e
     have:i0=t':=by simpa using hb
     subst this;refine ⟨v,hx,fun _ _=>?_,fun h=>?_,fun h=>?_⟩
     ·have:=hs 0 v rfl; rwa [Nat.add_zero] at this
     ·exfalso; unfold gb at h; unfold gh at hlt; omega
     ·exfalso; omega
    | false =>
     rw [hb] at e;exact (e1 t' x e).le (Fz.le.refl _) A2.le
   ·simp only [zdf,zbP] at e;simp only [List.length_cons]
    cases hb:Nat.beq i0 t' with
    | true =>
     have:i0=t':=by simpa using hb
     omega
    | false =>
     rw [hb] at e;have:=hk t' x e;omega
where
 packP_le:∀{ts:List Ty} {p:DP τ ts} {i0 nid:Nat} {E:zu τ} {L:Hp τ} {nid':Nat},zCU X.G i0 ts p nid=(E,L,nid')→nid≤nid'
 | [],p,i0,nid,E,L,nid',e=>by cases e; exact Nat.le_refl _
 | ty::ts,p,i0,nid,E,L,nid',e=>by
  unfold zCU at e
  split at e
  rename_i A U n1 h1
  split at e
  rename_i E2 L2 n2 h2
  cases e;exact Nat.le_trans (zvh h1) (packP_le h2)
theorem TrXs.len {P:Program} {G:Sig τ}:∀{ts:List Ty} {q:DP τ ts} {vs:List Value} {fp:List Nat},TrXs P G h w ts q vs fp→vs.length=ts.length
 | _,_,_,_, .nil=>rfl
 | _,_,_,_, .cons _ _ _ _ _ _ _ _ h2 _=>by simp [h2.len]
theorem zFW {G:Sig τ}:∀{ts:List Ty} {As:List (XV τ)} {q:DP τ ts × List Nat × List Nat},zsC G L ts As=some q→(∀t∈ts, ∀x y,t ≠ .pr x y)→∀y∈As,zjP y=false
 | [],[],_,_,_,y,hy=>by cases hy
 | t::ts,A::As,q,e,hp,y,hy=>by
  unfold zsC at e
  split at e
  ·rename_i x l m hx
   split at e
   ·rename_i q' hq
    rcases List.mem_cons.1 hy with rfl|hy
    ·exact zJ6 hx (hp t (List.mem_cons_self ..))
    ·exact zFW hq (fun t ht=>hp t (List.mem_cons_of_mem _ ht)) y hy
   ·cases e
  ·cases e
 | [],_::_,_,e,_,_,_=>by cases e
 | _::_,[],_,e,_,_,_=>by cases e
theorem zzy {vs:List Value} {X:Cx τ} {a:Act} {E:zu τ} {h:Fz} {ν:Vn τ} (hE:zbZ (X.w (bkV vs)) h ν a E) (hv:∀(j:Nat) x,asc E j=some x→zjP x=false→XOk X.P X.G h ν x (vs.getD j undef)):∀{js:List Nat},zbZ (X.w (bkV vs)) h ν a (gho E js)
 | []=>fun t x e=>by cases e
 | j :: js=>by
  unfold gho
  split
  ·rename_i v hv1
   split
   ·rename_i c hc
    cases hb:Nat.blt j gh with
    | false=>exact zzy hE hv
    | true =>
     intro t x e;simp only [cond_true,zdf,zbP] at e
     cases ht:Nat.beq (gh+j) t with
     | false=>rw [ht] at e; exact zzy hE hv t x e
     | true =>
      rw [ht] at e;cases e
      have:gh+j=t:=by simpa using ht
      subst this
      have hjg:j<gh:=by simpa using hb
      have hg:zjP v=false:=by
       cases v with
       | gv t x=>cases hj:j/32<;>rw [hj] at hc<;>cases hc
       | _=>rfl
      refine ⟨bkV vs j,zvi (hv _ _ hv1 hg) hc,fun h=>?_,fun h=>?_,fun _ _=>?_⟩
      ·exfalso; rw [Nat.blt_eq] at h; omega
      ·exfalso; unfold gb gh at *; omega
      ·show _=bkV vs (gh+j-gh); rw [Nat.add_sub_cancel_left]
   ·exact zzy hE hv
  ·exact zzy hE hv
def noPr:Ty→Bool
 | .pr _ _=>false
 | _=>true
structure FnOkk (X:Cx τ) (f:FuncId) (fn:Func) (c:Code) (rv:List ResultVar) (k:Con τ):Prop where
 at_:X.P.funcs[f]? = some fn
 body:fn.body=some c
 name:(fn.name == "runtime.NumGoroutine")=false
 size:fn.ntmps=X.n
 small:X.n≤gh
 pars:k.ps.length≤X.n
 rs:fn.results=⟨rv⟩
 pr:k.rs.all noPr=true
theorem zOR {f:FuncId} {fn:Func} {c:Code} {rv:List ResultVar} {k:Con τ} {hn:Hn τ (DP τ k.rs)} {op:(Nat→Value)→OpF τ (DP τ k.rs)} (hm:X.P.follows .mixedOrders=true) (hop:∀fx w0 h0 F,zvw (X.w fx) w0 h0 F (op fx)) (hf:FnOkk X f fn c rv k) (hF:ztX X k c rv hn op):COk X.P X.G f k:=by
 refine ⟨⟨fn,hf.at_,by rw [hf.body]; rfl,hf.name⟩,fun h w p r vs fp hgl hfp hon htr hnone hr=>?_⟩;refine calls_of_wp hf.at_ hf.body ?_;have hfact:=congrFun hF (bkV vs)
 injection hfact with f1 f2
 have f1:=congrFun f1 p;rw [hr] at f1;unfold entX at f1
 split at f1
 rename_i E0 L0 n0 hp
 have hlen:=htr.len
 have M0:Mem (X.w (bkV vs)).P (X.w (bkV vs)).G w h fp [] w (fun _=>none) h (fun _=>[]) :=
  ⟨rfl,rfl,rfl,Nat.le_refl _,fun _ _ _=>rfl,Fz.le.refl _,hon,fun b hb => .inl hb,fun _=>rfl,(fun _ _ _ h=>by cases h),(fun _ _ h=>by cases h),hgl,hfp⟩
 have htm:∀(j:Nat) v,vs[j]? = some v→(vs.toArray++Array.replicate (fn.ntmps-vs.toArray.size) undef)[0+j]? = some v:=by
  intro j v hj;rw [Nat.zero_add,Array.getElem?_append_left (by simpa using (List.getElem?_eq_some_iff.1 hj).1)];simpa using hj
 obtain ⟨_,⟨ν', φ',A,hE0⟩,hk⟩:=zFV (X:=X.w (bkV vs)) (a:=⟨vs.toArray++Array.replicate (fn.ntmps-vs.toArray.size) undef,[]⟩) hp M0 htr htm (by have:=hf.pars; have:=hf.small; simp only [Nat.zero_add]; exact Nat.le_trans hf.pars hf.small) (fun b hb=>⟨(fun _ h=>by cases h),hnone b hb, .inl hb⟩) (fun _ _ _=>rfl)
 have hsz:(vs.toArray++Array.replicate (fn.ntmps-vs.toArray.size) undef).size=X.n:=by
  have:=hf.pars;have:=hf.size
  simp; omega
 have hS:St (X.w (bkV vs)) w h fp ((gho E0 k.bk++E0)++glE X.G.gl) L0 n0 ⟨vs.toArray++Array.replicate (fn.ntmps-vs.toArray.size) undef,[]⟩ w:=by
  refine ⟨rfl,hsz, ν',h, φ',by have:=A.mem; rwa [List.append_nil] at this,((zzy hE0 fun j x hx hg=>?_).app hE0).app (zI7 hgl fun _ _=>trivial),fun i hi=>?_⟩
  ·obtain ⟨v,b1,b2,_⟩:=hE0 j x hx;have hj:=hk j x hx
   have hjg:j<gh:=by have:=hf.pars; have:=hf.small; omega
   have hv:=b2 (by rw [Nat.blt_eq]; exact hjg) hg
   have hjl:j<vs.length:=by omega
   have h3:=htm j _ (List.getElem?_eq_getElem hjl);rw [Nat.zero_add] at h3;rw [h3] at hv;cases hv;rw [List.getD_eq_getElem?_getD,List.getElem?_eq_getElem hjl];exact b1
  ·cases e:ν' i with
   | none=>rfl
   | some y =>
    have:=A.fresh i rfl (by rw [e]; simp);omega
 refine exX_ok (X:=X.w (bkV vs)) (w0:=w) (h0:=h) (F:=fp) hm (hop _ _ _ _) hf.small c hn _ (bodyPost X.P fn _) _ L0 n0 _ w f1.symm f2 ?_ hS
 -- the end
 intro e E L nid a w' he s
 have key:∀{xs ws:List (XV τ)} {l m:List Nat},zsG (X.w (bkV vs)) E L rv=some xs→zCT E k.bk=some ws→zsC X.G L k.rs (xs++ws)=some (r,l,m)→(Nat.beq xs.length k.nr&&(nod l&&zyu l m))=true →
   a.defers=[]∧∃v,(results fn a.tmps).run X.P w' = .ok v w'∧∃h' rs fp',Ending.returned v = .returned (zy9 (rs.take k.nr))∧Left h w fp h' w' fp'∧TrXs X.P X.G h' w' k.rs r rs fp'∧rs.drop k.nr=k.bk.map (bkV vs):=by
  intro xs ws l m ho hb hres hck;simp only [Bool.and_eq_true,Nat.beq_eq] at hck;obtain ⟨hnr,hnod,hdis⟩:=hck;obtain ⟨ν,h1, φ,M,hE,_⟩:=s.st
  have hgv:=zFW hres fun t ht x y e=>by
   have:=List.all_eq_true.1 hf.pr t ht;rw [e] at this; cases this
  obtain ⟨vals,o1,o2,o3,o4⟩:=zy0 M hE ho fun y hy=>hgv y (List.mem_append_left _ hy);obtain ⟨b1,b2⟩:=zFU hE hb
  have hall:∀(i:Nat) (A:XV τ) (v:Value),(xs++ws)[i]? = some A→(vals++k.bk.map (bkV vs))[i]? = some v→XOk X.P X.G h1 ν A v:=by
   intro i A v hA hv
   by_cases hi:i<xs.length
   ·rw [List.getElem?_append_left hi] at hA;rw [List.getElem?_append_left (by omega)] at hv;exact o4 i A v hA hv
   ·rw [List.getElem?_append_right (by omega)] at hA;rw [List.getElem?_append_right (by omega),o2] at hv;exact b2 _ A v hA hv
  have htr:=zza (L:=L) M (M.lend_le m) hres (fun _ _=>rfl) (M.look fun _ _=>rfl) hnod (by simp [o2,b1]) hall;refine ⟨s.nodef,zy9 vals,zxC (X:=X) hf.rs o1 o3,zrw h1 w' (fps φ m),_,fps φ l,?_,⟨M.os,M.tape,M.output,M.size,M.frame,M.le.trans (M.lend_le m),zvt M.on,fun b hb=>?_,fun b hb=>?_⟩,htr,?_⟩
  ·rw [List.take_append_of_le_length (by omega),List.take_of_length_le (by omega)]
  ·by_cases hbm:b∈fps φ m
   ·obtain ⟨i,_,hi⟩:=mem_fps.1 hbm;exact .inr (M.out i b hi).2
   ·rw [zjX hbm] at hb; exact M.new b hb
  ·obtain ⟨i,_,hi⟩:=mem_fps.1 hb;rw [zjX (M.fps_dis (zwQ hdis) b hb)];exact M.out i b hi
  ·rw [List.drop_append,List.drop_eq_nil_of_le (by omega),List.nil_append,show k.nr-vals.length=0 by omega,List.drop_zero]
 have fin:(match zsG (X.w (bkV vs)) E L rv with
  | some vs=>match zCT E k.bk with
   | some ws=>match zsC X.G L k.rs (vs++ws) with
    | some (p,l,m)=>bc (Nat.beq vs.length k.nr&&(nod l&&zyu l m)) (some p) none
    | none=>none
   | none=>none
  | none=>none)=some r→a.defers=[]∧∃v,(results fn a.tmps).run X.P w' = .ok v w'∧∃h' rs fp',Ending.returned v = .returned (zy9 (rs.take k.nr))∧Left h w fp h' w' fp'∧TrXs X.P X.G h' w' k.rs r rs fp'∧rs.drop k.nr=k.bk.map (bkV vs):=by
  intro he
  split at he
  ·rename_i xs ho
   split at he
   ·rename_i ws hb
    split at he
    ·rename_i q l m hres
     obtain ⟨hck,he⟩:=zgF he;cases he;exact key ho hb hres hck
    ·cases he
   ·cases he
  ·cases he
 cases e with
 | ex id=>cases he
 | no=>exact fin he
 | rt=>exact fin he
end
end Go.Rk
end
