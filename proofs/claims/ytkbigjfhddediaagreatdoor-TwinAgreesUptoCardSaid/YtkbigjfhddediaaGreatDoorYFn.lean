/- Walks by evaluation: calls, and operations as a whole. Over any program. Walks by evaluation: regions. Over any program. -/
import Derived.Test.YtkbigjfhddediaaGreatDoorYCa
import Derived.Test.YtkbigjfhddediaaGreatDoorP0
set_option linter.unusedVariables false
set_option linter.unusedSimpArgs false
section
namespace Go.Rk
open Go.RowKit Go.Dm Go.Dk
variable {τ:Nat→Type}
variable {ats:Array TypeId} {args:List Operand} {f:Nat} {id:Nat} {e:Ty}
section
variable {ρ:Type} {X:Cx τ} {w0 w w':World} {h0 h h' H:Fz} {F:List Nat} {o:Oper} {E:zad τ} {L L2:Hp τ} {ν ν':Vn τ} {φ φ':Nat→List Nat} {nid nid':Nat} {K:Nx τ ρ} {r:ρ} {v:XV τ} {U:Hp τ} {tch:List Nat} {g:List (XV τ)}
variable {a:Act} {x y z:Operand} {t' t ty u':Nat} {dst:Option Nat} {p:String} {af:Array Edge} {gd:Option (Nat × Bool)}
theorem zw3:∀{args:List Operand} {avs:List (XV τ)},zvb E args=some avs→avs.length=args.length∧∀(i:Nat) (A:XV τ),avs[i]? = some A→∃z,args[i]? = some z∧evX E z=some A
 | [],avs,e=>by cases e; exact ⟨rfl,fun i A h=>by simp at h⟩
 | z::args,avs,e=>by
  unfold zvb at e
  split at e
  ·rename_i A c
   split at e
   ·rename_i d a
    cases e;obtain ⟨h1,h2⟩:=zw3 a;refine ⟨by simp [h1],fun i B b=>?_⟩
    cases i with
    | zero=>simp at b; subst b; exact ⟨z,rfl,c⟩
    | succ i=>exact h2 i B b
   ·cases e
  ·cases e
theorem zBv {args:Array Operand} {vs:List Value} (g:zfd X.P f) (i:a.eval x = .func (.func f) #[] #[]) (d:args.map a.eval=vs.toArray) :
  (execOp a.eval { dst:=dst,op := .call { callee := .value x,args:=args,argTypes:=ats },type:=t,pos:=p,after:=af,guard:=gd }).run X.P w = .ok (.enter f vs.toArray) w:=by
 obtain ⟨fn,g,b,c⟩:=g;simp only [execOp,resolve,d];rw [i];simp only [Deferred.ofValue]
 have h:¬ fn.body=none:=by intro e; rw [e] at b; cases b
 have hn:¬ fn.name = "runtime.NumGoroutine" := by intro e; rw [e] at c; cases c
 simp [invoke,callFunc,g,hn,h]
theorem Mem.called (M:Mem X.P X.G w0 h0 F L2 w ν h φ) {l m:List Nat} {Z:Hp τ} {h2:Fz} {fp':List Nat} (c:Left (zrX h w (fps φ m)) w (fps φ l) h' w' fp') (K:∀i∈l,i∉m) (T:∀i∈l++m,lk L2 i=lk L i)
  (Y:(Rk.freeze L m=some Z∧h2=h')∨(Z=[]∧h2=h)):∃φ',Mem X.P X.G w0 h0 F ((zou l++Z)++L2) w' ν h2 φ'∧zhP w0 h2 F φ' fp':=by
 have H:=M.lend_le m;have U:=zv8 (h:=h) (bs:=fps φ m) M.on
 have V:∀b∈fps φ l,h b=none:=fun b a=>by obtain ⟨i,_,hi⟩:=zeR.1 a; exact (M.out i b hi).1
 have A:∀b,zrX h w (fps φ m) b≠none→h b≠none∨b∈fps φ m:=by
  intro b a
  by_cases e:b∈fps φ m
  ·exact .inr e
  ·rw [zkx e] at a; exact .inl a
 have f:∀{φ':Nat→List Nat} {h2:Fz},(∀i b,b∈φ' i→b∈φ i∧i∉l)→(∀b,h2 b≠none→h' b≠none)→zhP w0 h2 F φ' fp':=by
  intro φ' h2 h1 n b a;obtain ⟨W,g⟩:=c.own b a;refine ⟨fun i hi=>?_,?_,?_⟩
  ·obtain ⟨z,J⟩:=h1 i b hi
   rcases g with g|g
   ·obtain ⟨j,N,s⟩:=zeR.1 g;exact J (M.dis i j b z s▸N)
   ·have:=M.lt z; omega
  ·cases e:h2 b with
   | none=>rfl
   | some o=>exact (n b (by rw [e]; simp) W).elim
  ·rcases g with g|g
   ·obtain ⟨j,_,s⟩:=zeR.1 g; exact (M.out j b s).2
   ·exact .inr (Nat.le_trans M.size g)
 rcases Y with ⟨hf,rfl⟩|⟨rfl,rfl⟩
 ·obtain ⟨Q,O⟩:=zxz hf
  have x:∀i,i∉l++m→lk ((zou l++Z)++L2) i=lk L2 i:=fun i hi=>zda _ (by
   simp only [kys,List.map_append];intro hc
   rcases List.mem_append.1 hc with hc|hc
   ·exact hi (List.mem_append_left _ (by rw [← zpL (τ:=τ) l]; exact hc))
   ·exact hi (List.mem_append_right _ (by rw [← Q]; exact hc)))
  have S:∀i∈l++m,lk ((zou l++Z)++L2) i=lk (zou l++Z) i:=fun i hi=>zhl _ (by
   simp only [kys,List.map_append]
   rcases List.mem_append.1 hi with hi|hi
   ·exact List.mem_append_left _ (by have:=zpL (τ:=τ) l; rw [kys] at this; rw [this]; exact hi)
   ·exact List.mem_append_right _ (by rw [kys] at Q; rw [Q]; exact hi))
  have B:∀i∈m,lk (zou l++Z) i=lk Z i:=fun i hi=>by
   rw [zda];rw [zpL];exact fun hc=>K i hc hi
  refine ⟨zAB φ (l++m),?_,f (fun i b a=>?_) (fun b a=>a)⟩
  ·refine M.upd (l++m) x (fun i hi=>znv hi) (Vn.le.refl _) (H.trans c.le) c.os c.tape c.output c.size (fun b a hc=>c.frame b a fun hd=>hc (by rw [zfB]; exact List.mem_append_left _ hd))
    (fun b o _ e=>c.on b o e) (fun b E r=>?_) (fun i hi=>?_) (fun i hi b a=>by rw [zhS hi] at a; cases a) (fun i hi j _ b a=>by rw [zhS hi] at a; cases a)
   ·rcases c.new b r with h1|h1|h1
    ·rcases A b h1 with h2|h2
     ·exact (h2 E).elim
     ·exact .inl (by rw [zfB]; exact List.mem_append_right _ h2)
    ·exact .inl (by rw [zfB]; exact List.mem_append_left _ h1)
    ·exact .inr h1
   ·rw [S i hi,zhS hi]
    by_cases D:i∈l
    ·rw [zAb l Z D]; rfl
    ·have p:i∈m:=(List.mem_append.1 hi).resolve_left D;rw [B i p]
     have d:∀j∈m, ∀b∈φ j,h2 b=w.heap[b]? := fun j N b a=>by
      have R:b∈fps φ m:=zeR.2 ⟨j,N,a⟩;have C:=M.lt a
      have:zrX h w (fps φ m) b=some w.heap[b]:=by rw [zqJ R]; exact Array.getElem?_eq_getElem C
      rw [c.le _ _ this]; exact (Array.getElem?_eq_getElem C).symm
     obtain ⟨e',xs,h1,h2⟩:=O i p;rw [h1];have t:=M.res i;rw [T i hi] at t
     rcases h2 with ⟨te,k,h2⟩|h2|⟨j,k,lo,te,r,ys,h2,n,y⟩
     ·rw [h2] at t;obtain ⟨v,q,vs,u,n,y,z,J,_⟩:=t;exact ⟨v,q,n,rfl,zxr (w:=w) (H.trans c.le) z J fun b a=>d i p b (by rw [y]; exact a)⟩
     ·rw [h2] at t;obtain ⟨v,q,n,_,y⟩:=t;exact ⟨v,q,n,rfl,y.le (H.trans c.le)⟩
     ·rw [h2] at t;have I:=M.res j;rw [T j (List.mem_append_right _ y),n] at I;obtain ⟨v,q,z,_,J⟩:=vw_fz t I (H.trans c.le) fun b a=>d j y b a;exact ⟨v,q,z,rfl,J⟩
  ·by_cases hi:i∈l++m
   ·rw [zhS hi] at a; cases a
   ·rw [znv hi] at a; exact ⟨a,fun hc=>hi (List.mem_append_left _ hc)⟩
 ·have x:∀i,i∉l→lk ((zou l++[])++L2) i=lk L2 i:=fun i hi=>zda _ (by rw [List.append_nil,zpL]; exact hi);refine ⟨zAB φ l,?_,f (fun i b a=>?_) (fun b a=>?_)⟩
  ·refine M.upd l x (fun i hi=>znv hi) (Vn.le.refl _) (Fz.le.refl _) c.os c.tape c.output c.size (fun b a hc=>c.frame b a hc)
    (fun b o E r=>by rw [E] at r; cases r) (fun b E r=>(r E).elim) (fun i hi=>?_) (fun i hi b a=>by rw [zhS hi] at a; cases a) (fun i hi j _ b a=>by rw [zhS hi] at a; cases a)
   rw [zhS hi,zhl _ (by rw [List.append_nil,zpL]; exact hi),zAb l [] hi]; rfl
  ·by_cases hi:i∈l
   ·rw [zhS hi] at a; cases a
   ·rw [znv hi] at a; exact ⟨a,hi⟩
  ·cases e:h2 b with
   | none=>exact (a e).elim
   | some o=>rw [c.le _ _ (H _ _ e)]; simp
theorem bcT {α:Type} {x y:α}:bc true x y=x:=rfl
theorem bcF {α:Type} {x y:α}:bc false x y=y:=rfl
def Entr (X:Cx τ) (w0:World) (h0:Fz) (F:List Nat) (E:zad τ) (L:Hp τ) (c:List Nat) (o:Oper) (f:Nat) (avs:List (XV τ)):Prop:=∀(b:Hp τ) (ν:Vn τ) (h:Fz) (φ:Nat→List Nat) (a:Act) (w:World),a.defers=[]→Mem X.P X.G w0 h0 F b w ν h φ→zew X h ν a (rdO o.op) E→(∀i∈c,lk b i=lk L i)→zfd X.P f →
 ∃vs:List Value,vs.length=avs.length∧(∀(i:Nat) (A:XV τ) (v:Value),avs[i]? = some A→vs[i]? = some v→XOk X.P X.G h ν A v)∧(execOp a.eval o).run X.P w = .ok (.enter f vs.toArray) w
theorem ztq {f:Nat} {avs:List (XV τ)} (T0:List Nat) (hen:Entr X w0 h0 F E L T0 o f avs):∀{cs:zyZ τ},(∀q∈cs,COk X.P X.G q.1 q.2)→znP X L nid (fun v g U t n=>K v g U (T0++t) n) f avs cs=some r →
  zdu X w0 h0 F o E L nid K r
 | [],_,e=>by cases e
 | (g,k) :: cs,hC,e=>by
  have ih:znP X L nid (fun v g U t n=>K v g U (T0++t) n) f avs cs=some r→zdu X w0 h0 F o E L nid K r:=ztq T0 hen fun q hq=>hC q (List.mem_cons_of_mem _ hq);unfold znP at e
  cases hg:Nat.beq g f with
  | false=>rw [hg,bcF] at e; exact ih e
  | true =>
   rw [hg,bcT] at e
   have hgf:g=f:=by simpa using hg
   subst hgf
   split at e
   ·rename_i pp l m hres
    cases hn:(nod l&&zy0 l m) with
    | false=>rw [hn,bcF] at e; exact ih e
    | true =>
     rw [hn,bcT] at e;simp only [Bool.and_eq_true] at hn
     split at e
     ·rename_i Z hZ
      split at e
      ·rename_i rs hrs
       obtain ⟨hroots,e⟩:=zhi e;simp only [Bool.and_eq_true,List.all_eq_true] at hroots;obtain ⟨R,hR,e⟩:=ob e;obtain ⟨outl,U,nid',h1,h2,_,h4⟩:=zPW (P:=X.P) (w0:=w0) (h0:=h0) (F:=F) _ _ _ _ _ e
       split at h1
       ·rename_i v hv
        refine ⟨_,_,_,_,_,h1,h2,fun z hz=>by rw [List.mem_singleton.1 hz]; rfl,fun L2 ν h φ a w next Q hd M hE ha0 hfr kk=>?_⟩;have ha:∀i∈l++m,lk L2 i=lk L i:=fun i hi=>ha0 i (List.mem_append_right _ hi);obtain ⟨hcall,hok⟩:=hC _ (List.mem_cons_self ..);have hdis:=zxt hn.2;obtain ⟨avals,hlen,hvs,hexec⟩:=hen L2 ν h φ a w hd M hE (fun i hi=>ha0 i (List.mem_append_left _ hi)) hcall;have hH:=M.lend_le m;have hlook:zcf L2 L φ (zrX h w (fps φ m)) w m:=M.look fun i hi=>ha i (List.mem_append_right _ hi);have htr:=zz6 M hH hres (fun i hi=>ha i (List.mem_append_left _ hi)) hlook hn.1 hlen hvs
        have hnone:∀b∈fps φ l,zrX h w (fps φ m) b=none:=by
         intro b hb;rw [zkx (M.fps_dis hdis b hb)];obtain ⟨i,_,hi⟩:=zeR.1 hb;exact (M.out i b hi).1
        have hcalls:=hok _ w pp R avals _ (M.gl.le hH) M.fp (zv8 M.on) htr hnone hR;unfold Oper.wp;rw [hexec];refine Calls.mono hcalls ?_;rintro e1 w' ⟨h',rvs,fp',rfl,hleft,hres',hback⟩
        have hzz:(freeze L m=some Z∧(if k.rs.any (zmS X.G depth)=true then h' else h)=h')∨(Z=[]∧(if k.rs.any (zmS X.G depth)=true then h' else h)=h):=by
         cases hs:k.rs.any (zmS X.G depth) with
         | true=>rw [hs] at hZ; exact .inl ⟨hZ,by simp⟩
         | false=>rw [hs] at hZ; cases hZ; exact .inr ⟨rfl,by simp⟩
        obtain ⟨φ',M',hfree⟩:=Mem.called (Z:=Z) M hleft hdis ha hzz
        have hres2:TrXs X.P X.G (if k.rs.any (zmS X.G depth)=true then h' else h) w' k.rs R rvs fp':=by
         cases hs:k.rs.any (zmS X.G depth) with
         | true=>simpa using hres'
         | false=>simpa using zGE (h':=h) hres' hs
        have hgl:∀i∈zwe rs,lk ((zou l++Z)++L2) i = .gone:=by
         intro i hi;have hil:i∈l:=zeS.1 (hroots.2 i hi);rw [zhl,zAb l Z hil];simp only [kys,List.map_append];exact List.mem_append_left _ (by have:=zpL (τ:=τ) l; rw [kys] at this; rw [this]; exact hil)
        have hRo:zmZ ((zou l++Z)++L2) ν (zAy k.nr rs) rvs:=zDe (by
         rw [hback]
         exact zvW (P:=X.P) (G:=X.G) (h:=h) hlen hvs hrs hroots.1 hgl)
        obtain ⟨ν', φ'',A,hxs⟩:=h4 _ w' ν _ φ' rvs fp' M' hres2 hfr hfree hRo;rw [zz9 (zqy hrs)] at hxs
        have hle2:h.le (if k.rs.any (zmS X.G depth)=true then h' else h):=by
         split
         ·exact hH.trans hleft.le
         ·exact Fz.le.refl _
        exact kk ν' _ φ'' w' _ (by rw [List.append_assoc]; exact A.mem) A.le hle2 A.fresh (zKo hv hxs)
       ·cases h1
      ·cases e
     ·cases e
   ·exact ih e
theorem zFX {avs:List (XV τ)} {x:Operand} (b:zvb E args=some avs) (hd:a.defers=[]) (k:zew X h ν a (rdO (.call ⟨.value x,⟨args⟩,ats⟩)) E) :
  (args.map a.eval).length=avs.length∧∀(i:Nat) (A:XV τ) (v:Value),avs[i]? = some A→(args.map a.eval)[i]? = some v→XOk X.P X.G h ν A v:=by
 obtain ⟨d,c⟩:=zw3 b;refine ⟨by simp [d],fun i A v j g=>?_⟩;obtain ⟨z,f,e⟩:=c i A j;rw [List.getElem?_map,f] at g;cases g;exact zrK hd (k.op (by simp only [Op.operands,Call.operands]; simp; exact .inr (List.mem_of_getElem? f))) e
theorem zIl {avs:List (XV τ)} (l:evC E x=some (.fn f)) (c:zvb E args=some avs) {cs:zyZ τ} (m:∀q∈cs,COk X.P X.G q.1 q.2) (e:znP X L nid K f avs cs=some r) :
  zdu X w0 h0 F ⟨dst,.call ⟨.value x,⟨args⟩,ats⟩,t,p,af,gd⟩ E L nid K r :=
 ztq [] (fun o ν h φ a w hd M g _ b=>by
  obtain ⟨h1,h2⟩:=zFX c hd g;obtain ⟨s,n,d⟩:=zd4 a hd;obtain ⟨i,k,j⟩:=zB d (g.op (by simp [Op.operands,Call.operands])) l;obtain rfl:i=_:=j
  exact ⟨_,h1,h2,zBv (X:=X) (w:=w) (dst:=dst) (t:=t) (p:=p) (af:=af) (gd:=gd) (ats:=ats) (args:=⟨args⟩) (vs:=args.map a.eval) b (n.ev k) (by simp)⟩) m e
theorem zBw {args:Array Operand} {us vs cs:List Value} (g:zfd X.P f) (i:a.eval x = .func (.func f) ⟨us⟩ ⟨cs⟩) (d:args.map a.eval=vs.toArray) :
  (execOp a.eval { dst:=dst,op := .call { callee := .value x,args:=args,argTypes:=ats },type:=t,pos:=p,after:=af,guard:=gd }).run X.P w = .ok (.enter f (us++(vs++cs)).toArray) w:=by
 obtain ⟨fn,g,b,c⟩:=g;simp only [execOp,resolve,d];rw [i];simp only [Deferred.ofValue]
 have h:¬ fn.body=none:=by intro e; rw [e] at b; cases b
 have hn:¬ fn.name = "runtime.NumGoroutine" := by intro e; rw [e] at c; cases c
 simp [invoke,callFunc,g,hn,h]
theorem zPn {avs:List (XV τ)} {tc:Ty} {n:tc.den τ} (y:evC E x=some (.cl f tc n)) (g:zvb E args=some avs) {cs:zyZ τ} (z:∀q∈cs,COk X.P X.G q.1 q.2) (e:znP X L nid K f (avs++[.c (tc.av n)]) cs=some r) :
  zdu X w0 h0 F ⟨dst,.call ⟨.value x,⟨args⟩,ats⟩,t,p,af,gd⟩ E L nid K r :=
 ztq [] (fun I ν h φ a w hd M o _ d=>by
  obtain ⟨h1,h2⟩:=zFX g hd o;obtain ⟨H,C,l⟩:=zd4 a hd;obtain ⟨s,B,m⟩:=zB l (o.op (by simp [Op.operands,Call.operands])) y;have m:Rp X.P X.G h (.cl f tc) n s:=m
  cases m with
  | cl _ _ _ u D =>
   refine ⟨args.map a.eval++[u],by simp [h1],fun i A v b k=>?_,?_⟩
   ·by_cases hi:i<avs.length
    ·rw [List.getElem?_append_left hi] at b;rw [List.getElem?_append_left (by omega)] at k;exact h2 i A v b k
    ·rw [List.getElem?_append_right (by omega)] at b;rw [List.getElem?_append_right (by omega),h1] at k
     cases hj:i-avs.length with
     | zero =>
      rw [hj] at b k;cases b;cases k;exact zKw D
     | succ j=>rw [hj] at b; simp at b
   ·have:=zBw (X:=X) (w:=w) (dst:=dst) (t:=t) (p:=p) (af:=af) (gd:=gd) (ats:=ats) (args:=⟨args⟩) (us:=[]) (vs:=args.map a.eval) (cs:=[u]) d (C.ev B) (by simp)
    simpa using this) z e
theorem zQ8 {c:CV τ} (hx:evC E x=some c) (k:K (.c (.cf nid)) [] [(nid,.clo f [] [c])] [] (nid+1)=some r):zdu X w0 h0 F ⟨dst,.makeFunc (.func f) ⟨[]⟩ ⟨[x]⟩,t,p,af,gd⟩ E L nid K r:=by
 refine ⟨_,_,_,_,_,k,Nat.le_succ _,(fun _ h=>by cases h),fun L2 ν h φ a w next Q hd M hE ha hfr kk=>?_⟩;have hn:=hfr nid (Nat.le_refl _) (Nat.lt_succ_self _);obtain ⟨Ea,hf,hl'⟩:=zd4 a hd;obtain ⟨vx,g1,g2⟩:=zB hl' (hE.op (by simp [Op.operands])) hx
 have hrun:(execOp a.eval ⟨dst,.makeFunc (.func f) ⟨[]⟩ ⟨[x]⟩,t,p,af,gd⟩).run X.P w = .ok (.value (.func (.func f) ⟨[]⟩ ⟨[a.eval x]⟩)) w:=by
  simp [execOp,Instr.makeFunc,Result.andThen]
 rw [hf.ev g1] at hrun;refine zf7 hrun (kk (up1 ν nid (some (.func (.func f) ⟨[]⟩ ⟨[vx]⟩,none))) h _ w _ (M.add hn (.clo f [] [c]) _ (fp:=[]) ⟨_,_,_,rfl,rfl,rfl,⟨vx,[],rfl,g2.le (Fz.le.refl _) (zbW hn),rfl⟩⟩ (fun b hb=>by cases hb)) (zbW hn) (Fz.le.refl _) zeq ⟨f,_,_,none,za1 _ _ _,rfl⟩)
theorem zPo {f i:Nat} {avs:List (XV τ)} (s:evC E x=some (.mv f i)) (d:zvb E args=some avs) {cs:zyZ τ} (y:∀q∈cs,COk X.P X.G q.1 q.2) (e:znP X L nid K f (.c (.pt i 0)::avs) cs=some r) :
  zdu X w0 h0 F ⟨dst,.call ⟨.value x,⟨args⟩,ats⟩,t,p,af,gd⟩ E L nid K r :=
 ztq [] (fun C ν h φ a w hd M m _ b=>by
  obtain ⟨h1,h2⟩:=zFX d hd m;obtain ⟨D,z,g⟩:=zd4 a hd;obtain ⟨B,o,n⟩:=zB g (m.op (by simp [Op.operands,Call.operands])) s;obtain ⟨u,q,hν,rfl⟩:=n;refine ⟨.pointer u::args.map a.eval,by simp [h1],fun j A v k l=>?_,?_⟩
  ·cases j with
   | zero =>
    cases k;cases l;exact ⟨u,q,hν,by cases u<;>rfl,fun e=>(e rfl).elim⟩
   | succ j=>exact h2 j A v (by simpa using k) (by simpa using l)
  ·have:=zBw (X:=X) (w:=w) (dst:=dst) (t:=t) (p:=p) (af:=af) (gd:=gd) (ats:=ats) (args:=⟨args⟩) (us:=[.pointer u]) (vs:=args.map a.eval) (cs:=[]) b (z.ev o) (by simp)
   simpa using this) y e
theorem zPp {f i:Nat} (l:evC E x=some (.pt i 0)) (k:K (.c (.mv f i)) [] [] [] nid=some r):zdu X w0 h0 F ⟨dst,.makeFunc (.func f) ⟨[x]⟩ ⟨[]⟩,t,p,af,gd⟩ E L nid K r:=by
 refine zbp k fun s ν h φ a w hd M e n=>?_;obtain ⟨v,m,d⟩:=zd4 a hd;obtain ⟨o,j,g⟩:=zB d (e.op (by simp [Op.operands])) l;obtain ⟨u,q,hν,rfl,_⟩:=g
 have b:(execOp a.eval ⟨dst,.makeFunc (.func f) ⟨[x]⟩ ⟨[]⟩,t,p,af,gd⟩).run X.P w = .ok (.value (.func (.func f) ⟨[a.eval x]⟩ ⟨[]⟩)) w:=by
  simp [execOp,Instr.makeFunc,Result.andThen]
 rw [m.ev j] at b;exact ⟨_,b,u,q,hν,by cases u<;>rfl⟩
theorem zPq {P:Program} {t b:TypeId} (h:mpO P t=some b):∃a,P.underlying t=some (.map a b)∧P.underlying a=some (.int .i64):=by
 unfold mpO at h
 split at h
 ·rename_i a c h1
  split at h
  ·rename_i h2; cases h; exact ⟨a,h1,h2⟩
  ·cases h
 ·cases h
theorem zQ9 {P:Program} {t:TypeId} (h:strZ P t=true) (w:World):(zeroValue t).run P w = .ok (str []) w:=by
 unfold strZ at h
 split at h
 ·rename_i i hi
  split at h
  ·rename_i hz
   simp [zeroValue,typeInfo,hi,hz,go_sem,Result.andThen,str]
  ·cases h
 ·cases h
theorem zPr (k:K (.c (.mp nid)) [] [(nid,.mp [])] [] (nid+1)=some r):zdu X w0 h0 F ⟨dst,.makeMap t' none,t,p,af,gd⟩ E L nid K r:=by
 refine ⟨_,_,_,_,_,k,Nat.le_succ _,(fun _ h=>by cases h),fun L2 ν h φ a w next Q hd M hE ha hfr kk=>?_⟩;have hn:=hfr nid (Nat.le_refl _) (Nat.lt_succ_self _);have hr:(execOp a.eval ⟨dst,.makeMap t' none,t,p,af,gd⟩).run X.P w = .ok (.value (.map (some w.heap.size))) (w.alloc (.map #[] 0)):=rfl;exact zf7 hr (kk _ h _ _ _ (M.alloc hn _ (.mp []) (.map (some w.heap.size),none) ⟨_,none,rfl,rfl,zkj _⟩) (zbW hn) (Fz.le.refl _) zeq ⟨_,none,za1 _ _ _,rfl⟩)
theorem zL4 {et:TypeId} {l:List (Int × Str)} {kx:Int} {vx:Str} (ht:mpO X.P t'=some et) (hx:evC E x=some (.mp id)) (hl:lk L id = .mp l) (hy:evC E y=some (.i kx)) (hz:evC E z=some (.s vx)) (hf0:(l.find? fun q=>q.1==kx)=none)
  (k:K .un [] [(id,.mp (l++[(kx,vx)]))] [id] nid=some r):zdu X w0 h0 F ⟨dst,.insert t' x y z,t,p,af,gd⟩ E L nid K r:=by
 obtain ⟨kt,h1,h2⟩:=zPq ht;refine ⟨_,_,_,_,_,k,Nat.le_refl _,(fun _ h=>by cases h),fun L2 ν h φ a w next Q hd M hE ha hfr kk=>?_⟩;obtain ⟨Ea,hf,hl'⟩:=zd4 a hd;obtain ⟨ux,g1,g2⟩:=zB hl' (hE.op (by simp [Op.operands])) hx;obtain ⟨uy,g3,g4⟩:=zB hl' (hE.op (by simp [Op.operands])) hy;obtain ⟨uz,g5,g6⟩:=zB hl' (hE.op (by simp [Op.operands])) hz;obtain rfl:uy=_:=g4;obtain rfl:uz=_:=g6;obtain ⟨b,q,hν,rfl⟩:=g2;have hr:=M.res id;rw [ha id (List.mem_singleton.2 rfl),hl] at hr;obtain ⟨b',q',c1,c2,c3⟩:=hr;rw [hν] at c1;cases c1;have hlt:b<w.heap.size:=(Array.getElem?_eq_some_iff.1 c3).1
 have hrun:(execOp a.eval ⟨dst,.insert t' x y z,t,p,af,gd⟩).run X.P w = .ok .skip { w with heap:=w.heap.setIfInBounds b (zto (l++[(kx,vx)])) }:=by
  simp only [execOp]; rw [hf.ev g1,hf.ev g3,hf.ev g5];simp [zJ3 h1 h2 c3 hf0,Result.andThen]
 refine zI4 hrun (kk ν h φ _ undef (M.turn (.mp (l++[(kx,vx)])) c2 (Vn.le.refl _) rfl rfl rfl (by simp) (fun j hj=>by simp [Array.getElem?_setIfInBounds,Ne.symm hj]) ⟨b,q,hν,rfl,?_⟩) (Vn.le.refl _) (Fz.le.refl _) (zdF.refl _ _ _) rfl);show ({ w with heap:=w.heap.setIfInBounds b (zto (l++[(kx,vx)])) }:World).heap[b]? = _;simp [Array.getElem?_setIfInBounds,hlt]
theorem zJ7 {f:TypeId} {l:List (Int × Str)} {d:Int} (H:mpO X.P t'=some f) (z:strZ X.P f=true) (C:evC E x=some (.mp id)) (G:lk L id = .mp l) (v:evC E y=some (.i d))
  (k:K (.t [(false,[.s (zrB l d).1]),(false,[.b (zrB l d).2])]) [] [] [id] nid=some r):zdu X w0 h0 F ⟨dst,.lookup t' x y true,t,p,af,gd⟩ E L nid K r:=by
 obtain ⟨R,h1,h2⟩:=zPq H;refine zbp k fun N ν h φ a w hd M g I=>?_;obtain ⟨T,m,c⟩:=zd4 a hd;obtain ⟨O,B,A⟩:=zB c (g.op (by simp [Op.operands])) C;obtain ⟨D,n,u⟩:=zB c (g.op (by simp [Op.operands])) v;obtain rfl:D=_:=u;obtain ⟨b,q,hν,rfl⟩:=A;have e:=M.res id;rw [I id (List.mem_singleton.2 rfl),G] at e;obtain ⟨J,Q,j,S,o⟩:=e;rw [hν] at j;cases j;refine ⟨_,?_,_,rfl,_,_,rfl,rfl,_,_,rfl,rfl,rfl⟩;simp only [execOp];rw [m.ev B,m.ev n];simp only [Sem.run_bind,zJ4 h1 h2 (zQ9 z) o,Result.andThen,Sem.run_pure]
theorem zPs {m:Int} {K:Nat→Option ρ}:∀{n k:Nat},arK m n k K=some r→∃j,k≤j∧j<k+n∧m=(j:Int)∧K j=some r
 | 0,k,e=>by cases e
 | n+1,k,e=>by
  unfold arK at e
  split at e
  ·rename_i h
   exact ⟨k,Nat.le_refl _,by omega,by simpa [isN] using h,e⟩
  ·obtain ⟨j,h1,h2,a,b⟩:=zPs e;exact ⟨j,by omega,by omega,a,b⟩
theorem arr_ok {n s id j:Nat} {m:Int} {bt:TypeId} {cs:List (CV τ)} (d:arO X.P t'=some (n,s)) (U:evC E x=some (.pt id 0)) (O:evC E y=some (.i m)) (V:lk L id = .blk bt cs) (Q:j<n) (T:m=(j:Int)) (k:K (.c (.pt id (j*s))) [] [] [id] nid=some r) :
  zdu X w0 h0 F ⟨dst,.indexAddr t' x y,t,p,af,gd⟩ E L nid K r:=by
 refine zbp k fun L2 ν h φ a w hd M A l=>?_;obtain ⟨Ea,G,f⟩:=zd4 a hd;obtain ⟨H,h1,h2⟩:=zB f (A.op (by simp [Op.operands])) U;obtain ⟨W,D,N⟩:=zB f (A.op (by simp [Op.operands])) O;obtain rfl:W=_:=N;obtain ⟨u,q,B,S,_⟩:=h2;have C:=M.res id;rw [l id (List.mem_singleton.2 rfl),V] at C;obtain ⟨b,q',vs,z,_,Y,_⟩:=C;rw [B] at z;cases z;obtain rfl:H=ptr b 0:=S;subst T
 obtain ⟨e,R,o⟩:∃e,X.P.underlying t'=some (.array n e)∧znB X.P e=some s:=by
  unfold arO at d
  split at d
  ·rename_i I e J
   cases v:Nat.ble I 8 with
   | false=>rw [v] at d; cases d
   | true =>
    rw [v] at d;dsimp only [cond_true] at d
    split at d
    ·rename_i Z o
     cases d;exact ⟨e,J,zf4 o⟩
    ·cases d
  ·cases d
 have g:(⟨b,0,none⟩:Addr).add (j*s)=⟨b,j*s,none⟩:=by unfold Addr.add; split<;>simp_all
 refine ⟨ptr b (j*s),?_,some ⟨b,0,none⟩,q,B,by simp [zu6],fun _=>⟨b,rfl⟩⟩;refine zC7 (fun w=>?_) G h1 D;simp [Instr.indexAt,Instr.sureAddr,ptr,asIntOf,run_underlying R,zeo o,Q,g,Result.andThen]
theorem fm_ok {m:UInt8→Option Bool} {c:UInt8} {b:Bool} (hf:evC E x=some (.fm m)) (hy:evC E y=some (.u8 c)) (hm:m c=some b) (k:K (.c (.b b)) [] [] [] nid=some r):zdu X w0 h0 F ⟨dst,.call ⟨.value x,⟨[y]⟩,ats⟩,t,p,af,gd⟩ E L nid K r:=by
 refine ⟨_,_,_,_,_,k,Nat.le_refl _,(fun _ h=>by cases h),fun L2 ν h φ a w next Q hd M hE ha hn k=>?_⟩;obtain ⟨Ea,hfi,hl'⟩:=zd4 a hd;obtain ⟨vf,g1,g2⟩:=zB hl' (hE.op (by simp [Op.operands,Call.operands])) hf;obtain ⟨vy,g3,g4⟩:=zB hl' (hE.op (by simp [Op.operands,Call.operands])) hy;obtain rfl:vy=_:=g4;have g2:Rp X.P X.G h .fn m vf:=g2
 cases g2 with
 | fn _ f hfn =>
  have hexec:=zBv (X:=X) (w:=w) (dst:=dst) (t:=t) (p:=p) (af:=af) (gd:=gd) (ats:=ats) (args:=⟨[y]⟩) (vs:=[zct c]) hfn.1 (hfi.ev g1) (by simp [hfi.ev g3]);unfold Oper.wp;rw [hexec];refine Calls.mono (hfn.2 c b w hm) ?_;rintro e w' ⟨rfl,hb⟩;exact k ν h φ w' _ (M.grow hb) (Vn.le.refl _) (Fz.le.refl _) (zdF.refl _ _ _) rfl
theorem conv_i {n m:Int} {us:TypeDesc} (j:evC E x=some (.i n)) (l:X.P.underlying t'=some (.int .i64)) (f:X.P.underlying ty=some us) (d:zK3 n=some m) (k:K (.c (.i m)) [] [] [] nid=some r):zdu X w0 h0 F ⟨dst,.convert ty t' x,t,p,af,gd⟩ E L nid K r:=by
 refine zbp k fun q ν h φ a w hd M g s=>?_;obtain ⟨u,o,b⟩:=zd4 a hd;obtain ⟨e,h1,h2⟩:=zB b (g.op (by simp [Op.operands])) j;obtain rfl:e=_:=h2;exact ⟨_,zLb l f o h1 d,rfl⟩
theorem zPt {id e:Nat} {n:Nat} (C:evC E x=some (.os id)) (y:elO X.P t'=some e) (k:K (.c (.i (n:Int))) [] [] [id] nid=some r) (hn:(∃l e xs j,lk L id = .row l e xs j∧xs.length=n)∨(∃e xs,lk L id = .fz e xs∧xs.length=n)) :
  zdu X w0 h0 F ⟨dst,.call ⟨.builtin .len,⟨[x]⟩,⟨[t']⟩⟩,t,p,af,gd⟩ E L nid K r:=by
 refine zbp k fun J ν h φ a w hd M A G=>?_;obtain ⟨I,s,f⟩:=zd4 a hd;obtain ⟨H,h1,h2⟩:=zB f (A.op (by simp [Op.operands,Call.operands])) C;obtain ⟨ad,m,N,q,hν,rfl⟩:=h2
 have B:m=n:=by
  have d:=M.res id;rw [G id (List.mem_singleton.2 rfl)] at d
  rcases hn with ⟨l,e,xs,j,g,rfl⟩|⟨e,xs,g,rfl⟩
  ·rw [g] at d;obtain ⟨z,v,vs,u,b,o,D,_⟩:=d;rw [hν] at b;cases b;exact D.len.1
  ·rw [g] at d;obtain ⟨z,v,b,_,o⟩:=d;rw [hν] at b;cases b;cases o; rfl
 subst B;exact ⟨_,zso (zki y) s h1,rfl⟩
theorem zrC (xs:List (e.den τ)):zmU (t':=e) xs=some xs:=dif_pos rfl
theorem zL5 {c:CV τ} {xs:List (e.den τ)} {ids:List Nat} (k:rowZ L c=some ⟨e,xs,ids⟩):zEB L e c=some (xs,ids):=by
 unfold rowZ at k
 split at k
 ·cases k; unfold zEB; dsimp only; rw [zrC]
 ·rename_i id
  split at k
  ·rename_i a; cases k; unfold zEB; dsimp only; rw [a]; dsimp only; rw [zrC]
  ·rename_i a; cases k; unfold zEB; dsimp only; rw [a]; dsimp only; rw [zrC]
  ·rename_i i f l lo h a
   split at k
   ·rename_i m j ys g d
    cases b:Nat.beq f g with
    | false=>rw [b] at k; cases k
    | true =>
     rw [b] at k;cases k;unfold zEB; dsimp only; rw [a]; dsimp only; rw [d]; dsimp only; rw [b,cond_true,zrC]
   ·cases k
  ·cases k
 ·cases k
theorem zRa (M:Mem X.P X.G w0 h0 F L2 w ν h φ) {c:CV τ} {z:Bool} {ids:List Nat} {v:Value} (k:nilZ X.G L c=some (z,ids)) (q:∀i∈ids,lk L2 i=lk L i) (l:zc9 X.P X.G h ν c v):∃ad n g,v = .slice ad n g∧ad.isNone=z:=by
 unfold nilZ at k
 split at k
 ·cases k; cases l; exact ⟨none,0,0,rfl,rfl⟩
 ·split at k
  ·rename_i e x xs j r
   split at k
   ·rename_i u cs a
    cases k;have f:=zEr M (M.lend_le ids) (zL5 r) q (fun b m=>zqJ m) l
    cases f with
    | sl _ _ ad g vs hc p d =>
     refine ⟨ad,_,g,rfl,?_⟩
     rcases p with rfl|⟨b,o,s,t,y,rfl,_⟩
     ·have:=d.len;rw [a] at this;simp only [List.length_nil,List.length_cons] at this;rw [Nat.mul_comm,Nat.succ_mul] at this;omega
     ·rfl
   ·cases k
  ·cases k
theorem zBx {f:BinOp} {el:Nat} {c:CV τ} {m:Bool} {ids:List Nat} (j:X.P.underlying t'=some (.slice el)) (s:evC E x=some c) (q:evX E y=some (.c .n0)) (u:nilZ X.G L c=some (m,ids)) (e:okX (eqO f m)=some v) (k:K v [] [] ids nid=some r) :
  zdu X w0 h0 F ⟨dst,.binOp f t' x y ty,t,p,af,gd⟩ E L nid K r:=by
 obtain ⟨b,e,rfl⟩:=zEl e;refine zbp k fun C ν h φ a w hd M l A=>?_;obtain ⟨H,i,d⟩:=zd4 a hd;obtain ⟨B,h1,h2⟩:=zB d (l.op (by simp [Op.operands])) s;obtain ⟨z,g,o⟩:=znJ d (l.op (by simp [Op.operands])) q rfl;obtain rfl:z=_:=o;obtain ⟨ad,n,D,rfl,hn⟩:=zRa M u A h2
 cases f<;>first|(cases e; done)|skip
 all_goals cases e
 ·exact ⟨_,zDw j i h1 g,by rw [hn]; rfl⟩
 ·exact ⟨_,zL6 j i h1 g,by rw [hn]; rfl⟩
theorem zPu {xs:List (e.den τ)} (h:rwO L id=some ⟨e,xs⟩):rowZ L (.os id)=some ⟨e,xs,[id]⟩:=by
 unfold rwO at h;unfold rowZ;dsimp only
 split at h
 ·rename_i a; cases h; rw [a]
 ·rename_i a; cases h; rw [a]
 ·cases h
theorem zIm {x:Operand} {c:CV τ} (h:evX E x=some (.c c)):evC E x=some c:=by unfold evC; rw [h]
theorem zrD (hT:TyOk X) (hC:∀q∈X.cs,COk X.P X.G q.1 q.2) (e:opX X E L nid K o.op=some r):zdu X w0 h0 F o E L nid K r:=by
 obtain ⟨dst,op,t,p,af,gd⟩:=o;dsimp only at e;unfold opX at e
 split at e
 ·rename_i v hv
  exact zbp e fun L2 ν h φ a w hd M Y ha=>opP_ok hT hd M.on Y hv
 ·split at e
  ·split at e
   ·rename_i A O
    split at e
    ·rename_i B hB
     split at e
     ·split at e
      ·split at e
       ·rename_i y
        exact zQF y O hB (fun _ _ _ _=>rfl) e
       ·cases e
      ·exact zI5 O hB e
     ·split at e
      ·split at e
       ·rename_i y
        split at e
        ·rename_i V
         exact zBx y (zIm O) hB rfl V e
        ·cases e
       ·cases e
      ·rename_i id
       split at e
       ·rename_i y
        split at e
        ·rename_i ee xs Q
         split at e
         ·rename_i c0 cs0 hets
          obtain ⟨z0,hz0,e2⟩:=ob e
          clear e
          cases xs with
          | nil=>cases hz0
          | cons x0 xs0 =>
           cases V:okX (eqO _ false) with
           | none=>rw [V] at e2; cases e2
           | some v0 =>
            rw [V] at e2;refine zBx y (zIm O) hB ?_ V e2;unfold nilZ;dsimp only;rw [zPu Q];dsimp only;rw [hets]
         ·cases e
        ·cases e
       ·cases e
      ·exact zI5 O hB e
     ·exact zI5 O hB e
    ·cases e
   ·cases e
  ·split at e
   ·rename_i f
    exact zQE f (fun _ _ _=>rfl) e
   ·cases e
  ·split at e
   ·rename_i R
    split at e
    ·rename_i f
     exact zQD R f (fun _ _ _=>rfl) e
    ·cases e
   ·cases e
  ·split at e
   ·rename_i y
    split at e
    ·rename_i f
     split at e
     ·rename_i k
      obtain ⟨z,N,e⟩:=ob e;exact zOx y f k N e
     ·cases e
    ·cases e
   ·cases e
  ·split at e
   ·rename_i y
    split at e
    ·rename_i l f
     split at e
     ·split at e
      ·rename_i k
       split at e
       ·rename_i N
        obtain ⟨s,D,e⟩:=ob e;refine zo2 f (fun R x Y h1=>?_) e;obtain ⟨vy,h2,Z⟩:=zB x (Y.op (by simp [Op.operands])) k;obtain ⟨vz,h4,h5⟩:=zB x (Y.op (by simp [Op.operands])) N;obtain rfl:vy=_:=Z;obtain rfl:vz=_:=h5;exact zMZ y R h1 h2 h4 D
       ·cases e
      ·cases e
     ·split at e
      ·rename_i k
       obtain ⟨s,D,e⟩:=ob e;refine zo2 f (fun R x Y h1=>?_) e;obtain ⟨vy,h2,Z⟩:=zB x (Y.op (by simp [Op.operands])) k;obtain rfl:vy=_:=Z;exact zLa y R h1 h2 D
      ·cases e
     ·split at e
      ·rename_i N
       obtain ⟨s,D,e⟩:=ob e;refine zo2 f (fun R x Y h1=>?_) e;obtain ⟨vz,h4,h5⟩:=zB x (Y.op (by simp [Op.operands])) N;obtain rfl:vz=_:=h5;exact zPH y R h1 h4 D
      ·cases e
     ·exact zo2 f (fun R x Y h1=>zM1 y R h1) e
    ·cases e
   ·rename_i te y
    split at e
    ·rename_i c f
     split at e
     ·rename_i hv
      obtain ⟨g,e⟩:=zhi e;exact zQG y f hv (zvu g).1 e
     ·split at e
      ·rename_i e' l U ids D
       obtain ⟨g,e⟩:=zhi e;obtain ⟨g,_⟩:=zvu g
       split at e
       ·split at e
        ·rename_i k
         split at e
         ·rename_i N
          obtain ⟨s,Q,e⟩:=ob e;exact slice3 y f D g k N Q e
         ·cases e
        ·cases e
       ·split at e
        ·rename_i k
         obtain ⟨s,Q,e⟩:=ob e;exact slice1 y f D g k Q e
        ·cases e
       ·split at e
        ·rename_i N
         obtain ⟨s,Q,e⟩:=ob e;exact slice2 y f D g N Q e
        ·cases e
       ·cases e
      ·cases e
    ·cases e
   ·cases e
  ·split at e
   ·rename_i f
    split at e
    ·rename_i D
     split at e
     ·rename_i S
      obtain ⟨m,hm,e⟩:=ob e;exact conv_i f S D hm e
     ·cases e
    ·cases e
   ·rename_i f
    split at e
    ·rename_i D
     split at e
     ·rename_i S
      split at e
      ·rename_i he
       exact zOv f D S he e
      ·cases e
     ·cases e
    ·cases e
   ·rename_i f
    split at e
    ·rename_i S
     split at e
     ·rename_i D
      split at e
      ·rename_i he
       split at e
       ·rename_i Q
        exact str_ok f S D he Q e
       ·cases e
      ·cases e
     ·cases e
    ·cases e
   ·cases e
  ·split at e
   ·rename_i N
    exact zOk N e
   ·cases e
  ·split at e
   ·rename_i O
    split at e
    ·rename_i hc
     exact box_ok O hc e
    ·cases e
   ·cases e
  ·split at e
   ·rename_i f
    exact zNy f e
   ·cases e
  ·split at e
   ·rename_i A O
    split at e
    ·rename_i vs hc
     split at e
     ·rename_i n hn
      obtain ⟨x,e⟩:=zhi e
      have x:vs.length=n:=by simpa using x
      split at e
      ·rename_i c f
       unfold zOd at e
       split at e
       ·split at e
        ·rename_i H
         split at e
         ·rename_i hp
          exact zLB O hc hn x f H hp e
         ·cases e
        ·cases e
       ·split at e
        ·rename_i H
         have hk:=Nat.eq_of_beq_eq_true (zhi e).1
         replace e:=(zhi e).2
         subst hk
         split at e
         ·rename_i hp
          split at e
          ·rename_i hq
           split at e
           ·rename_i N
            split at e
            ·rename_i hU
             obtain ⟨hid,e⟩:=bc_f e;obtain ⟨l,D,e⟩:=ob e;exact zLR O hc hn x f H hp hq N hU hid D e
            ·cases e
           ·cases e
          ·cases e
         ·cases e
        ·cases e
       ·cases e
      ·cases e
     ·cases e
    ·cases e
   ·cases e
  ·split at e
   ·rename_i ha
    split at e
    ·rename_i k
     split at e
     ·rename_i f
      split at e
      ·rename_i x
       obtain ⟨j,_,h2,Z,e⟩:=zPs e;exact arr_ok ha f k x (by omega) Z e
      ·cases e
     ·cases e
    ·cases e
   ·split at e
    ·rename_i te i
     split at e
     ·rename_i m k
      split at e
      ·rename_i e' xs f
       obtain ⟨g,e⟩:=zhi e;obtain ⟨g,I⟩:=zvu g;obtain ⟨d,hd,e⟩:=ob e;exact ix_ok hT i f k hd g I e fun _ _ _ _ _ _ _ _ h=>h
      ·rename_i id f
       split at e
       ·rename_i H
        obtain ⟨g,e⟩:=zhi e;obtain ⟨g,I⟩:=zvu g;obtain ⟨d,hd,e⟩:=ob e;exact ixo_ok i f k H hd g I e
       ·rename_i H
        obtain ⟨g,e⟩:=zhi e;obtain ⟨g,I⟩:=zvu g;obtain ⟨d,hd,e⟩:=ob e;refine ix_ok hT i f k hd g I e fun L2 ν h φ w u M ha y=>?_;obtain ⟨ad,n,cp,q,hν,rfl⟩:=y;have Q:=M.res id;rw [ha id (List.mem_singleton.2 rfl),H] at Q;obtain ⟨v',q',Z,_,h4⟩:=Q;rw [hν] at Z;cases Z;exact h4
       ·rename_i H
        split at e
        ·rename_i hlk2
         obtain ⟨J,e3⟩:=zhi e;simp only [Bool.and_eq_true,Nat.beq_eq] at J;obtain ⟨hkk,g⟩:=J;subst hkk;obtain ⟨d,Q,e4⟩:=ob e3;exact zHR i f k H hlk2 g Q e4
        ·cases e
       ·cases e
      ·cases e
     ·cases e
    ·cases e
  ·split at e
   ·rename_i i
    split at e
    ·rename_i W
     split at e
     ·rename_i f
      obtain ⟨J,e⟩:=zhi e;simp only [Bool.and_eq_true,Nat.beq_eq,Nat.ble_eq] at J
      split at e
      ·rename_i hU
       exact bs_ok hT i W f J.1 J.2 hU e
      ·cases e
     ·cases e
    ·cases e
   ·cases e
  ·split at e
   ·rename_i id f
    split at e
    ·rename_i y
     split at e
     ·rename_i x
      exact zPt f y e (.inl ⟨_,_,_,_,x,rfl⟩)
     ·rename_i x
      exact zPt f y e (.inr ⟨_,_,x,rfl⟩)
     ·rename_i x
      exact zLT f x y e
     ·cases e
    ·cases e
   ·cases e
  ·split at e
   ·rename_i te i
    split at e
    ·rename_i e' W
     split at e
     ·rename_i f
      split at e
      ·rename_i O
       split at e
       ·rename_i k
        split at e
        ·rename_i y
         split at e
         ·rename_i x
          obtain ⟨J,e⟩:=zhi e;obtain ⟨T,e⟩:=og e;exact zIp i f O k y x J T e
         ·cases e
        ·cases e
       ·rename_i k
        have J:=Nat.eq_of_beq_eq_true (zhi e).1
        replace e:=(zhi e).2
        subst J;exact zPF hT i i W f O k e rfl
       ·rename_i k
        split at e
        ·rename_i hB
         have J:=(zhi e).1
         replace e:=(zhi e).2
         simp only [Bool.and_eq_true,Nat.beq_eq] at J;obtain ⟨hdj,rfl⟩:=J;obtain ⟨T,e⟩:=og e;exact zIq hT i i W f O k hB hdj T e rfl
        ·cases e
       ·cases e
      ·cases e
     ·cases e
    ·cases e
   ·cases e
  ·split at e
   ·rename_i i
    split at e
    ·rename_i f
     exact zOA i f e
    ·cases e
   ·cases e
  ·split at e
   ·rename_i f
    split at e
    ·rename_i C
     exact zIl f C hC e
    ·cases e
   ·rename_i f
    split at e
    ·rename_i C
     exact zPn f C hC e
    ·cases e
   ·rename_i f
    split at e
    ·rename_i C
     exact zPo f C hC e
    ·cases e
   ·rename_i R
    split at e
    ·split at e
     ·rename_i k
      obtain ⟨b,J,e⟩:=ob e;exact fm_ok R k J e
     ·cases e
    ·cases e
   ·cases e
  ·split at e
   ·rename_i f
    exact zQ8 f e
   ·cases e
  ·split at e
   ·rename_i f
    exact zPp f e
   ·cases e
  ·exact zPr e
  ·split at e
   ·rename_i ht
    split at e
    ·rename_i f
     split at e
     ·rename_i x
      split at e
      ·rename_i k
       split at e
       ·rename_i N
        split at e
        ·rename_i R
         exact zL4 ht f x k N R e
        ·cases e
       ·cases e
      ·cases e
     ·cases e
    ·cases e
   ·cases e
  ·split at e
   ·rename_i ht
    have D:=(zhi e).1
    replace e:=(zhi e).2
    split at e
    ·rename_i f
     split at e
     ·rename_i x
      split at e
      ·rename_i k
       exact zJ7 ht D f x k e
      ·cases e
     ·cases e
    ·cases e
   ·cases e
  ·cases e
end
end Go.Rk
end
section
namespace Go.Rk
open Go.RowKit Go.Dm Go.Dk
variable {τ:Nat→Type}
section
variable {ρ:Type} {X:Cx τ} {w0 w w':World} {h0 h h':Fz} {F:List Nat} {o:Oper} {E E' E'':zad τ} {L L2:Hp τ} {ν ν':Vn τ} {φ φ':Nat→List Nat} {nid nid':Nat} {r:ρ} {a:Act}
def zcs (X:Cx τ) (h:Fz) (ν:Vn τ) (a:Act) (E:zad τ):Prop:=∀t x,asc E t=some x→zjS X h ν a t x
theorem zcs.on (b:zcs X h ν a E) (l:List Nat):zew X h ν a l E:=fun t _ x e=>b t x e
theorem zjS.le (c:h.le h') (hν:ν.le ν') {t:Nat} {x:XV τ} (b:zjS X h ν a t x):zjS X h' ν' a t x :=
 let ⟨v,h1,h2⟩:=b; ⟨v,h1.le c hν,h2⟩
def Ref (E a:zad τ):Prop:=∀t x,asc a t=some x→asc E t=some x∨∃b,x = .c (.k b)∧asc E t=some (.c (.b b))
theorem Ref.refl (E:zad τ):Ref E E:=fun _ _ e => .inl e
theorem zjS.ref {t:Nat} {b:Bool} (d:zjS X h ν a t (.c (.b b))):zjS X h ν a t (.c (.k b)):=d
theorem Ref.env (d:Ref E E') (c:zcs X h ν a E):zcs X h ν a E':=by
 intro t x e
 rcases d t x e with h1|⟨b,rfl,h1⟩
 ·exact c t x h1
 ·exact (c t _ h1).ref
theorem Ref.on {l:List Nat} (f:Ref E E') (c:zew X h ν a l E):zew X h ν a l E':=by
 intro t d x e
 rcases f t x e with h1|⟨b,rfl,h1⟩
 ·exact c t d x h1
 ·exact (c t d _ h1).ref
theorem zm7 {α:Type}:∀(U L:List (Nat × α)) (t:Nat),asc (U++L) t=match asc U t with
  | some v=>some v
  | none=>asc L t
 | [],L,t=>rfl
 | (k,v)::U,L,t=>by
  simp only [List.cons_append,zdG,zcl]
  cases Nat.beq k t with
  | true=>rfl
  | false=>exact zm7 U L t
theorem Ref.app (a:Ref E E') (N:zad τ):Ref (N++E) (N++E'):=by
 intro t x e;rw [zm7] at e ⊢
 cases hn:asc N t with
 | some v=>rw [hn] at e; exact .inl e
 | none=>rw [hn] at e; exact a t x e
theorem Ref.known (a:Ref E E') {s:Nat} {b:Bool} (d:asc E' s=some (.c (.b b))):Ref E ((s,.c (.k b))::E'):=by
 intro t x e;simp only [zdG,zcl] at e
 cases hst:Nat.beq s t with
 | true =>
  rw [hst] at e;cases e
  have:s=t:=by simpa using hst
  subst this
  rcases a s _ d with h1|⟨f,h1,_⟩
  ·exact .inr ⟨b,rfl,h1⟩
  ·cases h1
 | false=>rw [hst] at e; exact a t x e
theorem Ref.trans (h1:Ref E E') (h2:Ref E' E''):Ref E E'':=by
 intro t x e
 rcases h2 t x e with a|⟨b,rfl,a⟩
 ·exact h1 t x a
 ·rcases h1 t _ a with c|⟨d,c,_⟩
  ·exact .inr ⟨b,rfl,c⟩
  ·cases c
theorem zQu {all:List Oper} {j s:Nat} (e:dstO all j=some s):(all.toArray[j]?).bind (·.dst)=some s:=by
 unfold dstO at e
 split at e
 ·rename_i o a
  rw [zgC] at a;simp [a,e]
 ·cases e
theorem zty {all:List Oper} {g:Option (Nat × Bool)} {run pass:zad τ→Option ρ} (e:zxx all E g run pass=some r) :
  ∃(m:Bool) (u:zad τ),(if m then run u else pass u)=some r∧Ref E u∧∀(X:Cx τ) (h:Fz) (ν:Vn τ) (a:Act) (o:Oper),o.guard=g→zew X h ν a (gdR all g) E→Region.wanted o (yielded all.toArray a.tmps)=m:=by
 unfold zxx hi at e
 split at e
 ·exact ⟨true,E,e,Ref.refl E,fun X h ν a o f _=>by simp [Region.wanted,f]⟩
 ·rename_i j w
  split at e
  ·rename_i s y
   obtain ⟨p,e⟩:=zhi e;have n:=zQu y
   have t:∀{X:Cx τ} {h:Fz} {ν:Vn τ} {a:Act} {x:XV τ},zew X h ν a (gdR all (some (j,w))) E→asc E s=some x→zke x=false→∃v,XOk X.P X.G h ν x v∧a.tmps[s]? = some v:=by
    intro X h ν a x i d f;obtain ⟨v,h1,h2,_⟩:=i s (by simp [gdR,y,p]) x d;exact ⟨v,h1,h2 p f⟩
   have q:∀{b:Bool} {X:Cx τ} {h:Fz} {ν:Vn τ} {a:Act} {o:Oper},(asc E s=some (.c (.b b))∨asc E s=some (.c (.k b)))→o.guard=some (j,w)→zew X h ν a (gdR all (some (j,w))) E→Region.wanted o (yielded all.toArray a.tmps)=(b==w):=by
    intro b X h ν a o d f i
    have:a.tmps[s]? = some (.bool b):=by
     rcases d with d|d
     ·obtain ⟨v,h1,h2⟩:=t i d rfl; rw [h2,show v=_ from h1]
     ·obtain ⟨v,h1,h2⟩:=t i d rfl; rw [h2,show v=_ from h1]
    have l:yielded all.toArray a.tmps j=some b:=by
     unfold yielded; rw [n]; simp [this]
    cases b<;>cases w<;>simp [Region.wanted,f,l]
   split at e
   ·rename_i d
    refine ⟨false,E,e,Ref.refl E,fun X h ν a o f i=>?_⟩;obtain ⟨v,h1,h2⟩:=t i d rfl
    have l:yielded all.toArray a.tmps j=none:=by
     unfold yielded; rw [n]; simp [h2,show v=undef from h1,undef]
    simp [Region.wanted,f,l]
   ·rename_i b d
    refine ⟨b==w,E,?_,Ref.refl E,fun X h ν a o f i=>q (.inr d) f i⟩;cases b<;>cases w<;>exact e
   ·rename_i b d
    cases b with
    | true =>
     rw [if_pos rfl] at e;refine ⟨true==w,_,?_,(Ref.refl E).known d,fun X h ν a o f i=>q (.inl d) f i⟩;cases w<;>exact e
    | false =>
     rw [if_neg (by simp)] at e;refine ⟨false==w,_,?_,(Ref.refl E).known d,fun X h ν a o f i=>q (.inl d) f i⟩;cases w<;>exact e
   ·cases e
  ·cases e
structure St (X:Cx τ) (w0:World) (h0:Fz) (F:List Nat) (E:zad τ) (L:Hp τ) (nid:Nat) (a:Act) (w:World):Prop where
 nodef:a.defers=[]
 size:a.tmps.size=X.n
 st:∃ν h φ,Mem X.P X.G w0 h0 F L w ν h φ∧zcs X h ν a E∧∀i,nid≤i→ν i=none
theorem St.ref (s:St X w0 h0 F E L nid a w) (b:Ref E E'):St X w0 h0 F E' L nid a w :=
 ⟨s.nodef,s.size,let ⟨ν,h, φ,M,hE,hn⟩:=s.st; ⟨ν,h, φ,M,b.env hE,hn⟩⟩
def zJd (l:List Oper) (d:Option Nat) (v:XV τ) (g:List (XV τ)):zad τ:=putT v (zwf g l d []) d
theorem zwg (l:List Oper) (d:Option Nat) (v:XV τ) (g:List (XV τ)) (E:zad τ):zDm l d v g E=zJd l d v g++E:=by
 unfold zDm zJd putT zwf
 cases d with
 | none =>
  cases g with
  | nil=>rfl
  | cons x g=>cases g<;>rfl
 | some d =>
  cases g with
  | nil=>rfl
  | cons x g=>cases g<;>rfl
theorem zEC (d:Option Nat) (E:zad τ):unT E d=zJd [] d .un []++E:=by cases d<;>rfl
theorem zzA {t:Nat} {x:XV τ} (b:zke x=true):zjS X h ν a t x:=by
 cases x with
 | gv t' y=>exact ⟨if t<20000 then X.fx (t-gh) else ptr (t-gb) 0,trivial,(fun _ e=>by cases e),fun h=>if_neg (by unfold gb at h; omega),fun _ h=>if_pos h⟩
 | _=>cases b
theorem ztz {l:List Oper} {d:Option Nat} {v:XV τ} {g:List (XV τ)} {u:Value} (w:X.n≤gh) (hd:dOk X.n d=true) (r:a.tmps.size=X.n) (C:∀x∈g,zke x=true) (s:XOk X.P X.G h ν v u) (B:∀t x,asc E t=some x→d≠some t→zjS X h ν a t x) :
  zcs X h ν (a.put d u) (zJd l d v g++E):=by
 have i:∀t x,asc E t=some x→d≠some t→zjS X h ν (a.put d u) t x:=by
  intro t x e j;obtain ⟨A,h1,h2,q⟩:=B t x e j;refine ⟨A,h1,fun p a2=>?_,q⟩
  cases d with
  | none=>exact h2 p a2
  | some d =>
   have:d≠t:=fun e=>j (by rw [e]);simp [Act.put,this,h2 p a2]
 have c:∀t x,asc (zwf g l d []) t=some x→zjS X h ν (a.put d u) t x:=by
  intro t x e;unfold zwf at e
  split at e
  ·rename_i y
   have o:=C y (List.mem_singleton.2 rfl)
   cases d with
   | none =>
    simp only [zdG,zcl] at e
    cases f:Nat.beq (30000+l.length%10000) t with
    | true=>rw [f] at e; cases e; exact zzA o
    | false=>rw [f] at e; cases e
   | some d =>
    simp only [zdG,zcl] at e
    cases f:Nat.beq (20000+d) t with
    | true=>rw [f] at e; cases e; exact zzA o
    | false=>rw [f] at e; cases e
  ·cases e
 intro t x e;unfold zJd putT at e
 cases d with
 | none =>
  simp only at e;rw [zm7] at e
  cases b:asc (zwf g l none []) t with
  | some y=>rw [b] at e; cases e; exact c t _ b
  | none=>rw [b] at e; exact i t x e (by simp)
 | some d =>
  simp only [List.cons_append,zdG,zcl] at e
  cases f:Nat.beq d t with
  | true =>
   rw [f] at e;cases e
   have:d=t:=by simpa using f
   subst this
   have m:d<X.n:=by simpa [dOk] using hd
   refine ⟨u,s,fun _ _=>?_,fun k=>?_,fun k=>?_⟩
   ·simp [Act.put,r,m]
   ·exfalso
    unfold gb at k; unfold gh at w; omega
   ·exfalso; omega
  | false =>
   rw [f,cond_false,zm7] at e
   cases b:asc (zwf g l (some d) []) t with
   | some y=>rw [b] at e; cases e; exact c t _ b
   | none =>
    rw [b] at e;refine i t x e ?_;intro z;cases z;simp at f
theorem zcs.le (c:h.le h') (hν:ν.le ν') (b:zcs X h ν a E):zcs X h' ν' a E:=fun t x e=>(b t x e).le c hν
theorem zpY (a:Act) (d:Option Nat) (v:Value):(a.put d v).tmps.size=a.tmps.size:=by cases d<;>simp [Act.put]
theorem ztA (a:Act) (d:Option Nat) (v:Value):(a.put d v).defers=a.defers:=by cases d<;>rfl
theorem zED {op:OpF τ ρ} (c:zwc X w0 h0 F op) (d:X.n≤gh) {all:List Oper} {Q:Exit→Act→World→Prop} {K:zad τ→Hp τ→Nat→Option ρ}
  (p:∀E L nid a w,K E L nid=some r→St X w0 h0 F E L nid a w→Q .normal a w):∀{l:List Oper} {E:zad τ} {L:Hp τ} {nid:Nat} {a:Act} {w:World},opsX op X all l E L nid K=some r→St X w0 h0 F E L nid a w→wpList X.P all.toArray Q l a w
 | [],E,L,nid,a,w,e,s=>p _ _ _ _ _ e s
 | o :: l,E,L,nid,a,w,e,s=>by
  unfold opsX at e;obtain ⟨hd,e⟩:=zhi e;obtain ⟨m,N,e,q,H⟩:=zty e;obtain ⟨ν,h, φ,M,f,hn⟩:=s.st;have b:=H X h ν a o rfl (f.on _);unfold wpList;rw [b]
  cases m with
  | false =>
   simp only [Bool.false_eq_true,if_false] at e ⊢;rw [zEC] at e;refine zED c d p e ⟨?_,?_, ν,h, φ,M,?_,hn⟩
   ·rw [ztA]; exact s.nodef
   ·rw [zpY]; exact s.size
   ·exact ztz d hd s.size (fun _ h=>by cases h) rfl fun t x e _=>q.env f t x e
  | true =>
   simp only [if_true] at e ⊢
   left
   obtain ⟨v,g,U,B,z,A,C,I,k⟩:=c _ _ _ _ _ _ e;refine k L ν h φ a w _ Q s.nodef M ((q.env f).on _) (fun _ _=>rfl) (fun i h1 _=>hn i h1) fun ν' h' φ' w' u D hν J j G=>?_;simp only [zwg] at A;refine zED c d p A ⟨?_,?_, ν',h', φ',D,?_,fun i hi=>?_⟩
   ·rw [ztA]; exact s.nodef
   ·rw [zpY]; exact s.size
   ·exact ztz d hd s.size I G fun t x e _=>((q.env f).le J hν) t x e
   ·cases e:ν' i with
    | none=>rfl
    | some y =>
     have:=j i (hn i (by omega)) (by rw [e]; simp);omega
end
end Go.Rk
end
section
namespace Go.Rk
open Go.RowKit Go.Dm Go.Dk
variable {τ:Nat→Type}
variable {all:List Oper}
section
variable {R α:Type}
noncomputable def zlb (q:R→List (Nat × α)):List R→Nat→(Nat→Bool)→List (Nat × α)→List (Nat × α)
 | [],_,_,B=>B
 | r::rs,i,f,B=>zlb q rs (i+1) f (if f i=true then q r++B else B)
noncomputable def ziY (q:R→List (Nat × α)):List R→Nat→(Nat→Bool)→Nat→Option α
 | [],_,_,_=>none
 | r::rs,i,f,t=>match ziY q rs (i+1) f t with
  | some v=>some v
  | none=>if f i=true then asc (q r) t else none
theorem zkp (q:R→List (Nat × α)):∀(rs:List R) (i:Nat) (f:Nat→Bool) (B:List (Nat × α)) (t:Nat),asc (zlb q rs i f B) t=match ziY q rs i f t with
  | some v=>some v
  | none=>asc B t
 | [],_,_,_,_=>rfl
 | r :: rs,i,f,B,t=>by
  simp only [zlb,ziY];rw [zkp q rs (i+1) f _ t]
  cases ziY q rs (i+1) f t with
  | some v=>rfl
  | none =>
   by_cases a:f i=true
   ·simp only [a,if_true]
    first
     | (rw [zm7]; done)
     | (rw [zm7]; cases asc (q r) t<;>rfl)
   ·simp only [a,if_false,Bool.false_eq_true]
def wr (l:List (Nat × α)) (t:Nat):Prop:=∃v,asc l t=some v
theorem zgv (q:R→List (Nat × α)) {f f':Nat→Bool} {t:Nat}:∀(rs:List R) (i:Nat),(∀j r,rs[j]? = some r→wr (q r) t→f (i+j)=f' (i+j))→ziY q rs i f t=ziY q rs i f' t
 | [],_,_=>rfl
 | r::rs,i,h=>by
  simp only [ziY]
  rw [zgv q (f:=f) (f':=f') (t:=t) rs (i+1) fun j r' a b=>by
   have:=h (j+1) r' (by simpa using a) b
   rwa [show i+(j+1)=i+1+j by omega] at this]
  cases ziY q rs (i+1) f' t with
  | some v=>rfl
  | none =>
   cases ha:asc (q r) t with
   | none=>simp
   | some v =>
    have:=h 0 r rfl ⟨v,ha⟩;simp only [Nat.add_zero] at this;simp [this]
theorem zz1 (q:R→List (Nat × α)) {f:Nat→Bool} {t:Nat}:∀(rs:List R) (i:Nat),(∀j r,rs[j]? = some r→wr (q r) t→f (i+j)=false)→ziY q rs i f t=none
 | [],_,_=>rfl
 | r::rs,i,h=>by
  simp only [ziY]
  rw [zz1 q rs (i+1) fun j r' a b=>by
   have:=h (j+1) r' (by simpa using a) b
   rwa [show i+(j+1)=i+1+j by omega] at this]
  cases ha:asc (q r) t with
  | none=>simp
  | some v=>simp [show f i=false from h 0 r rfl ⟨v,ha⟩]
theorem zuV (q:R→List (Nat × α)) {f:Nat→Bool} {t:Nat} {v:α}:∀(rs:List R) (i k:Nat) (r:R),rs[k]? = some r→f (i+k)=true→asc (q r) t=some v→(∀j r',rs[j]? = some r'→wr (q r') t→k<j→f (i+j)=false)→ziY q rs i f t=some v
 | [],_,_,_,a,_,_,_=>by simp at a
 | r0::rs,i,0,r,a,e,c,h=>by
  simp at a;subst a;simp only [ziY]
  rw [zz1 q rs (i+1) fun j r' b d=>by
   have:=h (j+1) r' (by simpa using b) d (by omega)
   rwa [show i+(j+1)=i+1+j by omega] at this]
  simp only [Nat.add_zero] at e;simp [e,c]
 | r0::rs,i,k+1,r,a,e,c,h=>by
  simp only [ziY]
  rw [zuV q rs (i+1) k r (by simpa using a) (by rwa [show i+1+k=i+(k+1) by omega]) c fun j r' b d g=>by
   have:=h (j+1) r' (by simpa using b) d (by omega)
   rwa [show i+(j+1)=i+1+j by omega] at this]
end
theorem zuW:∀(L:Hp τ) (i:Nat),lk L i=match asc L i with
  | some r=>r
  | none => .gone
 | [],_=>rfl
 | (k,v)::L,i=>by
  simp only [zu7,zm6,zdG,zcl]
  cases Nat.beq k i with
  | true=>rfl
  | false=>exact zuW L i
theorem zIN {U:Hp τ} {i:Nat}:wr U i↔i∈kys U:=by
 constructor
 ·rintro ⟨v,h⟩;exact List.mem_map.2 ⟨_,zm0 h,rfl⟩
 ·intro h
  induction U with
  | nil=>cases h
  | cons p U b =>
   by_cases e:p.1=i
   ·exact ⟨p.2,by obtain ⟨k,v⟩:=p; simp at e; subst e; simp [zdG,zcl]⟩
   ·obtain ⟨k,v⟩:=p
    rcases List.mem_cons.1 h with h|h
    ·exact (e h.symm).elim
    ·obtain ⟨u,a⟩:=b h;exact ⟨u,by simp only [zdG,zcl]; rw [zcx.2 e]; exact a⟩
def zEb (all:List Oper) (i:Nat):List Nat:=match all[i]? with
 | none=>[]
 | some o=>(o.after.toList.filter (Region.binds .any)).map (·.on)
theorem zuX:∀(l:List Oper) (P:List (List Nat)) (k:Nat),k<P.length→ziw (zhQ P l) k=ziw P k
 | [],P,k,_=>rfl
 | o::l,P,k,a=>by
  unfold zhQ;rw [zuX l _ k (by simp; omega),zgC,zgC,List.getElem?_append_left a]
theorem zxi:∀(l:List Oper) (P:List (List Nat)) (j:Nat) (o:Oper),l[j]? = some o→∃P',P'.length=P.length+j∧(∀k,k<P.length+j→ziw P' k=ziw (zhQ P l) k)∧ziw (zhQ P l) (P.length+j)=some (zAz P' o)
 | [],P,j,o,h=>by simp at h
 | o'::l,P,0,o,h=>by
  simp at h;subst h;refine ⟨P,rfl,fun k b=>?_,?_⟩
  ·rw [zuX (o'::l) P k (by omega)]
  ·unfold zhQ;rw [zuX l _ _ (by simp),zgC];simp
 | o'::l,P,j+1,o,h=>by
  unfold zhQ;obtain ⟨P',h1,h2,a⟩:=zxi l (P++[zAz P o']) j o (by simpa using h);simp only [List.length_append,List.length_singleton] at h1 h2 a;refine ⟨P',by omega,fun k b=>h2 k (by omega),?_⟩;rw [show P.length+(j+1)=P.length+1+j by omega];exact a
theorem zz2 {f:Nat→Bool} (p:∀j,f j=true→∀e∈zEb all j,f e=true):∀(j:Nat) (l:List Nat),ziw (zhQ [] all) j=some l→(∀e∈zEb all j,f e=true)→∀e∈l,f e=true:=by
 intro j
 induction j using Nat.strongRecOn with
 | _ j q =>
  intro l i t e b
  have s:j<all.length:=by
   rcases Nat.lt_or_ge j all.length with h|h
   ·exact h
   ·exfalso
    have d:∀(l:List Oper) (P:List (List Nat)),(zhQ P l).length=P.length+l.length:=by
     intro l
     induction l with
     | nil=>intro P; rfl
     | cons o l q=>intro P; unfold zhQ; rw [q]; simp; omega
    rw [zgC] at i;have:=(List.getElem?_eq_some_iff.1 i).1;rw [d] at this;simp at this; omega
  obtain ⟨v,h1,h2,r⟩:=zxi all [] j all[j] (List.getElem?_eq_getElem s);simp only [List.length_nil,Nat.zero_add] at h1 h2 r;rw [r] at i;cases i;unfold zAz at b;obtain ⟨n,m,b⟩:=List.mem_flatMap.1 b
  have k:n.on∈zEb all j:=by
   unfold zEb;rw [List.getElem?_eq_getElem s];exact List.mem_map.2 ⟨n,m,rfl⟩
  have g:=t _ k
  rcases List.mem_cons.1 b with rfl|b
  ·exact g
  ·split at b
   ·rename_i u a
    have c:n.on<j:=by
     rw [zgC] at a;have:=(List.getElem?_eq_some_iff.1 a).1;omega
    rw [h2 _ c] at a;exact q _ c u a (p _ g) e b
   ·cases b
structure Rec (τ:Nat→Type) where
 o:Oper
 W:zad τ
 E:zad τ
 L:Hp τ
 lo:Nat
 hi:Nat
 v:XV τ
 g:List (XV τ)
 ls:List Oper
 U:Hp τ
 t:List Nat
 run:Bool
def Rec.ne (r:Rec τ):zad τ:=zJd r.ls r.o.dst r.v r.g
section
variable {ρ:Type} {X:Cx τ} {w0 w w':World} {h0 h h':Fz} {F:List Nat} {o:Oper} {E E' Eb:zad τ} {L L2:Hp τ} {ν ν':Vn τ} {φ φ':Nat→List Nat} {nid nid':Nat} {r:ρ} {a:Act}
structure RecOk (X:Cx τ) (w0:World) (h0:Fz) (F:List Nat) (all:List Oper) (Eb:zad τ) (q:Rec τ):Prop where
 refw:Ref Eb q.W
 ref:Ref Eb q.E
 up:q.lo≤q.hi
 dst:dOk X.n q.o.dst=true
 want:∀(h:Fz) (ν:Vn τ) (a:Act),zew X h ν a (gdR all q.o.guard) q.W→Region.wanted q.o (yielded all.toArray a.tmps)=q.run
 gv:∀x∈q.g,zke x=true
 pass:q.run=false→q.U=[]∧q.v = .un
 does:q.run=true→Ok1 X w0 h0 F q.o q.E q.L q.lo q.v q.U q.t q.hi
def zuA (X:Cx τ) (w0:World) (h0:Fz) (F:List Nat) (all:List Oper):List Oper→zad τ→Hp τ→Nat→List (Rec τ)→zad τ→Hp τ→Nat→Prop
 | [],b,L,nid,[],d,c,a=>d=b∧c=L∧a=nid
 | o::l,b,L,nid,q::e,d,c,a=>q.o=o∧q.L=L∧q.lo=nid∧RecOk X w0 h0 F all b q∧zuA X w0 h0 F all l (q.ne++b) (q.U++L) q.hi e d c a
 | _,_,_,_,_,_,_,_=>False
def drs (all:List Oper):Nat→List (Rec τ)→List Dr
 | _,[]=>[]
 | i,q::a=>⟨i,q.o.dst,zey all q.o,(if q.run=true then q.t++kys q.U else []),kys q.U⟩::drs all (i+1) a
theorem zNi {op:OpF τ ρ} (j:zwc X w0 h0 F op) {all:List Oper} {K:zad τ→Hp τ→Nat→Option ρ}:∀{l:List Oper} {i:Nat} {R:List Dr} {E q:zad τ} {L:Hp τ} {nid:Nat},zAA op X all i l R E L nid K=some r→Ref q E →
  ∃k c p b n,zuA X w0 h0 F all l q L nid k c p b∧Ref c n∧zvc all ((drs all i k).reverse++R)=true∧K n p b=some r
 | [],i,R,E,q,L,nid,e,s=>by
  unfold zAA hi at e;obtain ⟨h1,e⟩:=zhi e;exact ⟨[],q,L,nid,E,⟨rfl,rfl,rfl⟩,s,h1,e⟩
 | o::l,i,R,E,q,L,nid,e,s=>by
  unfold zAA at e;obtain ⟨hd,e⟩:=zhi e;obtain ⟨m,A,e,y,C⟩:=zty e;have f:=s.trans y;have d:∀(h:Fz) (ν:Vn τ) (a:Act),zew X h ν a (gdR all o.guard) E→Region.wanted o (yielded all.toArray a.tmps)=m:=fun h ν a=>C X h ν a o rfl
  cases m with
  | false =>
   simp only [Bool.false_eq_true,if_false] at e;rw [zEC] at e;obtain ⟨k,c,p,b,n,h1,h2,t,x⟩:=zNi j e (f.app _);refine ⟨⟨o,E,A,L,nid,nid,.un,[],[],[],[],false⟩::k,c,p,b,n,⟨rfl,rfl,rfl,⟨s,f,Nat.le_refl _,hd,d,(fun _ h=>by cases h),fun _=>⟨rfl,rfl⟩,fun h=>by cases h⟩,h1⟩,h2,?_,x⟩;simpa [drs,kys] using t
  | true =>
   simp only [if_true] at e;obtain ⟨v,g,U,u,G,B,w,D,z⟩:=j _ _ _ _ _ _ e;simp only [zwg] at B;obtain ⟨k,c,p,b,n,h1,h2,t,x⟩:=zNi j B (f.app _);refine ⟨⟨o,E,A,L,nid,G,v,g,l,U,u,true⟩::k,c,p,b,n,⟨rfl,rfl,rfl,⟨s,f,w,hd,d,D,(fun h=>by cases h),fun _=>z⟩,h1⟩,h2,?_,x⟩;simpa [drs] using t
theorem ztt {R α:Type} (q:R→List (Nat × α)) {f:Nat→Bool}:∀(rs:List R) (i:Nat) (B:List (Nat × α)),(∀j,i≤j→f j=false)→zlb q rs i f B=B
 | [],_,_,_=>rfl
 | r::rs,i,B,h=>by
  simp only [zlb];rw [h i (Nat.le_refl _)];exact ztt q rs (i+1) B fun j a=>h j (by omega)
theorem zz3 {R α:Type} (q:R→List (Nat × α)) {f:Nat→Bool} {t:Nat} {v:α}:∀(rs:List R) (i:Nat),ziY q rs i f t=some v→∃j r,rs[j]? = some r∧f (i+j)=true∧asc (q r) t=some v
 | [],_,h=>by cases h
 | r::rs,i,h=>by
  simp only [ziY] at h
  cases hl:ziY q rs (i+1) f t with
  | some u =>
   rw [hl] at h;cases h;obtain ⟨j,r',h1,h2,b⟩:=zz3 q rs (i+1) hl;exact ⟨j+1,r',by simpa using h1,by rwa [show i+(j+1)=i+1+j by omega],b⟩
  | none =>
   rw [hl] at h
   by_cases a:f i=true
   ·simp only [a,if_true] at h;exact ⟨0,r,rfl,a,h⟩
   ·simp [a] at h
theorem zuA.get {all:List Oper}:∀{l:List Oper} {d:zad τ} {L:Hp τ} {nid:Nat} {b:List (Rec τ)} {g:zad τ} {m:Hp τ} {a:Nat} (k:Nat),zuA X w0 h0 F all l d L nid b g m a →
  nid≤a∧b.length=l.length∧g=zlb Rec.ne b k (fun _=>true) d∧m=zlb Rec.U b k (fun _=>true) L ∧
  (∀(i:Nat) (q:Rec τ),b[i]? = some q→l[i]? = some q.o∧q.L=zlb Rec.U b k (fun j=>Nat.blt j (k+i)) L∧RecOk X w0 h0 F all (zlb Rec.ne b k (fun j=>Nat.blt j (k+i)) d) q∧nid≤q.lo∧q.hi≤a) ∧
  (∀(i j:Nat) (q e:Rec τ),b[i]? = some q→b[j]? = some e→i<j→q.hi≤e.lo)
 | [],d,L,nid,[],g,m,a,k,h=>by
  obtain ⟨rfl,rfl,rfl⟩:=h;exact ⟨Nat.le_refl _,rfl,rfl,rfl,fun i q c=>by simp at c,fun i j q e c=>by simp at c⟩
 | o :: l,d,L,nid,q::b,g,m,a,k,h=>by
  obtain ⟨rfl,D,rfl,n,hc⟩:=h;obtain ⟨t,C,x,y,v,A⟩:=zuA.get (k+1) hc;refine ⟨Nat.le_trans n.up t,by simp [C],?_,?_,fun i e c=>?_,fun i j w u h1 h2 E=>?_⟩
  ·simp only [zlb,if_true]; exact x
  ·simp only [zlb,if_true]; exact y
  ·cases i with
   | zero =>
    simp at c;subst c
    have s:∀{α:Type} (f:Rec τ→List (Nat × α)) (B:List (Nat × α)),zlb f (q::b) k (fun j=>Nat.blt j (k+0)) B=B:=fun f B=>ztt f _ _ _ fun j G=>by
     rw [← Bool.not_eq_true,Nat.blt_eq]; omega
    refine ⟨rfl,by rw [s]; exact D,by rw [s]; exact n,Nat.le_refl _,t⟩
   | succ i =>
    obtain ⟨z,a2,a3,a4,a5⟩:=v i e (by simpa using c)
    have p:Nat.blt k (k+(i+1))=true:=by rw [Nat.blt_eq]; omega
    have r:k+(i+1)=k+1+i:=by omega
    refine ⟨by simpa using z,?_,?_,Nat.le_trans n.up a4,a5⟩
    ·simp only [zlb,p,if_true]; rw [r]; exact a2
    ·simp only [zlb,p,if_true]; rw [r]; exact a3
  ·cases j with
   | zero=>omega
   | succ j =>
    cases i with
    | zero =>
     simp at h1;subst h1;exact (v j u (by simpa using h2)).2.2.2.1
    | succ i=>exact A i j w u (by simpa using h1) (by simpa using h2) (by omega)
 | [],_,_,_,_::_,_,_,_,_,h=>h.elim
 | _::_,_,_,_,[],_,_,_,_,h=>h.elim
theorem zKj {all:List Oper}:∀{a:List (Rec τ)} (k i:Nat) (q:Rec τ),a[i]? = some q→(⟨k+i,q.o.dst,zey all q.o,(if q.run=true then q.t++kys q.U else []),kys q.U⟩:Dr)∈drs all k a
 | [],_,_,_,h=>by simp at h
 | q0::a,k,0,q,h=>by simp at h; subst h; exact List.mem_cons_self ..
 | q0::a,k,i+1,q,h=>by
  have:=zKj (all:=all) (k+1) i q (by simpa using h);rw [show k+1+i=k+(i+1) by omega] at this;exact List.mem_cons_of_mem _ this
theorem zKk {q : Rec τ} {t:Nat} {x:XV τ} (j:∀y∈q.g,zke y=true) (h:asc q.ne t=some x):q.o.dst=some t∨(zke x=true∧20000≤t∧t<40000)∨(zke x=true∧∃d:Nat,q.o.dst=some d∧t=20000+d):=by
  unfold Rec.ne zJd at h
  have a:∀{d:Option Nat},asc (zwf q.g q.ls d []) t=some x→(zke x=true∧20000≤t∧t<40000)∨(zke x=true∧∃c:Nat,d=some c∧t=20000+c):=by
    intro d e;unfold zwf at e
    split at e
    · rename_i y i
      have b:=j y (by rw [i]; exact List.mem_singleton.2 rfl)
      cases d with
      | none =>
        simp only [zdG,zcl] at e
        cases hb:Nat.beq (30000+q.ls.length%10000) t with
        | true =>
          rw [hb] at e; cases e
          have:30000+q.ls.length%10000=t:=by simpa using hb
          exact .inl ⟨b,by omega,by omega⟩
        | false=>rw [hb] at e; cases e
      | some d =>
        simp only [zdG,zcl] at e
        cases hb:Nat.beq (20000+d) t with
        | true =>
          rw [hb] at e; cases e
          have:20000+d=t:=by simpa using hb
          exact .inr ⟨b,d,rfl,this.symm⟩
        | false=>rw [hb] at e; cases e
    · cases e
  unfold putT at h
  split at h
  · rename_i d hd
    simp only [zdG,zcl] at h
    cases hb:Nat.beq d t with
    | true =>
      have:d=t:=by simpa using hb
      subst this;exact .inl hd
    | false => rw [hb] at h; rw [hd] at h; rcases a h with h1|⟨h1,c,h2,f⟩
               · exact .inr (.inl h1)
               · exact .inr (.inr ⟨h1,c,by rw [hd]; exact h2,f⟩)
  · rename_i hd
    rw [hd] at h
    rcases a h with h1|⟨h1,c,h2,f⟩
    · exact .inr (.inl h1)
    · cases h2
theorem zIO {l m:List Nat} {i:Nat} (h1:i∈l) (h2:i∈m):meets l m=true:=by
 cases m with
 | nil=>cases h2
 | cons j m=>exact (zKE _ _).trans (List.any_eq_true.2 ⟨i,h1,zeS.2 h2⟩)
theorem zGA {R:List Dr} (h:zvc all R=true):(∀a∈R, ∀b∈R,a.i=b.i∨zsU a b=false∨tied (zhQ [] all) a.i b.i=true)∧∀a∈R, ∃l,ziw (zhQ [] all) a.i=some l∧∀j∈l,j<a.i:=by
 unfold zvc at h;simp only [zzx,Bool.and_eq_true,List.all_eq_true,Bool.or_eq_true] at h;obtain ⟨h1,h2⟩:=h;refine ⟨fun a d b e=>?_,fun a d=>?_⟩
 ·rcases h1 a d b e with c|c
  ·exact .inl (by simpa using c)
  ·split at c
   ·simp only [Bool.or_eq_true,Bool.not_eq_true'] at c;exact .inr c
   ·simp only [Bool.or_eq_true,Bool.not_eq_true'] at c;exact .inr c.symm
 ·have:=h2 a d
  split at this
  ·rename_i l g
   exact ⟨l,g,fun j f=>by simpa using List.all_eq_true.1 this j f⟩
  ·cases this
theorem zLg {P:List (List Nat)} {i j:Nat} (h:tied P i j=true):(∃l,ziw P i=some l∧j∈l)∨(∃l,ziw P j=some l∧i∈l):=by
 unfold tied at h;simp only [Bool.or_eq_true] at h
 rcases h with h|h
 ·left
  split at h
  ·rename_i l a; exact ⟨l,a,zeS.1 h⟩
  ·cases h
 ·right
  split at h
  ·rename_i l a; exact ⟨l,a,zeS.1 h⟩
  ·cases h
theorem zz4 {o:Oper} {t:Nat} (h:t∈zey all o):t<20000∨40000≤t:=by
 have key:∀{s t:Nat},t∈(bif Nat.blt s gh then [s] else [])→t<20000:=by
  intro s t h
  cases hb:Nat.blt s gh with
  | true =>
   rw [hb] at h
   have:s<gh:=by simpa using hb
   have h:t∈[s]:=h;rw [List.mem_singleton.1 h];unfold gh at this; omega
  | false=>rw [hb] at h; cases h
 unfold zey at h
 rcases List.mem_append.1 h with h|h
 ·unfold rdO at h;obtain ⟨x,_,a⟩:=List.mem_flatMap.1 h;unfold zxy at a
  split at a
  ·exact .inl (key a)
  ·rw [List.mem_singleton.1 a]; unfold gb; omega
  ·cases a
 ·unfold gdR at h
  split at h
  ·split at h
   ·exact .inl (key h)
   ·cases h
  ·cases h
theorem zzp (a:List (Rec τ)) (i:Nat) (f:Nat→Bool) (L:Hp τ) (k:Nat):lk (zlb Rec.U a i f L) k=match ziY Rec.U a i f k with
  | some v=>v
  | none=>lk L k:=by
 rw [zuW,zkp,zuW];cases ziY Rec.U a i f k<;>rfl
theorem zsD {R α:Type} (q:R→List (Nat × α)):∀(rs:List R) (i:Nat) (f:Nat→Bool) (B:List (Nat × α)),zlb q rs i f B=zlb q rs i f []++B
 | [],_,_,_=>rfl
 | r::rs,i,f,B=>by
  simp only [zlb];rw [zsD q rs (i+1) f (if f i=true then q r++B else B),zsD q rs (i+1) f (if f i=true then q r++[] else [])]
  split<;>simp
theorem zDc (hm:X.P.follows .mixedOrders=true) (hN:X.n≤gh) {id:Nat} {l:List Oper} {s:List (Rec τ)} {Eb' E':zad τ} {L':Hp τ} {T:List Nat} (hch:zuA X w0 h0 F l l E L nid s Eb' L' nid') (hrf:Ref Eb' E') (hok:zvc l ((drs l 0 s).reverse++[])=true)
  (hTT:∀q∈s,q.run=true→∀k∈q.t,k∈T) {L2:Hp τ} {ν0:Vn τ} {hh0:Fz} {φ0:Nat→List Nat} {a:Act} {w:World} {Q:Exit→Act→World→Prop} (hnod0:a.defers=[]) (hsize0:a.tmps.size=X.n) (M0:Mem X.P X.G w0 h0 F L2 w ν0 hh0 φ0) (hE0:zcs X hh0 ν0 a E)
  (hL2:∀k∈T,lk L2 k=lk L k) (hn0:∀k,nid≤k→k<nid'→ν0 k=none)
  (hQ:∀ν' h' φ' a' w',a'.defers=[]→a'.tmps.size=X.n→Mem X.P X.G w0 h0 F (zlb Rec.U s 0 (fun _=>true) []++L2) w' ν' h' φ'→ν0.le ν'→hh0.le h'→zdF ν0 ν' nid nid'→zcs X h' ν' a' E'→Q .normal a' w'):(Code.region id l.toArray true).wp X.P Q a w:=by
 obtain ⟨c1,c2,c3,c4,c5,c6⟩:=zuA.get 0 hch;obtain ⟨hcl2,hah⟩:=zGA hok
 have hdr:∀(j:Nat) (q:Rec τ),s[j]? = some q→(⟨j,q.o.dst,zey l q.o,(if q.run=true then q.t++kys q.U else []),kys q.U⟩:Dr)∈((drs l 0 s).reverse++[]):=by
  intro j q J;have:=zKj (all:=l) 0 j q J;rw [Nat.zero_add] at this;simpa using this
 have A:∀(j:Nat) (q:Rec τ),s[j]? = some q→RecOk X w0 h0 F l (zlb Rec.ne s 0 (fun k=>Nat.blt k j) E) q:=fun j q J=>by
  have:=(c5 j q J).2.2.1;simpa using this
 refine zCv hm (fun b a w=>b.size=l.length∧(∀j,b.getD j false=true→∀e∈zEb l j,b.getD e false=true)∧a.defers=[]∧a.tmps.size=X.n ∧
  ∃ν h φ,Mem X.P X.G w0 h0 F (zlb Rec.U s 0 (fun j=>b.getD j false) L2) w ν h φ∧zcs X h ν a (zlb Rec.ne s 0 (fun j=>b.getD j false) E)∧ν0.le ν∧hh0.le h ∧
   ∀k, ν k≠none→ν0 k≠none∨∃j q,s[j]? = some q∧b.getD j false=true∧q.lo≤k∧k<q.hi) ?_ ?_ ?_ ?_
 ·rintro b a w ⟨h,_⟩; simpa using h
 ·have hf:∀j,(Array.replicate l.toArray.size false).getD j false=false:=by
   intro j;simp [Array.getD_eq_getD_getElem?,Array.getElem?_replicate]
   split<;>simp
  refine ⟨by simp,fun j hj=>(by rw [hf] at hj; cases hj),hnod0,hsize0, ν0,hh0, φ0,?_,?_,Vn.le.refl _,Fz.le.refl _,fun k hk => .inl hk⟩
  ·rw [ztt _ _ _ _ fun j _=>hf j]; exact M0.drew
  ·rw [ztt _ _ _ _ fun j _=>hf j]; exact hE0
 ·rintro b a w i ⟨hls,hcl,W,C, ν,h, φ,M,hE,hle1,hle2,hν⟩ hi
  have hi':i<l.length∧b.getD i true=false∧∀e∈zEb l i,b.getD e false=true:=by
   unfold Region.ready at hi;simp only [List.mem_filter,List.mem_range,Bool.and_eq_true,Bool.not_eq_true',List.size_toArray] at hi;refine ⟨hi.1,hi.2.1,fun e he=>?_⟩;have h2:=hi.2.2
   have hoi:l.toArray[i]? = some (l[i]'hi.1):=by simp [hi.1]
   rw [hoi] at h2;simp only [Option.map_some,Option.getD_some,Array.all_eq_true'] at h2;unfold zEb at he;rw [List.getElem?_eq_getElem hi.1] at he;simp only [List.mem_map,List.mem_filter] at he;obtain ⟨ed,⟨hed,hb⟩,rfl⟩:=he;have:=h2 ed (by simpa using hed);simpa [hb] using this
  obtain ⟨hil,hiu,hpre⟩:=hi'
  have hfi:b.getD i false=false:=by
   have h1:i<b.size:=by omega
   simp [Array.getD_eq_getD_getElem?,h1] at hiu ⊢;exact hiu
  have hqi:i<s.length:=by omega
  obtain ⟨q,J⟩:∃q,s[i]? = some q:=⟨_,List.getElem?_eq_getElem hqi⟩;obtain ⟨ho,hL,hR,hlo,hhi⟩:=c5 i q J;rw [Nat.zero_add] at hL hR;have hcl':∀j,b.getD j false=true→∀e∈zEb l j,b.getD e false=true:=hcl
  have hT2:∀(j:Nat) (q':Rec τ),s[j]? = some q'→j≠i→(zsU ⟨i,q.o.dst,zey l q.o,(if q.run=true then q.t++kys q.U else []),kys q.U⟩ ⟨j,q'.o.dst,zey l q'.o,(if q'.run=true then q'.t++kys q'.U else []),kys q'.U⟩=true)→b.getD j false=Nat.blt j i:=by
   intro j q' D hne hcla;obtain ⟨li1,hli1,hlt1⟩:=hah _ (hdr i q J);obtain ⟨lj1,hlj1,hlt2⟩:=hah _ (hdr j q' D)
   have htied:tied (zhQ [] l) i j=true:=by
    rcases hcl2 _ (hdr i q J) _ (hdr j q' D) with h1|h1|h1
    ·exact (hne h1.symm).elim
    ·rw [h1] at hcla; cases hcla
    ·exact h1
   rcases zLg htied with ⟨l1,h1,h2⟩|⟨l1,h1,h2⟩
   ·have hf:=zz2 (f:=fun k=>b.getD k false) hcl' i l1 h1 hpre j h2;have h1':ziw (zhQ [] l) i=some li1:=hli1;rw [h1] at h1';cases h1';have:=hlt1 j h2
    have hbl:Nat.blt j i=true:=by rw [Nat.blt_eq]; exact this
    rw [hbl]; exact hf
   ·have h1':ziw (zhQ [] l) j=some lj1:=hlj1;rw [h1] at h1';cases h1';have hlt:i<j:=hlt2 i h2
    have hbl:Nat.blt j i=false:=by rw [← Bool.not_eq_true,Nat.blt_eq]; omega
    rw [hbl]
    cases hfj:b.getD j false with
    | false=>rfl
    | true =>
     have:b.getD i false=true:=zz2 (f:=fun k=>b.getD k false) hcl' j _ h1 (hcl' j hfj) i h2;rw [hfi] at this; cases this
  have hii:Nat.blt i i=false:=by rw [← Bool.not_eq_true,Nat.blt_eq]; omega
  have hclD:∀{q':Rec τ} {d:Nat},q'.o.dst=some d→d∈zey l q.o→∀j:Nat,zsU ⟨i,q.o.dst,zey l q.o,(if q.run=true then q.t++kys q.U else []),kys q.U⟩ ⟨j,q'.o.dst,zey l q'.o,(if q'.run=true then q'.t++kys q'.U else []),kys q'.U⟩=true:=by
   intro q' d hd hm j;simp only [zsU,hd,zeS.2 hm,Bool.true_or,Bool.or_true]
  have hclE:∀{q':Rec τ} {d:Nat},q'.o.dst=some d→q.o.dst=some d→∀j:Nat,zsU ⟨i,q.o.dst,zey l q.o,(if q.run=true then q.t++kys q.U else []),kys q.U⟩ ⟨j,q'.o.dst,zey l q'.o,(if q'.run=true then q'.t++kys q'.U else []),kys q'.U⟩=true:=by
   intro q' d hd hd2 j;simp only [zsU,hd,hd2,Nat.beq_refl,Bool.or_true]
  have hclU:∀{q':Rec τ} {k:Nat},q.run=true→k∈kys q'.U→(k∈q.t∨k∈kys q.U)→∀j:Nat,zsU ⟨i,q.o.dst,zey l q.o,(if q.run=true then q.t++kys q.U else []),kys q.U⟩ ⟨j,q'.o.dst,zey l q'.o,(if q'.run=true then q'.t++kys q'.U else []),kys q'.U⟩=true:=by
   intro q' k N hk hk2 j;simp only [zsU,N,if_true];rw [zIO (i:=k) hk (List.mem_append.2 hk2),Bool.true_or]
  have hreads:zew X h ν a (zey l q.o) (zlb Rec.ne s 0 (fun k=>Nat.blt k i) E):=by
   intro t ht x V;refine hE t x ?_;rw [zkp] at V ⊢;rw [← zgv Rec.ne (f:=fun j=>b.getD j false) (f':=fun k=>Nat.blt k i) (t:=t) s 0 ?_] at V
   ·exact V
   ·intro j q' D Z;rw [Nat.zero_add]
    by_cases c:j=i
    ·subst c; rw [hfi,hii]
    ·obtain ⟨y,hy⟩:=Z;refine hT2 j q' D c ?_
     rcases zKk (A j q' D).gv hy with h1|⟨_,h1,h2⟩|⟨_,d,h1,h2⟩
     ·exact hclD h1 ht j
     ·rcases zz4 ht with O|O<;>omega
     ·have m:=(A j q' D).dst;rw [h1] at m;have hdl2:d<X.n:=Nat.le_of_ble_eq_true m;have hN2:X.n≤9000:=hN
      have h4:t<40000:=by omega
      rcases zz4 ht with O|O
      ·omega
      ·omega
  have K:∀j,(b.setIfInBounds i true).getD j false=(b.getD j false||Nat.beq j i):=by
   intro j
   have h1:i<b.size:=by omega
   by_cases c:j=i
   ·subst c;simp [Array.getD_eq_getD_getElem?,h1]
   ·have:Nat.beq j i=false:=zcx.2 c;simp [Array.getD_eq_getD_getElem?,Ne.symm c,this]
  have g:∀j,j≠i→(b.setIfInBounds i true).getD j false=b.getD j false:=fun j hj=>by rw [K,zcx.2 hj,Bool.or_false]
  have H:(b.setIfInBounds i true).getD i false=true:=by rw [K]; simp
  have hcl3:∀j,(b.setIfInBounds i true).getD j false=true→∀e∈zEb l j,(b.setIfInBounds i true).getD e false=true:=by
   intro j hj e he
   have hle:∀e,b.getD e false=true→(b.setIfInBounds i true).getD e false=true:=fun e h=>by rw [K,h]; rfl
   by_cases c:j=i
   ·subst c; exact hle e (hpre e he)
   ·rw [g j c] at hj; exact hle e (hcl j hj e he)
  have henv:∀{a':Act} {h':Fz} {ν':Vn τ},zcs X h' ν' a' (q.ne++zlb Rec.ne s 0 (fun j=>b.getD j false) E)→zcs X h' ν' a' (zlb Rec.ne s 0 (fun j=>(b.setIfInBounds i true).getD j false) E):=by
   intro a' h' ν' hE2 t x V
   by_cases hgv:zke x=true
   ·exact zzA hgv
   ·refine hE2 t x ?_;rw [zkp] at V;rw [zm7,zkp]
    have hreal:∀{j:Nat} {q':Rec τ},s[j]? = some q'→∀y,asc q'.ne t=some y→zke y=false→q'.o.dst=some t:=by
     intro j q' D y hy hg
     rcases zKk (A j q' D).gv hy with h1|⟨h1,_⟩|⟨h1,_⟩
     ·exact h1
     ·rw [h1] at hg; cases hg
     ·rw [h1] at hg; cases hg
    cases hlk:ziY Rec.ne s 0 (fun j=>(b.setIfInBounds i true).getD j false) t with
    | some y =>
     rw [hlk] at V;cases V;obtain ⟨j,q',D,hfj,hy⟩:=zz3 Rec.ne s 0 hlk;rw [Nat.zero_add] at hfj;have hdj:=hreal D x hy (by simpa using hgv)
     cases hne:asc q.ne t with
     | some z =>
      have h1:q.o.dst=some t:=by
       rcases zKk (A i q J).gv hne with h1|⟨h1,h2,O⟩|⟨_,d,h2,O⟩
       ·exact h1
       ·have m:=(A j q' D).dst;rw [hdj] at m
        have m:t<X.n:=by simpa [dOk] using m
        unfold gh at hN; omega
       ·have m:=(A j q' D).dst;rw [hdj] at m
        have m:t<X.n:=by simpa [dOk] using m
        unfold gh at hN; omega
      have S:=zuV Rec.ne (f:=fun j=>(b.setIfInBounds i true).getD j false) (t:=t) s 0 i q J (by rw [Nat.zero_add]; exact H) hne fun I q2 p Z hlt=>by
       rw [Nat.zero_add,g I (by omega)];obtain ⟨y2,hy2⟩:=Z
       have hd2:q2.o.dst=some t:=by
        rcases zKk (A I q2 p).gv hy2 with h2|⟨_,h2,O⟩|⟨_,d,h2,O⟩
        ·exact h2
        ·have m:=(A i q J).dst;rw [h1] at m
         have m:t<X.n:=by simpa [dOk] using m
         unfold gh at hN; omega
        ·have m:=(A i q J).dst;rw [h1] at m
         have m:t<X.n:=by simpa [dOk] using m
         unfold gh at hN; omega
       rw [hT2 I q2 p (by omega) (hclE hd2 h1 I), ← Bool.not_eq_true,Nat.blt_eq];omega
      rw [hlk] at S;cases S;rfl
     | none =>
      rw [zgv Rec.ne (f:=fun j=>b.getD j false) (f':=fun j=>(b.setIfInBounds i true).getD j false) (t:=t) s 0 (fun I q2 p Z=>by
       rw [Nat.zero_add]
       by_cases c:I=i
       ·subst c;rw [J] at p;cases p;obtain ⟨z,Y⟩:=Z;rw [hne] at Y; cases Y
       ·rw [g I c]),hlk]
    | none =>
     rw [hlk] at V
     have hni:asc q.ne t=none:=by
      cases Y:asc q.ne t with
      | none=>rfl
      | some z =>
       exfalso
       have:∀(rs:List (Rec τ)) (k:Nat) (q':Rec τ),rs[k]? = some q'→∀(i0:Nat) (f:Nat→Bool),f (i0+k)=true→asc q'.ne t=some z→ziY Rec.ne rs i0 f t≠none:=by
        intro rs
        induction rs with
        | nil=>intro k q' h; simp at h
        | cons r rs ih =>
         intro k q' hk i0 f hf Y;simp only [ziY]
         cases hl:ziY Rec.ne rs (i0+1) f t with
         | some v=>simp
         | none =>
          cases k with
          | zero =>
           simp at hk; subst hk;simp only [Nat.add_zero] at hf;simp [hf,Y]
          | succ k=>exact (ih k q' (by simpa using hk) (i0+1) f (by rwa [show i0+1+k=i0+(k+1) by omega]) Y hl).elim
       exact this s i q J 0 _ (by rw [Nat.zero_add]; exact H) Y hlk
     rw [hni]
     rw [zgv Rec.ne (f:=fun j=>b.getD j false) (f':=fun j=>(b.setIfInBounds i true).getD j false) (t:=t) s 0 (fun I q2 p Z=>by
       rw [Nat.zero_add]
       by_cases c:I=i
       ·subst c;rw [J] at p;cases p;obtain ⟨z,Y⟩:=Z;rw [hni] at Y; cases Y
       ·rw [g I c]),hlk]
     exact V
  have hsz2:(b.setIfInBounds i true).size=l.length:=by simpa using hls
  have hol:l.toArray[i]? = some q.o:=by simpa using ho
  unfold wpOp;rw [hol];dsimp only;have R:=A i q J;rw [R.want h ν a (fun t ht x V=>(Ref.on (l:=zey l q.o) R.refw hreads) t (by unfold zey; exact List.mem_append_right _ ht) x V)]
  cases N:q.run with
  | false =>
   obtain ⟨hU,hv⟩:=R.pass N;rw [if_neg (by simp)];refine ⟨hsz2,hcl3,by rw [ztA]; exact W,by rw [zpY]; exact C, ν,h, φ,M.congr fun k=>?_,henv ?_,hle1,hle2,fun k hk=>?_⟩
   ·rw [zzp,zzp]
    rw [zgv Rec.U (f:=fun j=>(b.setIfInBounds i true).getD j false) (f':=fun j=>b.getD j false) (t:=k) s 0 fun I q2 p Z=>by
     rw [Nat.zero_add]
     by_cases c:I=i
     ·subst c;rw [J] at p;cases p;obtain ⟨z,Y⟩:=Z;rw [hU] at Y; cases Y
     ·rw [g I c]]
   ·unfold Rec.ne;rw [hv];exact ztz hN R.dst C R.gv rfl fun t x V _=>hE t x V
   ·rcases hν k hk with h1|⟨j,q',h1,h2,O⟩
    ·exact .inl h1
    ·exact .inr ⟨j,q',h1,by rw [K,h2]; rfl,O⟩
  | true =>
   rw [if_pos rfl]
   left
   refine R.does N _ ν h φ a w _ Q W M (fun t ht x V=>(Ref.on (l:=zey l q.o) R.ref hreads) t (by unfold zey; exact List.mem_append_left _ ht) x V) (fun k hk=>?_) (fun k h1 h2=>?_) fun ν' h' φ' w' u M' hν' hh hfr hv=>?_
   ·rw [hL,zzp,zzp,hL2 k (hTT q (List.mem_of_getElem? J) N k hk)]
    rw [zgv Rec.U (f:=fun j=>b.getD j false) (f':=fun k=>Nat.blt k i) (t:=k) s 0 fun I q2 p Z=>by
     rw [Nat.zero_add]
     by_cases c:I=i
     ·subst c; rw [hfi,hii]
     ·exact hT2 I q2 p c (hclU N (zIN.1 Z) (.inl hk) I)]
   ·cases hνk:ν k with
    | none=>rfl
    | some y =>
     exfalso
     rcases hν k (by rw [hνk]; simp) with O|⟨j,q',O,h4,h5,h6⟩
     ·exact O (hn0 k (by omega) (by omega))
     ·rcases Nat.lt_trichotomy j i with hj|hj|hj
      ·have:=c6 j i q' q O J hj; omega
      ·subst hj; rw [hfi] at h4; cases h4
      ·have:=c6 i j q q' J O hj; omega
   ·refine ⟨hsz2,hcl3,by rw [ztA]; exact W,by rw [zpY]; exact C, ν',h', φ',M'.congr fun k=>?_,henv ?_,hle1.trans hν',hle2.trans hh,fun k hk=>?_⟩
    ·rw [zuW,zuW,zkp,zm7,zkp]
     cases hUk:asc q.U k with
     | some z =>
      have S:=zuV Rec.U (f:=fun j=>(b.setIfInBounds i true).getD j false) (t:=k) s 0 i q J (by rw [Nat.zero_add]; exact H) hUk fun I q2 p Z hlt=>by
       rw [Nat.zero_add,g I (by omega),hT2 I q2 p (by omega) (hclU N (zIN.1 Z) (.inr (zIN.1 ⟨z,hUk⟩)) I), ← Bool.not_eq_true,Nat.blt_eq];omega
      rw [S]
     | none =>
      rw [zgv Rec.U (f:=fun j=>(b.setIfInBounds i true).getD j false) (f':=fun j=>b.getD j false) (t:=k) s 0 fun I q2 p Z=>by
       rw [Nat.zero_add]
       by_cases c:I=i
       ·subst c;rw [J] at p;cases p;obtain ⟨z,Y⟩:=Z;rw [hUk] at Y; cases Y
       ·rw [g I c]]
    ·exact ztz hN R.dst C R.gv hv fun t x V _=>(hE.le hh hν') t x V
    ·by_cases hk0:ν k=none
     ·obtain ⟨h1,h2⟩:=hfr k hk0 hk;exact .inr ⟨i,q,J,H,h1,h2⟩
     ·rcases hν k hk0 with h1|⟨j,q',h1,h2,O⟩
      ·exact .inl h1
      ·exact .inr ⟨j,q',h1,by rw [K,h2]; rfl,O⟩
 ·rintro b a w ⟨hls,hcl,W,C, ν,h, φ,M,hE,hle1,hle2,hν⟩ hr
  have hall:∀i,i<l.length→b.getD i false=true:=by
   intro i
   induction i using Nat.strongRecOn with
   | _ i ih =>
    intro hi
    cases hb:b.getD i false with
    | true=>rfl
    | false =>
     exfalso
     have hmem:i∈Region.ready .any l.toArray b:=by
      unfold Region.ready;simp only [List.mem_filter,List.mem_range,Bool.and_eq_true,Bool.not_eq_true',List.size_toArray]
      have h1:i<b.size:=by omega
      refine ⟨hi,by simpa [Array.getD_eq_getD_getElem?,h1] using hb,?_⟩
      have hoi:l.toArray[i]? = some l[i]:=by simp [hi]
      rw [hoi];simp only [Option.map_some,Option.getD_some,Array.all_eq_true'];intro e he
      cases hbe:Region.binds .any e with
      | false=>rfl
      | true =>
       have hlt:e.on<i:=by
        have hqi:i<s.length:=by omega
        obtain ⟨l1,h2,O⟩:=hah _ (hdr i _ (List.getElem?_eq_getElem hqi));obtain ⟨P',_,_,h4⟩:=zxi l [] i l[i] (List.getElem?_eq_getElem hi);simp only [List.length_nil,Nat.zero_add] at h4;have h2:ziw (zhQ [] l) i=some l1:=h2;rw [h4] at h2;cases h2;refine O e.on ?_;unfold zAz;refine List.mem_flatMap.2 ⟨e,List.mem_filter.2 ⟨by simpa using he,hbe⟩,List.mem_cons_self ..⟩
       simpa using ih e.on hlt (by omega)
     rw [hr] at hmem;cases hmem
  have hcong:∀{α:Type} (f:Rec τ→List (Nat × α)) (B:List (Nat × α)) (t:Nat),asc (zlb f s 0 (fun j=>b.getD j false) B) t=asc (zlb f s 0 (fun _=>true) B) t:=by
   intro α f B t
   rw [zkp,zkp,zgv f (f:=fun j=>b.getD j false) (f':=fun _=>true) (t:=t) s 0 fun j q J _=>by
    rw [Nat.zero_add];refine hall j ?_;have:=(List.getElem?_eq_some_iff.1 J).1
    omega]
  refine hQ ν h φ a w W C (M.congr fun k=>?_) hle1 hle2 (fun k h1 h2=>?_) (hrf.env (fun t x V=>hE t x ?_))
  ·rw [← zsD,zuW,zuW,hcong]
  ·rcases hν k h2 with O|⟨j,q,O,h4,h5,h6⟩
   ·exact (O h1).elim
   ·have:=(c5 j q O).2.2.2; omega
  ·rw [hcong, ← c3]; exact V
theorem zPR (C:X.P.follows .mixedOrders=true) {op:OpF τ ρ} (g:zwc X w0 h0 F op) (I:X.n≤gh) {id:Nat} {l:List Oper} {Q:Exit→Act→World→Prop} {K:zad τ→Hp τ→Nat→Option ρ}
  (D:∀E L nid a w,K E L nid=some r→St X w0 h0 F E L nid a w→Q .normal a w) (e:zAA op X l 0 l [] E L nid K=some r) (s:St X w0 h0 F E L nid a w):(Code.region id l.toArray true).wp X.P Q a w:=by
 obtain ⟨u,B,G,b,A,c,m,j,d⟩:=zNi g e (Ref.refl E);obtain ⟨J,_,_,H,_,_⟩:=zuA.get 0 c;obtain ⟨ν,h, φ,M,z,hn⟩:=s.st;refine zDc C I c m j (T:=u.flatMap (·.t)) (fun q v _ k o=>List.mem_flatMap.2 ⟨q,v,o⟩) s.nodef s.size M z (fun _ _=>rfl) (fun k h1 _=>hn k h1) fun ν' h' φ' p w' h1 h2 x _ _ f i=>?_;refine D A G b p w' d ⟨h1,h2, ν',h', φ',by rw [H,zsD]; exact x,i,fun k o=>?_⟩
 cases hνk:ν' k with
 | none=>rfl
 | some y =>
  have:=f k (hn k (by omega)) (by rw [hνk]; simp);omega
end
end Go.Rk
end
section
namespace Go.Rk
open Go.RowKit Go.Dm Go.Dk
variable {τ:Nat→Type}
variable {t:Nat}
section
variable {ρ:Type} {X:Cx τ} {w0 w w':World} {h0 h h' H:Fz} {F:List Nat} {E E' Eb:zad τ} {L L2:Hp τ} {ν ν':Vn τ} {φ φ':Nat→List Nat} {nid nid':Nat} {r:ρ} {a:Act}
def SlV (X:Cx τ) (a:Act) (t:Nat) (ty:Ty) (v:Value):Prop:=(Nat.blt t gh=true→(∀x y,ty ≠ .pr x y)→a.tmps[t]? = some v)∧(gb≤t→v=ptr (t-gb) 0)∧(gh≤t→t<20000→v=X.fx (t-gh))
def SlVs (X:Cx τ) (a:Act):Pl→List Value→Prop
 | [],vs=>vs=[]
 | (t,ty)::l,vs=>∃v us,vs=v::us∧SlV X a t ty v∧SlVs X a l us
theorem zKV {G:Sig τ} {t:Ty} {A:XV τ} {q:t.den τ × List Nat × List Nat} (k:resX G L t A=some q):(∀x y,t ≠ .pr x y)→zke A=false:=by
 intro a;unfold resX at k
 split at k
 ·rfl
 ·rfl
 ·rfl
 ·exact (a _ _ rfl).elim
 ·cases k
theorem zKW (M:Mem X.P X.G w0 h0 F L w ν h φ) (f:zcs X h ν a E) (i:h.le H):∀{l:Pl} {p:DP τ l.ts} {m n:List Nat},leaf X.G E L l=some (p,m,n)→(∀b∈fps φ n,H b=w.heap[b]?)→nod m=true→∃vs,TrXs X.P X.G H w l.ts p vs (fps φ m)∧SlVs X a l vs
 | [],p,m,n,e,_,_=>by cases e; exact ⟨[],.nil,rfl⟩
 | (t,ty)::l,p,m,n,e,d,hn=>by
  unfold leaf at e
  split at e
  ·rename_i A r
   split at e
   ·rename_i x I K g
    split at e
    ·rename_i q J D s
     cases e;obtain ⟨C,k,u⟩:=zv9 hn;obtain ⟨v,h1,h2,j,o⟩:=f t A r;obtain ⟨vs,B,z⟩:=zKW M f i s (fun b c=>d b (by rw [zfB]; exact List.mem_append_right _ c)) k;refine ⟨v::vs,?_,v,vs,rfl,⟨fun y a2=>h2 y (zKV g a2),j,o⟩,z⟩;rw [zfB];refine .cons ty _ _ v vs _ _ ?_ ?_ (M.fps_dis u)
     ·rw [DP.hd_mk]; exact zKl (L:=L) M i g (fun _ _=>rfl) ⟨fun _ _=>rfl,fun b c=>d b (by rw [zfB]; exact List.mem_append_left _ c)⟩ C h1
     ·rw [DP.tl_mk]; exact B
    ·cases e
   ·cases e
  ·cases e
theorem zH7 {P:Program} (z:X.P=P):∀{l:Pl} {p:DP τ l.ts} {nid:Nat} {E:zad τ} {L:Hp τ} {c:Nat} {vs:List Value} {fp:List Nat} {L0:Hp τ} {ν:Vn τ} {φ:Nat→List Nat},zDn X.G l p nid=(E,L,c)→Mem X.P X.G w0 h0 F L0 w ν h φ→TrXs X.P X.G h w l.ts p vs fp→SlVs X a l vs →
  zhP w0 h F φ fp→(∀i,nid≤i→i<c→ν i=none)→nid≤c∧∃ν' φ',Adds X.P X.G w0 h0 F L0 w ν h φ L nid c fp ν' φ'∧zcs X h ν' a E
 | [],p,nid,E,L,c,vs,fp,L0, ν, φ,e,M,o,m,k,hn=>by
  cases e;exact ⟨Nat.le_refl _, ν, φ,(Grew.nil M _ _).adds,fun t x e=>by cases e⟩
 | (t,ty)::l,p,nid,E,L,c,vs,fp,L0, ν, φ,e,M,o,m,k,hn=>by
  unfold zDn at e
  split at e
  rename_i A U n h1
  split at e
  rename_i D r q h2
  cases e;obtain ⟨v,us,rfl,s1,s2⟩:=m
  cases o with
  | cons _ _ _ _ _ f f' u t2 hd =>
   have H:=zvU h1;have g:n≤c:=packE_le h2;obtain ⟨_, ν1, φ1,A1,B⟩:=zH7 z h2 M t2 s2 (k.sub fun b d=>List.mem_append_right _ d) (fun i a b=>hn i (by omega) b)
   obtain ⟨ν2, φ2,A2,C⟩:=zzq A1.mem h1 u (fun i a b=>by
    cases e:ν1 i with
    | none=>rfl
    | some y =>
     have:=A1.fresh i (hn i a (by omega)) (by rw [e]; simp)
     omega) (zhP.adds A1 (k.sub fun b d=>List.mem_append_left _ d) hd)
   refine ⟨by omega, ν2, φ2,Adds.seq A1 A2 H g,fun t' x e=>?_⟩;simp only [zdG,zcl] at e
   cases d:Nat.beq t t' with
   | true =>
    rw [d] at e;cases e
    have:t=t':=by simpa using d
    subst this;refine ⟨v,C,fun s a2=>s1.1 s fun x y j=>?_,s1.2⟩;subst j;cases h1;cases a2
   | false =>
    rw [d] at e;exact (B t' x e).le (Fz.le.refl _) A2.le
where
 packE_le:∀{l:Pl} {p:DP τ l.ts} {nid:Nat} {E:zad τ} {L:Hp τ} {c:Nat},zDn X.G l p nid=(E,L,c)→nid≤c
 | [],p,nid,E,L,c,e=>by cases e; exact Nat.le_refl _
 | (t,ty)::l,p,nid,E,L,c,e=>by
  unfold zDn at e
  split at e
  rename_i A U n h1
  split at e
  rename_i D r q h2
  cases e;exact Nat.le_trans (zvU h1) (packE_le h2)
theorem zJV (d:zsJ X.P X.G h) (c:∀p∈X.G.gl,True):zcs X h ν a (glE X.G.gl):=by
 intro t x e;obtain ⟨p,hp,b⟩:=List.mem_map.1 (zm0 e);cases b;obtain ⟨vs,h1,h2⟩:=d.1 p hp;refine ⟨ptr p.1 0,⟨p.1,0,vs,rfl,h1,h2⟩,fun h=>?_,fun _=>by rw [Nat.add_sub_cancel_left],fun h1 h2=>?_⟩
 ·exfalso
  simp only [Nat.blt_eq,gb,gh] at h;omega
 ·exfalso
  simp only [gb] at h2;omega
theorem zcs.app (h1:zcs X h ν a E) (h2:zcs X h ν a E'):zcs X h ν a (E++E'):=by
 intro t x e;rw [zm7] at e
 cases b:asc E t with
 | some y=>rw [b] at e; cases e; exact h1 t _ b
 | none=>rw [b] at e; exact h2 t x e
def SameV (X:Cx τ) (w0:World) (h0:Fz) (F:List Nat) (w:World) (a:Act) (E:zad τ) (L:Hp τ) (s t:Nat):Prop:=∀(h:Fz) (ν:Vn τ) (φ:Nat→List Nat) x,Mem X.P X.G w0 h0 F L w ν h φ→zcs X h ν a E→alV E L t=some x→zjS X h ν a s x
theorem zH8 (M:Mem X.P X.G w0 h0 F L w ν h φ) (b:zcs X h ν a E):∀{al:List (Nat × Nat)},(∀p∈al,SameV X w0 h0 F w a E L p.1 p.2)→zcs X h ν a (alias E L al)
 | [],_=>b
 | (s,t)::al,c=>by
  have d:=zH8 M b (al:=al) fun p hp=>c p (List.mem_cons_of_mem _ hp);unfold alias
  split
  ·rename_i v f
   intro t' x e;simp only [zdG,zcl] at e
   cases hb:Nat.beq s t' with
   | true =>
    rw [hb] at e;cases e
    have:s=t':=by simpa using hb
    subst this;exact c _ (List.mem_cons_self ..) h ν φ _ M b f
   | false=>rw [hb] at e; exact d t' x e
  ·exact d
theorem Mem.none (M:Mem X.P X.G w0 h0 F L w ν h φ) (d:h.le H) (c:H.on w) (a:∀b,H b≠none→h b≠none∨b∈F∨w0.heap.size≤b):Mem X.P X.G w0 h0 F [] w (fun _=>Option.none) H (fun _=>[]) :=
 ⟨M.os,M.tape,M.output,M.size,M.frame,M.le.trans d,c,fun b e=>by
  rcases a b e with h1|h1
  ·exact M.new b h1
  ·exact .inr h1,fun _=>rfl,(fun _ _ _ h=>by cases h),(fun _ _ h=>by cases h),M.gl.le d,M.fp⟩
theorem zOY {x y:XV τ} {v u:Value} (a:zyg (some x) (some y)=true) (f:XOk X.P X.G h ν x v) (e:XOk X.P X.G h ν y u):v=u:=by
 unfold zyg at a
 split at a
 ·rename_i i j h1 h2
  cases h1; cases h2
  have:i=j:=by simpa using a
  subst this;obtain ⟨g,k,d,a2,_⟩:=f;obtain ⟨l,m,b,c,_⟩:=e;rw [d] at b;cases b;rw [a2,c]
 ·rename_i i j h1 h2
  cases h1; cases h2
  have:i=j:=by simpa using a
  subst this;obtain ⟨_,_,_,_,d,a2⟩:=f;obtain ⟨_,_,_,_,b,c⟩:=e;rw [d] at b;cases b;rw [a2,c]
 ·cases a
theorem zOZ {x y:XV τ} (a:zyg (some x) (some y)=true):zke x=false∧zke y=false:=by
 refine ⟨?_,?_⟩
 ·cases x<;>first|rfl|(simp [zyg] at a)
 ·cases y<;>first|rfl|(cases x<;>simp [zyg] at a; done)|(exfalso; unfold zyg at a; split at a<;>first|(rename_i b; cases b; done)|(rename_i _ b; cases b; done)|cases a)
def SlU (X:Cx τ) (a:Act) (t:Nat) (v:Value):Prop:=(Nat.blt t gh=true→a.tmps[t]? = some v)∧(gb≤t→v=ptr (t-gb) 0)∧(gh≤t→t<20000→v=X.fx (t-gh))
theorem SlU.one {u v:Value} (h1:SlU X a t u) (h2:SlU X a t v) (c:t<20000):u=v:=by
 cases hg:Nat.blt t gh with
 | true =>
  have d:=h1.1 hg;rw [h2.1 hg] at d;exact (Option.some.inj d).symm
 | false =>
  have b:gh≤t:=by
   have:¬ t<gh:=by rw [← Nat.blt_eq,hg]; simp
   omega
  rw [h1.2.2 b c,h2.2.2 b c]
theorem zjS.u {x:XV τ} (b:zjS X h ν a t x) (c:zke x=false):∃v,XOk X.P X.G h ν x v∧SlU X a t v :=
 let ⟨v,h1,h2,h3,h4⟩:=b; ⟨v,h1,fun h=>h2 h c,h3,h4⟩
def AlU (X:Cx τ) (w:World) (a:Act) (t:Nat) (v:Value):Prop:=match t/100000 with
 | 0=>SlU X a t v
 | o+1=>∃b vs ti,SlU X a (t%100000) (ptr b 0)∧w.heap[b]? = some (.cells vs ti (0,0))∧vs[o]? = some v
theorem zH9 {P:Program} {G:Sig τ}:∀{cs:List (CV τ)} {vs:List Value} {o:Nat} {c:CV τ},CVs P G h ν cs vs→ziw cs o=some c→∃v,vs[o]? = some v∧zc9 P G h ν c v
 | [],_,_,_,_,e=>by cases e
 | d::cs,_,0,c,⟨v,us,rfl,h1,_⟩,e=>by cases e; exact ⟨v,rfl,h1⟩
 | d::cs,_,o+1,c,⟨v,us,rfl,_,h2⟩,e=>zH9 (cs:=cs) (vs:=us) h2 e
theorem zO0 (M:Mem X.P X.G w0 h0 F L w ν h φ) (d:zcs X h ν a E) {t:Nat} {x:XV τ} (r:zke x=false) (e:alV E L t=some x):∃v,XOk X.P X.G h ν x v∧AlU X w a t v:=by
 unfold alV at e;unfold AlU
 split at e
 ·rename_i h0
  obtain ⟨v,h1,h2⟩:=(d t x e).u r;rw [h0];exact ⟨v,h1,h2⟩
 ·rename_i o y
  split at e
  ·rename_i i hi
   split at e
   ·rename_i ti cs z
    split at e
    ·rename_i c hc
     cases e;obtain ⟨l,h1,h2⟩:=(d _ _ hi).u rfl;have g:=M.res i;rw [z] at g;obtain ⟨b,q,vs,s,_,p,k⟩:=g;obtain ⟨u,A,f,m,_⟩:=h1;rw [s] at f;cases f;obtain rfl:l=ptr b 0:=m;obtain ⟨v,j,n⟩:=zH9 k hc;rw [y];exact ⟨v,n,b,vs.toArray,ti,h2,p,by simpa using j⟩
    ·cases e
   ·cases e
  ·cases e
theorem AlU.one {u v:Value} (h1:AlU X w a t u) (h2:AlU X w a t v) (c:t%100000<20000):u=v:=by
 unfold AlU at h1 h2
 split at h1
 ·rename_i h0
  rw [h0] at h2
  have:t<100000:=by omega
  rw [Nat.mod_eq_of_lt this] at c;exact h1.one h2 c
 ·rename_i o j
  rw [j] at h2;obtain ⟨b,vs,ti,h,g,f⟩:=h1;obtain ⟨m,i,l,k,d,e⟩:=h2;have:=h.one k c;cases this;rw [g] at d;cases d;rw [f] at e;exact Option.some.inj e
theorem zO1 (M:Mem X.P X.G w0 h0 F L w ν h φ) (d:zcs X h ν a E) {al:List (Nat × Nat)} (e:alike E L al=true):∀p∈al,p.2%100000<20000∧∃v,SlU X a p.1 v∧AlU X w a p.2 v:=by
 intro p hp;have b:=List.all_eq_true.1 e p hp;simp only [Bool.and_eq_true,Nat.blt_eq] at b;obtain ⟨c,b⟩:=b
 cases h1:asc E p.1 with
 | none=>rw [h1] at b; cases b
 | some x =>
  cases h2:alV E L p.2 with
  | none=>rw [h1,h2] at b; simp [zyg] at b
  | some y =>
   rw [h1,h2] at b;obtain ⟨g,f⟩:=zOZ b;obtain ⟨v,k,a2⟩:=(d _ _ h1).u g;obtain ⟨u,i,j⟩:=zO0 M d f h2;have:=zOY b k i;subst this;exact ⟨c,v,a2,j⟩
theorem zO2 {l:Pl} {al:List (Nat × Nat)} {f:DP τ l.ts→Option ρ} (s:St X w0 h0 F E L nid a w) (e:zG3 X.G l al f E L=some r) :
  ∃p,f p=some r∧∀(K:zad τ→Hp τ→Nat→Option ρ),zDo X.G l al p K=some r→∃Q R d,K Q R d=some r∧St X w0 h0 F Q R d a w:=by
 unfold zG3 hi at e
 split at e
 ·rename_i p m n Z
  obtain ⟨c,e⟩:=zhi e;simp only [Bool.and_eq_true] at c;obtain ⟨⟨o,k⟩,C⟩:=c;refine ⟨p,e,fun K H=>?_⟩;obtain ⟨ν,h, φ,M,P,hn⟩:=s.st;obtain ⟨vs,ht,S⟩:=zKW M P (M.lend_le n) Z (fun b c=>zqJ c) o;have j:=M.fps_dis (zxt k);unfold zDo hi at H
  split at H
  rename_i E1 L1 n1 hp
  have M0:=M.none (M.lend_le n) (zv8 M.on) (fun b c=>by
   by_cases z:b∈fps φ n
   ·obtain ⟨i,_,hi⟩:=zeR.1 z;exact .inr (M.out i b hi).2
   ·rw [zkx z] at c; exact .inl c)
  have g:zhP w0 (zrX h w (fps φ n)) F (fun _=>[]) (fps φ m):=fun b c=>by
   obtain ⟨i,_,hi⟩:=zeR.1 c;refine ⟨(fun _ h=>by cases h),?_,(M.out i b hi).2⟩;rw [zkx (j b c)]; exact (M.out i b hi).1
  obtain ⟨_, ν', φ',A,N⟩:=zH7 (X:=X) rfl hp M0 ht S g (fun _ _ _=>rfl);have D:=A.mem;rw [List.append_nil] at D;refine ⟨_,_,_,H,s.nodef,s.size, ν',_, φ',D,(zH8 D N fun q T=>?_).app (zJV M0.gl fun _ _=>trivial),fun i hi=>?_⟩
  ·obtain ⟨B,v,O,a2⟩:=zO1 M P C q T;intro h2 ν2 φ2 x W J Y
   by_cases t:zke x=true
   ·exact zzA t
   ·obtain ⟨u,U,V⟩:=zO0 W J (by simpa using t) Y;have I:=V.one a2 B;subst I;exact ⟨u,U,fun h _=>O.1 h,O.2⟩
  ·cases e:ν' i with
   | none=>rfl
   | some y =>
    have:=A.fresh i rfl (by rw [e]; simp);omega
 ·cases e
theorem zKX {c:CV τ} (hc:evC E (.tmp t)=some c):asc E t=some (.c c):=by
 have hc:(match (bif Nat.blt t gh then asc E t else none) with
  | some (.c c)=>some c
  | _=>none)=some c:=hc
 cases b:Nat.blt t gh with
 | false=>rw [b] at hc; cases hc
 | true =>
  rw [b] at hc;dsimp only [cond_true] at hc
  split at hc
  ·rename_i d a
   cases hc;exact a
  ·cases hc
def exT:Ex→Exit
 | .no => .normal
 | .ex id => .exit id
 | .rt => .ret
def KOk (X:Cx τ) (w0:World) (h0:Fz) (F:List Nat) (K:Kx τ ρ) (Q:Exit→Act→World→Prop) (r:ρ):Prop:=∀e E L nid a w,K e E L nid=some r→St X w0 h0 F E L nid a w→Q (exT e) a w
theorem KOk.thn {K:Kx τ ρ} {Q:Exit→Act→World→Prop} {next:Act→World→Prop} {K0:zad τ→Hp τ→Nat→Option ρ} (hK:KOk X w0 h0 F K Q r) (h0':∀E L nid a w,K0 E L nid=some r→St X w0 h0 F E L nid a w→next a w) :
  KOk X w0 h0 F (fun e E L nid=>match e with
   | .no=>K0 E L nid
   | e=>K e E L nid) (Exit.then next Q) r:=by
 intro e E L nid a w he s
 cases e with
 | no=>exact h0' E L nid a w he s
 | ex id=>exact hK (.ex id) E L nid a w he s
 | rt=>exact hK .rt E L nid a w he s
def Hn.dep:Hn τ ρ→Nat
 | .q _ b=>b.dep+1
 | _=>0
theorem exX_ok (hm:X.P.follows .mixedOrders=true) {op:OpF τ ρ} (N:zwc X w0 h0 F op) (hN:X.n≤gh) (c:Code):∀(hn:Hn τ ρ) (K:Kx τ ρ) (Q:Exit→Act→World→Prop) (E:zad τ) (L:Hp τ) (nid:Nat) (a:Act) (w:World),
  exX op X c hn E L nid K=some r→hn.giv=zhR op X c hn K→KOk X w0 h0 F K Q r→St X w0 h0 F E L nid a w→c.wp X.P Q a w:=by
 induction c with
 | skip =>
  intro hn K Q E L nid a w e _ g s;exact wp_skip (g .no E L nid a w e s)
 | region id ops d =>
  intro hn K Q E L nid a w e _ g s;obtain ⟨l⟩:=ops
  cases d with
  | true=>exact zPR hm N hN (fun E L nid a w h s=>g .no E L nid a w h s) e s
  | false=>exact wp_region_list (zED N hN (fun E L nid a w h s=>g .no E L nid a w h s) e s)
 | seq x y H I =>
  intro hn K Q E L nid a w e z g s
  have two:∀(h1 h2:Hn τ ρ),exX op X x h1 E L nid (zKF op X y h2 K)=some r→h1.giv=zhR op X x h1 (zKF op X y h2 K)→h2.giv=zhR op X y h2 K→(Code.seq x y).wp X.P Q a w:=by
   intro h1 h2 e B A;refine wp_seq (H h1 _ _ E L nid a w e B (g.thn fun E L nid a w u s=>I h2 K Q E L nid a w u A g s) s)
  cases hn with
  | e=>exact two .e .e e rfl rfl
  | q h1 h2 =>
   have o:(h1.giv,h2.giv)=(zhR op X x h1 (zKF op X y h2 K),zhR op X y h2 K):=z
   injection o with B A
   exact two h1 h2 e B A
  | n k h1 =>
   cases k with
   | zero=>exact two .e .e e rfl rfl
   | succ k =>
    cases k with
    | zero=>exact two .e h1 e rfl z
    | succ k=>exact two .e (.n (k+1) h1) e rfl z
  | w l al f h1=>exact two .e .e e rfl rfl
  | j l al f h1 h2 =>
   have o:(f,h1.giv,h2.giv)=((fun t=>zDo X.G l al t fun E L nid=>exX op X y h2 E L nid K),zhR op X x h1 (zG4 X l al f K),zhR op X y h2 K):=z
   injection o with g0 g12
   injection g12 with B A
   refine wp_seq (H h1 (zG4 X l al f K) _ E L nid a w e B (g.thn fun E L nid a w u s=>?_) s);obtain ⟨p,hp,D⟩:=zO2 s u;have J:=congrFun g0 p;rw [hp] at J;obtain ⟨V,W,C,S,T⟩:=D _ J.symm;exact I h2 K Q V W C a w S A g T
 | cond c x y H I =>
  intro hn K Q E L nid a w e z g s
  have B:hn.fst.giv=zhR op X x hn.fst K:=by
   cases hn with
   | q h1 h2 =>
    have o:(h1.giv,h2.giv)=(zhR op X x h1 K,zhR op X y h2 K):=z
    injection o with B _
   | _=>rfl
  have A:hn.sn2.giv=zhR op X y hn.sn2 K:=by
   cases hn with
   | q h1 h2 =>
    have o:(h1.giv,h2.giv)=(zhR op X x h1 K,zhR op X y h2 K):=z
    injection o with _ A
   | _=>rfl
  obtain ⟨ν,h, φ,M,hE,hnn⟩:=s.st;obtain ⟨Ea,O,Y⟩:=zd4 a s.nodef;unfold exX at e
  split at e
  ·rename_i b hc
   obtain ⟨v,h1,h2⟩:=zB Y (hE.on _) hc;obtain rfl:v=_:=h2
   cases b with
   | true=>exact wp_cond_true (O.ev h1) (H hn.fst K Q E L nid a w e B g s)
   | false=>exact wp_cond_false (O.ev h1) (I hn.sn2 K Q E L nid a w e A g s)
  ·rename_i b hc
   obtain ⟨v,h1,h2⟩:=zB Y (hE.on _) hc;obtain rfl:v=_:=h2
   split at e
   ·rename_i t
    have Z:asc E t=some (.c (.b b)):=zKX hc
    cases b with
    | true =>
     rw [if_pos rfl] at e;exact wp_cond_true (O.ev h1) (H hn.fst K Q _ L nid a w e B g (s.ref ((Ref.refl E).known Z)))
    | false =>
     rw [if_neg (by simp)] at e;exact wp_cond_false (O.ev h1) (I hn.sn2 K Q _ L nid a w e A g (s.ref ((Ref.refl E).known Z)))
   ·cases e
  ·cases e
 | block id c R =>
  intro hn K Q E L nid a w e z g s;refine wp_block (R hn (blkK id K) _ E L nid a w e z (fun e E L nid a w u s=>?_) s)
  cases e with
  | no=>exact g .no E L nid a w u s
  | rt=>exact g .rt E L nid a w u s
  | ex i =>
   unfold blkK at u;simp only at u
   cases hb:Nat.beq i id with
   | true =>
    rw [hb] at u
    have:i=id:=by simpa using hb
    subst this;exact zDg (g .no E L nid a w u s)
   | false =>
    rw [hb] at u;exact zDh hb (g (.ex i) E L nid a w u s)
 | loop c R =>
  intro hn K Q E L nid a w e z g s
  cases hn with
  | w l al f h1 =>
   have o:((fun n t=>f (n+1) t),(fun t=>f 0 t),fun n=>(h1 n).giv)=((fun n t=>zDo X.G l al t fun E L nid=>exX op X c (h1 n) E L nid (zG4 X l al (f n) K)),(fun _=>none),fun n=>zhR op X c (h1 n) (zG4 X l al (f n) K)):=z
   injection o with g0 g12
   injection g12 with B A
   have key:∀(n:Nat) (a:Act) (w:World),(∃E L nid,zG3 X.G l al (f n) E L=some r∧St X w0 h0 F E L nid a w)→c.wp X.P (Exit.then (fun a' w'=>∃m,m<n∧∃E L nid,zG3 X.G l al (f m) E L=some r∧St X w0 h0 F E L nid a' w') Q) a w:=by
    rintro n a w ⟨E,L,nid,u,s⟩;obtain ⟨p,hp,D⟩:=zO2 s u
    cases n with
    | zero =>
     have:=congrFun B p;rw [hp] at this; cases this
    | succ n =>
     have J:=congrFun (congrFun g0 n) p;rw [hp] at J;obtain ⟨V,W,C,S,T⟩:=D _ J.symm;exact R (h1 n) (zG4 X l al (f n) K) _ V W C a w S (congrFun A n) (g.thn fun E L nid a w u s=>⟨n,Nat.lt_succ_self n,E,L,nid,u,s⟩) T
   exact zLp (fun n a w=>∃E L nid,zG3 X.G l al (f n) E L=some r∧St X w0 h0 F E L nid a w) key fuel ⟨E,L,nid,e,s⟩
  | e=>cases e
  | n k h1=>cases e
  | j l al f h1 h2=>cases e
  | q h1 h2 =>
   have key:∀(hn:Hn τ ρ) (E:zad τ) (L:Hp τ) (nid:Nat) (a:Act) (w:World),lpU (fun h E L nid K=>exX op X c h E L nid K) hn E L nid K=some r→hn.giv=lpR (fun h E L nid K=>exX op X c h E L nid K) (fun h K=>zhR op X c h K) hn K→St X w0 h0 F E L nid a w→Code.rounds X.P c Q hn.dep a w:=by
    intro hn
    induction hn with
    | q h1 h2 _ U =>
     intro E L nid a w e z s;have o:(h1.giv,h2.giv)=(zhR op X c h1 (lpK (fun h E L nid K=>exX op X c h E L nid K) h2 K),lpR (fun h E L nid K=>exX op X c h E L nid K) (fun h K=>zhR op X c h K) h2 K):=z
     injection o with B A
     exact R h1 (lpK (fun h E L nid K=>exX op X c h E L nid K) h2 K) _ E L nid a w e B (g.thn fun E L nid a w u s=>U E L nid a w u A s) s
    | _=>intro E L nid a w e; cases e
   exact wp_loop_rounds _ (key (.q h1 h2) E L nid a w e z s)
 | exit id =>
  intro hn K Q E L nid a w e _ g s;exact wp_exit (g (.ex id) E L nid a w e s)
 | ret =>
  intro hn K Q E L nid a w e _ g s;exact wp_ret (g .rt E L nid a w e s)
 | rangeFunc _ _ _ _ _ _=>intro hn K Q E L nid a w e; cases e
 | scope _ _=>intro hn K Q E L nid a w e; cases e
 | label _=>intro hn K Q E L nid a w e; cases e
 | goto _=>intro hn K Q E L nid a w e; cases e
 | refuse _=>intro hn K Q E L nid a w e; cases e
end
end Go.Rk
end
section
namespace Go.Rk
open Go.RowKit Go.Dm Go.Dk
variable {τ:Nat→Type}
section
variable {ρ:Type} {X:Cx τ} {w0 w w':World} {h0 h h' H:Fz} {F:List Nat} {E E' Eb:zad τ} {L L2:Hp τ} {ν ν':Vn τ} {φ φ':Nat→List Nat} {nid nid':Nat} {a:Act}
theorem zGF {P:Program} {α:Type} {f:α→Sem Value}:∀{l:List α} {vs:List Value},l.length=vs.length→(∀(i:Nat) x v,l[i]? = some x→vs[i]? = some v→(f x).run P w = .ok v w)→(l.mapM f).run P w = .ok vs w
 | [],[],_,_=>by simp
 | x::l,v::vs,c,h=>by
  have h1:=h 0 x v rfl rfl;have h2:=zGF (f:=f) (l:=l) (vs:=vs) (by simpa using c) fun i x v a b=>h (i+1) x v (by simpa using a) (by simpa using b);simp [List.mapM_cons,h1,h2,Result.andThen]
 | [],_::_,h,_=>by simp at h
 | _::_,[],h,_=>by simp at h
def rv1 (tmps:Array Value):ResultVar→Sem Value
 | .tmp t=>pure (tmps.getD t undef)
 | .cell a t=>do loadVar t (← asAddr (tmps.getD a undef))
theorem zIP (fn:Func) (tmps:Array Value):results fn tmps=(do
  let vs ← fn.results.mapM (rv1 tmps)
  pure (if h:vs.size=1 then vs[0] else .tuple vs)):=by
 unfold results
 have:(fun x=>match x with
  | ResultVar.tmp t=>pure (tmps.getD t undef)
  | ResultVar.cell a t=>do loadVar t (← asAddr (tmps.getD a undef)))=rv1 tmps:=funext fun x=>by cases x<;>rfl
 rw [← this];rfl
theorem zyc {fn:Func} {rv:List ResultVar} {tmps:Array Value} {vs:List Value} (c:fn.results=⟨rv⟩) (b:rv.length=vs.length) (h:∀(i:Nat) x v,rv[i]? = some x→vs[i]? = some v→(rv1 tmps x).run X.P w = .ok v w):(results fn tmps).run X.P w = .ok (zz5 vs) w:=by
 have h1:=zGF (P:=X.P) (w:=w) b h
 have h2:(fn.results.mapM (rv1 tmps)).run X.P w = .ok vs.toArray w:=by
  rw [c];simp [h1,Result.andThen]
 have a:∀u:List Value,(if h:u.toArray.size=1 then u.toArray[0] else Value.tuple u.toArray)=zz5 u:=by
  intro u
  match u with
  | []=>rfl
  | [v]=>rfl
  | v::d::u=>rfl
 rw [zIP,Sem.run_bind,h2];simp only [Result.andThen_ok,Sem.run_pure,a]
theorem zzs (M:Mem X.P X.G w0 h0 F L w ν h φ) (I:zcs X h ν a E):∀{rv:List ResultVar} {xs:List (XV τ)},zsV X E L rv=some xs→(∀y∈xs,zke y=false)→∃vs:List Value,rv.length=vs.length∧vs.length=xs.length∧(∀(i:Nat) x v,rv[i]? = some x→vs[i]? = some v→(rv1 a.tmps x).run X.P w = .ok v w)∧∀(i:Nat) A v,xs[i]? = some A→vs[i]? = some v→XOk X.P X.G h ν A v
 | [],xs,e,_=>by cases e; exact ⟨[],rfl,rfl,(fun i x v h=>by simp at h),fun i A v h=>by simp at h⟩
 | .tmp t::rv,xs,e,g=>by
  unfold zsV at e;obtain ⟨m,e⟩:=zhi e
  split at e
  ·rename_i A Q
   split at e
   ·rename_i As C
    cases e;obtain ⟨vs,h1,h2,J,N⟩:=zzs M I C fun y O=>g y (List.mem_cons_of_mem _ O);obtain ⟨v,S,s,_⟩:=I t A Q;have s:=s m (g A (List.mem_cons_self ..));refine ⟨v::vs,by simp [h1],by simp [h2],fun i x u z f=>?_,fun i B u p f=>?_⟩
    ·cases i with
     | zero =>
      simp at z f;subst z; subst f;simp [rv1,Array.getD_eq_getD_getElem?,s]
     | succ i=>exact J i x u (by simpa using z) (by simpa using f)
    ·cases i with
     | zero=>simp at p f; subst p; subst f; exact S
     | succ i=>exact N i B u (by simpa using p) (by simpa using f)
   ·cases e
  ·cases e
 | .cell t ty::rv,xs,e,g=>by
  unfold zsV at e;obtain ⟨m,e⟩:=zhi e
  split at e
  ·rename_i id Q
   split at e
   ·rename_i bt cs hl
    split at e
    ·rename_i n hn
     split at e
     ·rename_i A d
      split at e
      ·rename_i As C
       cases e;obtain ⟨vs,h1,h2,J,N⟩:=zzs M I C fun y O=>g y (List.mem_cons_of_mem _ O);obtain ⟨pv,S,s,_⟩:=I t _ Q;have s:=s m rfl;obtain ⟨b,q,us,hν,rfl,_,hh,R,V⟩:=zEk M S hl
       have T:∃u,(loadVar ty ⟨b,0,none⟩).run X.P w = .ok u w∧XOk X.P X.G h ν A u:=by
        unfold zG1 at d
        split at d
        ·rename_i l k
         obtain ⟨H,U⟩:=R.cut k;have D:=zAh k
         split at d
         ·rename_i r
          cases d;refine ⟨_,zvE (zxk r) (zf4 hn) (vs:=(us.drop 0).take n) (by rw [H.len,D]) (fun j v Y=>?_),_,rfl,H⟩;have:=V.cells (o:=0) (n:=n) rfl j v Y;simpa using this
         ·rename_i r
          split at d
          ·rename_i c
           cases d;obtain ⟨u,W,Z,k4,_⟩:=H;refine ⟨u,zvD (zxk r) (V.cell (o:=0) ?_),k4⟩
           have:((us.drop 0).take n)[0]? = some u:=by rw [Z]; rfl
           rw [List.getElem?_take] at this
           split at this
           ·simpa using this
           ·cases this
          ·cases d
         ·cases d
        ·cases d
       obtain ⟨u,H,U⟩:=T;refine ⟨u::vs,by simp [h1],by simp [h2],fun i x K z f=>?_,fun i B K p f=>?_⟩
       ·cases i with
        | zero =>
         simp at z f;subst z; subst f;simp [rv1,Array.getD_eq_getD_getElem?,s,asAddr,H,Result.andThen]
        | succ i=>exact J i x K (by simpa using z) (by simpa using f)
       ·cases i with
        | zero=>simp at p f; subst p; subst f; exact U
        | succ i=>exact N i B K (by simpa using p) (by simpa using f)
      ·cases e
     ·cases e
    ·cases e
   ·cases e
  ·cases e
theorem zGG (k:zcs X h ν a E):∀{b:List Nat} {xs:List (XV τ)},zDp E b=some xs→xs.length=b.length∧∀(i:Nat) A v,xs[i]? = some A→(b.map X.fx)[i]? = some v→XOk X.P X.G h ν A v
 | [],xs,e=>by cases e; exact ⟨rfl,fun i A v h=>by simp at h⟩
 | j :: b,xs,e=>by
  unfold zDp at e;obtain ⟨c,e⟩:=zhi e
  split at e
  ·rename_i A l
   split at e
   ·rename_i q f
    cases e;obtain ⟨h1,h2⟩:=zGG k f;obtain ⟨v,p,_,_,o⟩:=k _ A l
    have m:j<gh:=by simpa using c
    have n:v=X.fx j:=by
     have:=o (Nat.le_add_right ..) (by unfold gh at m ⊢; omega)
     rwa [Nat.add_sub_cancel_left] at this
    subst n;refine ⟨by simp [h1],fun i B u g d=>?_⟩
    cases i with
    | zero=>simp at g d; subst g; subst d; exact p
    | succ i=>exact h2 i B u (by simpa using g) (by simpa using d)
   ·cases e
  ·cases e
theorem zGH:∀{ts:List Ty} {p:DP τ ts} {i0:Nat} {nid:Nat} {E:zad τ} {L:Hp τ} {c:Nat} {vs:List Value} {fp:List Nat} {L0:Hp τ} {ν:Vn τ} {φ:Nat→List Nat},zDq X.G i0 ts p nid=(E,L,c)→Mem X.P X.G w0 h0 F L0 w ν h φ→TrXs X.P X.G h w ts p vs fp→(∀(j:Nat) v,vs[j]? = some v→a.tmps[i0+j]? = some v) →
  i0+ts.length≤gh→zhP w0 h F φ fp→(∀i,nid≤i→i<c→ν i=none)→nid≤c∧(∃ν' φ',Adds X.P X.G w0 h0 F L0 w ν h φ L nid c fp ν' φ'∧zcs X h ν' a E)∧∀t x,asc E t=some x→i0≤t∧t<i0+ts.length
 | [],p,i0,nid,E,L,c,vs,fp,L0, ν, φ,e,M,o,l,g,m,hn=>by
  cases e;exact ⟨Nat.le_refl _,⟨ν, φ,(Grew.nil M _ _).adds,fun t x e=>by cases e⟩,fun t x e=>by cases e⟩
 | ty::ts,p,i0,nid,E,L,c,vs,fp,L0, ν, φ,e,M,o,l,g,m,hn=>by
  unfold zDq at e
  split at e
  rename_i A U n h1
  split at e
  rename_i D s q h2
  cases e;simp only [List.length_cons] at g
  cases o with
  | cons _ _ _ v us f f' u t2 hd =>
   have H:=zvU h1;have k:n≤c:=packP_le h2;obtain ⟨_,⟨ν1, φ1,A1,B⟩,z⟩:=zGH h2 M t2 (fun j v r=>by have:=l (j+1) v (by simpa using r); rwa [show i0+(j+1)=i0+1+j by omega] at this) (by omega) (m.sub fun b d=>List.mem_append_right _ d) (fun i a b=>hn i (by omega) b)
   obtain ⟨ν2, φ2,A2,C⟩:=zzq A1.mem h1 u (fun i a b=>by
    cases e:ν1 i with
    | none=>rfl
    | some y =>
     have:=A1.fresh i (hn i a (by omega)) (by rw [e]; simp)
     omega) (zhP.adds A1 (m.sub fun b d=>List.mem_append_left _ d) hd)
   refine ⟨by omega,⟨ν2, φ2,Adds.seq A1 A2 H k,fun t' x e=>?_⟩,fun t' x e=>?_⟩
   ·simp only [zdG,zcl] at e
    cases d:Nat.beq i0 t' with
    | true =>
     rw [d] at e;cases e
     have:i0=t':=by simpa using d
     subst this;refine ⟨v,C,fun _ _=>?_,fun h=>?_,fun h=>?_⟩
     ·have:=l 0 v rfl; rwa [Nat.add_zero] at this
     ·exfalso; unfold gb at h; unfold gh at g; omega
     ·exfalso; omega
    | false =>
     rw [d] at e;exact (B t' x e).le (Fz.le.refl _) A2.le
   ·simp only [zdG,zcl] at e;simp only [List.length_cons]
    cases d:Nat.beq i0 t' with
    | true =>
     have:i0=t':=by simpa using d
     omega
    | false =>
     rw [d] at e;have:=z t' x e;omega
where
 packP_le:∀{ts:List Ty} {p:DP τ ts} {i0 nid:Nat} {E:zad τ} {L:Hp τ} {c:Nat},zDq X.G i0 ts p nid=(E,L,c)→nid≤c
 | [],p,i0,nid,E,L,c,e=>by cases e; exact Nat.le_refl _
 | ty::ts,p,i0,nid,E,L,c,e=>by
  unfold zDq at e
  split at e
  rename_i A U n h1
  split at e
  rename_i D s q h2
  cases e;exact Nat.le_trans (zvU h1) (packP_le h2)
theorem TrXs.len {P:Program} {G:Sig τ}:∀{ts:List Ty} {q:DP τ ts} {vs:List Value} {fp:List Nat},TrXs P G h w ts q vs fp→vs.length=ts.length
 | _,_,_,_,.nil=>rfl
 | _,_,_,_,.cons _ _ _ _ _ _ _ _ h2 _=>by simp [h2.len]
theorem zGI {G:Sig τ}:∀{ts:List Ty} {b:List (XV τ)} {q:DP τ ts × List Nat × List Nat},zsR G L ts b=some q→(∀t∈ts, ∀x y,t ≠ .pr x y)→∀y∈b,zke y=false
 | [],[],_,_,_,y,a=>by cases a
 | t::ts,A::b,q,e,hp,y,a=>by
  unfold zsR at e
  split at e
  ·rename_i x l m c
   split at e
   ·rename_i g d
    rcases List.mem_cons.1 a with rfl|a
    ·exact zKV c (hp t (List.mem_cons_self ..))
    ·exact zGI d (fun t f=>hp t (List.mem_cons_of_mem _ f)) y a
   ·cases e
  ·cases e
 | [],_::_,_,e,_,_,_=>by cases e
 | _::_,[],_,e,_,_,_=>by cases e
theorem zAc {vs:List Value} {X:Cx τ} {a:Act} {E:zad τ} {h:Fz} {ν:Vn τ} (d:zcs (X.w (bkV vs)) h ν a E) (b:∀(j:Nat) x,asc E j=some x→zke x=false→XOk X.P X.G h ν x (vs.getD j undef)):∀{i:List Nat},zcs (X.w (bkV vs)) h ν a (gho E i)
 | []=>fun t x e=>by cases e
 | j :: i=>by
  unfold gho
  split
  ·rename_i v f
   split
   ·rename_i c hc
    cases hb:Nat.blt j gh with
    | false=>exact zAc d b
    | true =>
     intro t x e;simp only [cond_true,zdG,zcl] at e
     cases g:Nat.beq (gh+j) t with
     | false=>rw [g] at e; exact zAc d b t x e
     | true =>
      rw [g] at e;cases e
      have:gh+j=t:=by simpa using g
      subst this
      have k:j<gh:=by simpa using hb
      have m:zke v=false:=by
       cases v with
       | gv t x=>cases l:j/32<;>rw [l] at hc<;>cases hc
       | _=>rfl
      refine ⟨bkV vs j,zvV (b _ _ f m) hc,fun h=>?_,fun h=>?_,fun _ _=>?_⟩
      ·exfalso; rw [Nat.blt_eq] at h; omega
      ·exfalso; unfold gb gh at *; omega
      ·show _=bkV vs (gh+j-gh); rw [Nat.add_sub_cancel_left]
   ·exact zAc d b
  ·exact zAc d b
def noPr:Ty→Bool
 | .pr _ _=>false
 | _=>true
structure FnOkk (X:Cx τ) (f:FuncId) (fn:Func) (c:Code) (rv:List ResultVar) (k:Con τ):Prop where
 at_:X.P.funcs[f]? = some fn
 body:fn.body=some c
 name:(fn.name == "runtime.NumGoroutine")=false
 size:fn.ntmps=X.n
 small:X.n≤gh
 pars:k.ps.length≤X.n
 rs:fn.results=⟨rv⟩
 pr:k.rs.all noPr=true
theorem zPZ {f:FuncId} {fn:Func} {c:Code} {rv:List ResultVar} {k:Con τ} {hn:Hn τ (DP τ k.rs)} {op:(Nat→Value)→OpF τ (DP τ k.rs)} (hm:X.P.follows .mixedOrders=true) (hop:∀fx w0 h0 F,zwc (X.w fx) w0 h0 F (op fx)) (d:FnOkk X f fn c rv k) (hF:zt8 X k c rv hn op):COk X.P X.G f k:=by
 refine ⟨⟨fn,d.at_,by rw [d.body]; rfl,d.name⟩,fun h w p r vs fp N Z hon B C hr=>?_⟩;refine calls_of_wp d.at_ d.body ?_;have J:=congrFun hF (bkV vs)
 injection J with K f2
 have K:=congrFun K p;rw [hr] at K;unfold entX at K
 split at K
 rename_i E0 L0 n0 hp
 have hlen:=B.len
 have M0:Mem (X.w (bkV vs)).P (X.w (bkV vs)).G w h fp [] w (fun _=>none) h (fun _=>[]) :=
  ⟨rfl,rfl,rfl,Nat.le_refl _,fun _ _ _=>rfl,Fz.le.refl _,hon,fun b g => .inl g,fun _=>rfl,(fun _ _ _ h=>by cases h),(fun _ _ h=>by cases h),N,Z⟩
 have Q:∀(j:Nat) v,vs[j]? = some v→(vs.toArray++Array.replicate (fn.ntmps-vs.toArray.size) undef)[0+j]? = some v:=by
  intro j v hj;rw [Nat.zero_add,Array.getElem?_append_left (by simpa using (List.getElem?_eq_some_iff.1 hj).1)];simpa using hj
 obtain ⟨_,⟨ν', φ',A,H⟩,hk⟩:=zGH (X:=X.w (bkV vs)) (a:=⟨vs.toArray++Array.replicate (fn.ntmps-vs.toArray.size) undef,[]⟩) hp M0 B Q (by have:=d.pars; have:=d.small; simp only [Nat.zero_add]; exact Nat.le_trans d.pars d.small) (fun b g=>⟨(fun _ h=>by cases h),C b g,.inl g⟩) (fun _ _ _=>rfl)
 have hsz:(vs.toArray++Array.replicate (fn.ntmps-vs.toArray.size) undef).size=X.n:=by
  have:=d.pars;have:=d.size
  simp; omega
 have hS:St (X.w (bkV vs)) w h fp ((gho E0 k.bk++E0)++glE X.G.gl) L0 n0 ⟨vs.toArray++Array.replicate (fn.ntmps-vs.toArray.size) undef,[]⟩ w:=by
  refine ⟨rfl,hsz, ν',h, φ',by have:=A.mem; rwa [List.append_nil] at this,((zAc H fun j x hx hg=>?_).app H).app (zJV N fun _ _=>trivial),fun i hi=>?_⟩
  ·obtain ⟨v,Y,b2,_⟩:=H j x hx;have hj:=hk j x hx
   have W:j<gh:=by have:=d.pars; have:=d.small; omega
   have D:=b2 (by rw [Nat.blt_eq]; exact W) hg
   have T:j<vs.length:=by omega
   have h3:=Q j _ (List.getElem?_eq_getElem T);rw [Nat.zero_add] at h3;rw [h3] at D;cases D;rw [List.getD_eq_getElem?_getD,List.getElem?_eq_getElem T];exact Y
  ·cases e:ν' i with
   | none=>rfl
   | some y =>
    have:=A.fresh i rfl (by rw [e]; simp);omega
 refine exX_ok (X:=X.w (bkV vs)) (w0:=w) (h0:=h) (F:=fp) hm (hop _ _ _ _) d.small c hn _ (bodyPost X.P fn _) _ L0 n0 _ w K.symm f2 ?_ hS
 intro e E L nid a w' u s
 have key:∀{xs I:List (XV τ)} {l m:List Nat},zsV (X.w (bkV vs)) E L rv=some xs→zDp E k.bk=some I→zsR X.G L k.rs (xs++I)=some (r,l,m)→(Nat.beq xs.length k.nr&&(nod l&&zy0 l m))=true →
   a.defers=[]∧∃v,(results fn a.tmps).run X.P w' = .ok v w'∧∃h' rs fp',Ending.returned v = .returned (zz5 (rs.take k.nr))∧Left h w fp h' w' fp'∧TrXs X.P X.G h' w' k.rs r rs fp'∧rs.drop k.nr=k.bk.map (bkV vs):=by
  intro xs I l m ho g o z;simp only [Bool.and_eq_true,Nat.beq_eq] at z;obtain ⟨hnr,O,U⟩:=z;obtain ⟨ν,h1, φ,M,hE,_⟩:=s.st
  have hgv:=zGI o fun t ht x y e=>by
   have:=List.all_eq_true.1 d.pr t ht;rw [e] at this; cases this
  obtain ⟨vals,o1,o2,o3,o4⟩:=zzs M hE ho fun y hy=>hgv y (List.mem_append_left _ hy);obtain ⟨Y,b2⟩:=zGG hE g
  have S:∀(i:Nat) (A:XV τ) (v:Value),(xs++I)[i]? = some A→(vals++k.bk.map (bkV vs))[i]? = some v→XOk X.P X.G h1 ν A v:=by
   intro i A v V D
   by_cases hi:i<xs.length
   ·rw [List.getElem?_append_left hi] at V;rw [List.getElem?_append_left (by omega)] at D;exact o4 i A v V D
   ·rw [List.getElem?_append_right (by omega)] at V;rw [List.getElem?_append_right (by omega),o2] at D;exact b2 _ A v V D
  have B:=zz6 (L:=L) M (M.lend_le m) o (fun _ _=>rfl) (M.look fun _ _=>rfl) O (by simp [o2,Y]) S;refine ⟨s.nodef,zz5 vals,zyc (X:=X) d.rs o1 o3,zrX h1 w' (fps φ m),_,fps φ l,?_,⟨M.os,M.tape,M.output,M.size,M.frame,M.le.trans (M.lend_le m),zv8 M.on,fun b g=>?_,fun b g=>?_⟩,B,?_⟩
  ·rw [List.take_append_of_le_length (by omega),List.take_of_length_le (by omega)]
  ·by_cases R:b∈fps φ m
   ·obtain ⟨i,_,hi⟩:=zeR.1 R;exact .inr (M.out i b hi).2
   ·rw [zkx R] at g; exact M.new b g
  ·obtain ⟨i,_,hi⟩:=zeR.1 g;rw [zkx (M.fps_dis (zxt U) b g)];exact M.out i b hi
  ·rw [List.drop_append,List.drop_eq_nil_of_le (by omega),List.nil_append,show k.nr-vals.length=0 by omega,List.drop_zero]
 have fin:(match zsV (X.w (bkV vs)) E L rv with
  | some vs=>match zDp E k.bk with
   | some I=>match zsR X.G L k.rs (vs++I) with
    | some (p,l,m)=>bc (Nat.beq vs.length k.nr&&(nod l&&zy0 l m)) (some p) none
    | none=>none
   | none=>none
  | none=>none)=some r→a.defers=[]∧∃v,(results fn a.tmps).run X.P w' = .ok v w'∧∃h' rs fp',Ending.returned v = .returned (zz5 (rs.take k.nr))∧Left h w fp h' w' fp'∧TrXs X.P X.G h' w' k.rs r rs fp'∧rs.drop k.nr=k.bk.map (bkV vs):=by
  intro u
  split at u
  ·rename_i xs ho
   split at u
   ·rename_i I g
    split at u
    ·rename_i q l m o
     obtain ⟨z,u⟩:=zhi u;cases u;exact key ho g o z
    ·cases u
   ·cases u
  ·cases u
 cases e with
 | ex id=>cases u
 | no=>exact fin u
 | rt=>exact fin u
end
end Go.Rk
end
