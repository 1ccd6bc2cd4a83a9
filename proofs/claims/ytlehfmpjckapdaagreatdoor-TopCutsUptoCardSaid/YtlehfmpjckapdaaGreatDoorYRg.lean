/- Walks by evaluation: operations put together. Over any program. Walks by evaluation: calls. Over any program. Walks by e -/
import Derived.Test.YtlehfmpjckapdaaGreatDoorYRw
set_option linter.unusedVariables false
set_option linter.unusedSimpArgs false
section
namespace Go.Rk
open Go.RowKit Go.Dm Go.Dk
variable {τ:Nat→Type}
variable {ids:List Nat} {lo hi:Option Operand} {e:Ty} {l:Str}
section
variable {ρ:Type} {X:Cx τ} {w0 w w':World} {h0 h H:Fz} {F:List Nat} {o:Oper} {E:zad τ} {L L2:Hp τ} {ν ν':Vn τ} {φ φ':Nat→List Nat} {nid nid':Nat} {K:Nx τ ρ} {r:ρ} {v:XV τ} {U:Hp τ} {tch:List Nat} {g:List (XV τ)}
variable {a:Act} {x y z:Operand} {t' t ty u':Nat} {dst:Option Nat} {p:String} {af:Array Edge} {gd:Option (Nat × Bool)}
theorem zuR {a:TypeId} (k:szE X a e=true):szO X.P a=some (ets X.G e).length∧0<(ets X.G e).length:=by
 unfold szE at k
 split at k
 ·rename_i n hn
  simp only [Bool.and_eq_true,Nat.beq_eq,Nat.blt_eq] at k;obtain ⟨rfl,h⟩:=k;exact ⟨hn,h⟩
 ·cases k
theorem zg0 {α:Type} {b:Bool} {x:Option α} {r:α} (e:bc b x none=some r):b=true∧x=some r:=by
 cases b with
 | false=>cases e
 | true=>exact ⟨rfl,e⟩
theorem bc_f {α:Type} {b:Bool} {x:Option α} {r:α} (e:bc b none x=some r):b=false∧x=some r:=by
 cases b with
 | false=>exact ⟨rfl,e⟩
 | true=>cases e
theorem zuS {te:Nat} {c:CV τ} {l s:List (e.den τ)} (hu:X.P.underlying t'=some (.slice te)) (hx:evC E x=some c) (hs:zJD L c=some ⟨e,l,U,ids⟩) (hsz:szO X.P te=some (ets X.G e).length) (i j:Nat) (hij:i≤j) (hj:j≤l.length) (hsub:s=(l.take j).drop i)
  (hlo:∀{a:Act} {Ea:Env} {N:Nat} {L2:Hp τ} {ν h φ} {w:World} {ad:Option Addr} {n cp:Nat},Fits N Ea a→(∀t,Dk.look Ea t=a.tmps[t]?)→zeL X h ν a (rdO (.slice t' x lo hi none)) E→evl Ea x=some (.slice ad n cp)→Mem X.P X.G w0 h0 F L2 w ν h φ→n=l.length→l.length≤cp →
   (execOp a.eval ⟨dst,.slice t' x lo hi none,t,p,af,gd⟩).run X.P w = .ok (.value (.slice (if cp=i then ad else ad.map (·.add (i*(ets X.G e).length))) (j-i) (cp-i))) w)
  (k:K (.c (.sl e s)) [] U ids nid=some r):zdD X w0 h0 F ⟨dst,.slice t' x lo hi none,t,p,af,gd⟩ E L nid K r:=by
 refine ⟨_,_,_,_,_,k,Nat.le_refl _,(fun _ h=>by cases h),fun L2 ν h φ a w next Q hd M hE ha hn k=>?_⟩;obtain ⟨Ea,hf,hl'⟩:=zef a hd;obtain ⟨vx,h1,h2⟩:=zB hl' (hE.op (by simp [Op.operands])) hx;obtain ⟨h', φ',M',hle,hrp⟩:=sli_ok M hs ha h2
 have hform:∃ad n cp,vx = .slice ad n cp:=by cases hrp; exact ⟨_,_,_,rfl⟩
 obtain ⟨ad,n,cp,rfl⟩:=hform;obtain ⟨hn1,hn2,hsub'⟩:=zLZ hrp hij hj;have hexec:=hlo hf hl' hE h1 M hn1 hn2;subst hsub;exact zgm hexec (k ν h' φ' w _ M' (Vn.le.refl _) hle (zdM.refl _ _ _) hsub')
theorem slice3 {m:Nat} {c:CV τ} {l s:List (e.den τ)} {i j:Int} (f:X.P.underlying t'=some (.slice m)) (v:evC E x=some c) (A:zJD L c=some ⟨e,l,U,ids⟩) (b:szO X.P m=some (ets X.G e).length) (J:evC E y=some (.i i)) (R:evC E z=some (.i j)) (d:zD3 l i j=some s)
  (k:K (.c (.sl e s)) [] U ids nid=some r):zdD X w0 h0 F ⟨dst,.slice t' x (some y) (some z) none,t,p,af,gd⟩ E L nid K r:=by
 unfold zD3 at d
 split at d
 ·rename_i W
  cases d
  have I:(i.toNat:Int)=i:=by omega
  have S:(j.toNat:Int)=j:=by omega
  refine zuS f v A b i.toNat j.toNat (by omega) (by omega) rfl (fun {a T N V ν h φ w ad n u} C o q g M hn H=>?_) k;obtain ⟨Q,h1,h2⟩:=zB o (q.op (by simp [Op.operands])) J;obtain ⟨B,D,O⟩:=zB o (q.op (by simp [Op.operands])) R;obtain rfl:Q=_:=h2;obtain rfl:B=_:=O;refine zx5 f (fun w=>?_) C g h1 D;have:=(zlM (w:=w) (ad:=ad) f (zgp b) (show i.toNat≤j.toNat by omega) (show j.toNat≤n by omega) (show n≤u by omega)).1
  rwa [I,S] at this
 ·cases d
theorem slice1 {j:Nat} {c:CV τ} {l s:List (e.den τ)} {i:Int} (f:X.P.underlying t'=some (.slice j)) (o:evC E x=some c) (q:zJD L c=some ⟨e,l,U,ids⟩) (b:szO X.P j=some (ets X.G e).length) (B:evC E y=some (.i i)) (d:zoc l i=some s)
  (k:K (.c (.sl e s)) [] U ids nid=some r):zdD X w0 h0 F ⟨dst,.slice t' x (some y) none none,t,p,af,gd⟩ E L nid K r:=by
 unfold zoc at d
 split at d
 ·rename_i J
  cases d
  have z:(i.toNat:Int)=i:=by omega
  refine zuS f o q b i.toNat l.length (by omega) (Nat.le_refl _) (by rw [List.take_length]) (fun {a H N I ν h φ w ad n m} u A D g M hn v=>?_) k;obtain ⟨C,h1,h2⟩:=zB A (D.op (by simp [Op.operands])) B;obtain rfl:C=_:=h2;refine zvT f (fun w=>?_) u g h1;have:=(zlM (w:=w) (ad:=ad) f (zgp b) (show i.toNat≤l.length by omega) (show l.length≤n by omega) (show n≤m by omega)).2.2 hn.symm
  rwa [z] at this
 ·cases d
theorem slice2 {m:Nat} {c:CV τ} {l s:List (e.den τ)} {j:Int} (f:X.P.underlying t'=some (.slice m)) (q:evC E x=some c) (u:zJD L c=some ⟨e,l,U,ids⟩) (b:szO X.P m=some (ets X.G e).length) (I:evC E z=some (.i j)) (d:lTo l j=some s)
  (k:K (.c (.sl e s)) [] U ids nid=some r):zdD X w0 h0 F ⟨dst,.slice t' x none (some z) none,t,p,af,gd⟩ E L nid K r:=by
 unfold lTo at d
 split at d
 ·rename_i R
  cases d
  have J:(j.toNat:Int)=j:=by omega
  refine zuS f q u b 0 j.toNat (by omega) (by omega) rfl (fun {a O N Q ν h φ w ad n o} v C H g M hn B=>?_) k;obtain ⟨y,A,D⟩:=zB C (H.op (by simp [Op.operands])) I;obtain rfl:y=_:=D;refine zzY f (fun w=>?_) v g A;have:=(zlM (w:=w) (ad:=ad) f (zgp b) (show 0≤j.toNat by omega) (show j.toNat≤n by omega) (show n≤o by omega)).2.1 rfl
  rwa [J] at this
 ·cases d
theorem Mem.drew (M:Mem X.P X.G w0 h0 F L w ν h φ):Mem X.P X.G w0 h0 F L w.drew ν h φ:=M.grow ⟨rfl,rfl,rfl,Nat.le_refl _,fun _ _=>rfl⟩
theorem Mem.newFz (M:Mem X.P X.G w0 h0 F L w ν h φ) (o:Obj):Mem X.P X.G w0 h0 F L (w.alloc o) ν (fun b=>if b=w.heap.size then some o else h b) φ∧h.le (fun b=>if b=w.heap.size then some o else h b):=by
 have a:h.le (fun b=>if b=w.heap.size then some o else h b):=by
  intro b o' e;have:=M.in_lt (b:=b) (by rw [e]; simp);show (if b=w.heap.size then some o else h b)=_;rw [if_neg (by omega)]; exact e
 refine ⟨?_,a⟩;refine M.upd [] (fun _ _=>rfl) (fun _ _=>rfl) (Vn.le.refl _) a rfl rfl rfl (by simp) (fun b c _=>zKT o c) (fun b o' h1 h2=>?_) (fun b h1 h2=>?_) (fun i hi=>by cases hi) (fun i hi=>by cases hi) (fun i hi=>by cases hi)
 ·split at h2
  ·rename_i e
   cases h2;subst e;exact zkx _
  ·rw [h1] at h2; cases h2
 ·split at h2
  ·rename_i e; subst e; exact .inr (Nat.le_refl _)
  ·exact (h2 h1).elim
theorem zMf {te:Nat} (hx:evC E x=some (.s l)) (hs:X.P.underlying ty=some .string) (hd':X.P.underlying t'=some (.slice te)) (he:X.P.underlying te=some (.int .u8)) (k:K (.c (.sl .u8 l)) [] [] [] nid=some r) :
  zdD X w0 h0 F ⟨dst,.convert ty t' x,t,p,af,gd⟩ E L nid K r:=by
 refine ⟨_,_,_,_,_,k,Nat.le_refl _,(fun _ h=>by cases h),fun L2 ν h φ a w next Q hd M hE ha hn k=>?_⟩;obtain ⟨Ea,hf,hl'⟩:=zef a hd;obtain ⟨vx,h1,h2⟩:=zB hl' (hE.op (by simp [Op.operands])) hx;obtain rfl:vx=_:=h2;have hr:=run_bytes_of_string (P:=X.P) w ty t' te ⟨l.toArray⟩ hs hd' he;have hsz:(⟨l.toArray⟩:ByteArray).size=l.length:=rfl;rw [hsz] at hr;generalize hc:grownCap w l.length 0 te=c at hr
 have hcl:l.length≤c:=by rw [← hc]; exact grownCap_ge _ _ _ _
 obtain ⟨M1,hle⟩:=M.drew.newFz (.cells (bytesRow ⟨l.toArray⟩ c) te ((bytesRow ⟨l.toArray⟩ c).size,(bytesRow ⟨l.toArray⟩ c).size+1));refine zgm (u := .slice (some ⟨w.drew.heap.size,0,none⟩) l.length c) (by simp only [execOp]; rw [hf.ev h1]; simp only [Sem.run_bind,hr,Result.andThen_ok,Sem.run_pure]; rfl) (k ν _ φ _ _ M1 (Vn.le.refl _) hle (zdM.refl _ _ _) ?_);refine .sl .u8 l _ c (cells (fun b=>[zcs b]) l) hcl (.inr ⟨w.drew.heap.size,0,_,te,_,rfl,if_pos rfl,fun i v hv=>?_⟩) (zAS rfl)
 have hce:∀m:Str,cells (fun b=>[zcs b]) m=m.map zcs:=fun m=>by
  unfold cells
  induction m with
  | nil=>rfl
  | cons x m ih=>rw [List.flatMap_cons,ih]; rfl
 rw [hce,List.getElem?_map] at hv;obtain ⟨x,hx1,hx2⟩:=Option.map_eq_some_iff.1 hv;have hil:i<l.length:=(List.getElem?_eq_some_iff.1 hx1).1;rw [Nat.zero_add];unfold bytesRow;rw [Array.getElem?_append_left (by simpa using hil),Array.getElem?_map]
 have:(⟨l.toArray⟩:ByteArray).data[i]? = some x:=by simpa using hx1
 rw [this, ← hx2];rfl
theorem zMg:∀{l:List UInt8} {vs:List Value},RpR X.P X.G h .u8 l vs→vs=cells (fun b=>[zcs b]) l
 | [],vs,e=>by cases e; rfl
 | b::l,_,.cons _ _ _ us f h1 h2=>by
  have d:=zMg h2
  cases h1 with
  | cons _ _ _ v vs c a =>
   cases a;cases c;rw [d]; rfl
theorem str_ok {g:Nat} {c:CV τ} (i:evC E x=some c) (d:X.P.underlying t'=some .string) (j:X.P.underlying ty=some (.slice g)) (o:X.P.underlying g=some (.int .u8)) (u:rowO L .u8 c=some (l,ids)) (k:K (.c (.s l)) [] [] ids nid=some r) :
  zdD X w0 h0 F ⟨dst,.convert ty t' x,t,p,af,gd⟩ E L nid K r:=by
 refine zbp k fun z ν h φ a w hd M q n=>?_;obtain ⟨y,m,e⟩:=zef a hd;obtain ⟨A,h1,h2⟩:=zB e (q.op (by simp [Op.operands])) i;obtain ⟨ad,v,cs,rfl,hc,b,f,_⟩:=zJ8 M u n h2;rw [zMg f] at b;exact ⟨_,zz7 (fun _=>rfl) d j o b m h1,rfl⟩
theorem zMh {i:Int} {c:UInt8} (g:X.P.underlying t'=some .string) (e:evC E x=some (.s l)) (m:evC E y=some (.i i)) (q:sAt l i=some c) (k:K (.c (.u8 c)) [] [] [] nid=some r):zdD X w0 h0 F ⟨dst,.index t' x y,t,p,af,gd⟩ E L nid K r:=by
 refine zbp k fun A ν h φ a w hd M d v=>?_;obtain ⟨z,f,b⟩:=zef a hd;obtain ⟨u,h1,h2⟩:=zB b (d.op (by simp [Op.operands])) e;obtain ⟨o,j,n⟩:=zB b (d.op (by simp [Op.operands])) m;obtain rfl:u=_:=h2;obtain rfl:o=_:=n;exact ⟨_,zN9 g f h1 j q,rfl⟩
theorem zoF {l s:Str} (g:evC E x=some (.s l))
  (b:∀{a:Act} {e:Env} {N:Nat} {ν h} {w:World},Fits N e a→(∀t,Dk.look e t=a.tmps[t]?)→zeL X h ν a (rdO (.slice t' x lo hi none)) E→evl e x=some (str l)→(execOp a.eval ⟨dst,.slice t' x lo hi none,t,p,af,gd⟩).run X.P w = .ok (.value (str s)) w)
  (k:K (.c (.s s)) [] [] [] nid=some r):zdD X w0 h0 F ⟨dst,.slice t' x lo hi none,t,p,af,gd⟩ E L nid K r:=by
 refine zbp k fun n ν h φ a w hd M f m=>?_;obtain ⟨e,i,d⟩:=zef a hd;obtain ⟨j,h1,h2⟩:=zB d (f.op (by simp [Op.operands])) g;obtain rfl:j=_:=h2;exact ⟨_,b i d f h1,rfl⟩
theorem zIg {t:Ty} (x:t.den τ):zBa (t':=t) x=some x:=dif_pos rfl
theorem zPh (V a:List Value) (i sz o:Nat) (h1:o+a.length≤sz) (h2:i+sz≤V.length) :
  V.take i++(((V.drop i).take sz).take o++a++((V.drop i).take sz).drop (o+a.length))++V.drop (i+sz)=V.take (i+o)++a++V.drop (i+o+a.length):=by
 have c:V.take (i+o)=V.take i++(V.drop i).take o:=by rw [List.take_add]
 have e:((V.drop i).take sz).take o=(V.drop i).take o:=by rw [List.take_take,Nat.min_eq_left (by omega)]
 have d:V.drop (i+o+a.length)=((V.drop i).take sz).drop (o+a.length)++V.drop (i+sz):=by
  have g:V.drop i=(V.drop i).take sz++V.drop (i+sz):=by rw [← List.drop_drop,List.take_append_drop]
  have f:V.drop (i+o+a.length)=(V.drop i).drop (o+a.length):=by rw [List.drop_drop,Nat.add_assoc]
  rw [f]
  conv=>lhs; rw [g]
  rw [List.drop_append]
  have b:((V.drop i).take sz).length=sz:=by rw [List.length_take,List.length_drop]; omega
  rw [b,show o+a.length-sz=0 by omega,List.drop_zero]
 rw [c,e,d];simp only [List.append_assoc]
theorem zPi (C a:List Value) (A N:Nat) (h1:A+a.length≤N) (h2:N≤C.length) :
  (C.take A++a++C.drop (A+a.length)).take N=(C.take N).take A++a++(C.take N).drop (A+a.length):=by
 have b:(C.take A++a).length=A+a.length:=by rw [List.length_append,List.length_take]; omega
 rw [List.take_append,List.take_of_length_le (by omega),b,List.take_take,Nat.min_eq_left (by omega),List.drop_take]
theorem zJQ (C a:List Value) (A N D:Nat) (h1:A+a.length≤N) (h2:D+N≤C.length) :
  ((C.take (D+A)++a++C.drop (D+A+a.length)).drop D).take N=((C.drop D).take N).take A++a++((C.drop D).take N).drop (A+a.length):=by
 have b:(C.take (D+A)++a++C.drop (D+A+a.length)).drop D=(C.drop D).take A++a++(C.drop D).drop (A+a.length):=by
  rw [List.append_assoc,List.drop_append_of_le_length (by rw [List.length_take]; omega),List.drop_take,Nat.add_sub_cancel_left,List.drop_drop,List.append_assoc,Nat.add_assoc]
 rw [b];exact zPi _ a A N h1 (by rw [List.length_drop]; omega)
theorem zKN {A:XV τ} {vs cs:List (CV τ)} {n id o k te:Nat} {m:Int} {ty e:Ty} {z:ty.den τ} {xs l:List (e.den τ)} {q:DP τ (ets X.G ty)} {z':e.den τ} (hA:evX E y=some A) (hc:ztk A=some vs) (ht:szO X.P t'=some n) (hn:vs.length=n) (hx:evC E x=some (.oe id k m ty z o)) (hl:lk L id = .row te e xs k)
  (hp:zwT (zxR X.G ty z) o vs=some cs) (hq:zxS (lok X.G L depth) (ets X.G ty) cs=some (q,ids)) (hz:zBa (ect X.G ty q)=some z') (hU:freeze L ids=some U) (hid:mem ids id=false) (hs:zxe xs m z'=some l)
  (ek:K .un [] ((id,.row te e l nid)::U) (id::ids) (nid+1)=some r):zdD X w0 h0 F ⟨dst,.store t' x y,t,p,af,gd⟩ E L nid K r:=by
 refine ⟨_,_,_,_,_,ek,Nat.le_succ _,(fun _ h=>by cases h),fun L2 ν h φ a w next Q hd M hE ha hfr kk=>?_⟩;have hn':=hfr nid (Nat.le_refl _) (Nat.lt_succ_self _);obtain ⟨Ea,hf,hl'⟩:=zef a hd;obtain ⟨u,h1,h2⟩:=zB hl' (hE.op (by simp [Op.operands])) hx;obtain ⟨ws,g1,g2,_⟩:=ztJ hc (zrM hd (hE.op (by simp [Op.operands])) hA);obtain ⟨b,dd,n',cp,q0,xs',u',hν,hνk,hlz,rfl⟩:=h2;have hr:=M.res id;rw [ha id (List.mem_cons_self ..),hl] at hr;obtain ⟨v0,q1,vsr,u1,c1,c2,c3,c4,c5⟩:=hr;rw [hν] at c1;cases c1;rw [hνk] at c5
 injection c5 with c5
 injection c5 with _ c5
 injection c5 with c5
 cases c5;rw [zIg] at hz;cases hz;have hle:=M.lend_le ids;obtain ⟨hz1,hm0⟩:=zs7 hlz;obtain ⟨d1,d2⟩:=c4.get hz1;obtain ⟨f1,f2⟩:=zzk (zzI (ν:=ν) d1) g2 hp;have ha2:∀i∈ids,lk L2 i=lk L i:=fun i hi=>ha i (List.mem_cons_of_mem _ hi);have f3:=zto (A:=zcd L2 L φ (zrV h w (fps φ ids)) w) (fun _ _=>zcd.app) (zw6 M hle depth) hq (M.look ha2) f2;have f4:=f3;rw [← zFw X.G ty q] at f4;unfold zxe at hs
 split at hs
 ·rename_i hb
  cases hs;have hset:=RpR.set (c4.le hle) (i:=m.toNat) (by omega) f4;obtain ⟨hlen,⟨e1,_⟩|⟨g,d,cap,cur,e1,h0d,hg,hnc,hcm,hcs,htk⟩⟩:=c3
  ·cases e1
  ·cases e1
   have husl:((vsr.drop (m.toNat*(ets X.G ty).length)).take (ets X.G ty).length).length=(ets X.G ty).length:=by rw [List.length_take,List.length_drop]; omega
   have hcl:cur.toList.length=cur.size:=by simp
   have hN:d*(ets X.G ty).length+xs'.length*(ets X.G ty).length≤cur.toList.length:=by rw [hcl, ← Nat.add_mul]; exact Nat.le_trans (Nat.mul_le_mul_right _ (by omega)) hcs
   rw [husl] at f1;have hsp:=zPh vsr ws (m.toNat*(ets X.G ty).length) (ets X.G ty).length o f1 d2;rw [hsp] at hset
   have hsz2:d*(ets X.G ty).length+m.toNat*(ets X.G ty).length+o+ws.length≤cur.size:=by
    have:cur.toList.length=cur.size:=by simp
    omega
   have hrun:=zAf (X:=X) (dst:=dst) (t:=t) (p:=p) (af:=af) (gd:=gd) (hf.ev h1) g1 (zgp ht) (by rw [g2.len,hn]) hg hsz2 g2.one;have M1:=M.freeze hU ha2
   have hnin:id∉ids:=fun hi=>by rw [zeP.2 hi] at hid; cases hid
   have hne:id≠nid:=by rintro rfl; rw [hn'] at hν; cases hν
   refine zIt hrun (kk (up1 ν nid (some (undef,some ⟨ty,_⟩))) _ _ _ undef (M1.turn (i:=id) (b:=b) (.row te ty _ nid) (by rw [znP hnin,c2]; rfl) (zbV hn') rfl rfl rfl (by simp [World.setRow]) (fun j hj=>setRow_other w b j _ hj) ⟨_,q0,_,undef,(zbz ν _ hne).trans hν,rfl,?_,hset,za0 _ _ _⟩) (zbV hn') hle zet rfl);have hlen2:=hset.len
   have hsn:(cur.toList.take (d*(ets X.G ty).length+m.toNat*(ets X.G ty).length+o)++ws++cur.toList.drop (d*(ets X.G ty).length+m.toNat*(ets X.G ty).length+o+ws.length)).toArray.size=cur.size:=by
    simp only [List.size_toArray,List.length_append,List.length_take,List.length_drop];omega
   refine ⟨hlen2,.inr ⟨b,d,cp,_,by simp,fun hz=>?_,setRow_heap w b cur _ te (0,0) hg,by simpa using hnc,hcm,?_,?_⟩⟩
   ·rw [hsn]; exact h0d hz
   ·rw [hsn]; exact hcs
   ·have h7:=zJQ cur.toList ws (m.toNat*(ets X.G ty).length+o) (xs'.length*(ets X.G ty).length) (d*(ets X.G ty).length) (by omega) hN;rw [htk] at h7;simpa [Nat.add_assoc] using h7
 ·cases hs
theorem zPj {i f ft id ko:Nat} {k0:Hp τ→List Nat→Nat→Option ρ} (hfl:zHP X.P t' i=some (f,ft)) (hx:evC E x=some (.pt id ko)) (hk:∀U l nid,k0 U l nid=K (.c (.pt id (ko+f))) [] U l nid) (e:ptK X L nid id k0=some r):zdD X w0 h0 F ⟨dst,.fieldAddr t' x i,t,p,af,gd⟩ E L nid K r:=by
 obtain ⟨U,nid',h1,h2,h3⟩:=zNC (w0:=w0) (h0:=h0) (F:=F) e;rw [hk] at h1;refine ⟨_,_,_,_,_,h1,h2,(fun _ h=>by cases h),fun L2 ν h φ a w next Q hd M hE ha hn k=>?_⟩;obtain ⟨Ea,hf,hl'⟩:=zef a hd;obtain ⟨u,g1,g2⟩:=zB hl' (hE.op (by simp [Op.operands])) hx;obtain ⟨ν', φ',b,q,M',hle,hfr,hν⟩:=h3 L2 ν h φ w M (ha id (by simp)) hn;obtain ⟨u',q',g3,rfl,_⟩:=g2;rw [hν] at g3;cases g3;refine zgm (u:=ptr b (0+ko+f)) ?_ (k ν' h φ' w _ M' hle (Fz.le.refl _) hfr ⟨some ⟨b,0,none⟩,q,hle _ _ hν,by simp [zvn,Nat.add_assoc],fun _=>⟨b,rfl⟩⟩);simp only [execOp]; rw [hf.ev g1]; simp [zvn,zsI hfl,Result.andThen]
theorem zPk {id k:Nat} {k0:Hp τ→List Nat→Nat→Option ρ} (hx:evC E x=some (.pt id k)) (hk:∀U l nid,k0 U l nid=K (.c (.pt id k)) [] U l nid) (e:ptK X L nid id k0=some r):zdD X w0 h0 F ⟨dst,.nilCheck x,t,p,af,gd⟩ E L nid K r:=by
 obtain ⟨U,nid',h1,h2,h3⟩:=zNC (w0:=w0) (h0:=h0) (F:=F) e;rw [hk] at h1;refine ⟨_,_,_,_,_,h1,h2,(fun _ h=>by cases h),fun L2 ν h φ a w next Q hd M hE ha hn k=>?_⟩;obtain ⟨Ea,hf,hl'⟩:=zef a hd;obtain ⟨u,g1,g2⟩:=zB hl' (hE.op (by simp [Op.operands])) hx;obtain ⟨ν', φ',b,q,M',hle,hfr,hν⟩:=h3 L2 ν h φ w M (ha id (by simp)) hn;obtain ⟨u',q',g3,rfl,g4⟩:=g2;rw [hν] at g3;cases g3;exact zgm (zya hf g1) (k ν' h φ' w _ M' hle (Fz.le.refl _) hfr ⟨_,_,hle _ _ hν,rfl,fun _=>⟨b,rfl⟩⟩)
theorem zPl {bo:BinOp} {e' id:Nat} {k0:Bool→Hp τ→List Nat→Nat→Option ρ} (hu:X.P.underlying t'=some (.pointer e')) (hx:evX E x=some (.c (.pt id 0))) (hy:evX E y=some (.c .nl)) (hk:∀z U l nid,k0 z U l nid=match okX (eqO bo z) with
      | some v=>K v [] U l nid
      | none=>none) (e:nlK X L nid id k0=some r):zdD X w0 h0 F ⟨dst,.binOp bo t' x y ty,t,p,af,gd⟩ E L nid K r:=by
  obtain ⟨z,U,nid',h1,h2,h3⟩:=zNB (w0:=w0) (h0:=h0) (F:=F) e;rw [hk] at h1
  split at h1
  · rename_i v hv
    obtain ⟨b,hb,rfl⟩:=zDY hv;refine ⟨_,_,_,_,_,h1,h2,(fun _ h=>by cases h),fun L2 ν h φ a w next Q hd M hE ha hn k=>?_⟩;obtain ⟨Ea,hf,hl'⟩:=zef a hd;obtain ⟨u,g1,g2⟩:=zol hl' (hE.op (by simp [Op.operands])) hx rfl;obtain ⟨uy,g3,g4⟩:=zol hl' (hE.op (by simp [Op.operands])) hy rfl;obtain rfl:uy=_:=g4;obtain ⟨ν', φ',up,q,M',hle,hfr,hν,hz1,hz0⟩:=h3 L2 ν h φ w M (ha id (by simp)) hn;obtain ⟨u',q',g5,rfl,_⟩:=g2;rw [hν] at g5;cases g5
    have fin:∀{vb:Bool},(execOp a.eval ⟨dst,.binOp bo t' x y ty,t,p,af,gd⟩).run X.P w = .ok (.value (.bool vb)) w→vb=b→(⟨dst,.binOp bo t' x y ty,t,p,af,gd⟩:Oper).wp X.P a w next Q:=by
      intro vb hx e;subst e;exact zgm hx (k ν' h φ' w _ M' hle (Fz.le.refl _) hfr rfl)
    cases z with
    | true =>
      rw [hz1 rfl] at g1
      cases bo<;>first|(cases hb; done)|skip
      all_goals cases hb
      · exact fin (zC3 hu hf g1 g3) rfl
      · exact fin (zC4 hu hf g1 g3) rfl
    | false =>
      obtain ⟨bb,rfl⟩:=hz0 rfl
      cases bo<;>first|(cases hb; done)|skip
      all_goals cases hb
      · exact fin (zC1 hu hf g1 g3) rfl
      · exact fin (zC2 hu hf g1 g3) rfl
  · cases h1
theorem zKO {F:Nat} {xs s:List (e.den τ)} {i:Nat} (g:X.P.underlying t'=some (.slice F)) (f:szO X.P F=some (ets X.G e).length) (k:zC7 E e xs lo hi=some (i,s)):∃j,i≤j∧j≤xs.length∧s=(xs.take j).drop i ∧
  ∀{a:Act} {m:Env} {N:Nat} {ν h} {w:World} {ad:Option Addr} {n d:Nat},Fits N m a→(∀t,Dk.look m t=a.tmps[t]?)→zeL X h ν a (rdO (.slice t' x lo hi none)) E→evl m x=some (.slice ad n d)→n=xs.length→xs.length≤d →
   (execOp a.eval ⟨dst,.slice t' x lo hi none,t,p,af,gd⟩).run X.P w = .ok (.value (.slice (if d=i then ad else ad.map (·.add (i*(ets X.G e).length))) (j-i) (d-i))) w:=by
 unfold zC7 at k
 split at k
 ·split at k
  ·rename_i i z
   split at k
   ·rename_i j C
    split at k
    ·rename_i I b
     cases k;unfold zD3 at b
     split at b
     ·rename_i H
      cases b
      have y:(i.toNat:Int)=i:=by omega
      have D:(j.toNat:Int)=j:=by omega
      refine ⟨j.toNat,by omega,by omega,rfl,fun {a m N ν h w ad n d} q l o c hn r=>?_⟩;obtain ⟨B,h1,h2⟩:=zB l (o.op (by simp [Op.operands])) z;obtain ⟨u,v,A⟩:=zB l (o.op (by simp [Op.operands])) C;obtain rfl:B=_:=h2;obtain rfl:u=_:=A;refine zx5 g (fun w=>?_) q c h1 v;have:=(zlM (w:=w) (ad:=ad) g (zgp f) (show i.toNat≤j.toNat by omega) (show j.toNat≤n by omega) (show n≤d by omega)).1
      rwa [y,D] at this
     ·cases b
    ·cases k
   ·cases k
  ·cases k
 ·split at k
  ·rename_i i z
   split at k
   ·rename_i I b
    cases k;unfold zoc at b
    split at b
    ·rename_i H
     cases b
     have y:(i.toNat:Int)=i:=by omega
     refine ⟨xs.length,by omega,Nat.le_refl _,by rw [List.take_length],fun {a m N ν h w ad n d} q l o c hn r=>?_⟩;obtain ⟨B,h1,h2⟩:=zB l (o.op (by simp [Op.operands])) z;obtain rfl:B=_:=h2;refine zvT g (fun w=>?_) q c h1;have:=(zlM (w:=w) (ad:=ad) g (zgp f) (show i.toNat≤xs.length by omega) (show xs.length≤n by omega) (show n≤d by omega)).2.2 hn.symm
     rwa [y] at this
    ·cases b
   ·cases k
  ·cases k
 ·split at k
  ·rename_i j C
   split at k
   ·rename_i I b
    cases k;unfold lTo at b
    split at b
    ·rename_i H
     cases b
     have D:(j.toNat:Int)=j:=by omega
     refine ⟨j.toNat,by omega,by omega,rfl,fun {a m N ν h w ad n d} q l o c hn r=>?_⟩;obtain ⟨u,v,A⟩:=zB l (o.op (by simp [Op.operands])) C;obtain rfl:u=_:=A;refine zzY g (fun w=>?_) q c v;have:=(zlM (w:=w) (ad:=ad) g (zgp f) (show 0≤j.toNat by omega) (show j.toNat≤n by omega) (show n≤d by omega)).2.1 rfl
     rwa [D] at this
    ·cases b
   ·cases k
  ·cases k
 ·cases k
theorem zxa {te te' id kk i:Nat} {e':Ty} {xs s:List (e'.den τ)} (hu:X.P.underlying t'=some (.slice te)) (hx:evC E x=some (.os id)) (hlk:lk L id = .row te' e' xs kk) (hsz:szO X.P te=some (ets X.G e').length) (hp:zC7 E e' xs lo hi=some (i,s))
  (e:K (.c (.os nid)) [] [(nid,.vw id kk e' i s)] [id] (nid+1)=some r):zdD X w0 h0 F ⟨dst,.slice t' x lo hi none,t,p,af,gd⟩ E L nid K r:=by
 obtain ⟨j,h1,h2,hs,hrun⟩:=zKO (X:=X) (x:=x) (dst:=dst) (t:=t) (p:=p) (af:=af) (gd:=gd) hu hsz hp;refine ⟨_,_,_,_,_,e,Nat.le_succ _,(fun _ h=>by cases h),fun L2 ν h φ a w next Q hd M hE ha hfr kc=>?_⟩;have hn:=hfr nid (Nat.le_refl _) (Nat.lt_succ_self _);obtain ⟨Ea,hf,hl'⟩:=zef a hd;obtain ⟨vx,g1,g2⟩:=zB hl' (hE.op (by simp [Op.operands])) hx;obtain ⟨ad,n,cp,q,hν,rfl⟩:=g2;have hres:=M.res id;rw [ha id (List.mem_singleton.2 rfl),hlk] at hres;obtain ⟨v',q',vs,u,c1,c2,c3,c4,c5⟩:=hres;rw [hν] at c1;cases c1
 have hnl:n=xs.length∧n≤cp:=by
  exact c3.len
 have hexec:=hrun (w:=w) hf hl' hE g1 hnl.1 (by omega)
 have hsl:s.length=j-i:=by rw [hs,List.length_drop,List.length_take]; omega
 have hadd:=M.add hn (.vw id kk e' i s) (.slice (if cp=i then ad else ad.map (·.add (i*(ets X.G e').length))) (j-i) (cp-i),none) (fp:=[])
  ⟨ad,n,cp,q,none,u,xs,_,_,(zbV hn) _ _ hν,(zbV hn) _ _ c5,by omega,by rw [hs]; congr 1; rw [← hs,hsl]; congr 1; omega,by rw [hsl],by omega,⟨fun hne=>by
   have:0<s.length:=List.length_pos_iff.2 hne
   rw [if_neg (by omega)],by omega,by omega,rfl⟩,rfl⟩ (fun b hb=>by cases hb)
 exact zgm hexec (kc _ h _ w _ hadd (zbV hn) (Fz.le.refl _) zet ⟨_,_,_,none,za0 _ _ _,rfl⟩)
theorem zPm {u:Nat} {h:Ty} {c:CV τ} {id k:Nat} {l:List (h.den τ)} {lo g:Option Operand} (n:X.P.underlying t'=some (.slice u)) (m:evC E x=some c) (d:vwO L c=some (id,k,⟨h,l⟩)) (a:szO X.P u=some (ets X.G h).length) (e:vwX E nid K id k h l lo g=some r) :
  zdD X w0 h0 F ⟨dst,.slice t' x lo g none,t,p,af,gd⟩ E L nid K r:=by
 unfold vwO at d
 split at d
 ·split at d
  ·rename_i v w xs A b
   cases d;unfold vwX Rk.hi at e
   split at e
   ·rename_i y z
    split at e
    ·rename_i i o
     split at e
     ·rename_i j q
      obtain ⟨s,f,e⟩:=ob e;exact zxa n m b a (by unfold zC7; dsimp only; rw [o]; dsimp only; rw [q]; dsimp only; rw [f]) e
     ·cases e
    ·cases e
   ·rename_i y
    split at e
    ·rename_i i o
     obtain ⟨s,f,e⟩:=ob e;exact zxa n m b a (by unfold zC7; dsimp only; rw [o]; dsimp only; rw [f]) e
    ·cases e
   ·rename_i z
    split at e
    ·rename_i j q
     obtain ⟨s,f,e⟩:=ob e;exact zxa n m b a (by unfold zC7; dsimp only; rw [q]; dsimp only; rw [f]) e
    ·cases e
   ·cases e
  ·cases d
 ·cases d
theorem zIh (g k j:Nat):(⟨g,k,none⟩:Addr).add j=⟨g,k+j,none⟩:=by unfold Addr.add; split<;>simp_all
theorem zMi {i k lo l y:Nat} {e a:Ty} {ys:List (e.den τ)} {xs:List (a.den τ)} {ad:Option Addr} {n D:Nat} {q:Option ((e:Ty) × List (e.den τ))} {fp f:List Nat} (hν:ν y=some (.slice ad n D,q)) (H:znb X.P X.G h ν w (.vw i k e lo ys) (ν y) fp) (J:znb X.P X.G h ν w (.row l a xs k) (ν i) f) :
  e=a∧HEq ((xs.take (lo+ys.length)).drop lo) ys∧lo+ys.length≤xs.length∧n=ys.length∧∃u, ν k=some (u,some ⟨a,xs⟩)∧((ys=[]∧(∃v q vs, ν i=some (v,q)∧f=v.ownBlock.toList∧zhj X.G w l (ets X.G a).length v xs.length vs∧RpR X.P X.G h a xs vs)) ∨
   ys≠[]∧∃g d cap cur q vs,ad=some ⟨g,d*(ets X.G a).length+lo*(ets X.G a).length,none⟩∧ν i=some (.slice (some ⟨g,d*(ets X.G a).length,none⟩) xs.length cap,q)∧f=[g]∧(X.G.dr l=false→d=0∧cur.size=cap*(ets X.G a).length)∧w.heap[g]? = some (.cells cur l (0,0))∧xs.length≤cap∧cap≤maxLen∧(d+cap)*(ets X.G a).length≤cur.size∧(cur.toList.drop (d*(ets X.G a).length)).take (xs.length*(ets X.G a).length)=vs∧RpR X.P X.G h a xs vs):=by
 obtain ⟨Z,S,V,W,U,Q,I,a2,R,r,t,N,M,p,T,L,_⟩:=H;obtain ⟨Y,O,vs,u,m,A,s,x,c⟩:=J;rw [t] at c
 injection c with c
 injection c with d6 c
 injection c with c
 cases c;rw [hν] at p;cases p;refine ⟨rfl,heq_of_eq M.symm,N,rfl,_,t,?_⟩
 by_cases b:ys=[]
 ·exact .inl ⟨b,_,_,_,m,A,s,x⟩
 ·right
  rw [r] at m;cases m;have j:=L.1 b;have z:0<ys.length:=List.length_pos_iff.2 b;obtain ⟨o,⟨B,F⟩|⟨g,d,cap,cur,B,h0,h1,h2,E,K,C⟩⟩:=s
  ·omega
  ·cases B;simp only [Option.map_some,zIh] at j;exact ⟨b,g,d,_,cur,_,vs,j,r,by rw [A]; rfl,h0,h1,h2,E,K,C,x⟩
theorem zGf {J id i k B lo:Nat} {m:Int} {e I:Ty} {xs:List (e.den τ)} {ys:List (I.den τ)} {d:e.den τ} (z:elO X.P t'=some J) (R:evC E x=some (.os id)) (W:evC E y=some (.i m)) (D:lk L id = .vw i k e lo xs) (l:lk L i = .row B I ys k) (f:szE X J e=true) (hr:lAt xs m=some d)
  (Z:K (.c (.oe i k (lo+m.toNat:Nat) e d 0)) [] [] [id,i] nid=some r):zdD X w0 h0 F ⟨dst,.indexAddr t' x y,t,p,af,gd⟩ E L nid K r:=by
 obtain ⟨f,_⟩:=zuR f;refine zbp Z fun L2 ν h φ a w hd M O N=>?_;obtain ⟨Ea,S,j⟩:=zef a hd;obtain ⟨vx,h1,h2⟩:=zB j (O.op (by simp [Op.operands])) R;obtain ⟨vy,T,h4⟩:=zB j (O.op (by simp [Op.operands])) W;obtain rfl:vy=_:=h4;obtain ⟨ad,n,cp,q,hν,rfl⟩:=h2;have b:=M.res id;rw [N id (List.mem_cons_self ..),D] at b;have o:=M.res i;rw [N i (List.mem_cons_of_mem _ (List.mem_cons_self ..)),l] at o;obtain ⟨rfl,H,g3,hn,u,V,Q⟩:=zMi hν b o;have H:=eq_of_heq H;obtain ⟨s,C⟩:=zs7 hr;have A:m.toNat<xs.length:=(List.getElem?_eq_some_iff.1 s).1
 rcases Q with ⟨rfl,_⟩|⟨_,g,Y,cap,cur,q2,vs,rfl,U,_⟩
 ·simp at A
 ·have v:lAt ys ((lo+m.toNat:Nat):Int)=some d:=by
   unfold lAt;rw [if_pos (by omega),Int.toNat_natCast];rw [← H,List.getElem?_drop,List.getElem?_take] at s
   split at s
   ·exact s
   ·cases s
  refine ⟨ptr g (Y*(ets X.G e).length+(lo+m.toNat)*(ets X.G e).length),?_,g,_,_,_,_,ys,_,U,V,v,by rw [Int.toNat_natCast,Nat.add_zero]⟩;refine znf (fun w=>?_) S h1 T;rw [zoE (zk9 z) (zgp f) C (by omega),zIh,Nat.add_mul,Nat.add_assoc]
theorem zMj (M:Mem X.P X.G w0 h0 F L2 w ν h φ) {te:TypeId} {e:Ty} {z:e.den τ} (k:zOR X te e=some z):∃v us,(∀w,(zeroValue te).run X.P w = .ok v w)∧v.cells=us.toArray∧RpL X.P X.G h (ets X.G e) (edt X.G e z) us:=by
 unfold zOR at k
 split at k
 ·rename_i zs hz
  split at k
  ·rename_i q hq
   cases k;obtain ⟨it,v,hi,hz0,hc⟩:=zAc hz;refine ⟨v,v.cells.toList,fun w=>by simp [zeroValue,typeInfo,hi,hz0,go_sem,Result.andThen],by simp,?_⟩;rw [zFw];exact zto (A:=zcd L2 [] φ h w) (fun _ _=>zcd.app) (zw6 M (Fz.le.refl _) depth) hq ⟨fun i hi=>(by cases hi),fun b hb=>(by cases hb)⟩ (zzj (X:=X) hc)
  ·cases k
 ·cases k
theorem zCS (us:List Value) (n:Nat) (e:Ty) (z:e.den τ) (b:RpL X.P X.G h (ets X.G e) (edt X.G e z) us):RpR X.P X.G h e (List.replicate n z) (cells (fun _:Unit=>us) (List.replicate n ())):=by
 induction n with
 | zero=>exact .nil e
 | succ n a=>exact .cons e z _ us _ b a
theorem zMk {te id:Nat} (hel:elO X.P t'=some te) (hx:evC E x=some (.os id)) (e:clrX X L nid K te id=some r):zdD X w0 h0 F ⟨dst,.call ⟨.builtin .clear,⟨[x]⟩,⟨[t']⟩⟩,t,p,af,gd⟩ E L nid K r:=by
 unfold clrX at e
 split at e
 ·rename_i i k e1 lo ys hlk
  split at e
  ·rename_i te' e' xs k' hlk2
   have hb:=(zg0 e).1
   replace e:=(zg0 e).2
   simp only [Bool.and_eq_true,Nat.beq_eq] at hb;obtain ⟨rfl,rfl,hsz⟩:=hb;obtain ⟨hsz,hpos⟩:=zuR hsz
   split at e
   ·rename_i z hz
    refine ⟨_,_,_,_,_,e,Nat.le_succ _,(fun _ h=>by cases h),fun L2 ν h φ a w next Q hd M hE ha hfr kk=>?_⟩;obtain ⟨zv,us,hzv,hzc,hzr⟩:=zMj M hz;have hn':=hfr nid (Nat.le_refl _) (Nat.lt_succ_self _);obtain ⟨Ea,hf,hl'⟩:=zef a hd;obtain ⟨vx,h1,h2⟩:=zB hl' (hE.op (by simp [Op.operands,Call.operands])) hx;obtain ⟨ad,n,cp,q,hν,rfl⟩:=h2;have hres:=M.res id;rw [ha id (List.mem_cons_self ..),hlk] at hres;have hr2:=M.res i;rw [ha i (List.mem_cons_of_mem _ (List.mem_cons_self ..)),hlk2] at hr2;obtain ⟨rfl,_,g3,rfl,u,g2,h5⟩:=zMi hν hres hr2
    have hrun2:∀w',(Builtin.clear_ #[t'] t #[.slice ad ys.length cp]).run X.P w = .ok (.tuple #[]) w'→(execOp a.eval ⟨dst,.call ⟨.builtin .clear,⟨[x]⟩,⟨[t']⟩⟩,t,p,af,gd⟩).run X.P w = .ok (.value (.tuple #[])) w':=by
     intro w' hr';simp only [execOp,resolve,invoke,builtin,Sem.run_bind,Sem.run_pure,Result.andThen,List.map_toArray,List.map_cons,List.map_nil,hf.ev h1,hr']
    have hu:=zk9 hel;have hlz:us.length=(ets X.G e1).length:=hzr.len
    rcases h5 with ⟨rfl,v,q2,vs,c1,c2,c3,c4⟩|⟨hne0,g,d0,cap,cur,q2,vs,rfl,c1,c2,h0d,hg,hnc,hcm,hcs,htk,hrr⟩
    ·have hcl:(Builtin.clear_ #[t'] t #[.slice ad ([]:List (e1.den τ)).length cp]).run X.P w = .ok (.tuple #[]) w:=by
      cases ad<;>simp [Builtin.clear_,Sem.run_bind,run_underlying hu,Result.andThen]
     have hne:i≠nid:=by rintro rfl; rw [hn'] at c1; cases c1
     have el:xs.take lo++(List.replicate ([]:List (e1.den τ)).length z++xs.drop (lo+([]:List (e1.den τ)).length))=xs:=by simp
     rw [el] at kk;refine zgm (hrun2 _ hcl) (kk (up1 ν nid (some (undef,some ⟨e1,xs⟩))) h φ w _ ?_ (zbV hn') (Fz.le.refl _) zet ⟨[],rfl,rfl⟩);refine ((M.ext (zbV hn')).upd [i] (fun j hj=>zdS _ _ (by simpa using hj)) (fun j _=>rfl) (Vn.le.refl _) (Fz.le.refl _) rfl rfl rfl (Nat.le_refl _) (fun _ _ _=>rfl) (fun b o h1 h2=>M.on b o h2) (fun b h1 h2=>(h2 h1).elim) ?_ ?_ ?_)
     ·intro j hj;obtain rfl:=List.mem_singleton.1 hj;rw [show [(j,AR.row te e1 xs nid)]++L2=(j,AR.row te e1 xs nid)::L2 from rfl,zby];exact ⟨v,q2,vs,undef,(zbz ν _ hne).trans c1,c2,c3,c4,za0 _ _ _⟩
     ·intro j hj b hb;exact ⟨(M.out j b hb).1,.inl (zeZ.2 ⟨j,hj,hb⟩)⟩
     ·intro j hj j2 hj2 b _ _;rw [List.mem_singleton.1 hj,List.mem_singleton.1 hj2]
    ·have hzl:(cells (fun _:Unit=>us) (List.replicate ys.length ())).length=ys.length*(ets X.G e1).length:=by rw [cells_length (fun _=>hlz),List.length_replicate]
     have hset:=(hrr.take lo).app ((zCS us ys.length e1 z hzr).app (hrr.drop (lo+ys.length)));have hvl:=hrr.len;have hN:(lo+ys.length)*(ets X.G e1).length≤xs.length*(ets X.G e1).length:=Nat.mul_le_mul_right _ g3
     have hN2:d0*(ets X.G e1).length+xs.length*(ets X.G e1).length≤cur.size:=by rw [← Nat.add_mul]; exact Nat.le_trans (Nat.mul_le_mul_right _ (by omega)) hcs
     have hmul:(lo+ys.length)*(ets X.G e1).length=lo*(ets X.G e1).length+ys.length*(ets X.G e1).length:=Nat.add_mul ..;have hone:∀v∈cells (fun _:Unit=>us) (List.replicate ys.length ()),v.oneCell'=true:=fun v hv=>(zCS us ys.length e1 z hzr).one v hv;have hst:=run_storeCells_at X.P g (d0*(ets X.G e1).length+lo*(ets X.G e1).length) te (cells (fun _:Unit=>us) (List.replicate ys.length ())) 0 cur w hg (by rw [hzl]; omega) hone
     have hcl:(Builtin.clear_ #[t'] t #[.slice (some ⟨g,d0*(ets X.G e1).length+lo*(ets X.G e1).length,none⟩) ys.length cp]).run X.P w = .ok (.tuple #[]) (w.setRow g (cur.toList.take (d0*(ets X.G e1).length+lo*(ets X.G e1).length)++cells (fun _:Unit=>us) (List.replicate ys.length ())++cur.toList.drop (d0*(ets X.G e1).length+lo*(ets X.G e1).length+(cells (fun _:Unit=>us) (List.replicate ys.length ())).length)).toArray):=by
      simp only [Nat.add_zero] at hst;obtain ⟨q,hy⟩:∃q,ys.length=q+1:=⟨ys.length-1,by have:=List.length_pos_iff.2 hne0; omega⟩;rw [hy] at hst ⊢;simp [Builtin.clear_,Sem.run_bind,run_underlying hu,Result.andThen,hzv,hzc,zz8 (enc:=fun _:Unit=>us) (z:=()) (fun _=>hlz) hpos,hst]
     have hne:i≠nid:=by rintro rfl; rw [hn'] at c1; cases c1
     refine zgm (hrun2 _ hcl) (kk (up1 ν nid (some (undef,some ⟨e1,_⟩))) h φ _ _ (M.turn (i:=i) (b:=g) (.row te e1 _ nid) c2 (zbV hn') rfl rfl rfl (by simp [World.setRow]) (fun j hj=>setRow_other w g j _ hj) ⟨_,q2,_,undef,(zbz ν _ hne).trans c1,rfl,?_,hset,za0 _ _ _⟩) (zbV hn') (Fz.le.refl _) zet ⟨[],rfl,rfl⟩)
     have hll:(xs.take lo++(List.replicate ys.length z++xs.drop (lo+ys.length))).length=xs.length:=by simp; omega
     rw [hll];have hlen2:=hset.len;rw [hll] at hlen2
     have hcl2:cur.toList.length=cur.size:=by simp
     have hsn:(cur.toList.take (d0*(ets X.G e1).length+lo*(ets X.G e1).length)++cells (fun _:Unit=>us) (List.replicate ys.length ())++cur.toList.drop (d0*(ets X.G e1).length+lo*(ets X.G e1).length+(cells (fun _:Unit=>us) (List.replicate ys.length ())).length)).toArray.size=cur.size:=by
      simp only [List.size_toArray,List.length_append,List.length_take,List.length_drop,hzl];omega
     refine ⟨hlen2,.inr ⟨g,d0,cap,_,rfl,fun hz=>?_,setRow_heap w g cur _ te (0,0) hg,hnc,hcm,?_,?_⟩⟩
     ·rw [hsn]; exact h0d hz
     ·rw [hsn]; exact hcs
     ·have h7:=zJQ cur.toList (cells (fun _:Unit=>us) (List.replicate ys.length ())) (lo*(ets X.G e1).length) (xs.length*(ets X.G e1).length) (d0*(ets X.G e1).length) (by rw [hzl]; omega) (by omega);rw [htk,hzl, ← hmul] at h7;rw [hzl];simpa [List.append_assoc] using h7
   ·cases e
  ·cases e
 ·cases e
theorem zKP {id i u n lo:Nat} {xs:List (e.den τ)} (g:evC E x=some (.os id)) (s:lk L id = .vw i u e lo xs) (l:elO X.P t'=some n) (k:K (.c (.i (xs.length:Int))) [] [] [id] nid=some r) :
  zdD X w0 h0 F ⟨dst,.call ⟨.builtin .len,⟨[x]⟩,⟨[t']⟩⟩,t,p,af,gd⟩ E L nid K r:=by
 refine zbp k fun O ν h φ a w hd M y o=>?_;obtain ⟨H,j,b⟩:=zef a hd;obtain ⟨S,h1,h2⟩:=zB b (y.op (by simp [Op.operands,Call.operands])) g;obtain ⟨ad,m,z,q,hν,rfl⟩:=h2;have f:=M.res id;rw [o id (List.mem_singleton.2 rfl),s] at f;obtain ⟨R,C,N,Q,J,A,v,a2,B,D,G,V,U,d,I,T,_⟩:=f;rw [hν] at d;cases d;exact ⟨_,ztb (zk9 l) j h1,rfl⟩
end
end Go.Rk
end
section
namespace Go.Rk
open Go.RowKit Go.Dm Go.Dk
variable {τ:Nat→Type}
variable {t:Ty} {fp:List Nat} {v:Value}
section
variable (P:Program) (G:Sig τ) (h:Fz) (w:World)
def TrX:(t:Ty)→t.den τ→Value→List Nat→Prop
 | .st n,x,v,fp=>∃vs,v = .agg ⟨vs⟩∧TrL P G h w (G.fs n) (G.dtor n x) vs fp
 | .pr _ _,_,_,fp=>fp=[]
 | .sn a e,x,v,fp=>(x=none∧v = .slice none 0 0∧fp=[])∨∃xs,x=some xs∧Tr P G h w (.so a e) xs v fp
 | t,x,v,fp=>Tr P G h w t x v fp
inductive TrXs:(ts:List Ty)→DP τ ts→List Value→List Nat→Prop
 | nil:TrXs [] () [] []
 | cons (t:Ty) (ts:List Ty) (p:DP τ (t::ts)) (v:Value) (vs:List Value) (f f':List Nat) (h1:TrX P G h w t p.hd v f) (h2:TrXs ts p.tl vs f') (hd:∀b∈f,b∉f'):TrXs (t::ts) p (v::vs) (f++f')
end
def zzQ:List Value→Value
 | [v]=>v
 | vs => .tuple ⟨vs⟩
structure Left (h:Fz) (w:World) (fp:List Nat) (h':Fz) (w':World) (fp':List Nat):Prop where
 os:w'.os=w.os
 tape:w'.tape=w.tape
 output:w'.output=w.output
 size:w.heap.size≤w'.heap.size
 frame:∀b,b<w.heap.size→b∉fp→w'.heap[b]? = w.heap[b]?
 le:h.le h'
 on:h'.on w'
 new:∀b,h' b≠none→h b≠none∨b∈fp∨w.heap.size≤b
 own:∀b∈fp',h' b=none∧(b∈fp∨w.heap.size≤b)
def cellV (v:Value):Nat→Value
 | 0=>v
 | i+1=>match v with
  | .agg ⟨a⟩=>a.getD i undef
  | _=>undef
def bkV (vs:List Value) (j:Nat):Value:=cellV (vs.getD (j%32) undef) (j/32)
def COk (P:Program) (G:Sig τ) (f:FuncId) (k:Con τ):Prop :=
 zfu P f∧∀(h:Fz) (w:World) (p:DP τ k.ps) (r:DP τ k.rs) (vs:List Value) (fp:List Nat),zth P G h→zFx P G→h.on w→TrXs P G h w k.ps p vs fp→(∀b∈fp,h b=none)→k.m p=some r →
  Calls P f vs.toArray w fun e w'=>∃h' rs fp',e = .returned (zzQ (rs.take k.nr))∧Left h w fp h' w' fp'∧TrXs P G h' w' k.rs r rs fp'∧rs.drop k.nr=k.bk.map (bkV vs)
section
variable {P:Program} {G:Sig τ} {w0 w w':World} {h0 h h' H:Fz} {F:List Nat} {L L' L2:Hp τ} {ν ν':Vn τ} {φ φ':Nat→List Nat}
theorem TrX.plain {x:t.den τ} (hp:Tr P G h w t x v fp) (h1:∀n,t ≠ .st n):TrX P G h w t x v fp:=by
 cases t with
 | st n=>exact (h1 n rfl).elim
 | pr a b=>cases hp with|fz _ _ _ _ d=>cases d
 | sn f e=>cases hp with|fz _ _ _ c _=>cases c
 | _=>exact hp
theorem res_st {n:Nat} {c:CV τ}:∀d,res G L d (.st n) c=none
 | 0=>rfl
 | d+1=>by unfold res; dsimp only; unfold lok; rfl
theorem zJL (M:Mem P G w0 h0 F L2 w ν h φ) (f:h.le H) {t:Ty} {A:XV τ} {x:t.den τ} {l m:List Nat} {v:Value} (k:resX G L t A=some (x,l,m)) (b:∀i∈l,lk L2 i=lk L i) (d:zcd L2 L φ H w m) (hn:nod l=true) (a:XOk P G h ν A v):TrX P G H w t x v (fps φ l):=by
 unfold resX at k
 split at k
 ·rename_i n cs
  split at k
  ·rename_i q o p g
   cases k;obtain ⟨vs,rfl,hc⟩:=a;refine ⟨vs,rfl,?_⟩;rw [G.dc];exact zDK M (zDL M f depth) g b d hn hc
  ·cases k
 ·rename_i r e c
  split at k
  ·cases k;exact .inl ⟨rfl,a,rfl⟩
  ·split at k
   ·rename_i s o p j
    cases k;exact .inr ⟨_,rfl,zDL M f _ _ _ _ _ _ _ j b d hn a⟩
   ·cases k
 ·rename_i c
  refine TrX.plain (zDL M f _ _ _ _ _ _ _ k b d hn a) ?_;rintro n rfl;rw [res_st] at k; cases k
 ·split at k
  ·cases k; rfl
  ·cases k
 ·cases k
theorem zzR (M:Mem P G w0 h0 F L2 w ν h φ) (d:h.le H):∀{ts:List Ty} {As:List (XV τ)} {p:DP τ ts} {l m:List Nat} {vs:List Value},zti G L ts As=some (p,l,m)→(∀i∈l,lk L2 i=lk L i)→zcd L2 L φ H w m→nod l=true →
  vs.length=As.length→(∀(i:Nat) (A:XV τ) (v:Value),As[i]? = some A→vs[i]? = some v→XOk P G h ν A v)→TrXs P G H w ts p vs (fps φ l)
 | [],[],p,l,m,vs,e,_,_,_,a,_=>by
  cases e;have:vs=[]:=List.eq_nil_of_length_eq_zero a;subst this; exact .nil
 | t :: ts,A::As,p,l,m,vs,e,b,c,hn,a,f=>by
  unfold zti at e
  split at e
  ·rename_i x u s j
   split at e
   ·rename_i q r y g
    cases e;obtain ⟨n,o,k⟩:=zvM hn
    cases vs with
    | nil=>simp at a
    | cons v vs =>
     rw [zfy];refine .cons t ts _ v vs _ _ ?_ ?_ (M.fps_dis k)
     ·rw [DP.hd_mk]; exact zJL M d j (fun i hi=>b i (List.mem_append_left _ hi)) c.app.1 n (f 0 A v rfl rfl)
     ·rw [DP.tl_mk]; exact zzR M d g (fun i hi=>b i (List.mem_append_right _ hi)) c.app.2 o (by simpa using a) (fun i A v h1 h2=>f (i+1) A v h1 h2)
   ·cases e
  ·cases e
 | [],_::_,_,_,_,_,e,_,_,_,_,_=>by cases e
 | _::_,[],_,_,_,_,e,_,_,_,_,_=>by cases e
structure Adds (P:Program) (G:Sig τ) (w0:World) (h0:Fz) (F:List Nat) (L:Hp τ) (w:World) (ν:Vn τ) (h:Fz) (φ:Nat→List Nat) (U:Hp τ) (nid nid':Nat) (fp:List Nat) (ν':Vn τ) (φ':Nat→List Nat):Prop where
 mem:Mem P G w0 h0 F (U++L) w ν' h φ'
 le:ν.le ν'
 fresh:zdM ν ν' nid nid'
 sub:∀j b,b∈φ' j→b∈φ j∨b∈fp
theorem Grew.adds {U:Hp τ} {nid a:Nat} (g:Grew P G w0 h0 F L w ν h φ U nid a fp ν' φ'):Adds P G w0 h0 F L w ν h φ U nid a fp ν' φ' :=
 ⟨g.mem,g.le,g.fresh,fun j b c=>by
  by_cases e:nid≤j∧j<a
  ·exact .inr (g.fp j b e.1 e.2 c)
  ·rw [(g.same j e).2] at c; exact .inl c⟩
theorem zhJ.adds {U:Hp τ} {nid a:Nat} {fp fp':List Nat} (g:Adds P G w0 h0 F L w ν h φ U nid a fp ν' φ') (d:zhJ w0 h F φ fp') (hd:∀b∈fp',b∉fp):zhJ w0 h F φ' fp':=fun b c =>
 ⟨fun i hi=>by
  rcases g.sub i b hi with h1|h1
  ·exact (d b c).1 i h1
  ·exact hd b c h1,(d b c).2⟩
theorem Adds.seq {U k:Hp τ} {a b c:Nat} {fp fp':List Nat} {ν'':Vn τ} {φ'':Nat→List Nat} (g:Adds P G w0 h0 F L w ν h φ k b c fp' ν' φ') (d:Adds P G w0 h0 F (k++L) w ν' h φ' U a b fp ν'' φ'') (h1:a≤b) (h2:b≤c):Adds P G w0 h0 F L w ν h φ (U++k) a c (fp++fp') ν'' φ'' :=
 ⟨by rw [List.append_assoc]; exact d.mem,g.le.trans d.le,fun i o m=>by
  by_cases e:ν' i=none
  ·have:=d.fresh i e m; omega
  ·have:=g.fresh i o e; omega,fun j b n=>by
  rcases d.sub j b n with f|f
  ·rcases g.sub j b f with l|l
   ·exact .inl l
   ·exact .inr (List.mem_append_right _ l)
  ·exact .inr (List.mem_append_left _ f)⟩
theorem zvN {x:t.den τ} {nid nid':Nat} {v:XV τ} {U:Hp τ} (e:zJB G t x nid=(v,U,nid')):nid≤nid':=by
 cases t
 case st n =>
  have e:zJA G _ x nid=(v,U,nid'):=e;unfold zJA at e
  split at e
  rename_i h1
  cases e;exact zku (zgz G depth) h1
 case pr a b=>cases e; exact Nat.le_refl _
 case sn te e0=>cases e; exact Nat.le_refl _
 all_goals
  have e:zJz G _ x nid=(v,U,nid'):=e;unfold zJz at e
  split at e
  rename_i h1
  cases e;exact zgz G depth _ _ _ _ _ _ h1
theorem zPc {x:t.den τ} {nid nid':Nat} {v:XV τ} {U:Hp τ} (e:zJB G t x nid=(v,U,nid')):∀j∈kys U,nid≤j∧j<nid':=by
 cases t
 case st n =>
  have e:zJA G _ x nid=(v,U,nid'):=e;unfold zJA at e
  split at e
  rename_i h1
  cases e;exact zv8 (zgz G depth) (zzf G depth) h1
 case pr a b=>cases e; intro j hj; cases hj
 case sn te e0=>cases e; intro j hj; cases hj
 all_goals
  have e:zJz G _ x nid=(v,U,nid'):=e;unfold zJz at e
  split at e
  rename_i h1
  cases e;exact zzf G depth _ _ _ _ _ _ h1
theorem zza (M:Mem P G w0 h0 F L w ν h φ) {t:Ty} {x:t.den τ} {nid nid':Nat} {A:XV τ} {U:Hp τ} {v:Value} {fp:List Nat} (e:zJB G t x nid=(A,U,nid')) (ht:TrX P G h w t x v fp) (hn:∀i,nid≤i→i<nid'→ν i=none) (hf:zhJ w0 h F φ fp) :
  ∃ν' φ',Adds P G w0 h0 F L w ν h φ U nid nid' fp ν' φ'∧XOk P G h ν' A v:=by
 have flat:∀{t:Ty} {x:t.den τ} {c:CV τ},ztj G depth t x nid=(c,U,nid')→Tr P G h w t x v fp→∃ν' φ',Adds P G w0 h0 F L w ν h φ U nid nid' fp ν' φ'∧XOk P G h ν' (.c c) v:=by
  intro t x c h1 ht;obtain ⟨ν', φ',g,hc⟩:=zDM depth _ _ _ _ _ _ _ _ _ _ _ h1 ht M hn hf;exact ⟨ν', φ',g.adds,hc⟩
 cases t
 case st n =>
  have e:zJA G _ x nid=(A,U,nid'):=e;unfold zJA at e
  split at e
  rename_i cs U1 n1 h1
  cases e;obtain ⟨vs,rfl,hl⟩:=ht;obtain ⟨ν', φ',g,hc⟩:=zy9 (zgz G depth) (zDM depth) h1 hl M hn hf;exact ⟨ν', φ',g.adds,vs,rfl,hc⟩
 case pr a b =>
  cases e;exact ⟨ν, φ,(Grew.nil M _ fp).adds,trivial⟩
 case sn te e0 =>
  cases e;exact ⟨ν, φ,(Grew.nil M _ fp).adds,trivial⟩
 all_goals
  have e:zJz G _ x nid=(A,U,nid'):=e;unfold zJz at e
  split at e
  rename_i h1
  cases e;exact flat h1 ht
theorem zzS (M:Mem P G w0 h0 F L w ν h φ) {i n nid c:Nat} {x:τ n} {U:Hp τ} {v:Value} {q:Option ((e:Ty) × List (e.den τ))} {fp:List Nat} (e:zli G i n x nid=(U,c)) (p:lk L i = .gone) (hi:ν i=some (v,q)) (k:Tr P G h w (.po n) x v fp) (l:zhJ w0 h F φ fp)
  (hn:∀i,nid≤i→i<c→ν i=none):∃ν' φ' b,Adds P G w0 h0 F L w ν h φ U nid c fp ν' φ'∧v=ptr b 0:=by
 obtain ⟨_, ν', φ',t,cs,b,h1,h2,m,r,_,g,o⟩:=zGv M e p hi k l hn;refine ⟨ν', φ',b,⟨h1,h2,m,fun j b f=>?_⟩,r⟩
 by_cases d:j=i∨nid≤j∧j<c
 ·exact .inr (o j b d f)
 ·rw [g j (fun a=>d (.inr a)) (fun a=>d (.inl a))] at f;exact .inl f
theorem zF8 {i n nid a:Nat} {x:τ n} {U:Hp τ} (e:zli G i n x nid=(U,a)):nid≤a:=by
 unfold zli at e
 split at e
 rename_i h1
 cases e;exact zku (zgz G depth) h1
theorem Mem.gone_of (M:Mem P G w0 h0 F L w ν h φ) {i:Nat} (hi:ν i=none):lk L i = .gone:=by
 have a:=M.res i;rw [hi] at a
 cases e:lk L i with
 | gone=>rfl
 | blk t cs=>rw [e] at a; obtain ⟨_,_,_,h,_⟩:=a; cases h
 | row t b xs k=>rw [e] at a; obtain ⟨_,_,_,_,h,_⟩:=a; cases h
 | fz b xs=>rw [e] at a; obtain ⟨_,_,h,_⟩:=a; cases h
 | tree n x=>rw [e] at a; obtain ⟨_,_,h,_⟩:=a; cases h
 | nilp=>rw [e] at a; obtain ⟨_,h,_⟩:=a; cases h
 | clo f bs cs=>rw [e] at a; obtain ⟨_,_,_,h,_⟩:=a; cases h
 | sb c n=>rw [e] at a; obtain ⟨_,_,_,_,h,_⟩:=a; cases h
 | vw c k b lo xs=>rw [e] at a; obtain ⟨_,_,_,_,_,_,_,_,_,_,_,_,_,h,_⟩:=a; cases h
 | mp l=>rw [e] at a; obtain ⟨_,_,h,_⟩:=a; cases h
def zne (L:Hp τ) (ν:Vn τ):List (Option (Option Nat))→List Value→Prop
 | some (some i)::rs,v::vs=>lk L i = .gone∧(∃q, ν i=some (v,q))∧some (some i)∉rs∧zne L ν rs vs
 | some none::rs,v::vs=>v = .pointer none∧zne L ν rs vs
 | none::rs,_::vs=>zne L ν rs vs
 | _,_=>True
def outs:List (Option (Option Nat))→List Value→List Value
 | none::rs,v::vs=>v::outs rs vs
 | some _::rs,_::vs=>outs rs vs
 | _,_=>[]
def zF9 (P:Program) (G:Sig τ) (h:Fz) (ν:Vn τ):List (XV τ)→List Value→Prop
 | [],vs=>vs=[]
 | x::xs,vs=>∃v us,vs=v::us∧XOk P G h ν x v∧zF9 P G h ν xs us
theorem zF9.le (a:h.le h') (hν:ν.le ν'):∀{xs:List (XV τ)} {vs:List Value},zF9 P G h ν xs vs→zF9 P G h' ν' xs vs
 | [],_,e=>e
 | _::_,_,⟨v,us,e,h1,h2⟩=>⟨v,us,e,h1.le a hν,h2.le a hν⟩
theorem zPd {ρ:Type} {r:ρ} {a:Option (Option Nat)} {x:t.den τ} {nid:Nat} {k:Option (XV τ)→Hp τ→Nat→Option ρ} (e:resH G a t x nid k=some r):∃D U f,k D U f=some r∧nid≤f∧(∀j∈kys U,some (some j)=a∨nid≤j∧j<f) ∧
  ∀(L:Hp τ) (w:World) (ν:Vn τ) (h:Fz) (φ:Nat→List Nat) (v:Value) (fp:List Nat),Mem P G w0 h0 F L w ν h φ→TrX P G h w t x v fp→(∀i,nid≤i→i<f→ν i=none)→zhJ w0 h F φ fp→(∀i,a=some (some i)→lk L i = .gone∧∃q, ν i=some (v,q))→(a=some none→v = .pointer none) →
   ∃ν' φ',Adds P G w0 h0 F L w ν h φ U nid f fp ν' φ'∧((a=none∧∃y,D=some y∧XOk P G h ν' y v)∨(a≠none∧D=none)):=by
 unfold resH at e
 split at e
 ·rename_i i n x
  obtain ⟨U,f,h1⟩:∃U f,zli G i n x nid=(U,f):=⟨_,_,rfl⟩;rw [h1] at e;refine ⟨none,U,f,e,zF8 h1,fun j c=>?_,fun L w ν h φ v fp M d hn g l _=>?_⟩
  ·rcases zGw h1 j c with h2|h2
   ·exact .inl (by rw [h2])
   ·exact .inr h2
  ·obtain ⟨z,q,hi⟩:=l i rfl;obtain ⟨ν', φ',b,A,_⟩:=zzS M h1 z hi d g hn;exact ⟨ν', φ',A,.inr ⟨by simp,rfl⟩⟩
 ·rename_i i n x
  refine ⟨none,_,_,e,Nat.le_refl _,fun j c=>?_,fun L w ν h φ v fp M d hn g l _=>?_⟩
  ·simp [kys] at c;subst c; exact .inl rfl
  ·obtain ⟨z,q,hi⟩:=l i rfl;refine ⟨ν,_,⟨M.put (i:=i) z (.tree n x) (fp:=fp) ⟨v,q,hi,d⟩ g,Vn.le.refl _,zdM.refl _ _ _,fun j b p=>?_⟩,.inr ⟨by simp,rfl⟩⟩
   by_cases c:j=i
   ·subst c; rw [za0] at p; exact .inr p
   ·rw [zbz _ _ c] at p; exact .inl p
 ·rename_i i u s x
  refine ⟨none,_,_,e,Nat.le_succ _,fun j c=>?_,fun L w ν h φ v fp M d hn g l _=>?_⟩
  ·simp [kys] at c;subst c; exact .inl rfl
  ·obtain ⟨z,q,hi⟩:=l i rfl;have m:=hn nid (Nat.le_refl _) (Nat.lt_succ_self _);have o:ν.le (up1 ν nid (some (v,some ⟨s,x⟩))):=zbV m;have d:Tr P G h w (.so u s) x v fp:=d
   cases d with
   | fz _ _ _ J _=>cases J
   | so _ _ _ _ vs I K =>
    refine ⟨up1 ν nid (some (v,some ⟨s,x⟩)),_,⟨(M.ext o).put (i:=i) z (.row u s x nid) ⟨v,q,vs,v,o _ _ hi,rfl,I,K,za0 _ _ _⟩ g,o,fun j H B=>?_,fun j b p=>?_⟩,.inr ⟨by simp,rfl⟩⟩
    ·by_cases c:j=nid
     ·omega
     ·rw [zbz _ _ c] at B;exact (B H).elim
    ·by_cases c:j=i
     ·subst c; rw [za0] at p; exact .inr p
     ·rw [zbz _ _ c] at p; exact .inl p
 ·refine ⟨none,_,_,e,Nat.le_refl _,(fun j c=>by cases c),fun L w ν h φ v fp M d hn g l _=>⟨ν, φ,(Grew.nil M _ _).adds,.inr ⟨by simp,rfl⟩⟩⟩
 ·refine ⟨none,_,_,e,Nat.le_refl _,(fun j c=>by cases c),fun L w ν h φ v fp M d hn g l _=>⟨ν, φ,(Grew.nil M _ _).adds,.inr ⟨by simp,rfl⟩⟩⟩
 ·rename_i n x
  cases x with
  | none =>
   refine ⟨_,_,_,e,Nat.le_refl _,(fun j c=>by cases c),fun L w ν h φ v fp M d hn g l _=>⟨ν, φ,(Grew.nil M _ _).adds,.inl ⟨rfl,_,rfl,?_⟩⟩⟩;exact (Tr.pn_none d).1
  | some y =>
   obtain ⟨U,f,h1⟩:∃U f,zli G nid n y (nid+1)=(U,f):=⟨_,_,rfl⟩;simp only [optK,h1] at e;have o:=zF8 h1;refine ⟨_,_,_,e,by omega,fun j c=>?_,fun L w ν h φ v fp M d hn g l _=>?_⟩
   ·rcases zGw h1 j c with h2|h2
    ·exact .inr (by omega)
    ·exact .inr (by omega)
   ·have m:=hn nid (Nat.le_refl _) (by omega)
    have E:∀i,nid+1≤i→i<f→up1 ν nid (some (v,none)) i=none:=fun i a b=>by rw [zbz _ _ (by omega)]; exact hn i (by omega) b
    obtain ⟨ν', φ',b,A,rfl⟩:=zzS (M.ext (zbV (x:=some (v,none)) m)) h1 (M.gone_of m) (za0 _ _ _) (Tr.pn_some d) g E;refine ⟨ν', φ',⟨A.mem,(zbV m).trans A.le,fun i H B=>?_,A.sub⟩,.inl ⟨rfl,_,rfl,some ⟨b,0,none⟩,none,A.le _ _ (za0 _ _ _),rfl,fun _=>⟨b,rfl⟩⟩⟩
    by_cases hi:i=nid
    ·omega
    ·have:=A.fresh i (by rw [zbz _ _ hi]; exact H) B; omega
 ·rename_i u s x
  cases x with
  | none =>
   refine ⟨_,_,_,e,Nat.le_refl _,(fun j c=>by cases c),fun L w ν h φ v fp M d hn g l _=>⟨ν, φ,(Grew.nil M _ _).adds,.inl ⟨rfl,_,rfl,?_⟩⟩⟩
   rcases d with ⟨_,h1,_⟩|⟨xs,h1,_⟩
   ·exact h1
   ·cases h1
  | some y =>
   simp only [optK] at e;refine ⟨_,_,_,e,Nat.le_succ _,fun j c=>?_,fun L w ν h φ v fp M d hn g l _=>?_⟩
   ·simp [kys] at c;subst c; exact .inr ⟨Nat.le_refl _,Nat.lt_succ_self _⟩
   ·have d:Tr P G h w (.so u s) y v fp:=by
     rcases d with ⟨h1,_⟩|⟨xs,h1,h2⟩
     ·cases h1
     ·cases h1; exact h2
    obtain ⟨ν', φ',A,C⟩:=zza (t := .so u s) (nid:=nid) M rfl d hn g;exact ⟨ν', φ',A,.inl ⟨rfl,_,rfl,C⟩⟩
 ·obtain ⟨v,U,f,h1⟩:∃v U f,zJB G t x nid=(v,U,f):=⟨_,_,_,rfl⟩;rw [h1] at e;refine ⟨_,_,_,e,zvN h1,fun j c => .inr (zPc h1 j c),fun L w ν h φ v fp M d hn g l _=>?_⟩;obtain ⟨ν', φ',A,C⟩:=zza M h1 d hn g;exact ⟨ν', φ',A,.inl ⟨rfl,_,rfl,C⟩⟩
 ·cases e
theorem zPe {ρ:Type} {r:ρ}:∀(ts:List Ty) (rs:List (Option (Option Nat))) (p:DP τ ts) (nid:Nat) (n:List (XV τ)→Hp τ→Nat→Option ρ),resK G rs ts p nid n=some r→∃l U c,n l U c=some r∧nid≤c∧(∀j∈kys U,some (some j)∈rs∨nid≤j∧j<c) ∧
  ∀(L:Hp τ) (w:World) (ν:Vn τ) (h:Fz) (φ:Nat→List Nat) (vals:List Value) (fp:List Nat),Mem P G w0 h0 F L w ν h φ→TrXs P G h w ts p vals fp→(∀i,nid≤i→i<c→ν i=none)→zhJ w0 h F φ fp→zne L ν rs vals →
   ∃ν' φ',Adds P G w0 h0 F L w ν h φ U nid c fp ν' φ'∧zF9 P G h ν' l (outs rs vals):=by
 intro ts
 induction ts with
 | nil =>
  intro rs p nid n e;refine ⟨[],[],nid,?_,Nat.le_refl _,(fun j d=>by cases d),fun L w ν h φ vals fp M o hn s g=>?_⟩
  ·unfold resK hi at e; exact e
  ·cases o;refine ⟨ν, φ,(Grew.nil M _ _).adds,?_⟩
   cases rs with
   | nil=>rfl
   | cons a rs=>cases a<;>rfl
 | cons t ts O =>
  intro rs p nid n e
  cases rs with
  | nil=>cases e
  | cons a0 m =>
   unfold resK at e;obtain ⟨Y,Z,E,W,A,D,C⟩:=zPd (P:=P) (w0:=w0) (h0:=h0) (F:=F) e;obtain ⟨l,U,c,R,S,J,X⟩:=O m p.tl E _ W;refine ⟨_,_,c,R,by omega,fun j d=>?_,fun L w ν h φ vals fp M o hn s g=>?_⟩
   ·simp only [kys,List.map_append] at d
    rcases List.mem_append.1 d with d|d
    ·rcases D j d with h1|h1
     ·exact .inl (h1▸List.mem_cons_self ..)
     ·exact .inr (by omega)
    ·rcases J j d with h1|h1
     ·exact .inl (List.mem_cons_of_mem _ h1)
     ·exact .inr (by omega)
   ·cases o with
    | cons _ _ _ v vs f f' T t2 hd =>
     have u:zne L ν m vs:=by
      cases a0 with
      | none=>exact g
      | some I =>
       cases I with
       | none=>exact g.2
       | some i=>exact g.2.2.2
     obtain ⟨ν1, φ1,A1,H⟩:=X L w ν h φ vs f' M t2 (fun i a b=>hn i (by omega) b) (s.sub fun b B=>List.mem_append_right _ B) u
     have hν1:∀i,nid≤i→i<E→ν1 i=none:=by
      intro i a b
      cases e:ν1 i with
      | none=>rfl
      | some y =>
       have:=A1.fresh i (hn i a (by omega)) (by rw [e]; simp);omega
     obtain ⟨ν2, φ2,A2,Q⟩:=C (U++L) w ν1 h φ1 v f A1.mem T hν1 (zhJ.adds A1 (s.sub fun b B=>List.mem_append_left _ B) hd) (fun i k=>by
      subst k;obtain ⟨V,⟨q,z⟩,K,_⟩:=g;refine ⟨?_,q,A1.le _ _ z⟩;rw [zdh]
      ·exact V
      ·intro hi
       rcases J i hi with h1|h1
       ·exact K h1
       ·rw [hn i (by omega) h1.2] at z; cases z) (fun k=>by subst k; exact g.1)
     refine ⟨ν2, φ2,Adds.seq A1 A2 A S,?_⟩
     rcases Q with ⟨rfl,x,rfl,N⟩|⟨k,rfl⟩
     ·exact ⟨v,_,rfl,N,H.le (Fz.le.refl _) A2.le⟩
     ·cases a0 with
      | none=>exact (k rfl).elim
      | some I=>exact H.le (Fz.le.refl _) A2.le
theorem zPf {x:t.den τ} (b:zhI t=true) (a:Rp P G h t x v):Rp P G h' t x v:=by
 cases a<;>first|(cases b; done)|constructor
theorem zJM:∀{ts:List Ty} {q:DP τ ts} {vs:List Value},RpL P G h ts q vs→ts.all zhI=true→RpL P G h' ts q vs
 | _,_,_,.nil,_ => .nil
 | _,_,_,.cons t ts q v vs h1 h2,a=>by
  simp only [List.all_cons,Bool.and_eq_true] at a;exact .cons t ts q v vs (zPf a.1 h1) (zJM h2 a.2)
theorem zJN:∀{e:Ty} {xs:List (e.den τ)} {vs:List Value},RpR P G h e xs vs→(ets G e).all zhI=true→RpR P G h' e xs vs
 | _,_,_,.nil e,_ => .nil e
 | _,_,_,.cons e x xs vs b h1 h2,a => .cons e x xs vs b (zJM h1 a) (zJN h2 a)
theorem zzb {f:Ty→Bool} (b:∀t x v fp,f t=false→Tr P G h w t x v fp→Tr P G h' w t x v fp):∀{ts:List Ty} {q:DP τ ts} {vs:List Value} {fp:List Nat},TrL P G h w ts q vs fp→ts.any f=false→TrL P G h' w ts q vs fp
 | _,_,_,_,.nil,_ => .nil
 | _,_,_,_,.cons t ts q v vs d c h1 h2 hd,a=>by
  simp only [List.any_cons,Bool.or_eq_false_iff] at a;exact .cons t ts q v vs d c (b _ _ _ _ a.1 h1) (zzb b h2 a.2) hd
theorem zzT:∀(d:Nat) (t:Ty) (x:t.den τ) (v:Value) (fp:List Nat),znc G d t=false→Tr P G h w t x v fp→Tr P G h' w t x v fp
 | 0,t,x,v,fp,a,_=>by cases a
 | d+1,t,x,v,fp,a,k=>by
  unfold znc at a
  cases k with
  | fz _ _ _ c j =>
   refine .fz t x v c ?_
   cases j<;>first|(cases a; done)|(cases c; done)|(constructor; done)|exact .fn _ _ ‹_›
  | so l e xs _ vs m j =>
   refine .so l e xs v vs m (zJN j ?_);simpa using a
  | po n y b vs fp i f hn g=>exact .po n y b vs fp i (zzb (zzT d) f a) hn g
  | pn0 n=>exact .pn0 n
  | pn1 n y _ _ hp =>
   refine .pn1 n y v fp ?_
   cases hp with
   | fz _ _ _ c _=>cases c
   | po _ _ b vs fp i f hn g=>exact .po n y b vs fp i (zzb (zzT d) f a) hn g
theorem zPg {d:Nat} {x:t.den τ} (hs:znc G (d+1) t=false) (ht:TrX P G h w t x v fp):TrX P G h' w t x v fp:=by
 cases t
 case st n =>
  obtain ⟨vs,rfl,hl⟩:=ht;unfold znc at hs;exact ⟨vs,rfl,zzb (zzT d) hl hs⟩
 case pr a b=>exact ht
 case sn te e =>
  rcases ht with h1|⟨xs,h1,h2⟩
  ·exact .inl h1
  ·exact .inr ⟨xs,h1,zzT (d+1) (.so te e) _ _ _ hs h2⟩
 all_goals exact zzT (d+1) _ _ _ _ hs ht
theorem zGa {d:Nat}:∀{ts:List Ty} {q:DP τ ts} {vs:List Value} {fp:List Nat},TrXs P G h w ts q vs fp→ts.any (znc G (d+1))=false→TrXs P G h' w ts q vs fp
 | _,_,_,_,.nil,_ => .nil
 | _,_,_,_,.cons t ts q v vs c b h1 h2 hd,a=>by
  simp only [List.any_cons,Bool.or_eq_false_iff] at a;exact .cons t ts q v vs c b (zPg a.1 h1) (zGa h2 a.2) hd
theorem zzU {rs:List (Option (Option Nat))} (c:∀a∈rs,a≠none):∀(n:Nat) (vs:List Value),outs (zBg n rs) vs=vs.take n
 | 0,vs=>by
  have:∀(rs:List (Option (Option Nat))) (vs:List Value),(∀a∈rs,a≠none)→outs rs vs=[]:=by
   intro rs
   induction rs with
   | nil=>intro vs _; rfl
   | cons a rs e =>
    intro vs h
    cases a with
    | none=>exact (h none (List.mem_cons_self ..) rfl).elim
    | some a =>
     cases vs with
     | nil=>rfl
     | cons v vs=>exact e vs fun b d=>h b (List.mem_cons_of_mem _ d)
  rw [List.take_zero]; exact this rs vs c
 | n+1,[]=>rfl
 | n+1,v::vs=>by
  show v::outs (zBg n rs) vs=_;rw [zzU c n vs,List.take_succ_cons]
theorem zqB {avs:List (XV τ)}:∀{c:List Nat} {rs:List (Option (Option Nat))},roots avs c=some rs→∀a∈rs,a≠none
 | [],rs,e,a,b=>by cases e; cases b
 | j :: c,rs,e,a,b=>by
  unfold roots at e
  split at e
  ·rename_i d h1
   split at e
   ·split at e
    ·cases e
     rcases List.mem_cons.1 b with rfl|b
     ·simp
     ·exact zqB h1 a b
    ·cases e
     rcases List.mem_cons.1 b with rfl|b
     ·simp
     ·exact zqB h1 a b
    ·cases e
     rcases List.mem_cons.1 b with rfl|b
     ·simp
     ·exact zqB h1 a b
    ·cases e
   ·cases e
  ·cases e
theorem zvO {v:XV τ} {u:Value} (a:XOk P G h ν v u):∀{i:Nat} {c:CV τ},zOO v i=some c→zdg P G h ν c (cellV u i)
 | 0,c,e=>by
  cases v with
  | c b=>have e:some b=some c:=e; cases e; exact a
  | _=>cases e
 | i+1,c,e=>by
  cases v with
  | g cs =>
   have e:ziW cs i=some c:=e;obtain ⟨vs,rfl,hc⟩:=a;rw [zgV] at e;obtain ⟨w,h1,h2⟩:=CVs.get (X:=⟨P,G,[],[],0,fun _ => .bool false⟩) hc e;show zdg P G h ν c (vs.getD i undef);rw [List.getD_eq_getElem?_getD,h1]; exact h2
  | _=>cases e
theorem zzV:∀{rs:List (Option (Option Nat))} {i:Nat},some (some i)∈rs→i∈zwU rs
 | a::rs,i,h=>by
  rcases List.mem_cons.1 h with e|h
  ·subst e; exact List.mem_cons_self ..
  ·have:=zzV h
   cases a with
   | none=>exact this
   | some a =>
    cases a with
    | none=>exact this
    | some j=>exact List.mem_cons_of_mem _ this
theorem zvP {avs:List (XV τ)} {vs:List Value} (c:vs.length=avs.length) (d:∀(i:Nat) (A:XV τ) (v:Value),avs[i]? = some A→vs[i]? = some v→XOk P G h ν A v) :
  ∀{n:List Nat} {rs:List (Option (Option Nat))},roots avs n=some rs→nod (zwU rs)=true→(∀i∈zwU rs,lk L i = .gone)→zne L ν rs (n.map (bkV vs))
 | [],rs,e,_,_=>by cases e; trivial
 | j :: n,rs,e,hn,a=>by
  unfold roots at e
  split at e
  ·rename_i p h1
   split at e
   ·rename_i A k
    rw [zgV] at k
    have m:j%32<vs.length:=by rw [c]; exact (List.getElem?_eq_some_iff.1 k).1
    have g:vs[j%32]? = some (vs.getD (j%32) undef):=by rw [List.getD_eq_getElem?_getD,List.getElem?_eq_getElem m]; rfl
    have f:=d _ _ _ k g
    split at e
    ·rename_i id b
     cases e;simp only [zwU,nod,Bool.and_eq_true,Bool.not_eq_true'] at hn;obtain ⟨u,q,hν,o,_⟩:=zvO f b;refine ⟨a id (List.mem_cons_self ..),⟨q,?_⟩,fun l=>?_,zvP c d h1 hn.2 fun i hi=>a i (List.mem_cons_of_mem _ hi)⟩
     ·show ν id=some (bkV vs j,q);unfold bkV;rw [o,hν]; cases u<;>rfl
     ·rw [zeP.2 (zzV l)] at hn; cases hn.1
    ·rename_i id b
     cases e;simp only [zwU,nod,Bool.and_eq_true,Bool.not_eq_true'] at hn;obtain ⟨r,s,t,q,hν,o⟩:=zvO f b;refine ⟨a id (List.mem_cons_self ..),⟨q,?_⟩,fun l=>?_,zvP c d h1 hn.2 fun i hi=>a i (List.mem_cons_of_mem _ hi)⟩
     ·show ν id=some (bkV vs j,q);unfold bkV;rw [o,hν]
     ·rw [zeP.2 (zzV l)] at hn; cases hn.1
    ·rename_i b
     cases e;exact ⟨zvO f b,zvP c d h1 hn a⟩
    ·cases e
   ·cases e
  ·cases e
theorem zCO {rs:List (Option (Option Nat))}:∀{n:Nat} {vs:List Value},zne L ν rs (vs.drop n)→zne L ν (zBg n rs) vs
 | 0,vs,h=>by rw [List.drop_zero] at h; exact h
 | n+1,[],h=>trivial
 | n+1,v::vs,h=>zCO (n:=n) (vs:=vs) (by simpa using h)
theorem zJO {l:List (XV τ)} {v:XV τ} {vs:List Value} (e:zCN l=some v) (h1:zF9 P G h ν l vs):XOk P G h ν v (zzQ vs):=by
 have f:∀{l:List (XV τ)} {ts:List (Bool × List (CV τ))} {vs:List Value},zCN.go l=some ts→zF9 P G h ν l vs→TVs P G h ν ts vs:=by
  intro l
  induction l with
  | nil=>intro ts vs e h1; cases e; exact h1
  | cons x l i =>
   intro ts vs e h1;obtain ⟨v,us,rfl,h2,d⟩:=h1;unfold zCN.go at e
   split at e
   ·cases ‹_::_=[]›
   ·rename_i heq
    cases heq
    split at e
    ·rename_i j a
     cases e;exact ⟨v,us,rfl,h2,i a d⟩
    ·cases e
   ·rename_i heq
    cases heq
    split at e
    ·rename_i j a
     cases e;obtain ⟨k,rfl,m⟩:=h2;exact ⟨k,us,rfl,m,i a d⟩
    ·cases e
   ·cases e
 unfold zCN at e
 split at e
 ·cases e;obtain ⟨u,us,rfl,h2,d⟩:=h1;cases d;exact h2
 ·cases e; cases h1;exact ⟨[],rfl,rfl⟩
 ·rename_i c b
  split at e
  ·rename_i ts g
   cases e;have:=f g h1
   have o:zzQ vs = .tuple ⟨vs⟩:=by
    cases l with
    | nil=>exact (b rfl).elim
    | cons x l =>
     cases l with
     | nil=>exact (c _ rfl).elim
     | cons y l =>
      obtain ⟨v,us,rfl,_,p,n,rfl,_⟩:=h1;rfl
   rw [o];exact ⟨vs,rfl,this⟩
  ·cases e
theorem zpR (l:List Nat):kys (zpd (τ:=τ) l)=l:=by
 induction l with
 | nil=>rfl
 | cons i l a=>exact congrArg (i :: ·) a
theorem zzW (l:List Nat) (Z:Hp τ) {i:Nat} (hi:i∈l):lk (zpd l++Z) i = .gone:=by
 induction l with
 | nil=>cases hi
 | cons j l a =>
  by_cases e:i=j
  ·subst e; exact zby ..
  ·have:lk (zpd (j::l)++Z) i=lk (zpd l++Z) i:=zdS _ _ e;rw [this];exact a ((List.mem_cons.1 hi).resolve_left e)
end
end Go.Rk
end
section
namespace Go.Rk
open Go.RowKit Go.Dm Go.Dk
variable {τ:Nat→Type}
variable {ats:Array TypeId} {args:List Operand} {f:Nat} {id:Nat} {e:Ty}
section
variable {ρ:Type} {X:Cx τ} {w0 w w':World} {h0 h h' H:Fz} {F:List Nat} {o:Oper} {E:zad τ} {L L2:Hp τ} {ν ν':Vn τ} {φ φ':Nat→List Nat} {nid nid':Nat} {K:Nx τ ρ} {r:ρ} {v:XV τ} {U:Hp τ} {tch:List Nat} {g:List (XV τ)}
variable {a:Act} {x y z:Operand} {t' t ty u':Nat} {dst:Option Nat} {p:String} {af:Array Edge} {gd:Option (Nat × Bool)}
theorem zvt:∀{args:List Operand} {avs:List (XV τ)},zvp E args=some avs→avs.length=args.length∧∀(i:Nat) (A:XV τ),avs[i]? = some A→∃z,args[i]? = some z∧evX E z=some A
 | [],avs,e=>by cases e; exact ⟨rfl,fun i A h=>by simp at h⟩
 | z::args,avs,e=>by
  unfold zvp at e
  split at e
  ·rename_i A c
   split at e
   ·rename_i d a
    cases e;obtain ⟨h1,h2⟩:=zvt a;refine ⟨by simp [h1],fun i B b=>?_⟩
    cases i with
    | zero=>simp at b; subst b; exact ⟨z,rfl,c⟩
    | succ i=>exact h2 i B b
   ·cases e
  ·cases e
theorem zzo {args:Array Operand} {vs:List Value} (d:zfu X.P f) (i:a.eval x = .func (.func f) #[] #[]) (g:args.map a.eval=vs.toArray) :
  (execOp a.eval { dst:=dst,op := .call { callee := .value x,args:=args,argTypes:=ats },type:=t,pos:=p,after:=af,guard:=gd }).run X.P w = .ok (.enter f vs.toArray) w:=by
 obtain ⟨fn,d,c,b⟩:=d;simp only [execOp,resolve,g];rw [i];simp only [Deferred.ofValue]
 have h:¬ fn.body=none:=by intro e; rw [e] at c; cases c
 have hn:¬ fn.name = "runtime.NumGoroutine" := by intro e; rw [e] at b; cases b
 simp [invoke,callFunc,d,hn,h]
theorem Mem.called (M:Mem X.P X.G w0 h0 F L2 w ν h φ) {l m:List Nat} {Z:Hp τ} {h2:Fz} {fp':List Nat} (c:Left (zrV h w (fps φ m)) w (fps φ l) h' w' fp') (S:∀i∈l,i∉m) (T:∀i∈l++m,lk L2 i=lk L i)
  (hz:(Rk.freeze L m=some Z∧h2=h')∨(Z=[]∧h2=h)):∃φ',Mem X.P X.G w0 h0 F ((zpd l++Z)++L2) w' ν h2 φ'∧zhJ w0 h2 F φ' fp':=by
 have D:=M.lend_le m;have U:=zvL (h:=h) (bs:=fps φ m) M.on
 have hlh:∀b∈fps φ l,h b=none:=fun b a=>by obtain ⟨i,_,hi⟩:=zeZ.1 a; exact (M.out i b hi).1
 have C:∀b,zrV h w (fps φ m) b≠none→h b≠none∨b∈fps φ m:=by
  intro b a
  by_cases e:b∈fps φ m
  ·exact .inr e
  ·rw [zkt e] at a; exact .inl a
 have d:∀{φ':Nat→List Nat} {h2:Fz},(∀i b,b∈φ' i→b∈φ i∧i∉l)→(∀b,h2 b≠none→h' b≠none)→zhJ w0 h2 F φ' fp':=by
  intro φ' h2 h1 p b a;obtain ⟨Y,g⟩:=c.own b a;refine ⟨fun i hi=>?_,?_,?_⟩
  ·obtain ⟨y,A⟩:=h1 i b hi
   rcases g with g|g
   ·obtain ⟨j,O,r⟩:=zeZ.1 g;exact A (M.dis i j b y r▸O)
   ·have:=M.lt y; omega
  ·cases e:h2 b with
   | none=>rfl
   | some o=>exact (p b (by rw [e]; simp) Y).elim
  ·rcases g with g|g
   ·obtain ⟨j,_,r⟩:=zeZ.1 g; exact (M.out j b r).2
   ·exact .inr (Nat.le_trans M.size g)
 rcases hz with ⟨V,rfl⟩|⟨rfl,rfl⟩
 ·obtain ⟨K,Q⟩:=zxd V
  have x:∀i,i∉l++m→lk ((zpd l++Z)++L2) i=lk L2 i:=fun i hi=>zdh _ (by
   simp only [kys,List.map_append];intro hc
   rcases List.mem_append.1 hc with hc|hc
   ·exact hi (List.mem_append_left _ (by rw [← zpR (τ:=τ) l]; exact hc))
   ·exact hi (List.mem_append_right _ (by rw [← K]; exact hc)))
  have R:∀i∈l++m,lk ((zpd l++Z)++L2) i=lk (zpd l++Z) i:=fun i hi=>zhs _ (by
   simp only [kys,List.map_append]
   rcases List.mem_append.1 hi with hi|hi
   ·exact List.mem_append_left _ (by have:=zpR (τ:=τ) l; rw [kys] at this; rw [this]; exact hi)
   ·exact List.mem_append_right _ (by rw [kys] at K; rw [K]; exact hi))
  have H:∀i∈m,lk (zpd l++Z) i=lk Z i:=fun i hi=>by
   rw [zdh];rw [zpR];exact fun hc=>S i hc hi
  refine ⟨zAe φ (l++m),?_,d (fun i b a=>?_) (fun b a=>a)⟩
  ·refine M.upd (l++m) x (fun i hi=>znP hi) (Vn.le.refl _) (D.trans c.le) c.os c.tape c.output c.size (fun b a hc=>c.frame b a fun hd=>hc (by rw [zfy]; exact List.mem_append_left _ hd))
    (fun b o _ e=>c.on b o e) (fun b I n=>?_) (fun i hi=>?_) (fun i hi b a=>by rw [zii hi] at a; cases a) (fun i hi j _ b a=>by rw [zii hi] at a; cases a)
   ·rcases c.new b n with h1|h1|h1
    ·rcases C b h1 with h2|h2
     ·exact (h2 I).elim
     ·exact .inl (by rw [zfy]; exact List.mem_append_right _ h2)
    ·exact .inl (by rw [zfy]; exact List.mem_append_left _ h1)
    ·exact .inr h1
   ·rw [R i hi,zii hi]
    by_cases J:i∈l
    ·rw [zzW l Z J]; rfl
    ·have s:i∈m:=(List.mem_append.1 hi).resolve_left J;rw [H i s]
     have f:∀j∈m, ∀b∈φ j,h2 b=w.heap[b]? := fun j O b a=>by
      have N:b∈fps φ m:=zeZ.2 ⟨j,O,a⟩;have E:=M.lt a
      have:zrV h w (fps φ m) b=some w.heap[b]:=by rw [zqA N]; exact Array.getElem?_eq_getElem E
      rw [c.le _ _ this]; exact (Array.getElem?_eq_getElem E).symm
     obtain ⟨e',xs,h1,h2⟩:=Q i s;rw [h1];have t:=M.res i;rw [T i hi] at t
     rcases h2 with ⟨W,k,h2⟩|h2|⟨j,k,lo,W,n,ys,h2,p,z⟩
     ·rw [h2] at t;obtain ⟨v,q,vs,u,p,z,y,A,_⟩:=t;exact ⟨v,q,p,rfl,zw5 (w:=w) (D.trans c.le) y A fun b a=>f i s b (by rw [z]; exact a)⟩
     ·rw [h2] at t;obtain ⟨v,q,p,_,z⟩:=t;exact ⟨v,q,p,rfl,z.le (D.trans c.le)⟩
     ·rw [h2] at t;have B:=M.res j;rw [T j (List.mem_append_right _ z),p] at B;obtain ⟨v,q,y,_,A⟩:=vw_fz t B (D.trans c.le) fun b a=>f j z b a;exact ⟨v,q,y,rfl,A⟩
  ·by_cases hi:i∈l++m
   ·rw [zii hi] at a; cases a
   ·rw [znP hi] at a; exact ⟨a,fun hc=>hi (List.mem_append_left _ hc)⟩
 ·have x:∀i,i∉l→lk ((zpd l++[])++L2) i=lk L2 i:=fun i hi=>zdh _ (by rw [List.append_nil,zpR]; exact hi);refine ⟨zAe φ l,?_,d (fun i b a=>?_) (fun b a=>?_)⟩
  ·refine M.upd l x (fun i hi=>znP hi) (Vn.le.refl _) (Fz.le.refl _) c.os c.tape c.output c.size (fun b a hc=>c.frame b a hc)
    (fun b o I n=>by rw [I] at n; cases n) (fun b I n=>(n I).elim) (fun i hi=>?_) (fun i hi b a=>by rw [zii hi] at a; cases a) (fun i hi j _ b a=>by rw [zii hi] at a; cases a)
   rw [zii hi,zhs _ (by rw [List.append_nil,zpR]; exact hi),zzW l [] hi]; rfl
  ·by_cases hi:i∈l
   ·rw [zii hi] at a; cases a
   ·rw [znP hi] at a; exact ⟨a,hi⟩
  ·cases e:h2 b with
   | none=>exact (a e).elim
   | some o=>rw [c.le _ _ (D _ _ e)]; simp
theorem bcT {α:Type} {x y:α}:bc true x y=x:=rfl
theorem bcF {α:Type} {x y:α}:bc false x y=y:=rfl
def Entr (X:Cx τ) (w0:World) (h0:Fz) (F:List Nat) (E:zad τ) (L:Hp τ) (c:List Nat) (o:Oper) (f:Nat) (avs:List (XV τ)):Prop:=∀(b:Hp τ) (ν:Vn τ) (h:Fz) (φ:Nat→List Nat) (a:Act) (w:World),a.defers=[]→Mem X.P X.G w0 h0 F b w ν h φ→zeL X h ν a (rdO o.op) E→(∀i∈c,lk b i=lk L i)→zfu X.P f →
 ∃vs:List Value,vs.length=avs.length∧(∀(i:Nat) (A:XV τ) (v:Value),avs[i]? = some A→vs[i]? = some v→XOk X.P X.G h ν A v)∧(execOp a.eval o).run X.P w = .ok (.enter f vs.toArray) w
theorem zsi {f:Nat} {avs:List (XV τ)} (T0:List Nat) (hen:Entr X w0 h0 F E L T0 o f avs):∀{cs:zy7 τ},(∀q∈cs,COk X.P X.G q.1 q.2)→zos X L nid (fun v g U t n=>K v g U (T0++t) n) f avs cs=some r →
  zdD X w0 h0 F o E L nid K r
 | [],_,e=>by cases e
 | (g,k) :: cs,hC,e=>by
  have ih:zos X L nid (fun v g U t n=>K v g U (T0++t) n) f avs cs=some r→zdD X w0 h0 F o E L nid K r:=zsi T0 hen fun q hq=>hC q (List.mem_cons_of_mem _ hq);unfold zos at e
  cases hg:Nat.beq g f with
  | false=>rw [hg,bcF] at e; exact ih e
  | true =>
   rw [hg,bcT] at e
   have hgf:g=f:=by simpa using hg
   subst hgf
   split at e
   ·rename_i pp l m hres
    cases hn:(nod l&&zy8 l m) with
    | false=>rw [hn,bcF] at e; exact ih e
    | true =>
     rw [hn,bcT] at e;simp only [Bool.and_eq_true] at hn
     split at e
     ·rename_i Z hZ
      split at e
      ·rename_i rs hrs
       obtain ⟨hroots,e⟩:=zg0 e;simp only [Bool.and_eq_true,List.all_eq_true] at hroots;obtain ⟨R,hR,e⟩:=ob e;obtain ⟨outl,U,nid',h1,h2,_,h4⟩:=zPe (P:=X.P) (w0:=w0) (h0:=h0) (F:=F) _ _ _ _ _ e
       split at h1
       ·rename_i v hv
        refine ⟨_,_,_,_,_,h1,h2,fun z hz=>by rw [List.mem_singleton.1 hz]; rfl,fun L2 ν h φ a w next Q hd M hE ha0 hfr kk=>?_⟩;have ha:∀i∈l++m,lk L2 i=lk L i:=fun i hi=>ha0 i (List.mem_append_right _ hi);obtain ⟨hcall,hok⟩:=hC _ (List.mem_cons_self ..);have hdis:=zw7 hn.2;obtain ⟨avals,hlen,hvs,hexec⟩:=hen L2 ν h φ a w hd M hE (fun i hi=>ha0 i (List.mem_append_left _ hi)) hcall;have hH:=M.lend_le m;have hlook:zcd L2 L φ (zrV h w (fps φ m)) w m:=M.look fun i hi=>ha i (List.mem_append_right _ hi);have htr:=zzR M hH hres (fun i hi=>ha i (List.mem_append_left _ hi)) hlook hn.1 hlen hvs
        have hnone:∀b∈fps φ l,zrV h w (fps φ m) b=none:=by
         intro b hb;rw [zkt (M.fps_dis hdis b hb)];obtain ⟨i,_,hi⟩:=zeZ.1 hb;exact (M.out i b hi).1
        have hcalls:=hok _ w pp R avals _ (M.gl.le hH) M.fp (zvL M.on) htr hnone hR;unfold Oper.wp;rw [hexec];refine Calls.mono hcalls ?_;rintro e1 w' ⟨h',rvs,fp',rfl,hleft,hres',hback⟩
        have hzz:(freeze L m=some Z∧(if k.rs.any (znc X.G depth)=true then h' else h)=h')∨(Z=[]∧(if k.rs.any (znc X.G depth)=true then h' else h)=h):=by
         cases hs:k.rs.any (znc X.G depth) with
         | true=>rw [hs] at hZ; exact .inl ⟨hZ,by simp⟩
         | false=>rw [hs] at hZ; cases hZ; exact .inr ⟨rfl,by simp⟩
        obtain ⟨φ',M',hfree⟩:=Mem.called (Z:=Z) M hleft hdis ha hzz
        have hres2:TrXs X.P X.G (if k.rs.any (znc X.G depth)=true then h' else h) w' k.rs R rvs fp':=by
         cases hs:k.rs.any (znc X.G depth) with
         | true=>simpa using hres'
         | false=>simpa using zGa (h':=h) hres' hs
        have hgl:∀i∈zwU rs,lk ((zpd l++Z)++L2) i = .gone:=by
         intro i hi;have hil:i∈l:=zeP.1 (hroots.2 i hi);rw [zhs,zzW l Z hil];simp only [kys,List.map_append];exact List.mem_append_left _ (by have:=zpR (τ:=τ) l; rw [kys] at this; rw [this]; exact hil)
        have hRo:zne ((zpd l++Z)++L2) ν (zBg k.nr rs) rvs:=zCO (by
         rw [hback]
         exact zvP (P:=X.P) (G:=X.G) (h:=h) hlen hvs hrs hroots.1 hgl)
        obtain ⟨ν', φ'',A,hxs⟩:=h4 _ w' ν _ φ' rvs fp' M' hres2 hfr hfree hRo;rw [zzU (zqB hrs)] at hxs
        have hle2:h.le (if k.rs.any (znc X.G depth)=true then h' else h):=by
         split
         ·exact hH.trans hleft.le
         ·exact Fz.le.refl _
        exact kk ν' _ φ'' w' _ (by rw [List.append_assoc]; exact A.mem) A.le hle2 A.fresh (zJO hv hxs)
       ·cases h1
      ·cases e
     ·cases e
   ·exact ih e
theorem zDd {avs:List (XV τ)} {x:Operand} (b:zvp E args=some avs) (hd:a.defers=[]) (k:zeL X h ν a (rdO (.call ⟨.value x,⟨args⟩,ats⟩)) E) :
  (args.map a.eval).length=avs.length∧∀(i:Nat) (A:XV τ) (v:Value),avs[i]? = some A→(args.map a.eval)[i]? = some v→XOk X.P X.G h ν A v:=by
 obtain ⟨c,d⟩:=zvt b;refine ⟨by simp [c],fun i A v j f=>?_⟩;obtain ⟨z,g,e⟩:=d i A j;rw [List.getElem?_map,g] at f;cases f;exact zrM hd (k.op (by simp only [Op.operands,Call.operands]; simp; exact .inr (List.mem_of_getElem? g))) e
theorem zFC {avs:List (XV τ)} (i:evC E x=some (.fn f)) (c:zvp E args=some avs) {cs:zy7 τ} (m:∀q∈cs,COk X.P X.G q.1 q.2) (e:zos X L nid K f avs cs=some r) :
  zdD X w0 h0 F ⟨dst,.call ⟨.value x,⟨args⟩,ats⟩,t,p,af,gd⟩ E L nid K r :=
 zsi [] (fun s ν h φ a w hd M g _ b=>by
  obtain ⟨h1,h2⟩:=zDd c hd g;obtain ⟨o,j,d⟩:=zef a hd;obtain ⟨n,k,l⟩:=zB d (g.op (by simp [Op.operands,Call.operands])) i;obtain rfl:n=_:=l
  exact ⟨_,h1,h2,zzo (X:=X) (w:=w) (dst:=dst) (t:=t) (p:=p) (af:=af) (gd:=gd) (ats:=ats) (args:=⟨args⟩) (vs:=args.map a.eval) b (j.ev k) (by simp)⟩) m e
theorem zzp {args:Array Operand} {us vs cs:List Value} (d:zfu X.P f) (i:a.eval x = .func (.func f) ⟨us⟩ ⟨cs⟩) (g:args.map a.eval=vs.toArray) :
  (execOp a.eval { dst:=dst,op := .call { callee := .value x,args:=args,argTypes:=ats },type:=t,pos:=p,after:=af,guard:=gd }).run X.P w = .ok (.enter f (us++(vs++cs)).toArray) w:=by
 obtain ⟨fn,d,c,b⟩:=d;simp only [execOp,resolve,g];rw [i];simp only [Deferred.ofValue]
 have h:¬ fn.body=none:=by intro e; rw [e] at c; cases c
 have hn:¬ fn.name = "runtime.NumGoroutine" := by intro e; rw [e] at b; cases b
 simp [invoke,callFunc,d,hn,h]
theorem zLG {avs:List (XV τ)} {tc:Ty} {n:tc.den τ} (s:evC E x=some (.cl f tc n)) (g:zvp E args=some avs) {cs:zy7 τ} (C:∀q∈cs,COk X.P X.G q.1 q.2) (e:zos X L nid K f (avs++[.c (tc.av n)]) cs=some r) :
  zdD X w0 h0 F ⟨dst,.call ⟨.value x,⟨args⟩,ats⟩,t,p,af,gd⟩ E L nid K r :=
 zsi [] (fun I ν h φ a w hd M o _ d=>by
  obtain ⟨h1,h2⟩:=zDd g hd o;obtain ⟨H,y,l⟩:=zef a hd;obtain ⟨D,z,m⟩:=zB l (o.op (by simp [Op.operands,Call.operands])) s;have m:Rp X.P X.G h (.cl f tc) n D:=m
  cases m with
  | cl _ _ _ u B =>
   refine ⟨args.map a.eval++[u],by simp [h1],fun i A v b k=>?_,?_⟩
   ·by_cases hi:i<avs.length
    ·rw [List.getElem?_append_left hi] at b;rw [List.getElem?_append_left (by omega)] at k;exact h2 i A v b k
    ·rw [List.getElem?_append_right (by omega)] at b;rw [List.getElem?_append_right (by omega),h1] at k
     cases hj:i-avs.length with
     | zero =>
      rw [hj] at b k;cases b;cases k;exact zJH B
     | succ j=>rw [hj] at b; simp at b
   ·have:=zzp (X:=X) (w:=w) (dst:=dst) (t:=t) (p:=p) (af:=af) (gd:=gd) (ats:=ats) (args:=⟨args⟩) (us:=[]) (vs:=args.map a.eval) (cs:=[u]) d (y.ev z) (by simp)
    simpa using this) C e
theorem zO2 {c:CV τ} (hx:evC E x=some c) (k:K (.c (.cf nid)) [] [(nid,.clo f [] [c])] [] (nid+1)=some r):zdD X w0 h0 F ⟨dst,.makeFunc (.func f) ⟨[]⟩ ⟨[x]⟩,t,p,af,gd⟩ E L nid K r:=by
 refine ⟨_,_,_,_,_,k,Nat.le_succ _,(fun _ h=>by cases h),fun L2 ν h φ a w next Q hd M hE ha hfr kk=>?_⟩;have hn:=hfr nid (Nat.le_refl _) (Nat.lt_succ_self _);obtain ⟨Ea,hf,hl'⟩:=zef a hd;obtain ⟨vx,g1,g2⟩:=zB hl' (hE.op (by simp [Op.operands])) hx
 have hrun:(execOp a.eval ⟨dst,.makeFunc (.func f) ⟨[]⟩ ⟨[x]⟩,t,p,af,gd⟩).run X.P w = .ok (.value (.func (.func f) ⟨[]⟩ ⟨[a.eval x]⟩)) w:=by
  simp [execOp,Instr.makeFunc,Result.andThen]
 rw [hf.ev g1] at hrun;refine zgm hrun (kk (up1 ν nid (some (.func (.func f) ⟨[]⟩ ⟨[vx]⟩,none))) h _ w _ (M.add hn (.clo f [] [c]) _ (fp:=[]) ⟨_,_,_,rfl,rfl,rfl,⟨vx,[],rfl,g2.le (Fz.le.refl _) (zbV hn),rfl⟩⟩ (fun b hb=>by cases hb)) (zbV hn) (Fz.le.refl _) zet ⟨f,_,_,none,za0 _ _ _,rfl⟩)
theorem zLH {f i:Nat} {avs:List (XV τ)} (n:evC E x=some (.mv f i)) (d:zvp E args=some avs) {cs:zy7 τ} (z:∀q∈cs,COk X.P X.G q.1 q.2) (e:zos X L nid K f (.c (.pt i 0)::avs) cs=some r) :
  zdD X w0 h0 F ⟨dst,.call ⟨.value x,⟨args⟩,ats⟩,t,p,af,gd⟩ E L nid K r :=
 zsi [] (fun C ν h φ a w hd M m _ b=>by
  obtain ⟨h1,h2⟩:=zDd d hd m;obtain ⟨B,o,g⟩:=zef a hd;obtain ⟨D,s,y⟩:=zB g (m.op (by simp [Op.operands,Call.operands])) n;obtain ⟨u,q,hν,rfl⟩:=y;refine ⟨.pointer u::args.map a.eval,by simp [h1],fun j A v k l=>?_,?_⟩
  ·cases j with
   | zero =>
    cases k;cases l;exact ⟨u,q,hν,by cases u<;>rfl,fun e=>(e rfl).elim⟩
   | succ j=>exact h2 j A v (by simpa using k) (by simpa using l)
  ·have:=zzp (X:=X) (w:=w) (dst:=dst) (t:=t) (p:=p) (af:=af) (gd:=gd) (ats:=ats) (args:=⟨args⟩) (us:=[.pointer u]) (vs:=args.map a.eval) (cs:=[]) b (o.ev s) (by simp)
   simpa using this) z e
theorem zLI {f i:Nat} (e:evC E x=some (.pt i 0)) (k:K (.c (.mv f i)) [] [] [] nid=some r):zdD X w0 h0 F ⟨dst,.makeFunc (.func f) ⟨[x]⟩ ⟨[]⟩,t,p,af,gd⟩ E L nid K r:=by
 refine zbp k fun s ν h φ a w hd M m n=>?_;obtain ⟨o,g,d⟩:=zef a hd;obtain ⟨v,j,l⟩:=zB d (m.op (by simp [Op.operands])) e;obtain ⟨u,q,hν,rfl,_⟩:=l
 have b:(execOp a.eval ⟨dst,.makeFunc (.func f) ⟨[x]⟩ ⟨[]⟩,t,p,af,gd⟩).run X.P w = .ok (.value (.func (.func f) ⟨[a.eval x]⟩ ⟨[]⟩)) w:=by
  simp [execOp,Instr.makeFunc,Result.andThen]
 rw [g.ev j] at b;exact ⟨_,b,u,q,hν,by cases u<;>rfl⟩
theorem zLJ {P:Program} {t b:TypeId} (h:mpO P t=some b):∃a,P.underlying t=some (.map a b)∧P.underlying a=some (.int .i64):=by
 unfold mpO at h
 split at h
 ·rename_i a c h1
  split at h
  ·rename_i h2; cases h; exact ⟨a,h1,h2⟩
  ·cases h
 ·cases h
theorem zO3 {P:Program} {t:TypeId} (h:strZ P t=true) (w:World):(zeroValue t).run P w = .ok (str []) w:=by
 unfold strZ at h
 split at h
 ·rename_i i hi
  split at h
  ·rename_i hz
   simp [zeroValue,typeInfo,hi,hz,go_sem,Result.andThen,str]
  ·cases h
 ·cases h
theorem zLK (k:K (.c (.mp nid)) [] [(nid,.mp [])] [] (nid+1)=some r):zdD X w0 h0 F ⟨dst,.makeMap t' none,t,p,af,gd⟩ E L nid K r:=by
 refine ⟨_,_,_,_,_,k,Nat.le_succ _,(fun _ h=>by cases h),fun L2 ν h φ a w next Q hd M hE ha hfr kk=>?_⟩;have hn:=hfr nid (Nat.le_refl _) (Nat.lt_succ_self _);have hr:(execOp a.eval ⟨dst,.makeMap t' none,t,p,af,gd⟩).run X.P w = .ok (.value (.map (some w.heap.size))) (w.alloc (.map #[] 0)):=rfl;exact zgm hr (kk _ h _ _ _ (M.alloc hn _ (.mp []) (.map (some w.heap.size),none) ⟨_,none,rfl,rfl,zkx _⟩) (zbV hn) (Fz.le.refl _) zet ⟨_,none,za0 _ _ _,rfl⟩)
theorem zKF {et:TypeId} {l:List (Int × Str)} {kx:Int} {vx:Str} (ht:mpO X.P t'=some et) (hx:evC E x=some (.mp id)) (hl:lk L id = .mp l) (hy:evC E y=some (.i kx)) (hz:evC E z=some (.s vx)) (hf0:(l.find? fun q=>q.1==kx)=none)
  (k:K .un [] [(id,.mp (l++[(kx,vx)]))] [id] nid=some r):zdD X w0 h0 F ⟨dst,.insert t' x y z,t,p,af,gd⟩ E L nid K r:=by
 obtain ⟨kt,h1,h2⟩:=zLJ ht;refine ⟨_,_,_,_,_,k,Nat.le_refl _,(fun _ h=>by cases h),fun L2 ν h φ a w next Q hd M hE ha hfr kk=>?_⟩;obtain ⟨Ea,hf,hl'⟩:=zef a hd;obtain ⟨ux,g1,g2⟩:=zB hl' (hE.op (by simp [Op.operands])) hx;obtain ⟨uy,g3,g4⟩:=zB hl' (hE.op (by simp [Op.operands])) hy;obtain ⟨uz,g5,g6⟩:=zB hl' (hE.op (by simp [Op.operands])) hz;obtain rfl:uy=_:=g4;obtain rfl:uz=_:=g6;obtain ⟨b,q,hν,rfl⟩:=g2;have hr:=M.res id;rw [ha id (List.mem_singleton.2 rfl),hl] at hr;obtain ⟨b',q',c1,c2,c3⟩:=hr;rw [hν] at c1;cases c1;have hlt:b<w.heap.size:=(Array.getElem?_eq_some_iff.1 c3).1
 have hrun:(execOp a.eval ⟨dst,.insert t' x y z,t,p,af,gd⟩).run X.P w = .ok .skip { w with heap:=w.heap.setIfInBounds b (zsy (l++[(kx,vx)])) }:=by
  simp only [execOp]; rw [hf.ev g1,hf.ev g3,hf.ev g5];simp [zIe h1 h2 c3 hf0,Result.andThen]
 refine zIt hrun (kk ν h φ _ undef (M.turn (.mp (l++[(kx,vx)])) c2 (Vn.le.refl _) rfl rfl rfl (by simp) (fun j hj=>by simp [Array.getElem?_setIfInBounds,Ne.symm hj]) ⟨b,q,hν,rfl,?_⟩) (Vn.le.refl _) (Fz.le.refl _) (zdM.refl _ _ _) rfl);show ({ w with heap:=w.heap.setIfInBounds b (zsy (l++[(kx,vx)])) }:World).heap[b]? = _;simp [Array.getElem?_setIfInBounds,hlt]
theorem zHY {m:TypeId} {l:List (Int × Str)} {d:Int} (u:mpO X.P t'=some m) (o:strZ X.P m=true) (n:evC E x=some (.mp id)) (C:lk L id = .mp l) (D:evC E y=some (.i d))
  (k:K (.t [(false,[.s (zq2 l d).1]),(false,[.b (zq2 l d).2])]) [] [] [id] nid=some r):zdD X w0 h0 F ⟨dst,.lookup t' x y true,t,p,af,gd⟩ E L nid K r:=by
 obtain ⟨O,h1,h2⟩:=zLJ u;refine zbp k fun R ν h φ a w hd M g z=>?_;obtain ⟨Q,e,c⟩:=zef a hd;obtain ⟨S,v,A⟩:=zB c (g.op (by simp [Op.operands])) n;obtain ⟨G,I,H⟩:=zB c (g.op (by simp [Op.operands])) D;obtain rfl:G=_:=H;obtain ⟨b,q,hν,rfl⟩:=A;have j:=M.res id;rw [z id (List.mem_singleton.2 rfl),C] at j;obtain ⟨T,J,f,N,B⟩:=j;rw [hν] at f;cases f;refine ⟨_,?_,_,rfl,_,_,rfl,rfl,_,_,rfl,rfl,rfl⟩;simp only [execOp];rw [e.ev v,e.ev I];simp only [Sem.run_bind,zIf h1 h2 (zO3 o) B,Result.andThen,Sem.run_pure]
theorem zLL {m:Int} {K:Nat→Option ρ}:∀{n k:Nat},arK m n k K=some r→∃j,k≤j∧j<k+n∧m=(j:Int)∧K j=some r
 | 0,k,e=>by cases e
 | n+1,k,e=>by
  unfold arK at e
  split at e
  ·rename_i h
   exact ⟨k,Nat.le_refl _,by omega,by simpa [isN] using h,e⟩
  ·obtain ⟨j,h1,h2,b,a⟩:=zLL e;exact ⟨j,by omega,by omega,b,a⟩
theorem arr_ok {n s id j:Nat} {m:Int} {bt:TypeId} {cs:List (CV τ)} (d:arO X.P t'=some (n,s)) (D:evC E x=some (.pt id 0)) (O:evC E y=some (.i m)) (N:lk L id = .blk bt cs) (Q:j<n) (R:m=(j:Int)) (k:K (.c (.pt id (j*s))) [] [] [id] nid=some r) :
  zdD X w0 h0 F ⟨dst,.indexAddr t' x y,t,p,af,gd⟩ E L nid K r:=by
 refine zbp k fun L2 ν h φ a w hd M z o=>?_;obtain ⟨Z,G,f⟩:=zef a hd;obtain ⟨W,h1,h2⟩:=zB f (z.op (by simp [Op.operands])) D;obtain ⟨U,I,T⟩:=zB f (z.op (by simp [Op.operands])) O;obtain rfl:U=_:=T;obtain ⟨u,q,v,J,_⟩:=h2;have B:=M.res id;rw [o id (List.mem_singleton.2 rfl),N] at B;obtain ⟨b,Y,vs,C,_,g4,_⟩:=B;rw [v] at C;cases C;obtain rfl:W=ptr b 0:=J;subst R
 obtain ⟨e,H,l⟩:∃e,X.P.underlying t'=some (.array n e)∧znV X.P e=some s:=by
  unfold arO at d
  split at d
  ·rename_i V e S
   cases A:Nat.ble V 8 with
   | false=>rw [A] at d; cases d
   | true =>
    rw [A] at d;dsimp only [cond_true] at d
    split at d
    ·rename_i s' l
     cases d;exact ⟨e,S,zgp l⟩
    ·cases d
  ·cases d
 have g:(⟨b,0,none⟩:Addr).add (j*s)=⟨b,j*s,none⟩:=by unfold Addr.add; split<;>simp_all
 refine ⟨ptr b (j*s),?_,some ⟨b,0,none⟩,q,v,by simp [zvn],fun _=>⟨b,rfl⟩⟩;refine zB7 (fun w=>?_) G h1 I;simp [Instr.indexAt,Instr.sureAddr,ptr,asIntOf,run_underlying H,zeo l,Q,g,Result.andThen]
theorem fm_ok {m:UInt8→Option Bool} {c:UInt8} {b:Bool} (hf:evC E x=some (.fm m)) (hy:evC E y=some (.u8 c)) (hm:m c=some b) (k:K (.c (.b b)) [] [] [] nid=some r):zdD X w0 h0 F ⟨dst,.call ⟨.value x,⟨[y]⟩,ats⟩,t,p,af,gd⟩ E L nid K r:=by
 refine ⟨_,_,_,_,_,k,Nat.le_refl _,(fun _ h=>by cases h),fun L2 ν h φ a w next Q hd M hE ha hn k=>?_⟩;obtain ⟨Ea,hfi,hl'⟩:=zef a hd;obtain ⟨vf,g1,g2⟩:=zB hl' (hE.op (by simp [Op.operands,Call.operands])) hf;obtain ⟨vy,g3,g4⟩:=zB hl' (hE.op (by simp [Op.operands,Call.operands])) hy;obtain rfl:vy=_:=g4;have g2:Rp X.P X.G h .fn m vf:=g2
 cases g2 with
 | fn _ f hfn =>
  have hexec:=zzo (X:=X) (w:=w) (dst:=dst) (t:=t) (p:=p) (af:=af) (gd:=gd) (ats:=ats) (args:=⟨[y]⟩) (vs:=[zcs c]) hfn.1 (hfi.ev g1) (by simp [hfi.ev g3]);unfold Oper.wp;rw [hexec];refine Calls.mono (hfn.2 c b w hm) ?_;rintro e w' ⟨rfl,hb⟩;exact k ν h φ w' _ (M.grow hb) (Vn.le.refl _) (Fz.le.refl _) (zdM.refl _ _ _) rfl
theorem conv_i {n m:Int} {us:TypeDesc} (d:evC E x=some (.i n)) (f:X.P.underlying t'=some (.int .i64)) (e:X.P.underlying ty=some us) (l:zJ3 n=some m) (k:K (.c (.i m)) [] [] [] nid=some r):zdD X w0 h0 F ⟨dst,.convert ty t' x,t,p,af,gd⟩ E L nid K r:=by
 refine zbp k fun u ν h φ a w hd M j q=>?_;obtain ⟨s,g,b⟩:=zef a hd;obtain ⟨o,h1,h2⟩:=zB b (j.op (by simp [Op.operands])) d;obtain rfl:o=_:=h2;exact ⟨_,zLl f e g h1 l,rfl⟩
theorem zLM {id e:Nat} {n:Nat} (v:evC E x=some (.os id)) (A:elO X.P t'=some e) (k:K (.c (.i (n:Int))) [] [] [id] nid=some r) (hn:(∃j e xs l,lk L id = .row j e xs l∧xs.length=n)∨(∃e xs,lk L id = .fz e xs∧xs.length=n)) :
  zdD X w0 h0 F ⟨dst,.call ⟨.builtin .len,⟨[x]⟩,⟨[t']⟩⟩,t,p,af,gd⟩ E L nid K r:=by
 refine zbp k fun J ν h φ a w hd M D B=>?_;obtain ⟨I,z,f⟩:=zef a hd;obtain ⟨N,h1,h2⟩:=zB f (D.op (by simp [Op.operands,Call.operands])) v;obtain ⟨ad,m,H,q,hν,rfl⟩:=h2
 have C:m=n:=by
  have d:=M.res id;rw [B id (List.mem_singleton.2 rfl)] at d
  rcases hn with ⟨j,e,xs,l,g,rfl⟩|⟨e,xs,g,rfl⟩
  ·rw [g] at d;obtain ⟨G,y,vs,u,b,o,s,_⟩:=d;rw [hν] at b;cases b;exact s.len.1
  ·rw [g] at d;obtain ⟨G,y,b,_,o⟩:=d;rw [hν] at b;cases b;cases o; rfl
 subst C;exact ⟨_,ztb (zk9 A) z h1,rfl⟩
theorem zqt (xs:List (e.den τ)):zna (t':=e) xs=some xs:=dif_pos rfl
theorem zKG {c:CV τ} {xs:List (e.den τ)} {ids:List Nat} (k:rowZ L c=some ⟨e,xs,ids⟩):zFz L e c=some (xs,ids):=by
 unfold rowZ at k
 split at k
 ·cases k; unfold zFz; dsimp only; rw [zqt]
 ·rename_i id
  split at k
  ·rename_i a; cases k; unfold zFz; dsimp only; rw [a]; dsimp only; rw [zqt]
  ·rename_i a; cases k; unfold zFz; dsimp only; rw [a]; dsimp only; rw [zqt]
  ·rename_i i g m lo f a
   split at k
   ·rename_i j l ys h d
    cases b:Nat.beq g h with
    | false=>rw [b] at k; cases k
    | true =>
     rw [b] at k;cases k;unfold zFz; dsimp only; rw [a]; dsimp only; rw [d]; dsimp only; rw [b,cond_true,zqt]
   ·cases k
  ·cases k
 ·cases k
theorem zO4 (M:Mem X.P X.G w0 h0 F L2 w ν h φ) {c:CV τ} {z:Bool} {ids:List Nat} {v:Value} (k:nilZ X.G L c=some (z,ids)) (p:∀i∈ids,lk L2 i=lk L i) (j:zdg X.P X.G h ν c v):∃ad n d,v = .slice ad n d∧ad.isNone=z:=by
 unfold nilZ at k
 split at k
 ·cases k; cases j; exact ⟨none,0,0,rfl,rfl⟩
 ·split at k
  ·rename_i e x xs l r
   split at k
   ·rename_i y cs a
    cases k;have g:=zDI M (M.lend_le ids) (zKG r) p (fun b q=>zqA q) j
    cases g with
    | sl _ _ ad d vs hc m f =>
     refine ⟨ad,_,d,rfl,?_⟩
     rcases m with rfl|⟨b,o,s,u,t,rfl,_⟩
     ·have:=f.len;rw [a] at this;simp only [List.length_nil,List.length_cons] at this;rw [Nat.mul_comm,Nat.succ_mul] at this;omega
     ·rfl
   ·cases k
  ·cases k
theorem zzq {f:BinOp} {el:Nat} {c:CV τ} {j:Bool} {ids:List Nat} (i:X.P.underlying t'=some (.slice el)) (o:evC E x=some c) (s:evX E y=some (.c .n0)) (z:nilZ X.G L c=some (j,ids)) (e:okX (eqO f j)=some v) (k:K v [] [] ids nid=some r) :
  zdD X w0 h0 F ⟨dst,.binOp f t' x y ty,t,p,af,gd⟩ E L nid K r:=by
 obtain ⟨b,e,rfl⟩:=zDY e;refine zbp k fun D ν h φ a w hd M l q=>?_;obtain ⟨C,g,d⟩:=zef a hd;obtain ⟨H,h1,h2⟩:=zB d (l.op (by simp [Op.operands])) o;obtain ⟨u,m,A⟩:=zol d (l.op (by simp [Op.operands])) s rfl;obtain rfl:u=_:=A;obtain ⟨ad,n,B,rfl,hn⟩:=zO4 M z q h2
 cases f<;>first|(cases e; done)|skip
 all_goals cases e
 ·exact ⟨_,zCU i g h1 m,by rw [hn]; rfl⟩
 ·exact ⟨_,zKU i g h1 m,by rw [hn]; rfl⟩
theorem zLN {xs:List (e.den τ)} (h:rwO L id=some ⟨e,xs⟩):rowZ L (.os id)=some ⟨e,xs,[id]⟩:=by
 unfold rwO at h;unfold rowZ;dsimp only
 split at h
 ·rename_i a; cases h; rw [a]
 ·rename_i a; cases h; rw [a]
 ·cases h
theorem zFD {x:Operand} {c:CV τ} (h:evX E x=some (.c c)):evC E x=some c:=by unfold evC; rw [h]
theorem zqu (hT:TyOk X) (hC:∀q∈X.cs,COk X.P X.G q.1 q.2) (e:opX X E L nid K o.op=some r):zdD X w0 h0 F o E L nid K r:=by
 obtain ⟨dst,op,t,p,af,gd⟩:=o;dsimp only at e;unfold opX at e
 split at e
 ·rename_i v hv
  exact zbp e fun L2 ν h φ a w hd M Y ha=>opP_ok hT hd M.on Y hv
 ·split at e
  ·split at e
   ·rename_i A J
    split at e
    ·rename_i B hB
     split at e
     ·split at e
      ·split at e
       ·rename_i y
        exact zPl y J hB (fun _ _ _ _=>rfl) e
       ·cases e
      ·exact zIu J hB e
     ·split at e
      ·split at e
       ·rename_i y
        split at e
        ·rename_i V
         exact zzq y (zFD J) hB rfl V e
        ·cases e
       ·cases e
      ·rename_i id
       split at e
       ·rename_i y
        split at e
        ·rename_i ee xs Q
         split at e
         ·rename_i c0 cs0 hets
          obtain ⟨z0,hz0,e2⟩:=ob e
          clear e
          cases xs with
          | nil=>cases hz0
          | cons x0 xs0 =>
           cases V:okX (eqO _ false) with
           | none=>rw [V] at e2; cases e2
           | some v0 =>
            rw [V] at e2;refine zzq y (zFD J) hB ?_ V e2;unfold nilZ;dsimp only;rw [zLN Q];dsimp only;rw [hets]
         ·cases e
        ·cases e
       ·cases e
      ·exact zIu J hB e
     ·exact zIu J hB e
    ·cases e
   ·cases e
  ·split at e
   ·rename_i f
    exact zPk f (fun _ _ _=>rfl) e
   ·cases e
  ·split at e
   ·rename_i R
    split at e
    ·rename_i f
     exact zPj R f (fun _ _ _=>rfl) e
    ·cases e
   ·cases e
  ·split at e
   ·rename_i y
    split at e
    ·rename_i f
     split at e
     ·rename_i k
      obtain ⟨z,O,e⟩:=ob e;exact zMh y f k O e
     ·cases e
    ·cases e
   ·cases e
  ·split at e
   ·rename_i y
    split at e
    ·rename_i l f
     split at e
     ·split at e
      ·rename_i k
       split at e
       ·rename_i O
        obtain ⟨s,D,e⟩:=ob e;refine zoF f (fun R x Y h1=>?_) e;obtain ⟨vy,h2,Z⟩:=zB x (Y.op (by simp [Op.operands])) k;obtain ⟨vz,h4,h5⟩:=zB x (Y.op (by simp [Op.operands])) O;obtain rfl:vy=_:=Z;obtain rfl:vz=_:=h5;exact zOa y R h1 h2 h4 D
       ·cases e
      ·cases e
     ·split at e
      ·rename_i k
       obtain ⟨s,D,e⟩:=ob e;refine zoF f (fun R x Y h1=>?_) e;obtain ⟨vy,h2,Z⟩:=zB x (Y.op (by simp [Op.operands])) k;obtain rfl:vy=_:=Z;exact zLk y R h1 h2 D
      ·cases e
     ·split at e
      ·rename_i O
       obtain ⟨s,D,e⟩:=ob e;refine zoF f (fun R x Y h1=>?_) e;obtain ⟨vz,h4,h5⟩:=zB x (Y.op (by simp [Op.operands])) O;obtain rfl:vz=_:=h5;exact zQd y R h1 h4 D
      ·cases e
     ·exact zoF f (fun R x Y h1=>zOc y R h1) e
    ·cases e
   ·rename_i te y
    split at e
    ·rename_i c f
     split at e
     ·rename_i hv
      obtain ⟨g,e⟩:=zg0 e;exact zPm y f hv (zuR g).1 e
     ·split at e
      ·rename_i e' l U ids D
       obtain ⟨g,e⟩:=zg0 e;obtain ⟨g,_⟩:=zuR g
       split at e
       ·split at e
        ·rename_i k
         split at e
         ·rename_i O
          obtain ⟨s,Q,e⟩:=ob e;exact slice3 y f D g k O Q e
         ·cases e
        ·cases e
       ·split at e
        ·rename_i k
         obtain ⟨s,Q,e⟩:=ob e;exact slice1 y f D g k Q e
        ·cases e
       ·split at e
        ·rename_i O
         obtain ⟨s,Q,e⟩:=ob e;exact slice2 y f D g O Q e
        ·cases e
       ·cases e
      ·cases e
    ·cases e
   ·cases e
  ·split at e
   ·rename_i f
    split at e
    ·rename_i D
     split at e
     ·rename_i S
      obtain ⟨m,hm,e⟩:=ob e;exact conv_i f S D hm e
     ·cases e
    ·cases e
   ·rename_i f
    split at e
    ·rename_i D
     split at e
     ·rename_i S
      split at e
      ·rename_i he
       exact zMf f D S he e
      ·cases e
     ·cases e
    ·cases e
   ·rename_i f
    split at e
    ·rename_i S
     split at e
     ·rename_i D
      split at e
      ·rename_i he
       split at e
       ·rename_i Q
        exact str_ok f S D he Q e
       ·cases e
      ·cases e
     ·cases e
    ·cases e
   ·cases e
  ·split at e
   ·rename_i O
    exact zMX O e
   ·cases e
  ·split at e
   ·rename_i J
    split at e
    ·rename_i hc
     exact box_ok J hc e
    ·cases e
   ·cases e
  ·split at e
   ·rename_i f
    exact zND f e
   ·cases e
  ·split at e
   ·rename_i A J
    split at e
    ·rename_i vs hc
     split at e
     ·rename_i n hn
      obtain ⟨x,e⟩:=zg0 e
      have x:vs.length=n:=by simpa using x
      split at e
      ·rename_i c f
       unfold zOQ at e
       split at e
       ·split at e
        ·rename_i H
         split at e
         ·rename_i hp
          exact zKY J hc hn x f H hp e
         ·cases e
        ·cases e
       ·split at e
        ·rename_i H
         have hk:=Nat.eq_of_beq_eq_true (zg0 e).1
         replace e:=(zg0 e).2
         subst hk
         split at e
         ·rename_i hp
          split at e
          ·rename_i hq
           split at e
           ·rename_i O
            split at e
            ·rename_i hU
             obtain ⟨hid,e⟩:=bc_f e;obtain ⟨l,D,e⟩:=ob e;exact zKN J hc hn x f H hp hq O hU hid D e
            ·cases e
           ·cases e
          ·cases e
         ·cases e
        ·cases e
       ·cases e
      ·cases e
     ·cases e
    ·cases e
   ·cases e
  ·split at e
   ·rename_i ha
    split at e
    ·rename_i k
     split at e
     ·rename_i f
      split at e
      ·rename_i x
       obtain ⟨j,_,h2,Z,e⟩:=zLL e;exact arr_ok ha f k x (by omega) Z e
      ·cases e
     ·cases e
    ·cases e
   ·split at e
    ·rename_i te i
     split at e
     ·rename_i m k
      split at e
      ·rename_i e' xs f
       obtain ⟨g,e⟩:=zg0 e;obtain ⟨g,I⟩:=zuR g;obtain ⟨d,hd,e⟩:=ob e;exact ix_ok hT i f k hd g I e fun _ _ _ _ _ _ _ _ h=>h
      ·rename_i id f
       split at e
       ·rename_i H
        obtain ⟨g,e⟩:=zg0 e;obtain ⟨g,I⟩:=zuR g;obtain ⟨d,hd,e⟩:=ob e;exact ixo_ok i f k H hd g I e
       ·rename_i H
        obtain ⟨g,e⟩:=zg0 e;obtain ⟨g,I⟩:=zuR g;obtain ⟨d,hd,e⟩:=ob e;refine ix_ok hT i f k hd g I e fun L2 ν h φ w u M ha y=>?_;obtain ⟨ad,n,cp,q,hν,rfl⟩:=y;have Q:=M.res id;rw [ha id (List.mem_singleton.2 rfl),H] at Q;obtain ⟨v',q',Z,_,h4⟩:=Q;rw [hν] at Z;cases Z;exact h4
       ·rename_i H
        split at e
        ·rename_i hlk2
         obtain ⟨N,e3⟩:=zg0 e;simp only [Bool.and_eq_true,Nat.beq_eq] at N;obtain ⟨hkk,g⟩:=N;subst hkk;obtain ⟨d,Q,e4⟩:=ob e3;exact zGf i f k H hlk2 g Q e4
        ·cases e
       ·cases e
      ·cases e
     ·cases e
    ·cases e
  ·split at e
   ·rename_i i
    split at e
    ·rename_i W
     split at e
     ·rename_i f
      obtain ⟨N,e⟩:=zg0 e;simp only [Bool.and_eq_true,Nat.beq_eq,Nat.ble_eq] at N
      split at e
      ·rename_i hU
       exact bs_ok hT i W f N.1 N.2 hU e
      ·cases e
     ·cases e
    ·cases e
   ·cases e
  ·split at e
   ·rename_i id f
    split at e
    ·rename_i y
     split at e
     ·rename_i x
      exact zLM f y e (.inl ⟨_,_,_,_,x,rfl⟩)
     ·rename_i x
      exact zLM f y e (.inr ⟨_,_,x,rfl⟩)
     ·rename_i x
      exact zKP f x y e
     ·cases e
    ·cases e
   ·cases e
  ·split at e
   ·rename_i te i
    split at e
    ·rename_i e' W
     split at e
     ·rename_i f
      split at e
      ·rename_i J
       split at e
       ·rename_i k
        split at e
        ·rename_i y
         split at e
         ·rename_i x
          obtain ⟨N,e⟩:=zg0 e;obtain ⟨T,e⟩:=og e;exact zI3 i f J k y x N T e
         ·cases e
        ·cases e
       ·rename_i k
        have N:=Nat.eq_of_beq_eq_true (zg0 e).1
        replace e:=(zg0 e).2
        subst N;exact zQb hT i i W f J k e rfl
       ·rename_i k
        split at e
        ·rename_i hB
         have N:=(zg0 e).1
         replace e:=(zg0 e).2
         simp only [Bool.and_eq_true,Nat.beq_eq] at N;obtain ⟨hdj,rfl⟩:=N;obtain ⟨T,e⟩:=og e;exact zI4 hT i i W f J k hB hdj T e rfl
        ·cases e
       ·cases e
      ·cases e
     ·cases e
    ·cases e
   ·cases e
  ·split at e
   ·rename_i i
    split at e
    ·rename_i f
     exact zMk i f e
    ·cases e
   ·cases e
  ·split at e
   ·rename_i f
    split at e
    ·rename_i C
     exact zFC f C hC e
    ·cases e
   ·rename_i f
    split at e
    ·rename_i C
     exact zLG f C hC e
    ·cases e
   ·rename_i f
    split at e
    ·rename_i C
     exact zLH f C hC e
    ·cases e
   ·rename_i R
    split at e
    ·split at e
     ·rename_i k
      obtain ⟨b,N,e⟩:=ob e;exact fm_ok R k N e
     ·cases e
    ·cases e
   ·cases e
  ·split at e
   ·rename_i f
    exact zO2 f e
   ·cases e
  ·split at e
   ·rename_i f
    exact zLI f e
   ·cases e
  ·exact zLK e
  ·split at e
   ·rename_i ht
    split at e
    ·rename_i f
     split at e
     ·rename_i x
      split at e
      ·rename_i k
       split at e
       ·rename_i O
        split at e
        ·rename_i R
         exact zKF ht f x k O R e
        ·cases e
       ·cases e
      ·cases e
     ·cases e
    ·cases e
   ·cases e
  ·split at e
   ·rename_i ht
    have D:=(zg0 e).1
    replace e:=(zg0 e).2
    split at e
    ·rename_i f
     split at e
     ·rename_i x
      split at e
      ·rename_i k
       exact zHY ht D f x k e
      ·cases e
     ·cases e
    ·cases e
   ·cases e
  ·cases e
end
end Go.Rk
end
section
namespace Go.Rk
open Go.RowKit Go.Dm Go.Dk
variable {τ:Nat→Type}
section
variable {ρ:Type} {X:Cx τ} {w0 w w':World} {h0 h h':Fz} {F:List Nat} {o:Oper} {E E' E'':zad τ} {L L2:Hp τ} {ν ν':Vn τ} {φ φ':Nat→List Nat} {nid nid':Nat} {r:ρ} {a:Act}
def zcr (X:Cx τ) (h:Fz) (ν:Vn τ) (a:Act) (E:zad τ):Prop:=∀t x,asc E t=some x→zj0 X h ν a t x
theorem zcr.on (b:zcr X h ν a E) (l:List Nat):zeL X h ν a l E:=fun t _ x e=>b t x e
theorem zj0.le (c:h.le h') (hν:ν.le ν') {t:Nat} {x:XV τ} (b:zj0 X h ν a t x):zj0 X h' ν' a t x :=
 let ⟨v,h1,h2⟩:=b; ⟨v,h1.le c hν,h2⟩
def Ref (E a:zad τ):Prop:=∀t x,asc a t=some x→asc E t=some x∨∃b,x = .c (.k b)∧asc E t=some (.c (.b b))
theorem Ref.refl (E:zad τ):Ref E E:=fun _ _ e => .inl e
theorem zj0.ref {t:Nat} {b:Bool} (d:zj0 X h ν a t (.c (.b b))):zj0 X h ν a t (.c (.k b)):=d
theorem Ref.env (d:Ref E E') (c:zcr X h ν a E):zcr X h ν a E':=by
 intro t x e
 rcases d t x e with h1|⟨b,rfl,h1⟩
 ·exact c t x h1
 ·exact (c t _ h1).ref
theorem Ref.on {l:List Nat} (f:Ref E E') (d:zeL X h ν a l E):zeL X h ν a l E':=by
 intro t c x e
 rcases f t x e with h1|⟨b,rfl,h1⟩
 ·exact d t c x h1
 ·exact (d t c _ h1).ref
theorem znD {α:Type}:∀(U L:List (Nat × α)) (t:Nat),asc (U++L) t=match asc U t with
  | some v=>some v
  | none=>asc L t
 | [],L,t=>rfl
 | (k,v)::U,L,t=>by
  simp only [List.cons_append,zdO,zcp]
  cases Nat.beq k t with
  | true=>rfl
  | false=>exact znD U L t
theorem Ref.app (a:Ref E E') (N:zad τ):Ref (N++E) (N++E'):=by
 intro t x e;rw [znD] at e ⊢
 cases hn:asc N t with
 | some v=>rw [hn] at e; exact .inl e
 | none=>rw [hn] at e; exact a t x e
theorem Ref.known (a:Ref E E') {s:Nat} {b:Bool} (d:asc E' s=some (.c (.b b))):Ref E ((s,.c (.k b))::E'):=by
 intro t x e;simp only [zdO,zcp] at e
 cases hst:Nat.beq s t with
 | true =>
  rw [hst] at e;cases e
  have:s=t:=by simpa using hst
  subst this
  rcases a s _ d with h1|⟨f,h1,_⟩
  ·exact .inr ⟨b,rfl,h1⟩
  ·cases h1
 | false=>rw [hst] at e; exact a t x e
theorem Ref.trans (h1:Ref E E') (h2:Ref E' E''):Ref E E'':=by
 intro t x e
 rcases h2 t x e with c|⟨b,rfl,c⟩
 ·exact h1 t x c
 ·rcases h1 t _ c with a|⟨d,a,_⟩
  ·exact .inr ⟨b,rfl,a⟩
  ·cases a
theorem zPT {all:List Oper} {j s:Nat} (e:dstO all j=some s):(all.toArray[j]?).bind (·.dst)=some s:=by
 unfold dstO at e
 split at e
 ·rename_i o a
  rw [zgV] at a;simp [a,e]
 ·cases e
theorem ztK {all:List Oper} {g:Option (Nat × Bool)} {run pass:zad τ→Option ρ} (e:zxT all E g run pass=some r) :
  ∃(m:Bool) (q:zad τ),(if m then run q else pass q)=some r∧Ref E q∧∀(X:Cx τ) (h:Fz) (ν:Vn τ) (a:Act) (o:Oper),o.guard=g→zeL X h ν a (gdR all g) E→Region.wanted o (yielded all.toArray a.tmps)=m:=by
 unfold zxT hi at e
 split at e
 ·exact ⟨true,E,e,Ref.refl E,fun X h ν a o f _=>by simp [Region.wanted,f]⟩
 ·rename_i j w
  split at e
  ·rename_i s y
   obtain ⟨n,e⟩:=zg0 e;have p:=zPT y
   have t:∀{X:Cx τ} {h:Fz} {ν:Vn τ} {a:Act} {x:XV τ},zeL X h ν a (gdR all (some (j,w))) E→asc E s=some x→zkm x=false→∃v,XOk X.P X.G h ν x v∧a.tmps[s]? = some v:=by
    intro X h ν a x i d f;obtain ⟨v,h1,h2,_⟩:=i s (by simp [gdR,y,n]) x d;exact ⟨v,h1,h2 n f⟩
   have u:∀{b:Bool} {X:Cx τ} {h:Fz} {ν:Vn τ} {a:Act} {o:Oper},(asc E s=some (.c (.b b))∨asc E s=some (.c (.k b)))→o.guard=some (j,w)→zeL X h ν a (gdR all (some (j,w))) E→Region.wanted o (yielded all.toArray a.tmps)=(b==w):=by
    intro b X h ν a o d f i
    have:a.tmps[s]? = some (.bool b):=by
     rcases d with d|d
     ·obtain ⟨v,h1,h2⟩:=t i d rfl; rw [h2,show v=_ from h1]
     ·obtain ⟨v,h1,h2⟩:=t i d rfl; rw [h2,show v=_ from h1]
    have l:yielded all.toArray a.tmps j=some b:=by
     unfold yielded; rw [p]; simp [this]
    cases b<;>cases w<;>simp [Region.wanted,f,l]
   split at e
   ·rename_i d
    refine ⟨false,E,e,Ref.refl E,fun X h ν a o f i=>?_⟩;obtain ⟨v,h1,h2⟩:=t i d rfl
    have l:yielded all.toArray a.tmps j=none:=by
     unfold yielded; rw [p]; simp [h2,show v=undef from h1,undef]
    simp [Region.wanted,f,l]
   ·rename_i b d
    refine ⟨b==w,E,?_,Ref.refl E,fun X h ν a o f i=>u (.inr d) f i⟩;cases b<;>cases w<;>exact e
   ·rename_i b d
    cases b with
    | true =>
     rw [if_pos rfl] at e;refine ⟨true==w,_,?_,(Ref.refl E).known d,fun X h ν a o f i=>u (.inl d) f i⟩;cases w<;>exact e
    | false =>
     rw [if_neg (by simp)] at e;refine ⟨false==w,_,?_,(Ref.refl E).known d,fun X h ν a o f i=>u (.inl d) f i⟩;cases w<;>exact e
   ·cases e
  ·cases e
structure St (X:Cx τ) (w0:World) (h0:Fz) (F:List Nat) (E:zad τ) (L:Hp τ) (nid:Nat) (a:Act) (w:World):Prop where
 nodef:a.defers=[]
 size:a.tmps.size=X.n
 st:∃ν h φ,Mem X.P X.G w0 h0 F L w ν h φ∧zcr X h ν a E∧∀i,nid≤i→ν i=none
theorem St.ref (s:St X w0 h0 F E L nid a w) (b:Ref E E'):St X w0 h0 F E' L nid a w :=
 ⟨s.nodef,s.size,let ⟨ν,h, φ,M,hE,hn⟩:=s.st; ⟨ν,h, φ,M,b.env hE,hn⟩⟩
def zI9 (l:List Oper) (d:Option Nat) (v:XV τ) (g:List (XV τ)):zad τ:=putT v (zwV g l d []) d
theorem zwG (l:List Oper) (d:Option Nat) (v:XV τ) (g:List (XV τ)) (E:zad τ):zC8 l d v g E=zI9 l d v g++E:=by
 unfold zC8 zI9 putT zwV
 cases d with
 | none =>
  cases g with
  | nil=>rfl
  | cons x g=>cases g<;>rfl
 | some d =>
  cases g with
  | nil=>rfl
  | cons x g=>cases g<;>rfl
theorem zFb (d:Option Nat) (E:zad τ):unT E d=zI9 [] d .un []++E:=by cases d<;>rfl
theorem zzi {t:Nat} {x:XV τ} (b:zkm x=true):zj0 X h ν a t x:=by
 cases x with
 | gv t' y=>exact ⟨if t<20000 then X.fx (t-gh) else ptr (t-gb) 0,trivial,(fun _ e=>by cases e),fun h=>if_neg (by unfold gb at h; omega),fun _ h=>if_pos h⟩
 | _=>cases b
theorem ztL {l:List Oper} {d:Option Nat} {v:XV τ} {g:List (XV τ)} {u:Value} (z:X.n≤gh) (hd:dOk X.n d=true) (q:a.tmps.size=X.n) (A:∀x∈g,zkm x=true) (w:XOk X.P X.G h ν v u) (B:∀t x,asc E t=some x→d≠some t→zj0 X h ν a t x) :
  zcr X h ν (a.put d u) (zI9 l d v g++E):=by
 have k:∀t x,asc E t=some x→d≠some t→zj0 X h ν (a.put d u) t x:=by
  intro t x e j;obtain ⟨C,h1,h2,s⟩:=B t x e j;refine ⟨C,h1,fun p a2=>?_,s⟩
  cases d with
  | none=>exact h2 p a2
  | some d =>
   have:d≠t:=fun e=>j (by rw [e]);simp [Act.put,this,h2 p a2]
 have c:∀t x,asc (zwV g l d []) t=some x→zj0 X h ν (a.put d u) t x:=by
  intro t x e;unfold zwV at e
  split at e
  ·rename_i y
   have o:=A y (List.mem_singleton.2 rfl)
   cases d with
   | none =>
    simp only [zdO,zcp] at e
    cases f:Nat.beq (30000+l.length%10000) t with
    | true=>rw [f] at e; cases e; exact zzi o
    | false=>rw [f] at e; cases e
   | some d =>
    simp only [zdO,zcp] at e
    cases f:Nat.beq (20000+d) t with
    | true=>rw [f] at e; cases e; exact zzi o
    | false=>rw [f] at e; cases e
  ·cases e
 intro t x e;unfold zI9 putT at e
 cases d with
 | none =>
  simp only at e;rw [znD] at e
  cases b:asc (zwV g l none []) t with
  | some y=>rw [b] at e; cases e; exact c t _ b
  | none=>rw [b] at e; exact k t x e (by simp)
 | some d =>
  simp only [List.cons_append,zdO,zcp] at e
  cases f:Nat.beq d t with
  | true =>
   rw [f] at e;cases e
   have:d=t:=by simpa using f
   subst this
   have m:d<X.n:=by simpa [dOk] using hd
   refine ⟨u,w,fun _ _=>?_,fun i=>?_,fun i=>?_⟩
   ·simp [Act.put,q,m]
   ·exfalso
    unfold gb at i; unfold gh at z; omega
   ·exfalso; omega
  | false =>
   rw [f,cond_false,znD] at e
   cases b:asc (zwV g l (some d) []) t with
   | some y=>rw [b] at e; cases e; exact c t _ b
   | none =>
    rw [b] at e;refine k t x e ?_;intro r;cases r;simp at f
theorem zcr.le (b:h.le h') (hν:ν.le ν') (c:zcr X h ν a E):zcr X h' ν' a E:=fun t x e=>(c t x e).le b hν
theorem zqi (a:Act) (d:Option Nat) (v:Value):(a.put d v).tmps.size=a.tmps.size:=by cases d<;>simp [Act.put]
theorem ztM (a:Act) (d:Option Nat) (v:Value):(a.put d v).defers=a.defers:=by cases d<;>rfl
theorem zFc {op:OpF τ ρ} (b:zv9 X w0 h0 F op) (d:X.n≤gh) {all:List Oper} {Q:Exit→Act→World→Prop} {K:zad τ→Hp τ→Nat→Option ρ}
  (q:∀E L nid a w,K E L nid=some r→St X w0 h0 F E L nid a w→Q .normal a w):∀{l:List Oper} {E:zad τ} {L:Hp τ} {nid:Nat} {a:Act} {w:World},opsX op X all l E L nid K=some r→St X w0 h0 F E L nid a w→wpList X.P all.toArray Q l a w
 | [],E,L,nid,a,w,e,s=>q _ _ _ _ _ e s
 | o :: l,E,L,nid,a,w,e,s=>by
  unfold opsX at e;obtain ⟨hd,e⟩:=zg0 e;obtain ⟨m,N,e,k,J⟩:=ztK e;obtain ⟨ν,h, φ,M,f,hn⟩:=s.st;have c:=J X h ν a o rfl (f.on _);unfold wpList;rw [c]
  cases m with
  | false =>
   simp only [Bool.false_eq_true,if_false] at e ⊢;rw [zFb] at e;refine zFc b d q e ⟨?_,?_, ν,h, φ,M,?_,hn⟩
   ·rw [ztM]; exact s.nodef
   ·rw [zqi]; exact s.size
   ·exact ztL d hd s.size (fun _ h=>by cases h) rfl fun t x e _=>k.env f t x e
  | true =>
   simp only [if_true] at e ⊢
   left
   obtain ⟨v,g,U,B,z,A,I,H,j⟩:=b _ _ _ _ _ _ e;refine j L ν h φ a w _ Q s.nodef M ((k.env f).on _) (fun _ _=>rfl) (fun i h1 _=>hn i h1) fun ν' h' φ' w' u C hν D p G=>?_;simp only [zwG] at A;refine zFc b d q A ⟨?_,?_, ν',h', φ',C,?_,fun i hi=>?_⟩
   ·rw [ztM]; exact s.nodef
   ·rw [zqi]; exact s.size
   ·exact ztL d hd s.size H G fun t x e _=>((k.env f).le D hν) t x e
   ·cases e:ν' i with
    | none=>rfl
    | some y =>
     have:=p i (hn i (by omega)) (by rw [e]; simp);omega
end
end Go.Rk
end
