/-
 Walks by evaluation: new blocks, stores. Over any program.
 Walks by evaluation: rows of one's own. Over any program.
 Walks by evaluation: parts of rows, places in rows, rows that are made. Over any program.
 Walks by evaluation: operations put together. Over any program.
 Walks by evaluation: calls. Over any program.
-/
import Derived.Test.YtlgjcjonmfcacaaGreatDoorYLd
set_option linter.unusedVariables false
set_option linter.unusedSimpArgs false
set_option linter.unusedVariables false
set_option linter.unusedSimpArgs false
section
namespace Go.Rk
open Go.RowKit Go.Dm Go.Dk
variable {τ:Nat→Type}
section
variable {P:Program} {G:Sig τ} {w0 w w':World} {h0 h h' H:Fz} {F:List Nat} {L L' L2:Hp τ} {ν ν':Vn τ} {φ φ':Nat→List Nat}
theorem Mem.grow (M:Mem P G w0 h0 F L w ν h φ) (hb:Below w.heap.size w w'):Mem P G w0 h0 F L w' ν h φ :=
 M.upd [] (fun _ _=>rfl) (fun _ _=>rfl) (Vn.le.refl _) (Fz.le.refl _) hb.os hb.tape hb.output hb.size (fun b hb' _=>hb.block b hb') (fun b o h1 h2=>by rw [h1] at h2; cases h2) (fun b h1 h2=>(h2 h1).elim)
  (fun i hi=>by cases hi) (fun i hi=>by cases hi) (fun i hi=>by cases hi)
theorem Mem.alloc (M:Mem P G w0 h0 F L w ν h φ) {nid:Nat} (hn:ν nid=none) (o:Obj) (r:AR τ) (x:Value × Option ((e:Ty) × List (e.den τ))) (hr:zmx P G h (up1 ν nid (some x)) (w.alloc o) r (some x) [w.heap.size]) :
  Mem P G w0 h0 F ((nid,r)::L) (w.alloc o) (up1 ν nid (some x)) h (up1 φ nid [w.heap.size]) :=
 (M.grow (zoD w o)).add hn r x hr fun b hb=>by
  rw [List.mem_singleton.1 hb];refine ⟨fun i hi=>Nat.lt_irrefl _ (M.lt hi),?_, .inr M.size⟩
  cases e:h w.heap.size with
  | none=>rfl
  | some o'=>exact (Nat.lt_irrefl _ (M.in_lt (b:=w.heap.size) (by rw [e]; simp))).elim
theorem zd4 {nid:Nat} {x:Value × Option ((e:Ty) × List (e.den τ))}:zde ν (up1 ν nid (some x)) nid (nid+1):=by
 intro i h1 h2
 by_cases e:i=nid
 ·omega
 ·rw [zaV _ _ e] at h2; exact (h2 h1).elim
theorem zde.trans {ν'':Vn τ} {a b c:Nat} (h1:zde ν ν' a b) (h2:zde ν' ν'' b c) (hab:a≤b) (hbc:b≤c):zde ν ν'' a c:=by
 intro i e1 e2
 by_cases e:ν' i=none
 ·have:=h2 i e e2; omega
 ·have:=h1 i e1 e; omega
theorem Mem.turn (M:Mem P G w0 h0 F L w ν h φ) {i b:Nat} (r:AR τ) (hφ:φ i=[b]) (hν:ν.le ν') (hos:w'.os=w.os) (htape:w'.tape=w.tape) (hout:w'.output=w.output) (hsz:w'.heap.size=w.heap.size) (hblk:∀k,k≠b→w'.heap[k]? = w.heap[k]?)
  (hr:zmx P G h ν' w' r (ν' i) [b]):Mem P G w0 h0 F ((i,r)::L) w' ν' h φ:=by
 refine M.upd [i] (fun j hj=>zdr _ _ (by simpa using hj)) (fun _ _=>rfl) hν (Fz.le.refl _) hos htape hout (by omega) (fun k _ hk=>hblk k ?_) (fun b o h1 h2=>by rw [h1] at h2; cases h2) (fun b h1 h2=>(h2 h1).elim) ?_ ?_ ?_
 ·rintro rfl
  apply hk
  rw [zc3,hφ]; simp
 ·intro j hj;rw [List.mem_singleton.1 hj,zaP,hφ]; exact hr
 ·intro j hj k hk;rw [List.mem_singleton.1 hj] at hk;refine ⟨(M.out i k hk).1, .inl ?_⟩;rw [zc3]; exact List.mem_append_left _ hk
 ·intro j hj k hk b _ _;rw [List.mem_singleton.1 hj,List.mem_singleton.1 hk]
theorem zEP {i j:Nat} {ids:List Nat} {U:Hp τ} (h3:∀i∈ids, ∃e xs,lk U i = .fz e xs∧((∃te k,lk L i = .row te e xs k)∨lk L i = .fz e xs∨∃j k lo te e' ys,lk L i = .vw j k e lo xs∧lk L j = .row te e' ys k∧j∈ids)) (hj:j∈ids) :
  ∃e xs,lk U j = .fz e xs∧((∃te k,lk L j = .row te e xs k)∨lk L j = .fz e xs∨∃j' k lo te e' ys,lk L j = .vw j' k e lo xs∧lk L j' = .row te e' ys k∧j'∈i::ids):=by
 obtain ⟨e,xs,h1,h|h|⟨j',k,lo,te,e',ys,h2,h4,h5⟩⟩:=h3 j hj
 ·exact ⟨e,xs,h1, .inl h⟩
 ·exact ⟨e,xs,h1, .inr (.inl h)⟩
 ·exact ⟨e,xs,h1, .inr (.inr ⟨j',k,lo,te,e',ys,h2,h4,List.mem_cons_of_mem _ h5⟩)⟩
theorem zxs:∀{ids:List Nat} {U:Hp τ},freeze L ids=some U→kys U=ids∧∀i∈ids, ∃e xs,lk U i = .fz e xs∧((∃te k,lk L i = .row te e xs k)∨lk L i = .fz e xs∨∃j k lo te e' ys,lk L i = .vw j k e lo xs∧lk L j = .row te e' ys k∧j∈ids)
 | [],U,e=>by cases e; exact ⟨rfl,fun i hi=>by cases hi⟩
 | i :: ids,U,e=>by
  unfold freeze at e
  split at e
  ·rename_i U1 h1
   obtain ⟨h2,h3⟩:=zxs h1
   split at e
   ·rename_i te e' xs k hl
    cases e;refine ⟨by simp [kys] at h2 ⊢; exact h2,fun j hj=>?_⟩
    by_cases hji:j=i
    ·subst hji; exact ⟨e',xs,zaP .., .inl ⟨te,k,hl⟩⟩
    ·rw [zdr _ _ hji];exact zEP h3 ((List.mem_cons.1 hj).resolve_left hji)
   ·rename_i e' xs hl
    cases e;refine ⟨by simp [kys] at h2 ⊢; exact h2,fun j hj=>?_⟩
    by_cases hji:j=i
    ·subst hji; exact ⟨e',xs,zaP .., .inr (.inl hl)⟩
    ·rw [zdr _ _ hji];exact zEP h3 ((List.mem_cons.1 hj).resolve_left hji)
   ·rename_i j0 k e' lo xs hl
    split at e
    ·rename_i te e2 ys k' hl2
     cases hb:(mem ids j0&&Nat.beq k k') with
     | false=>rw [hb] at e; cases e
     | true =>
      rw [hb] at e;cases e;simp only [Bool.and_eq_true,Nat.beq_eq] at hb;obtain ⟨hm,rfl⟩:=hb;refine ⟨by simp [kys] at h2 ⊢; exact h2,fun j hj=>?_⟩
      by_cases hji:j=i
      ·subst hji; exact ⟨e',xs,zaP .., .inr (.inr ⟨j0,k,lo,te,e2,ys,hl,hl2,List.mem_cons_of_mem _ (zep.1 hm)⟩)⟩
      ·rw [zdr _ _ hji];exact zEP h3 ((List.mem_cons.1 hj).resolve_left hji)
    ·cases e
   ·cases e
  ·cases e
theorem vw_fz {i j k lo te:Nat} {e e':Ty} {xs:List (e.den τ)} {ys:List (e'.den τ)} {fp fp2:List Nat} (r1:zmx P G h ν w (.vw j k e lo xs) (ν i) fp) (r2:zmx P G h ν w (.row te e' ys k) (ν j) fp2) (hH:h.le H) (hb:∀b∈fp2,H b=w.heap[b]?) :
  ∃v q, ν i=some (v,q)∧fp=[]∧Rp P G H (.sl e) xs v:=by
 obtain ⟨a1,n1,c1,q1,q2,u1,ys1,a2,c2,g1,g2,g3,g4,g5,g6,g7,g8⟩:=r1;obtain ⟨v',q',vs,u,h1,h2,h3,h4,h5⟩:=r2;rw [g1] at h1;cases h1;rw [g2] at h5
 injection h5 with h5
 injection h5 with _ h5
 injection h5 with h5
 cases h5;exact ⟨_,_,g5,g8,vw_rp (zwO hH h3 h4 fun b hbb=>hb b (by rw [h2]; exact hbb)) g3 g4 g6 g7.1⟩
open Classical in
noncomputable def zAD (φ:Nat→List Nat) (ids:List Nat):Nat→List Nat:=fun i=>if i∈ids then [] else φ i
theorem zhZ {ids:List Nat} {i:Nat} (h:i∈ids):zAD φ ids i=[]:=by simp [zAD,h]
theorem znj {ids:List Nat} {i:Nat} (h:i∉ids):zAD φ ids i=φ i:=by simp [zAD,h]
theorem Mem.freeze (M:Mem P G w0 h0 F L2 w ν h φ) {ids:List Nat} {U:Hp τ} (e:Rk.freeze L ids=some U) (ag:∀i∈ids,lk L2 i=lk L i):Mem P G w0 h0 F (U++L2) w ν (zrw h w (fps φ ids)) (zAD φ ids):=by
 obtain ⟨hk,hl⟩:=zxs e;have hle:=M.lend_le ids;refine M.upd ids (fun i hi=>zcJ _ (by rw [hk]; exact hi)) (fun i hi=>znj hi) (Vn.le.refl _) hle rfl rfl rfl (Nat.le_refl _) (fun _ _ _=>rfl) ?_ ?_ ?_ ?_ ?_
 ·intro b o _ h2;exact zvt M.on b o h2
 ·intro b h1 h2
  by_cases hb:b∈fps φ ids
  ·exact .inl hb
  ·rw [zjX hb] at h2; exact (h2 h1).elim
 ·intro i hi;obtain ⟨e',xs,h1,h2⟩:=hl i hi;rw [zgX _ (by rw [hk]; exact hi),h1,zhZ hi];have hr:=M.res i;rw [ag i hi] at hr
  rcases h2 with ⟨te,k,h2⟩|h2|⟨j,k,lo,te,e2,ys,h2,h3,h4⟩
  ·rw [h2] at hr;obtain ⟨v,q,vs,u,h3,h4,h5,h6,_⟩:=hr;exact ⟨v,q,h3,rfl,zwO hle h5 h6 fun b hb=>zqg (mem_fps.2 ⟨i,hi,by rw [h4]; exact hb⟩)⟩
  ·rw [h2] at hr;obtain ⟨v,q,h3,_,h4⟩:=hr;exact ⟨v,q,h3,rfl,h4.le hle⟩
  ·rw [h2] at hr;have hr2:=M.res j;rw [ag j h4,h3] at hr2;obtain ⟨v,q,h5,_,h6⟩:=vw_fz hr hr2 hle fun b hb=>zqg (mem_fps.2 ⟨j,h4,hb⟩);exact ⟨v,q,h5,rfl,h6⟩
 ·intro i hi b hb; rw [zhZ hi] at hb; cases hb
 ·intro i hi j _ b hb; rw [zhZ hi] at hb; cases hb
theorem Mem.look (M:Mem P G w0 h0 F L2 w ν h φ) {ids:List Nat} (ag:∀i∈ids,lk L2 i=lk L i):zbJ L2 L φ (zrw h w (fps φ ids)) w ids:=⟨ag,fun _ hb=>zqg hb⟩
end

section
variable {ρ:Type} {X:Cx τ} {w0 w w':World} {h0 h H:Fz} {F:List Nat} {o:Oper} {E:zu τ} {L L2:Hp τ} {ν ν':Vn τ} {φ φ':Nat→List Nat} {nid nid':Nat} {K:Nx τ ρ} {r:ρ} {v:XV τ} {U:Hp τ} {tch:List Nat} {g:List (XV τ)}
variable {x y:Operand} {t' t ty:Nat} {dst:Option Nat} {p:String} {af:Array Edge} {gd:Option (Nat × Bool)}
theorem zNG {cs:List (CV τ)} (hz:zAh X.P t'=some cs) (e:K (.c (.pt nid 0)) [] [(nid, .blk t' cs)] [] (nid+1)=some r):zc4 X w0 h0 F ⟨dst, .alloc t',t,p,af,gd⟩ E L nid K r:=by
 obtain ⟨it,z,hi,hz0,hc⟩:=zzq hz;refine ⟨_,_,_,_,_,e,Nat.le_succ _,(fun _ h=>by cases h),fun L2 ν h φ a w next Q hd M hE ha hn k=>?_⟩;have hn':=hn nid (Nat.le_refl _) (Nat.lt_succ_self _)
 have hx:(execOp a.eval ⟨dst, .alloc t',t,p,af,gd⟩).run X.P w = .ok (.value (ptr w.heap.size 0)) (w.alloc (.cells z.cells t')):=by
  simp [execOp,Instr.alloc,zeroValue,typeInfo,hi,hz0,newVar,newRow,go_sem,Result.andThen]
 have hzl:z.cells=z.cells.toList.toArray:=by simp
 refine zfz hx (k _ h _ _ _ (M.alloc hn' _ (.blk t' cs) (ptr w.heap.size 0,none) ⟨_,none,z.cells.toList,rfl,rfl,?_,zy1 hc⟩) (zbj hn') (Fz.le.refl _) zd4 ⟨_,none,zU _ _ _,rfl,fun e=>(e rfl).elim⟩);rw [← hzl]; exact zkC _
theorem box_ok {A:XV τ} {cs:List (CV τ)} (hA:evX E x=some A) (hc:zsE A=some cs) (e:K (.c (.pt nid 0)) [] [(nid, .blk t' cs)] [] (nid+1)=some r):zc4 X w0 h0 F ⟨dst, .box t' x,t,p,af,gd⟩ E L nid K r:=by
 refine ⟨_,_,_,_,_,e,Nat.le_succ _,(fun _ h=>by cases h),fun L2 ν h φ a w next Q hd M hE ha hn k=>?_⟩;have hn':=hn nid (Nat.le_refl _) (Nat.lt_succ_self _);obtain ⟨us,h1,h2,_⟩:=ztc hc (zrj hd (hE.op (by simp [Op.operands])) hA)
 have hx:(execOp a.eval ⟨dst, .box t' x,t,p,af,gd⟩).run X.P w = .ok (.value (ptr w.heap.size 0)) (w.alloc (.cells us.toArray t')):=by
  simp only [execOp]; unfold Instr.box newVar; rw [h1]; simp [newRow,go_sem]
 exact zfz hx (k _ h _ _ _ (M.alloc hn' _ (.blk t' cs) (ptr w.heap.size 0,none) ⟨_,none,us,rfl,rfl,zkC _,h2.le (Fz.le.refl _) (zbj hn')⟩) (zbj hn') (Fz.le.refl _) zd4 ⟨_,none,zU _ _ _,rfl,fun e=>(e rfl).elim⟩)
theorem zAE {a:Act} {b o n:Nat} {bty:TypeId} {cur:Array Value} {vs:List Value} (hx:a.eval x=ptr b o) (hy:(a.eval y).cells=⟨vs⟩) (ht:zkT X.P t'=some n) (hn:vs.length=n) (hb:w.heap[b]? = some (.cells cur bty (0,0))) (hl:o+vs.length≤cur.size) (hv:∀v∈vs,v.oneCell'=true) :
  (execOp a.eval ⟨dst, .store t' x y,t,p,af,gd⟩).run X.P w = .ok .skip (w.setRow b (cur.toList.take o++vs++cur.toList.drop (o+vs.length)).toArray):=by
 have hst:=run_storeCells_at X.P b o bty vs 0 cur w hb (by simpa using hl) hv;simp only [Nat.add_zero] at hst;simp only [execOp]; rw [hx]
 have h2:(a.eval y).cells.size=n:=by rw [hy]; simpa using hn
 have h3:(a.eval y).cells.toList=vs:=by rw [hy]
 simp [Instr.storeAt,Instr.sureAddr,storeVar,zcV ht,h2,h3,hst,Result.andThen]
theorem zKY {A:XV τ} {vs:List (CV τ)} {n id o bt:Nat} {cs cs':List (CV τ)} (hA:evX E y=some A) (hc:zsE A=some vs) (ht:szO X.P t'=some n) (hn:vs.length=n) (hx:evC E x=some (.pt id o)) (hl:lk L id = .blk bt cs) (hp:zv3 cs o vs=some cs')
  (e:K .un [] [(id, .blk bt cs')] [id] nid=some r):zc4 X w0 h0 F ⟨dst, .store t' x y,t,p,af,gd⟩ E L nid K r:=by
 refine ⟨_,_,_,_,_,e,Nat.le_refl _,(fun _ h=>by cases h),fun L2 ν h φ a w next Q hd M hE ha hfr k=>?_⟩;obtain ⟨Ea,hf,hl'⟩:=zdC a hd;obtain ⟨u,h1,h2⟩:=zh hl' (hE.op (by simp [Op.operands])) hx;obtain ⟨b,q,us,hν,rfl,hφ,hh,hcs,_⟩:=zEO M h2 ((ha id (by simp)).trans hl);obtain ⟨ws,h3,h4,_⟩:=ztc hc (zrj hd (hE.op (by simp [Op.operands])) hA);obtain ⟨h5,h6⟩:=zy2 hcs h4 hp;have hrun:=zAE (X:=X) (dst:=dst) (t:=t) (p:=p) (af:=af) (gd:=gd) (hf.ev h1) h3 (zfA ht) (by rw [h4.len,hn]) hh (by simpa using h5) h4.one;refine zHV hrun (k ν h φ _ undef (M.turn (.blk bt cs') hφ (Vn.le.refl _) rfl rfl rfl (by simp [World.setRow]) (fun j hj=>setRow_other w b j _ hj) ⟨b,q,_,hν,rfl,setRow_heap w b us.toArray _ bt (0,0) hh,?_⟩) (Vn.le.refl _) (Fz.le.refl _) (zde.refl _ _ _) rfl);simpa using h6
end
end Go.Rk
end
section
namespace Go.Rk
open Go.RowKit Go.Dm Go.Dk
variable {τ:Nat→Type}
theorem zOX (C ws:List Value) (A N D:Nat) (h1:A+ws.length≤N) (h2:D+N≤C.length) :
  ((C.take (D+A)++ws++C.drop (D+A+ws.length)).drop D).take N=((C.drop D).take N).take A++ws++((C.drop D).take N).drop (A+ws.length):=by
 have h3:(C.take (D+A)++ws++C.drop (D+A+ws.length)).drop D=(C.drop D).take A++(ws++(C.drop D).drop (A+ws.length)):=by
  rw [List.append_assoc,List.drop_append_of_le_length (by rw [List.length_take]; omega),List.drop_take,Nat.add_sub_cancel_left,List.drop_drop,Nat.add_assoc]
 have h4:((C.drop D).take A).length=A:=by rw [List.length_take,List.length_drop]; omega
 have h5:∀R:List Value,((C.drop D).take A++(ws++R)).take N=(C.drop D).take A++(ws++R.take (N-(A+ws.length))):=by
  intro R;rw [← List.append_assoc,List.take_append,List.take_of_length_le (l:=(C.drop D).take A++ws) (by rw [List.length_append,h4]; exact h1),List.length_append,h4,List.append_assoc]
 rw [h3,h5,List.take_take,Nat.min_eq_left (by omega),List.append_assoc,List.drop_take]
section
variable {P:Program} (w:World)
theorem zwT (t ty e:TypeId) (i:TypeInfo) (ht:P.underlying t=some (.slice e)) (hi:P.info? e=some i)
  (g o sLen sCap:Nat) (cur:Array Value) (hg:w.heap[g]? = some (.cells cur e (0,0)))
  (a:Addr) (m c:Nat) (news:List Value) (hl:news.length=m*i.size) (hnews:∀j u,news[j]? = some u→w.cell? (a.add j)=some u) (h1:∀u∈news,u.oneCell'=true)
  (hroom:sLen+m≤sCap) (hfit:o+sLen*i.size+news.length≤cur.size) :
  (Builtin.append_ #[t,t] ty #[.slice (some ⟨g,o,none⟩) sLen sCap, .slice (some a) m c]).run P w =
   .ok (.slice (some ⟨g,o,none⟩) (sLen+m) sCap) (w.setRow g (cur.toList.take (o+sLen*i.size)++news++cur.toList.drop (o+sLen*i.size+news.length)).toArray):=by
 have hf:=run_firstCells_some (P:=P) w i.size m a m c news hl hnews;have hst:=run_storeCells_at P g (o+sLen*i.size) e news 0 cur w hg (by simpa using hfit) h1
 have hadd:(⟨g,o,none⟩:Addr).add (sLen*i.size)=⟨g,o+sLen*i.size,none⟩:=by unfold Addr.add; split<;>simp_all
 simp only [Nat.add_zero] at hst;simp [Builtin.append_,run_underlying ht,sizeOf,typeInfo,hi,Builtin.lenOf,hroom,hf,hadd,hst]
end
theorem zDz {P:Program} {G:Sig τ} {w:World} (t ty e:TypeId) (i:TypeInfo) (z:Value) (size bytes:Nat) (ht:P.underlying t=some (.slice e)) (hi:P.info? e=some i) (hz:i.zero=some z)
  (hsize:i.size=size) (hby:i.bytes=bytes) (hzs:z.cells.size=size) (hsz:0<size)
  (v:Value) (n:Nat) (xs:List Value) (hown:zgC G w e size v n xs)
  (ad:Addr) (m c:Nat) (news:List Value) (hl:news.length=m*size) (hnews:∀j u,news[j]? = some u→w.cell? (ad.add j)=some u) (h1:∀u∈news,u.oneCell'=true)
  (h63:n+m≤maxLen) (hbytes:(n+m)*bytes≤140737488355328) :
  ∃ad' c' w',(Builtin.append_ #[t,t] ty #[v, .slice (some ad) m c]).run P w = .ok (.slice ad' (n+m) c') w'∧zgC G w' e size (.slice ad' (n+m) c') (n+m) (xs++news)∧w.grownBy w' v.ownBlock ∧
   ((Value.slice ad' (n+m) c').ownBlock=v.ownBlock∨(Value.slice ad' (n+m) c').ownBlock=some w.heap.size):=by
 have base:w.ownsRow 0 e size v n xs→_:=fun ho=>zkD (P:=P) (w:=w) t ty e i z size bytes ht hi hz hsize hby hzs hsz v n xs ho ad m c news hl hnews h1 h63 hbytes
 cases hd:G.dr e with
 | false =>
  obtain ⟨ad',c',w',g1,g2,g3,g4⟩:=base (hown.row hd);exact ⟨ad',c',w',g1,zgC.of_row g2,g3,g4⟩
 | true =>
  obtain ⟨h2,h3⟩:=hown
  rcases h3 with ⟨rfl,rfl⟩|⟨g,d,cap,cur,rfl,_,hg,hnc,hcm,hcs,htk⟩
  ·obtain ⟨ad',c',w',g1,g2,g3,g4⟩:=base ⟨h2, .inl ⟨rfl,rfl⟩⟩;exact ⟨ad',c',w',g1,zgC.of_row g2,g3,g4⟩
  ·subst hsize;subst hby
   have hlen:(xs++news).length=(n+m)*i.size:=by rw [List.length_append,h2,hl,Nat.add_mul]
   by_cases hroom:n+m≤cap
   ·have hN:d*i.size+(n+m)*i.size≤cur.size:=by rw [← Nat.add_mul]; exact Nat.le_trans (Nat.mul_le_mul_right _ (by omega)) hcs
    have hmul:(n+m)*i.size=n*i.size+m*i.size:=Nat.add_mul ..;have hr:=zwT (P:=P) w t ty e i ht hi g (d*i.size) n cap cur hg ad m c news hl hnews h1 hroom (by omega)
    have hcl:cur.toList.length=cur.size:=by simp
    refine ⟨_,_,_,hr,⟨hlen, .inr ⟨g,d,cap,_,rfl,(fun hz=>(Bool.noConfusion (hd.symm.trans hz):_)),setRow_heap w g cur _ e _ hg,hroom,hcm,?_,?_⟩⟩,⟨rfl,rfl,rfl,by simp,fun k _ hk=>setRow_other w g k _ (fun e=>hk (by simp [Value.ownBlock,e]))⟩, .inl rfl⟩
    ·simp only [List.size_toArray,List.length_append,List.length_take,List.length_drop];omega
    ·have h7:=zOX cur.toList news (n*i.size) ((n+m)*i.size) (d*i.size) (by omega) (by omega);rw [List.toList_toArray,h7,List.take_take,Nat.min_eq_left (by omega),htk,List.drop_eq_nil_of_le (by rw [List.length_take,List.length_drop]; omega),List.append_nil]
   ·have hsm:n+m≤9223372036854775807:=by simp only [maxLen] at h63; omega
    have holds:∀j u,xs[j]? = some u→w.cell? ((⟨g,d*i.size,none⟩:Addr).add j)=some u:=by
     intro j u hu
     have hadd:(⟨g,d*i.size,none⟩:Addr).add j=⟨g,d*i.size+j,none⟩:=by unfold Addr.add; split<;>simp_all
     rw [hadd,cell_of_row w g _ cur e (0,0) hg];rw [← htk,List.getElem?_take] at hu
     split at hu
     ·rw [List.getElem?_drop] at hu; simpa using hu
     ·cases hu
    have hr:=run_append_grow (P:=P) w t ty e i z ht hi hz ⟨g,d*i.size,none⟩ n cap xs h2 holds ad m c news hl hnews (by omega) (by omega) (growslice_fits (by omega) hbytes);have hge:=grownCap_ge w (n+m) cap e;refine ⟨_,_,_,hr,zgC.of_row ⟨hlen, .inr ⟨w.heap.size,_,_,rfl,Nat.zero_le _,heap_alloc_new w.drew _,hge,grownCap_le_maxLen w (n+m) cap e h63,?_,?_⟩⟩,⟨rfl,rfl,rfl,by simp,fun k hk _=>heap_alloc_old w.drew _ hk⟩, .inr rfl⟩
    ·simp only [Array.size_append,List.size_toArray,size_zeroCells,hzs,h2,hl, ← Nat.add_mul]
     congr 1
     omega
    ·simp only [Array.toList_append,List.append_assoc];rw [← List.append_assoc, ← hlen];exact List.take_left
theorem zvy {P:Program} {G:Sig τ} {w:World} (t ty e:TypeId) (i:TypeInfo) {size c:Nat} (ht:P.underlying t=some (.slice e)) (hi:P.info? e=some i) {ad:Option Addr} {m cp n:Nat} {xs:List Value} (ho:zgC G w e size (.slice ad m cp) n xs) :
  (Builtin.append_ #[t,t] ty #[.slice ad m cp, .slice none 0 c]).run P w = .ok (.slice ad m cp) w:=by
 obtain ⟨_,hnc⟩:=ho.len;cases ad<;>simp [Builtin.append_,run_underlying ht,sizeOf,typeInfo,hi,Builtin.lenOf,Builtin.firstCells,hnc,storeCells]
section
variable {P:Program} {G:Sig τ} {w0 w w':World} {h0 h h' H:Fz} {F:List Nat} {L L' L2:Hp τ} {ν ν':Vn τ} {φ φ':Nat→List Nat}
theorem Mem.growBy (M:Mem P G w0 h0 F L w ν h φ) {row:Option Nat} (hg:w.grownBy w' row) (hf:zhr w0 h F φ row.toList):Mem P G w0 h0 F L w' ν h φ:=by
 have hne:∀b,b<w.heap.size→b∉row.toList→w'.heap[b]? = w.heap[b]? := fun b hb hr=>hg.block b hb fun e=>hr (by rw [← e]; simp);refine ⟨hg.os.trans M.os,hg.tape.trans M.tape,hg.output.trans M.output,Nat.le_trans M.size hg.size,fun b h1 h2=>?_,M.le,fun b o e=>?_,M.new,fun i=>?_,M.dis,M.out,M.gl,M.fp⟩
 ·refine (hne b (Nat.lt_of_lt_of_le h1 M.size) fun hr=>?_).trans (M.frame b h1 h2)
  rcases (hf b hr).2.2 with h3|h3
  ·exact h2 h3
  ·omega
 ·refine (hne b (M.in_lt (by rw [e]; simp)) fun hr=>?_).trans (M.on b o e);rw [(hf b hr).2.1] at e; cases e
 ·exact (M.res i).of (Fz.le.refl _) (Vn.le.refl _) fun b hb=>hne b (M.lt hb) fun hr=>(hf b hr).1 i hb
theorem zuC (M:Mem P G w0 h0 F L w ν h φ) {v v':Value} {te nid:Nat} {e:Ty} {xs:List (e.den τ)} {cs:List Value} (hf:zhr w0 h F φ v.ownBlock.toList) (hn:ν nid=none) (hg:w.grownBy w' v.ownBlock) (ho:zgC G w' te (ets G e).length v' xs.length cs)
  (hr:RpR P G h e xs cs) (hv:v'.ownBlock=v.ownBlock∨v'.ownBlock=some w.heap.size):Mem P G w0 h0 F ((nid, .row te e xs nid)::L) w' (up1 ν nid (some (v',some ⟨e,xs⟩))) h (up1 φ nid v'.ownBlock.toList):=by
 refine (M.growBy hg hf).add hn _ _ ⟨v',_,cs,v',rfl,rfl,ho,hr,zU _ _ _⟩ fun b hb=>?_
 rcases hv with hv|hv
 ·rw [hv] at hb; exact hf b hb
 ·rw [hv] at hb
  obtain rfl:b=w.heap.size:=by simpa using hb
  refine ⟨fun i hi=>Nat.lt_irrefl _ (M.lt hi),?_, .inr M.size⟩
  cases e:h w.heap.size with
  | none=>rfl
  | some o'=>exact (Nat.lt_irrefl _ (M.in_lt (b:=w.heap.size) (by rw [e]; simp))).elim
theorem RpL.one:∀{ts:List Ty} {q:DP τ ts} {vs:List Value},RpL P G h ts q vs→∀v∈vs,v.oneCell'=true
 | _,_,_, .nil,v,hv=>by cases hv
 | _,_,_, .cons t ts q u us h1 h2,v,hv=>by
  rcases List.mem_cons.1 hv with rfl|hv
  ·exact (zcI.one (X:=⟨P,G,[],[],0,fun _=>undef⟩) (ν:=fun _=>none) (zJz h1)).1
  ·exact h2.one v hv
theorem RpR.one:∀{e:Ty} {xs:List (e.den τ)} {vs:List Value},RpR P G h e xs vs→∀v∈vs,v.oneCell'=true
 | _,_,_, .nil e,v,hv=>by cases hv
 | _,_,_, .cons e x xs vs ws h1 h2,v,hv=>by
  rcases List.mem_append.1 hv with hv|hv
  ·exact h1.one v hv
  ·exact h2.one v hv
theorem RpR.app:∀{e:Ty} {xs ys:List (e.den τ)} {vs ws:List Value},RpR P G h e xs vs→RpR P G h e ys ws→RpR P G h e (xs++ys) (vs++ws)
 | _,_,_,_,_, .nil _,h2=>h2
 | _,_,_,_,_, .cons e x xs vs ws h1 h2,h3=>by rw [List.append_assoc]; exact .cons e x _ vs _ h1 (h2.app h3)
theorem RpR.set:∀{e:Ty} {xs:List (e.den τ)} {vs:List Value},RpR P G h e xs vs→∀{i:Nat} {z:e.den τ} {us:List Value},i<xs.length→RpL P G h (ets G e) (edt G e z) us →
  RpR P G h e (xs.set i z) (vs.take (i*(ets G e).length)++us++vs.drop (i*(ets G e).length+(ets G e).length))
 | _,_,_, .nil _,i,z,us,hi,hz=>by simp at hi
 | _,_,_, .cons e x xs vs ws h1 h2,0,z,us,hi,hz=>by
  have:=h1.len;simp only [Nat.zero_mul,List.take_zero,List.nil_append,Nat.zero_add,List.set_cons_zero];rw [List.drop_append,List.drop_eq_nil_of_le (by omega),List.nil_append,this,Nat.sub_self,List.drop_zero];exact .cons e z xs us ws hz h2
 | _,_,_, .cons e x xs vs ws h1 h2,i+1,z,us,hi,hz=>by
  have hl:=h1.len;have:=RpR.set h2 (i:=i) (by simpa using hi) hz;rw [List.set_cons_succ]
  have e1:(vs++ws).take ((i+1)*(ets G e).length)=vs++ws.take (i*(ets G e).length):=by
   rw [List.take_append,List.take_of_length_le (by rw [hl,Nat.add_mul]; omega),hl,Nat.add_mul,Nat.one_mul,Nat.add_sub_cancel]
  have e2:(vs++ws).drop ((i+1)*(ets G e).length+(ets G e).length)=ws.drop (i*(ets G e).length+(ets G e).length):=by
   rw [List.drop_append,List.drop_eq_nil_of_le (by rw [hl,Nat.add_mul]; omega),hl,List.nil_append,Nat.add_mul,Nat.one_mul]
   congr 1; omega
  rw [e1,e2,List.append_assoc,List.append_assoc];rw [List.append_assoc] at this;exact .cons e x _ vs _ h1 this
theorem zJL (M:Mem P G w0 h0 F L2 w ν h φ) {e:Ty} {c:CV τ} {xs:List (e.den τ)} {m:List Nat} {v:Value} (k:rowO L e c=some (xs,m)) (ha:∀i∈m,lk L2 i=lk L i) (hv:zcI P G h ν c v) :
  ∃ad cp cs,v = .slice ad xs.length cp∧xs.length≤cp∧zd5 w ad cs∧RpR P G h e xs cs∧∀b,b∈(ad.map (·.block)).toList→cs≠[]→b∈fps φ m∨h b≠none:=by
 have rp:∀{v:Value} {xs:List (e.den τ)},Rp P G h (.sl e) xs v→∃ad cp cs,v = .slice ad xs.length cp∧xs.length≤cp∧zd5 w ad cs∧RpR P G h e xs cs∧∀b,b∈(ad.map (·.block)).toList→cs≠[]→b∈fps φ m∨h b≠none:=by
  intro v xs hr
  cases hr with
  | sl _ _ a c vs hc hs hr =>
   refine ⟨a,c,vs,rfl,hc,hs.sees M.on,hr,fun b hb hne => .inr ?_⟩
   rcases hs with rfl|⟨b',o,cc,e',zz,rfl,h2,_⟩
   ·exact (hne rfl).elim
   ·simp at hb; subst hb; rw [h2]; simp
 unfold rowO at k
 split at k
 ·split at k
  ·rename_i hx
   obtain ⟨rfl,rfl⟩:=zgE hx;cases k;exact rp hv
  ·cases k
 ·cases k;obtain rfl:v=_:=hv;exact ⟨none,0,[],rfl,Nat.le_refl _,rfl, .nil e,fun b hb=>by cases hb⟩
 ·rename_i id
  obtain ⟨ad,n,cp,q,hν,rfl⟩:=hv
  split at k
  ·rename_i te e' xs' kk hlk
   split at k
   ·rename_i hx
    obtain ⟨rfl,rfl⟩:=zgE hx;cases k;have hr:=M.res id;rw [ha id (List.mem_singleton.2 rfl),hlk] at hr;obtain ⟨v',q',vs,u,h1,h2,h3,h4,_⟩:=hr;rw [hν] at h1;cases h1;obtain ⟨rfl,hc⟩:=h3.len;refine ⟨ad,cp,vs,rfl,hc,h3.sees.sees,h4,fun b hb _ => .inl ?_⟩;rw [zc3,h2];refine List.mem_append_left _ ?_
    cases ad with
    | none=>simp at hb
    | some a=>simpa [Value.ownBlock] using hb
   ·cases k
  ·rename_i e' xs' hlk
   split at k
   ·rename_i hx
    obtain ⟨rfl,rfl⟩:=zgE hx;cases k;have hr:=M.res id;rw [ha id (List.mem_singleton.2 rfl),hlk] at hr;obtain ⟨v',q',h1,_,h3⟩:=hr;rw [hν] at h1;cases h1;exact rp h3
   ·cases k
  ·rename_i i kk e' lo xs' hlk
   split at k
   ·rename_i te e2 ys k' hlk2
    cases hkk:Nat.beq kk k' with
    | false=>rw [hkk] at k; cases k
    | true =>
     rw [hkk] at k
     have:kk=k':=by simpa using hkk
     subst this;dsimp only [cond_true] at k
     split at k
     ·rename_i hx
      obtain ⟨rfl,rfl⟩:=zgE hx;cases k;have hr:=M.res id;rw [ha id (List.mem_cons_self ..),hlk] at hr;obtain ⟨a1,n1,c1,q1,q2,u1,ys1,a2,c2,g1,g2,g3,g4,g5,g6,g7,_⟩:=hr;have hr2:=M.res i;rw [ha i (List.mem_cons_of_mem _ (List.mem_cons_self ..)),hlk2] at hr2;obtain ⟨v',q',vs,u,h1,h2,h3,h4,h5⟩:=hr2;rw [g1] at h1;cases h1;rw [g2] at h5
      injection h5 with h5
      injection h5 with _ h5
      injection h5 with h5
      cases h5;rw [hν] at g5;cases g5
      by_cases hx0:xs'=[]
      ·subst hx0;refine ⟨ad,cp,[],rfl,g6,?_, .nil _,fun b _ hne=>(hne rfl).elim⟩
       cases ad with
       | none=>rfl
       | some x=>exact .inl rfl
      ·obtain ⟨rfl,_⟩:=h3.len;have hsee:=h3.sees.sees
       have hcell:∀(j:Nat) v,((vs.take ((lo+xs'.length)*(ets G e').length)).drop (lo*(ets G e').length))[j]? = some v→vs[lo*(ets G e').length+j]? = some v:=by
        intro j v hj;rw [List.getElem?_drop,List.getElem?_take] at hj
        split at hj
        ·exact hj
        ·cases hj
       have hrr:=(h4.take (lo+xs'.length)).drop lo;rw [← g4] at hrr;have had:=g7.1 hx0;refine ⟨ad,cp,_,rfl,g6,by rw [had]; exact zd5.part hsee hcell,hrr,fun b hb _ => .inl ?_⟩;rw [zc3,zc3,h2];refine List.mem_append_right _ (List.mem_append_left _ ?_);rw [had] at hb
       cases a1 with
       | none=>simp at hb
       | some a =>
        have e:(a.add (lo*(ets G e').length)).block=a.block:=by unfold Addr.add; split<;>rfl
        simp [e] at hb;simpa [Value.ownBlock] using hb
     ·cases k
   ·cases k
  ·cases k
 ·cases k
end
section
variable {ρ:Type} {X:Cx τ} {w0 w w':World} {h0 h H:Fz} {F:List Nat} {o:Oper} {E:zu τ} {L L2:Hp τ} {ν ν':Vn τ} {φ φ':Nat→List Nat} {nid nid':Nat} {K:Nx τ ρ} {r:ρ} {v:XV τ} {U:Hp τ} {tch:List Nat} {g:List (XV τ)}
variable {x y:Operand} {t' t ty u':Nat} {dst:Option Nat} {p:String} {af:Array Edge} {gd:Option (Nat × Bool)}
theorem zDA (M:Mem X.P X.G w0 h0 F L2 w ν h φ) {te:Nat} {e:Ty} {c:CV τ} {xs:List (e.den τ)} {m:List Nat} {v:Value} (k:rowA L te e c=some (xs,U,m)) (ha:∀i∈m,lk L2 i=lk L i) (hv:zcI X.P X.G h ν c v) :
  ∃φ1 cs,Mem X.P X.G w0 h0 F (U++L2) w ν h φ1∧zhr w0 h F φ1 v.ownBlock.toList∧zgC X.G w te (ets X.G e).length v xs.length cs∧RpR X.P X.G h e xs cs∧(∃a n c,v = .slice a n c)∧∀i b,b∈φ1 i→b∈φ i∧i∉m:=by
 unfold rowA at k
 split at k
 ·cases k; cases hv;exact ⟨φ,[],M,fun b hb=>by simp [Value.ownBlock] at hb,zgC.nil .., .nil _,⟨_,_,_,rfl⟩,fun i b hb=>⟨hb,by simp⟩⟩
 ·rename_i id
  split at k
  ·rename_i te' e' xs' kk hlk
   cases hb:Nat.beq te te' with
   | false=>rw [hb] at k; cases k
   | true =>
    rw [hb] at k;dsimp only [cond_true] at k
    have ht:te=te':=by simpa using hb
    subst ht
    split at k
    ·rename_i hx
     obtain ⟨rfl,rfl⟩:=zgE hx;cases k;have hr:=M.res id;rw [ha id (List.mem_singleton.2 rfl),hlk] at hr;obtain ⟨v',q',vs,u,h1,h2,h3,h4,_⟩:=hr;obtain ⟨ad,n,cp,q,hν,rfl⟩:=hv;rw [hν] at h1;cases h1;obtain ⟨M1,hf⟩:=M.drop id;rw [h2] at hf;refine ⟨_,vs,M1,hf,h3,h4,⟨_,_,_,rfl⟩,fun i b hbb=>?_⟩
     by_cases hi:i=id
     ·subst hi; rw [zU] at hbb; cases hbb
     ·rw [zaV _ _ hi] at hbb; exact ⟨hbb,by simpa using hi⟩
    ·cases k
  ·cases k
 ·cases k
theorem zzB:∀{l:List UInt8} {vs:List Value},vs=cells (fun b=>[zcW b]) l→RpR X.P X.G h .u8 l vs
 | [],vs,e=>by subst e; exact .nil _
 | b::l,vs,e=>by subst e; exact .cons .u8 b l [zcW b] _ (.cons .u8 [] b _ [] (.u8 b) .nil) (zzB rfl)
theorem zjZ {P:Program} {t e:TypeId} (h:elO P t=some e):P.underlying t=some (.slice e):=by
 unfold elO at h
 split at h
 ·rename_i hu; cases h; exact hu
 ·cases h
theorem zOY {P:Program} {e:TypeId} (h:bytO P e=true):∃i,P.info? e=some i∧i.zero=some (.int .u8 0)∧i.size=1∧i.bytes=1:=by
 unfold bytO at h
 split at h
 ·rename_i i hi
  split at h
  ·rename_i hz
   simp only [Bool.and_eq_true,Nat.beq_eq] at h;exact ⟨i,hi,hz,h.1,h.2⟩
  ·cases h
 ·cases h
theorem zH7 {te:Nat} {e:Ty} {a0:CV τ} {xs:List (e.den τ)} {l0:Str} {l:List (e.den τ)} (hel:elO X.P t'=some te) (hx:evC E x=some a0) (hA:rowA L te e a0=some (xs,U,tch)) (hy:evC E y=some (.s l0)) (hu:X.P.underlying u'=some .string)
  (hl:zmz (t := .u8) (t':=e) l0=some l) (hb:(bytO X.P te && !X.G.dr te)=true) (hfit:ze xs.length l.length 1=true) (k:K (.c (.os nid)) [] ((nid, .row te e (xs++l) nid)::U) tch (nid+1)=some r) :
  zc4 X w0 h0 F ⟨dst, .call ⟨.builtin .append,⟨[x,y]⟩,⟨[t',u']⟩⟩,t,p,af,gd⟩ E L nid K r:=by
 refine ⟨_,_,_,_,_,k,Nat.le_succ _,(fun _ h=>by cases h),fun L2 ν h φ a w next Q hd M hE ha hn k=>?_⟩;have hn':=hn nid (Nat.le_refl _) (Nat.lt_succ_self _);obtain ⟨Ea,hf,hl'⟩:=zdC a hd;obtain ⟨vx,h1,h2⟩:=zh hl' (hE.op (by simp [Op.operands,Call.operands])) hx;obtain ⟨vy,h3,h4⟩:=zh hl' (hE.op (by simp [Op.operands,Call.operands])) hy;obtain rfl:vy=_:=h4;obtain ⟨φ1,cs,M1,hfr,ho,hr,⟨ad,n,cp,rfl⟩,_⟩:=zDA M hA ha h2;obtain ⟨rfl,rfl⟩:=zgE hl;simp only [Bool.and_eq_true,Bool.not_eq_true'] at hb;obtain ⟨ti,hti,hz,hs1,hs2⟩:=zOY hb.1;simp only [ze,Bool.and_eq_true,decide_eq_true_eq] at hfit;have f1:xs.length+List.length (α:=UInt8) l0≤9223372036854775807:=hfit.1;have f2:(xs.length+List.length (α:=UInt8) l0)*1≤140737488355328:=hfit.2;have hsz:(⟨l0.toArray⟩:ByteArray).size=l0.length:=rfl;obtain ⟨ad',c',w',hrun,g2,g3,g4⟩:=zrO (P:=X.P) (w:=w) t' u' t te ti (zjZ hel) hu hti hz hs1 hs2 (.slice ad n cp) xs.length cs (ho.row hb.2) ⟨l0.toArray⟩ (by rw [hsz]; unfold maxLen; omega) (by rw [hsz]; omega);rw [hsz,zEM (en:=fun b=>[zcW b]) (fun _=>rfl)] at g2;rw [hsz] at hrun g4
 have hexec:(execOp a.eval ⟨dst, .call ⟨.builtin .append,⟨[x,y]⟩,⟨[t',u']⟩⟩,t,p,af,gd⟩).run X.P w = .ok (.value (.slice ad' (xs.length+l0.length) c')) w':=by
  simp only [execOp,resolve,invoke,builtin,Sem.run_bind,Sem.run_pure,Result.andThen_ok,List.map_toArray,List.map_cons,List.map_nil,hf.ev h1,hf.ev h3,hrun]
 refine zfz hexec (k _ h _ _ _ (zuC M1 hfr hn' g3 (zgC.of_row (by rw [List.length_append]; exact g2)) (hr.app (zzB rfl)) g4) (zbj hn') (Fz.le.refl _) zd4 ⟨_,_,_,_,zU _ _ _,rfl⟩)
theorem zH8 (hT:TyOk X) {te:Nat} {e:Ty} {a0 b0:CV τ} {xs ys:List (e.den τ)} {m:List Nat} (hel:elO X.P t'=some te) (hel':elO X.P u'=some te) (hte:asc X.ty te=some e) (hx:evC E x=some a0) (hA:rowA L te e a0=some (xs,U,tch)) (hy:evC E y=some b0) (hB:rowO L e b0=some (ys,m)) (hdj:zyu tch m=true)
  (hfit:fitO X.P xs.length ys.length te=true) (k:K (.c (.os nid)) [] ((nid, .row te e (xs++ys) nid)::U) (tch++m) (nid+1)=some r) (htu:t'=u') :
  zc4 X w0 h0 F ⟨dst, .call ⟨.builtin .append,⟨[x,y]⟩,⟨[t',u']⟩⟩,t,p,af,gd⟩ E L nid K r:=by
 subst htu;refine ⟨_,_,_,_,_,k,Nat.le_succ _,(fun _ h=>by cases h),fun L2 ν h φ a w next Q hd M hE ha hn k=>?_⟩;have hn':=hn nid (Nat.le_refl _) (Nat.lt_succ_self _);obtain ⟨Ea,hf,hl'⟩:=zdC a hd;obtain ⟨vx,h1,h2⟩:=zh hl' (hE.op (by simp [Op.operands,Call.operands])) hx;obtain ⟨vy,h3,h4⟩:=zh hl' (hE.op (by simp [Op.operands,Call.operands])) hy;obtain ⟨ad2,cp2,ds,rfl,hc2,hs2,hr2,_⟩:=zJL M hB (fun i hi=>ha i (List.mem_append_right _ hi)) h4;obtain ⟨φ1,cs,M1,hfr,ho,hr,⟨ad,n,cp,rfl⟩,_⟩:=zDA M hA (fun i hi=>ha i (List.mem_append_left _ hi)) h2;obtain ⟨ti,z,hti,hz,hs1,hzs,hpos⟩:=hT.el _ (zmP hte);have hs1:ti.size=(ets X.G e).length:=hs1;unfold fitO at hfit;rw [hti] at hfit;simp only [ze,Bool.and_eq_true,decide_eq_true_eq] at hfit
 have key:∃ad' c' w',(Builtin.append_ #[t',t'] t #[.slice ad n cp, .slice ad2 ys.length cp2]).run X.P w = .ok (.slice ad' (xs.length+ys.length) c') w'∧zgC X.G w' te (ets X.G e).length (.slice ad' (xs.length+ys.length) c') (xs.length+ys.length) (cs++ds)∧w.grownBy w' (Value.slice ad n cp).ownBlock ∧
   ((Value.slice ad' (xs.length+ys.length) c').ownBlock=(Value.slice ad n cp).ownBlock∨(Value.slice ad' (xs.length+ys.length) c').ownBlock=some w.heap.size):=by
  cases ad2 with
  | none =>
   have hds:ds=[]:=hs2;subst hds;have hl2:=hr2.len
   have hys:ys.length=0:=by
    rcases Nat.eq_zero_or_pos ys.length with h|h
    ·exact h
    ·have:0<ys.length*(ets X.G e).length:=Nat.mul_pos h (by omega);simp at hl2; omega
   obtain ⟨hn,hnc⟩:=ho.len;have h5:=zvy (c:=cp2) t' t te ti (zjZ hel) hti ho;rw [hys,Nat.add_zero,List.append_nil];refine ⟨ad,cp,w,?_,?_,⟨rfl,rfl,rfl,Nat.le_refl _,fun _ _ _=>rfl⟩, .inl (by subst hn; rfl)⟩
   ·rw [h5,hn]
   ·subst hn; exact ho
  | some a2 =>
   have hnews:∀j u,ds[j]? = some u→w.cell? (a2.add j)=some u:=by
    intro j u hj
    rcases hs2 with rfl|⟨hsp,hlt,hc⟩
    ·simp at hj
    ·have:a2.add j=⟨a2.block,a2.off+j,none⟩:=by
      obtain ⟨b,o,s⟩:=a2;simp only at hsp; subst hsp;unfold Addr.add; split<;>simp_all
     rw [this]; exact hc j u hj
   exact zDz (P:=X.P) (w:=w) t' t te ti z _ ti.bytes (zjZ hel) hti hz hs1 rfl (by rw [hzs,hs1]) (by omega) _ _ _ ho a2 ys.length cp2 ds hr2.len hnews hr2.one (by unfold maxLen; omega) hfit.2
 obtain ⟨ad',c',w',hrun,g2,g3,g4⟩:=key
 have hexec:(execOp a.eval ⟨dst, .call ⟨.builtin .append,⟨[x,y]⟩,⟨[t',t']⟩⟩,t,p,af,gd⟩).run X.P w = .ok (.value (.slice ad' (xs.length+ys.length) c')) w':=by
  simp only [execOp,resolve,invoke,builtin,Sem.run_bind,Sem.run_pure,Result.andThen_ok,List.map_toArray,List.map_cons,List.map_nil,hf.ev h1,hf.ev h3,hrun]
 exact zfz hexec (k _ h _ _ _ (zuC M1 hfr hn' g3 (by rw [List.length_append]; exact g2) (hr.app hr2) g4) (zbj hn') (Fz.le.refl _) zd4 ⟨_,_,_,_,zU _ _ _,rfl⟩)
end
end Go.Rk
end
section
namespace Go.Rk
open Go.RowKit Go.Dm Go.Dk
variable {τ:Nat→Type}
section
variable {ρ:Type} {X:Cx τ} {w0 w w':World} {h0 h H:Fz} {F:List Nat} {o:Oper} {E:zu τ} {L L2:Hp τ} {ν ν':Vn τ} {φ φ':Nat→List Nat} {nid nid':Nat} {K:Nx τ ρ} {r:ρ} {v:XV τ} {U:Hp τ} {tch:List Nat} {g:List (XV τ)}
variable {a:Act} {x y z:Operand} {t' t ty u':Nat} {dst:Option Nat} {p:String} {af:Array Edge} {gd:Option (Nat × Bool)}
theorem zPe (hT:TyOk X) {te:Nat} {e:Ty} {a0:CV τ} {xs:List (e.den τ)} (hel:elO X.P t'=some te) (hel':elO X.P u'=some te) (hte:asc X.ty te=some e) (hx:evC E x=some a0) (hA:rowA L te e a0=some (xs,U,tch)) (hy:evC E y=some .n0)
  (k:K (.c (.os nid)) [] ((nid, .row te e xs nid)::U) tch (nid+1)=some r) (htu:t'=u') :
  zc4 X w0 h0 F ⟨dst, .call ⟨.builtin .append,⟨[x,y]⟩,⟨[t',u']⟩⟩,t,p,af,gd⟩ E L nid K r:=by
 subst htu;refine ⟨_,_,_,_,_,k,Nat.le_succ _,(fun _ h=>by cases h),fun L2 ν h φ a w next Q hd M hE ha hn k=>?_⟩;have hn':=hn nid (Nat.le_refl _) (Nat.lt_succ_self _);obtain ⟨Ea,hf,hl'⟩:=zdC a hd;obtain ⟨vx,h1,h2⟩:=zh hl' (hE.op (by simp [Op.operands,Call.operands])) hx;obtain ⟨vy,h3,h4⟩:=zh hl' (hE.op (by simp [Op.operands,Call.operands])) hy;obtain rfl:vy=_:=h4;obtain ⟨φ1,cs,M1,hfr,ho,hr,⟨ad,n,cp,rfl⟩,_⟩:=zDA M hA ha h2;obtain ⟨ti,z,hti,hz,hs1,hzs,hpos⟩:=hT.el _ (zmP hte);have h5:=zvy (c:=0) t' t te ti (zjZ hel) hti ho
 have hexec:(execOp a.eval ⟨dst, .call ⟨.builtin .append,⟨[x,y]⟩,⟨[t',t']⟩⟩,t,p,af,gd⟩).run X.P w = .ok (.value (.slice ad n cp)) w:=by
  simp only [execOp,resolve,invoke,builtin,Sem.run_bind,Sem.run_pure,Result.andThen_ok,List.map_toArray,List.map_cons,List.map_nil,hf.ev h1,hf.ev h3,h5]
 exact zfz hexec (k _ h _ _ _ (zuC M1 hfr hn' ⟨rfl,rfl,rfl,Nat.le_refl _,fun _ _ _=>rfl⟩ ho hr (.inl rfl)) (zbj hn') (Fz.le.refl _) zd4 ⟨_,_,_,_,zU _ _ _,rfl⟩)
theorem zPf (M:Mem X.P X.G w0 h0 F L2 w ν h φ) (hH:h.le H) {t:Ty} {A:XV τ} {d:t.den τ} {m:List Nat} {u:Value} (e:lokX X.G L t A=some (d,m)) (ha:zbJ L2 L φ H w m) (hu:XOk X.P X.G h ν A u) :
  ∃us,u.cells=⟨us⟩∧RpL X.P X.G H (ets X.G t) (edt X.G t d) us:=by
 unfold lokX at e
 split at e
 ·rename_i n cs
  split at e
  ·rename_i q m' hq
   cases e;obtain ⟨us,rfl,hc⟩:=hu;refine ⟨us,rfl,?_⟩;show RpL _ _ _ (X.G.fs n) (X.G.dtor n (X.G.ctor n q)) us;rw [X.G.dc];exact ztd (A:=zbJ L2 L φ H w) (fun _ _=>zbJ.app) (zwP M hH depth) hq ha hc
  ·cases e
 ·rename_i c
  have hr:=zwP M hH _ _ _ _ _ _ e ha hu;have hc:zcI X.P X.G h ν c u:=hu;refine ⟨[u],hc.one.2,?_⟩;cases t
  case st n=>cases hr
  all_goals exact .cons _ [] _ u [] hr .nil
 ·cases e
theorem zEE (hd:a.defers=[]) (M:Mem X.P X.G w0 h0 F L2 w ν h φ) (hH:h.le H) {e:Ty}:∀{ps:List (Nat × Operand)} {k:Nat} {xs:List (e.den τ)} {m:List Nat} {pre rest:List Value},zGI X L E e k ps=some (xs,m)→zbJ L2 L φ H w m→(∀q∈ps,zd8 X h ν a (zxl q.2) E) →
  pre.length=k*(ets X.G e).length→rest.length=ps.length*(ets X.G e).length →
  ∃cs,RpR X.P X.G H e xs cs∧xs.length=ps.length∧Instr.fill (fun i=>some (i*(ets X.G e).length,(ets X.G e).length)) (pre++rest).toArray (ps.map fun q=>(q.1,a.eval q.2))=some (pre++cs).toArray
 | [],k,xs,m,pre,rest,e1,ha,hE,hp,hr=>by
  cases e1;have:rest=[]:=List.eq_nil_of_length_eq_zero (by simpa using hr);subst this;exact ⟨[], .nil e,rfl,rfl⟩
 | (i,x)::ps,k,xs,m,pre,rest,e1,ha,hE,hp,hr=>by
  unfold zGI at e1
  cases hb:Nat.beq i k with
  | false=>rw [hb] at e1; cases e1
  | true =>
   rw [hb] at e1;dsimp only [cond_true] at e1
   have hik:i=k:=by simpa using hb
   subst hik
   split at e1
   ·rename_i A hA
    split at e1
    ·rename_i d m1 hd1
     split at e1
     ·rename_i xs' m2 hx2
      cases e1;obtain ⟨us,h1,h2⟩:=zPf M hH hd1 ha.app.1 (zrj hd (hE _ (List.mem_cons_self ..)) hA);have hl:=h2.len;simp only [List.length_cons,Nat.add_mul,Nat.one_mul] at hr
      have hrl:(rest.drop us.length).length=ps.length*(ets X.G e).length:=by rw [List.length_drop]; omega
      obtain ⟨cs,h3,h4,h5⟩:=zEE hd M hH (pre:=pre++us) (rest:=rest.drop us.length) hx2 ha.app.2 (fun q hq=>hE q (List.mem_cons_of_mem _ hq)) (by rw [List.length_append,hp,hl,Nat.add_mul,Nat.one_mul]) hrl;refine ⟨us++cs, .cons e d xs' us cs h2 h3,by simp [h4],?_⟩;have h6:=zsa us (pre++rest) (i*(ets X.G e).length) 0 (by rw [List.length_append]; omega);simp only [Nat.add_zero] at h6;simp only [List.map_cons,Instr.fill,h1];rw [if_neg (by simp; omega)]
      have h8:(Array.zipIdx ⟨us⟩).foldl (fun cs (q:Value × Nat)=>cs.setIfInBounds (i*(ets X.G e).length+q.2) q.1) (pre++rest).toArray=(us.zipIdx).foldl (fun cs (q:Value × Nat)=>cs.setIfInBounds (i*(ets X.G e).length+q.2) q.1) (pre++rest).toArray:=by
       rw [← Array.foldl_toList]; simp
      have h9:(pre++rest).take (i*(ets X.G e).length)++us++(pre++rest).drop (i*(ets X.G e).length+us.length)=pre++us++rest.drop us.length:=by
       rw [← hp,List.take_left,List.drop_append,List.drop_eq_nil_of_le (by omega),List.nil_append,Nat.add_sub_cancel_left]
      rw [h9] at h6;refine Eq.trans (congrArg (fun z=>Instr.fill _ z _) (h8.trans h6)) ?_;rw [h5,List.append_assoc]
     ·cases e1
    ·cases e1
   ·cases e1
theorem zNg {P:Program} {te n:Nat} {ti:TypeInfo} {z:Value} {parts:List (Nat × Value)} {cells:Array Value} (hu:P.underlying t'=some (.slice te)) (hi:P.info? te=some ti) (hz:ti.zero=some z) (hb:¬(n*ti.size>2^24))
  (hf:Instr.fill (fun i=>some (i*ti.size,ti.size)) ((Array.range (n*ti.size)).map ((if n*ti.size=0 then #[] else z.cells)[· % (if n*ti.size=0 then #[] else z.cells).size]!)) parts=some cells) :
  (Instr.buildSlice t' n parts.toArray).run P w = .ok (.slice (some ⟨w.heap.size,0,none⟩) n n) (w.alloc (.cells cells te)):=by
 have hsize:∀w,(sizeOf te).run P w = .ok ti.size w:=fun w=>by simp [sizeOf,typeInfo,hi]
 have hzv:∀w,(zeroValue te).run P w = .ok z w:=fun w=>by simp [zeroValue,typeInfo,hi,hz]
 unfold Instr.buildSlice;simp only [Sem.run_bind,run_underlying hu,Result.andThen_ok,hsize];rw [if_neg hb]
 by_cases hzero:n*ti.size=0
 ·simp only [hzero,if_true] at hf ⊢;simp only [Sem.run_bind,Sem.run_pure,Result.andThen_ok,hf];simp [newRow,go_sem,Result.andThen]
 ·simp only [hzero,if_false] at hf ⊢;simp only [Sem.run_bind,Sem.run_pure,Result.andThen_ok,hzv,hf];simp [newRow,go_sem,Result.andThen]
theorem bs_ok (hT:TyOk X) {te n:Nat} {e:Ty} {ps:List (Nat × Operand)} {xs:List (e.den τ)} {ids:List Nat} (hel:elO X.P t'=some te) (hte:asc X.ty te=some e) (hx:zGI X L E e 0 ps=some (xs,ids)) (hn:xs.length=n) (hsz:n*(ets X.G e).length≤65536) (hU:freeze L ids=some U)
  (k:K (.c (.os nid)) [] ((nid, .row te e xs nid)::U) ids (nid+1)=some r):zc4 X w0 h0 F ⟨dst, .buildSlice t' n ⟨ps⟩,t,p,af,gd⟩ E L nid K r:=by
 refine ⟨_,_,_,_,_,k,Nat.le_succ _,(fun _ h=>by cases h),fun L2 ν h φ a w next Q hd M hE ha hnn k=>?_⟩;have hn':=hnn nid (Nat.le_refl _) (Nat.lt_succ_self _);obtain ⟨ti,z,hti,hz,hs1,hzs,hpos⟩:=hT.el _ (zmP hte);have hs1:ti.size=(ets X.G e).length:=hs1;have hti:X.P.info? te=some ti:=hti;have hM1:=M.freeze hU ha;have hle:=M.lend_le ids
 have hm0:ps.length=n:=by
  obtain ⟨cs,_,h2,_⟩:=zEE (pre:=[]) (rest:=List.replicate (ps.length*(ets X.G e).length) undef) hd M hle hx (M.look ha) (fun q hq=>hE.op (by simp only [Op.operands,List.toList_toArray,List.mem_map]; exact ⟨q,hq,rfl⟩)) (by simp) (by simp);omega
 have hrng:∀f:Nat→Value,(Array.range (n*ti.size)).map f=((List.range (n*ti.size)).map f).toArray:=by
  intro f; apply Array.toList_inj.1; simp
 have hlen:∀f:Nat→Value,((List.range (n*ti.size)).map f).length=ps.length*(ets X.G e).length:=by intro f; simp [hm0,hs1]
 have hfill:∀zc:Array Value, ∃cs,RpR X.P X.G (zrw h w (fps φ ids)) e xs cs∧Instr.fill (fun i=>some (i*ti.size,ti.size)) ((Array.range (n*ti.size)).map (zc[· % zc.size]!)) (ps.map fun q=>(q.1,a.eval q.2))=some cs.toArray:=by
  intro zc;obtain ⟨cs,h1,_,h3⟩:=zEE (pre:=[]) (rest:=(List.range (n*ti.size)).map (zc[· % zc.size]!)) hd M hle hx (M.look ha) (fun q hq=>hE.op (by simp only [Op.operands,List.toList_toArray,List.mem_map]; exact ⟨q,hq,rfl⟩)) (by simp) (hlen _);refine ⟨cs,h1,?_⟩;rw [hrng];simp only [hs1] at h3 ⊢;simpa using h3
 have hpm:(Array.map (fun x=>match x with|(i,x)=>(i,a.eval x)) (⟨ps⟩:Array (Nat × Operand)))=(ps.map fun q=>(q.1,a.eval q.2)).toArray:=by
  have:(Array.map (fun (q:Nat × Operand)=>(q.1,a.eval q.2)) ⟨ps⟩)=(ps.map fun q=>(q.1,a.eval q.2)).toArray:=by simp
  exact this
 have key:∃cs,RpR X.P X.G (zrw h w (fps φ ids)) e xs cs∧(execOp a.eval ⟨dst, .buildSlice t' n ⟨ps⟩,t,p,af,gd⟩).run X.P w = .ok (.value (.slice (some ⟨w.heap.size,0,none⟩) n n)) (w.alloc (.cells cs.toArray te)):=by
  have hb:¬(n*ti.size>2^24):=by rw [hs1]; omega
  obtain ⟨cs,h1,h2⟩:=hfill (if n*ti.size=0 then #[] else z.cells);refine ⟨cs,h1,?_⟩;simp only [execOp];rw [hpm,Sem.run_bind,zNg (zjZ hel) hti hz hb h2];rfl
 obtain ⟨cs,h1,hexec⟩:=key;have hl:=h1.len
 have ho:zgC X.G (w.alloc (.cells cs.toArray te)) te (ets X.G e).length (.slice (some ⟨w.heap.size,0,none⟩) n n) xs.length cs :=
  zgC.of_row ⟨hl, .inr ⟨w.heap.size,n,cs.toArray,by rw [hn],Nat.zero_le _,zkC _,by omega,by have:n≤n*(ets X.G e).length:=Nat.le_mul_of_pos_right _ (by omega); unfold maxLen; omega,by simp [hl,hn],by rw [← hl]; simp⟩⟩
 refine zfz hexec (k _ _ _ _ _ (hM1.alloc hn' _ (.row te e xs nid) (.slice (some ⟨w.heap.size,0,none⟩) n n,some ⟨e,xs⟩) ⟨_,_,cs,_,rfl,rfl,ho,h1,zU _ _ _⟩) (zbj hn') hle zd4 ⟨_,_,_,_,zU _ _ _,rfl⟩)
theorem ix_ok {te:Nat} {e:Ty} {c:CV τ} {xs:List (e.den τ)} {m:Int} {d:e.den τ} (hT:TyOk X) (hel:elO X.P t'=some te) (hx:evC E x=some c) (hy:evC E y=some (.i m)) (hr:lAt xs m=some d) (hsz:szO X.P te=some (ets X.G e).length) (hpos:0<(ets X.G e).length)
  (k:K (.c (.ea e d 0)) [] [] tch nid=some r)
  (hs:∀(L2:Hp τ) ν h φ (w:World) u,Mem X.P X.G w0 h0 F L2 w ν h φ→(∀i∈tch,lk L2 i=lk L i)→zcI X.P X.G h ν c u→Rp X.P X.G h (.sl e) xs u):zc4 X w0 h0 F ⟨dst, .indexAddr t' x y,t,p,af,gd⟩ E L nid K r:=by
 refine zaK k fun L2 ν h φ a w hd M hE ha=>?_;obtain ⟨Ea,hf,hl'⟩:=zdC a hd;obtain ⟨vx,h1,h2⟩:=zh hl' (hE.op (by simp [Op.operands])) hx;obtain ⟨vy,h3,h4⟩:=zh hl' (hE.op (by simp [Op.operands])) hy;obtain rfl:vy=_:=h4;have hrp:=hs L2 ν h φ w vx M ha h2;obtain ⟨hz,hm0⟩:=zsP hr
 cases hrp with
 | sl _ _ ad cp vs hc hsees hrr =>
  obtain ⟨h5,h6⟩:=hrr.get hz;have hlt:m.toNat<xs.length:=(List.getElem?_eq_some_iff.1 hz).1
  rcases hsees with rfl|⟨b,o,cc,e',zz,rfl,g1,g2⟩
  ·rw [List.length_nil] at h6; omega
  ·have hadd:(⟨b,o,none⟩:Addr).add (m.toNat*(ets X.G e).length)=⟨b,o+m.toNat*(ets X.G e).length,none⟩:=by unfold Addr.add; split<;>simp_all
   refine ⟨ptr b (o+m.toNat*(ets X.G e).length),?_,b,o+m.toNat*(ets X.G e).length,_,rfl, .inr ⟨b,_,cc,e',zz,rfl,g1,fun j v hj=>?_⟩,h5⟩
   ·refine znd (fun w=>?_) hf h1 h3;rw [zoE (zjZ hel) (zfA hsz) hm0 (by omega),hadd]
   ·rw [List.getElem?_take] at hj
    split at hj
    ·rw [List.getElem?_drop] at hj;rw [Nat.add_assoc]; exact g2 _ _ hj
    ·cases hj
theorem ixo_ok {te te' id kk:Nat} {e:Ty} {xs:List (e.den τ)} {m:Int} {d:e.den τ} (hel:elO X.P t'=some te) (hx:evC E x=some (.os id)) (hy:evC E y=some (.i m)) (hlk:lk L id = .row te' e xs kk) (hr:lAt xs m=some d) (hsz:szO X.P te=some (ets X.G e).length) (hpos:0<(ets X.G e).length)
  (k:K (.c (.oe id kk m e d 0)) [] [] [id] nid=some r):zc4 X w0 h0 F ⟨dst, .indexAddr t' x y,t,p,af,gd⟩ E L nid K r:=by
 refine zaK k fun L2 ν h φ a w hd M hE ha=>?_;obtain ⟨Ea,hf,hl'⟩:=zdC a hd;obtain ⟨vx,h1,h2⟩:=zh hl' (hE.op (by simp [Op.operands])) hx;obtain ⟨vy,h3,h4⟩:=zh hl' (hE.op (by simp [Op.operands])) hy;obtain rfl:vy=_:=h4;obtain ⟨ad,n,cp,q,hν,rfl⟩:=h2;have hres:=M.res id;rw [ha id (List.mem_singleton.2 rfl),hlk] at hres;obtain ⟨v',q',vs,u,g1,g2,g3,g4,g5⟩:=hres;rw [hν] at g1;cases g1;obtain ⟨hz,hm0⟩:=zsP hr;have hlt:m.toNat<xs.length:=(List.getElem?_eq_some_iff.1 hz).1;obtain ⟨_,⟨e1,hz0⟩|⟨g,d0,cap,cur,e1,_⟩⟩:=g3
 ·omega
 ·cases e1
  have hadd:(⟨g,d0*(ets X.G e).length,none⟩:Addr).add (m.toNat*(ets X.G e).length)=⟨g,d0*(ets X.G e).length+m.toNat*(ets X.G e).length,none⟩:=by unfold Addr.add; split<;>simp_all
  refine ⟨ptr g (d0*(ets X.G e).length+m.toNat*(ets X.G e).length),?_,g,_,_,_,_,xs,u,hν,g5,hr,rfl⟩;refine znd (fun w=>?_) hf h1 h3;rw [zoE (zjZ hel) (zfA hsz) hm0 (by omega),hadd]
theorem zk2 {P:Program} {e sz n c i j:Nat} {ad:Option Addr} (ht:P.underlying t=some (.slice e)) (hn:zkT P e=some sz) (hij:i≤j) (hj:j≤n) (hc:n≤c) :
  (Instr.slice t (.slice ad n c) (some (int i)) (some (int j)) none).run P w = .ok (.slice (if c=i then ad else ad.map (·.add (i*sz))) (j-i) (c-i)) w ∧
  (i=0→(Instr.slice t (.slice ad n c) none (some (int j)) none).run P w = .ok (.slice (if c=i then ad else ad.map (·.add (i*sz))) (j-i) (c-i)) w) ∧
  (j=n→(Instr.slice t (.slice ad n c) (some (int i)) none none).run P w = .ok (.slice (if c=i then ad else ad.map (·.add (i*sz))) (j-i) (c-i)) w):=by
 have b1:j≤c:=by omega
 refine ⟨?_,fun hi=>?_,fun hjn=>?_⟩
 ·simp [Instr.slice,Instr.sliceBounds,Instr.sliceBound,asIntOf,run_underlying ht,zcV hn,hij,b1,Result.andThen]
 ·subst hi;simp [Instr.slice,Instr.sliceBounds,Instr.sliceBound,asIntOf,run_underlying ht,zcV hn,b1,Result.andThen]
 ·subst hjn;simp [Instr.slice,Instr.sliceBounds,Instr.sliceBound,asIntOf,run_underlying ht,zcV hn,hij,Result.andThen]
theorem sli_ok (M:Mem X.P X.G w0 h0 F L2 w ν h φ) {c:CV τ} {e:Ty} {l:List (e.den τ)} {ids:List Nat} {u:Value} (k:zIJ L c=some ⟨e,l,U,ids⟩) (ha:∀i∈ids,lk L2 i=lk L i) (hu:zcI X.P X.G h ν c u) :
  ∃h' φ',Mem X.P X.G w0 h0 F (U++L2) w ν h' φ'∧h.le h'∧Rp X.P X.G h' (.sl e) l u:=by
 unfold zIJ at k
 split at k
 ·cases k;exact ⟨h, φ,M,Fz.le.refl _,hu⟩
 ·rename_i id
  obtain ⟨ad,n,cp,q,hν,rfl⟩:=hu
  split at k
  ·rename_i te e' xs kk hlk
   cases k
   have hfz:freeze L [id]=some [(id, .fz e l)]:=by simp [freeze,hlk]
   have M1:=M.freeze hfz ha;have hr:=M1.res id;rw [zgX _ (by simp [kys]),zaP] at hr;obtain ⟨v',q',h1,_,h3⟩:=hr;rw [hν] at h1;cases h1;exact ⟨_,_,M1,M.lend_le _,h3⟩
  ·rename_i e' xs hlk
   cases k;have hr:=M.res id;rw [ha id (List.mem_singleton.2 rfl),hlk] at hr;obtain ⟨v',q',h1,_,h3⟩:=hr;rw [hν] at h1;cases h1;exact ⟨h, φ,M,Fz.le.refl _,h3⟩
  ·cases k
 ·cases k
end
end Go.Rk
end
section
namespace Go.Rk
open Go.RowKit Go.Dm Go.Dk
variable {τ:Nat→Type}
section
variable {ρ:Type} {X:Cx τ} {w0 w w':World} {h0 h H:Fz} {F:List Nat} {o:Oper} {E:zu τ} {L L2:Hp τ} {ν ν':Vn τ} {φ φ':Nat→List Nat} {nid nid':Nat} {K:Nx τ ρ} {r:ρ} {v:XV τ} {U:Hp τ} {tch:List Nat} {g:List (XV τ)}
variable {a:Act} {x y z:Operand} {t' t ty u':Nat} {dst:Option Nat} {p:String} {af:Array Edge} {gd:Option (Nat × Bool)}
theorem zuz {te:TypeId} {e:Ty} (k:szE X te e=true):szO X.P te=some (ets X.G e).length∧0<(ets X.G e).length:=by
 unfold szE at k
 split at k
 ·rename_i n hn
  simp only [Bool.and_eq_true,Nat.beq_eq,Nat.blt_eq] at k;obtain ⟨rfl,h⟩:=k;exact ⟨hn,h⟩
 ·cases k
theorem zgF {α:Type} {b:Bool} {x:Option α} {r:α} (e:bc b x none=some r):b=true∧x=some r:=by
 cases b with
 | false=>cases e
 | true=>exact ⟨rfl,e⟩
theorem bc_f {α:Type} {b:Bool} {x:Option α} {r:α} (e:bc b none x=some r):b=false∧x=some r:=by
 cases b with
 | false=>exact ⟨rfl,e⟩
 | true=>cases e
theorem zuA {lo hi:Option Operand} {te:Nat} {e:Ty} {c:CV τ} {l s:List (e.den τ)} {ids:List Nat} (hu:X.P.underlying t'=some (.slice te)) (hx:evC E x=some c) (hs:zIJ L c=some ⟨e,l,U,ids⟩) (hsz:szO X.P te=some (ets X.G e).length) (i j:Nat) (hij:i≤j) (hj:j≤l.length) (hsub:s=(l.take j).drop i)
  (hlo:∀{a:Act} {Ea:Env} {N:Nat} {L2:Hp τ} {ν h φ} {w:World} {ad:Option Addr} {n cp:Nat},Fits N Ea a→(∀t,Dk.look Ea t=a.tmps[t]?)→zd8 X h ν a (rdO (.slice t' x lo hi none)) E→evl Ea x=some (.slice ad n cp)→Mem X.P X.G w0 h0 F L2 w ν h φ→n=l.length→l.length≤cp →
   (execOp a.eval ⟨dst, .slice t' x lo hi none,t,p,af,gd⟩).run X.P w = .ok (.value (.slice (if cp=i then ad else ad.map (·.add (i*(ets X.G e).length))) (j-i) (cp-i))) w)
  (k:K (.c (.sl e s)) [] U ids nid=some r):zc4 X w0 h0 F ⟨dst, .slice t' x lo hi none,t,p,af,gd⟩ E L nid K r:=by
 refine ⟨_,_,_,_,_,k,Nat.le_refl _,(fun _ h=>by cases h),fun L2 ν h φ a w next Q hd M hE ha hn k=>?_⟩;obtain ⟨Ea,hf,hl'⟩:=zdC a hd;obtain ⟨vx,h1,h2⟩:=zh hl' (hE.op (by simp [Op.operands])) hx;obtain ⟨h', φ',M',hle,hrp⟩:=sli_ok M hs ha h2
 have hform:∃ad n cp,vx = .slice ad n cp:=by cases hrp; exact ⟨_,_,_,rfl⟩
 obtain ⟨ad,n,cp,rfl⟩:=hform;obtain ⟨hn1,hn2,hsub'⟩:=zMr hrp hij hj;have hexec:=hlo hf hl' hE h1 M hn1 hn2;subst hsub;exact zfz hexec (k ν h' φ' w _ M' (Vn.le.refl _) hle (zde.refl _ _ _) hsub')
theorem slice3 {te:Nat} {e:Ty} {c:CV τ} {l s:List (e.den τ)} {i j:Int} {ids:List Nat} (hu:X.P.underlying t'=some (.slice te)) (hx:evC E x=some c) (hs:zIJ L c=some ⟨e,l,U,ids⟩) (hsz:szO X.P te=some (ets X.G e).length) (hy:evC E y=some (.i i)) (hz:evC E z=some (.i j)) (hr:zDv l i j=some s)
  (k:K (.c (.sl e s)) [] U ids nid=some r):zc4 X w0 h0 F ⟨dst, .slice t' x (some y) (some z) none,t,p,af,gd⟩ E L nid K r:=by
 unfold zDv at hr
 split at hr
 ·rename_i hb
  cases hr
  have ei:(i.toNat:Int)=i:=by omega
  have ej:(j.toNat:Int)=j:=by omega
  refine zuA hu hx hs hsz i.toNat j.toNat (by omega) (by omega) rfl (fun {a Ea N L2 ν h φ w ad n cp} hf hl hE hvx M hn hcp=>?_) k;obtain ⟨vy,h1,h2⟩:=zh hl (hE.op (by simp [Op.operands])) hy;obtain ⟨vz,h3,h4⟩:=zh hl (hE.op (by simp [Op.operands])) hz;obtain rfl:vy=_:=h2;obtain rfl:vz=_:=h4;refine zxL hu (fun w=>?_) hf hvx h1 h3;have:=(zk2 (w:=w) (ad:=ad) hu (zfA hsz) (show i.toNat≤j.toNat by omega) (show j.toNat≤n by omega) (show n≤cp by omega)).1
  rwa [ei,ej] at this
 ·cases hr
theorem slice1 {te:Nat} {e:Ty} {c:CV τ} {l s:List (e.den τ)} {i:Int} {ids:List Nat} (hu:X.P.underlying t'=some (.slice te)) (hx:evC E x=some c) (hs:zIJ L c=some ⟨e,l,U,ids⟩) (hsz:szO X.P te=some (ets X.G e).length) (hy:evC E y=some (.i i)) (hr:zpn l i=some s)
  (k:K (.c (.sl e s)) [] U ids nid=some r):zc4 X w0 h0 F ⟨dst, .slice t' x (some y) none none,t,p,af,gd⟩ E L nid K r:=by
 unfold zpn at hr
 split at hr
 ·rename_i hb
  cases hr
  have ei:(i.toNat:Int)=i:=by omega
  refine zuA hu hx hs hsz i.toNat l.length (by omega) (Nat.le_refl _) (by rw [List.take_length]) (fun {a Ea N L2 ν h φ w ad n cp} hf hl hE hvx M hn hcp=>?_) k;obtain ⟨vy,h1,h2⟩:=zh hl (hE.op (by simp [Op.operands])) hy;obtain rfl:vy=_:=h2;refine zwq hu (fun w=>?_) hf hvx h1;have:=(zk2 (w:=w) (ad:=ad) hu (zfA hsz) (show i.toNat≤l.length by omega) (show l.length≤n by omega) (show n≤cp by omega)).2.2 hn.symm
  rwa [ei] at this
 ·cases hr
theorem slice2 {te:Nat} {e:Ty} {c:CV τ} {l s:List (e.den τ)} {j:Int} {ids:List Nat} (hu:X.P.underlying t'=some (.slice te)) (hx:evC E x=some c) (hs:zIJ L c=some ⟨e,l,U,ids⟩) (hsz:szO X.P te=some (ets X.G e).length) (hz:evC E z=some (.i j)) (hr:lTo l j=some s)
  (k:K (.c (.sl e s)) [] U ids nid=some r):zc4 X w0 h0 F ⟨dst, .slice t' x none (some z) none,t,p,af,gd⟩ E L nid K r:=by
 unfold lTo at hr
 split at hr
 ·rename_i hb
  cases hr
  have ej:(j.toNat:Int)=j:=by omega
  refine zuA hu hx hs hsz 0 j.toNat (by omega) (by omega) rfl (fun {a Ea N L2 ν h φ w ad n cp} hf hl hE hvx M hn hcp=>?_) k;obtain ⟨vz,h3,h4⟩:=zh hl (hE.op (by simp [Op.operands])) hz;obtain rfl:vz=_:=h4;refine zAK hu (fun w=>?_) hf hvx h3;have:=(zk2 (w:=w) (ad:=ad) hu (zfA hsz) (show 0≤j.toNat by omega) (show j.toNat≤n by omega) (show n≤cp by omega)).2.1 rfl
  rwa [ej] at this
 ·cases hr
theorem Mem.drew (M:Mem X.P X.G w0 h0 F L w ν h φ):Mem X.P X.G w0 h0 F L w.drew ν h φ:=M.grow ⟨rfl,rfl,rfl,Nat.le_refl _,fun _ _=>rfl⟩
theorem Mem.newFz (M:Mem X.P X.G w0 h0 F L w ν h φ) (o:Obj):Mem X.P X.G w0 h0 F L (w.alloc o) ν (fun b=>if b=w.heap.size then some o else h b) φ∧h.le (fun b=>if b=w.heap.size then some o else h b):=by
 have hle:h.le (fun b=>if b=w.heap.size then some o else h b):=by
  intro b o' e;have:=M.in_lt (b:=b) (by rw [e]; simp);show (if b=w.heap.size then some o else h b)=_;rw [if_neg (by omega)]; exact e
 refine ⟨?_,hle⟩;refine M.upd [] (fun _ _=>rfl) (fun _ _=>rfl) (Vn.le.refl _) hle rfl rfl rfl (by simp) (fun b hb _=>zK7 o hb) (fun b o' h1 h2=>?_) (fun b h1 h2=>?_) (fun i hi=>by cases hi) (fun i hi=>by cases hi) (fun i hi=>by cases hi)
 ·split at h2
  ·rename_i e
   cases h2;subst e;exact zkC _
  ·rw [h1] at h2; cases h2
 ·split at h2
  ·rename_i e; subst e; exact .inr (Nat.le_refl _)
  ·exact (h2 h1).elim
theorem zMC {te:Nat} {l:Str} (hx:evC E x=some (.s l)) (hs:X.P.underlying ty=some .string) (hd':X.P.underlying t'=some (.slice te)) (he:X.P.underlying te=some (.int .u8)) (k:K (.c (.sl .u8 l)) [] [] [] nid=some r) :
  zc4 X w0 h0 F ⟨dst, .convert ty t' x,t,p,af,gd⟩ E L nid K r:=by
 refine ⟨_,_,_,_,_,k,Nat.le_refl _,(fun _ h=>by cases h),fun L2 ν h φ a w next Q hd M hE ha hn k=>?_⟩;obtain ⟨Ea,hf,hl'⟩:=zdC a hd;obtain ⟨vx,h1,h2⟩:=zh hl' (hE.op (by simp [Op.operands])) hx;obtain rfl:vx=_:=h2;have hr:=run_bytes_of_string (P:=X.P) w ty t' te ⟨l.toArray⟩ hs hd' he;have hsz:(⟨l.toArray⟩:ByteArray).size=l.length:=rfl;rw [hsz] at hr;generalize hc:grownCap w l.length 0 te=c at hr
 have hcl:l.length≤c:=by rw [← hc]; exact grownCap_ge _ _ _ _
 obtain ⟨M1,hle⟩:=M.drew.newFz (.cells (bytesRow ⟨l.toArray⟩ c) te ((bytesRow ⟨l.toArray⟩ c).size,(bytesRow ⟨l.toArray⟩ c).size+1));refine zfz (u := .slice (some ⟨w.drew.heap.size,0,none⟩) l.length c) (by simp only [execOp]; rw [hf.ev h1]; simp only [Sem.run_bind,hr,Result.andThen_ok,Sem.run_pure]; rfl) (k ν _ φ _ _ M1 (Vn.le.refl _) hle (zde.refl _ _ _) ?_);refine .sl .u8 l _ c (cells (fun b=>[zcW b]) l) hcl (.inr ⟨w.drew.heap.size,0,_,te,_,rfl,if_pos rfl,fun i v hv=>?_⟩) (zzB rfl)
 have hce:∀m:Str,cells (fun b=>[zcW b]) m=m.map zcW:=fun m=>by
  unfold cells
  induction m with
  | nil=>rfl
  | cons x m ih=>rw [List.flatMap_cons,ih]; rfl
 rw [hce,List.getElem?_map] at hv;obtain ⟨x,hx1,hx2⟩:=Option.map_eq_some_iff.1 hv;have hil:i<l.length:=(List.getElem?_eq_some_iff.1 hx1).1;rw [Nat.zero_add];unfold bytesRow;rw [Array.getElem?_append_left (by simpa using hil),Array.getElem?_map]
 have:(⟨l.toArray⟩:ByteArray).data[i]? = some x:=by simpa using hx1
 rw [this, ← hx2];rfl
theorem zMD:∀{l:List UInt8} {vs:List Value},RpR X.P X.G h .u8 l vs→vs=cells (fun b=>[zcW b]) l
 | [],vs,e=>by cases e; rfl
 | b::l,_, .cons _ _ _ us ws h1 h2=>by
  have h3:=zMD h2
  cases h1 with
  | cons _ _ _ v vs h4 h5 =>
   cases h5;cases h4;rw [h3]; rfl
theorem str_ok {te:Nat} {c:CV τ} {l:Str} {ids:List Nat} (hx:evC E x=some c) (hd':X.P.underlying t'=some .string) (hs:X.P.underlying ty=some (.slice te)) (he:X.P.underlying te=some (.int .u8)) (hr:rowO L .u8 c=some (l,ids)) (k:K (.c (.s l)) [] [] ids nid=some r) :
  zc4 X w0 h0 F ⟨dst, .convert ty t' x,t,p,af,gd⟩ E L nid K r:=by
 refine zaK k fun L2 ν h φ a w hd M hE ha=>?_;obtain ⟨Ea,hf,hl'⟩:=zdC a hd;obtain ⟨vx,h1,h2⟩:=zh hl' (hE.op (by simp [Op.operands])) hx;obtain ⟨ad,cp,cs,rfl,hc,hsee,hrr,_⟩:=zJL M hr ha h2;rw [zMD hrr] at hsee;exact ⟨_,zAz (fun _=>rfl) hd' hs he hsee hf h1,rfl⟩
theorem zME {l:Str} {i:Int} {c:UInt8} (hu:X.P.underlying t'=some .string) (hx:evC E x=some (.s l)) (hy:evC E y=some (.i i)) (hr:sAt l i=some c) (k:K (.c (.u8 c)) [] [] [] nid=some r):zc4 X w0 h0 F ⟨dst, .index t' x y,t,p,af,gd⟩ E L nid K r:=by
 refine zaK k fun L2 ν h φ a w hd M hE ha=>?_;obtain ⟨Ea,hf,hl'⟩:=zdC a hd;obtain ⟨vx,h1,h2⟩:=zh hl' (hE.op (by simp [Op.operands])) hx;obtain ⟨vy,h3,h4⟩:=zh hl' (hE.op (by simp [Op.operands])) hy;obtain rfl:vx=_:=h2;obtain rfl:vy=_:=h4;exact ⟨_,zLJ hu hf h1 h3 hr,rfl⟩
theorem zn0 {lo hi:Option Operand} {l s:Str} (hx:evC E x=some (.s l))
  (hrun:∀{a:Act} {Ea:Env} {N:Nat} {ν h} {w:World},Fits N Ea a→(∀t,Dk.look Ea t=a.tmps[t]?)→zd8 X h ν a (rdO (.slice t' x lo hi none)) E→evl Ea x=some (str l)→(execOp a.eval ⟨dst, .slice t' x lo hi none,t,p,af,gd⟩).run X.P w = .ok (.value (str s)) w)
  (k:K (.c (.s s)) [] [] [] nid=some r):zc4 X w0 h0 F ⟨dst, .slice t' x lo hi none,t,p,af,gd⟩ E L nid K r:=by
 refine zaK k fun L2 ν h φ a w hd M hE ha=>?_;obtain ⟨Ea,hf,hl'⟩:=zdC a hd;obtain ⟨vx,h1,h2⟩:=zh hl' (hE.op (by simp [Op.operands])) hx;obtain rfl:vx=_:=h2;exact ⟨_,hrun hf hl' hE h1,rfl⟩
theorem zH1 {t:Ty} (x:t.den τ):zzt (t':=t) x=some x:=dif_pos rfl
theorem zOL (V ws:List Value) (i sz o:Nat) (h1:o+ws.length≤sz) (h2:i+sz≤V.length) :
  V.take i++(((V.drop i).take sz).take o++ws++((V.drop i).take sz).drop (o+ws.length))++V.drop (i+sz)=V.take (i+o)++ws++V.drop (i+o+ws.length):=by
 have e1:V.take (i+o)=V.take i++(V.drop i).take o:=by rw [List.take_add]
 have e2:((V.drop i).take sz).take o=(V.drop i).take o:=by rw [List.take_take,Nat.min_eq_left (by omega)]
 have e3:V.drop (i+o+ws.length)=((V.drop i).take sz).drop (o+ws.length)++V.drop (i+sz):=by
  have h3:V.drop i=(V.drop i).take sz++V.drop (i+sz):=by rw [← List.drop_drop,List.take_append_drop]
  have h4:V.drop (i+o+ws.length)=(V.drop i).drop (o+ws.length):=by rw [List.drop_drop,Nat.add_assoc]
  rw [h4]
  conv=>lhs; rw [h3]
  rw [List.drop_append]
  have h5:((V.drop i).take sz).length=sz:=by rw [List.length_take,List.length_drop]; omega
  rw [h5,show o+ws.length-sz=0 by omega,List.drop_zero]
 rw [e1,e2,e3];simp only [List.append_assoc]
theorem zOM (C ws:List Value) (A N:Nat) (h1:A+ws.length≤N) (h2:N≤C.length) :
  (C.take A++ws++C.drop (A+ws.length)).take N=(C.take N).take A++ws++(C.take N).drop (A+ws.length):=by
 have h3:(C.take A++ws).length=A+ws.length:=by rw [List.length_append,List.length_take]; omega
 rw [List.take_append,List.take_of_length_le (by omega),h3,List.take_take,Nat.min_eq_left (by omega),List.drop_take]
theorem zJH (C ws:List Value) (A N D:Nat) (h1:A+ws.length≤N) (h2:D+N≤C.length) :
  ((C.take (D+A)++ws++C.drop (D+A+ws.length)).drop D).take N=((C.drop D).take N).take A++ws++((C.drop D).take N).drop (A+ws.length):=by
 have h3:(C.take (D+A)++ws++C.drop (D+A+ws.length)).drop D=(C.drop D).take A++ws++(C.drop D).drop (A+ws.length):=by
  rw [List.append_assoc,List.drop_append_of_le_length (by rw [List.length_take]; omega),List.drop_take,Nat.add_sub_cancel_left,List.drop_drop,List.append_assoc,Nat.add_assoc]
 rw [h3];exact zOM _ ws A N h1 (by rw [List.length_drop]; omega)
theorem zKn {A:XV τ} {vs cs:List (CV τ)} {n id o k te:Nat} {m:Int} {ty e:Ty} {z:ty.den τ} {xs l:List (e.den τ)} {q:DP τ (ets X.G ty)} {ids:List Nat} {z':e.den τ} (hA:evX E y=some A) (hc:zsE A=some vs) (ht:szO X.P t'=some n) (hn:vs.length=n) (hx:evC E x=some (.oe id k m ty z o)) (hl:lk L id = .row te e xs k)
  (hp:zv3 (zwN X.G ty z) o vs=some cs) (hq:zxj (lok X.G L depth) (ets X.G ty) cs=some (q,ids)) (hz:zzt (ect X.G ty q)=some z') (hU:freeze L ids=some U) (hid:mem ids id=false) (hs:zwR xs m z'=some l)
  (ek:K .un [] ((id, .row te e l nid)::U) (id::ids) (nid+1)=some r):zc4 X w0 h0 F ⟨dst, .store t' x y,t,p,af,gd⟩ E L nid K r:=by
 refine ⟨_,_,_,_,_,ek,Nat.le_succ _,(fun _ h=>by cases h),fun L2 ν h φ a w next Q hd M hE ha hfr kk=>?_⟩;have hn':=hfr nid (Nat.le_refl _) (Nat.lt_succ_self _);obtain ⟨Ea,hf,hl'⟩:=zdC a hd;obtain ⟨u,h1,h2⟩:=zh hl' (hE.op (by simp [Op.operands])) hx;obtain ⟨ws,g1,g2,_⟩:=ztc hc (zrj hd (hE.op (by simp [Op.operands])) hA);obtain ⟨b,dd,n',cp,q0,xs',u',hν,hνk,hlz,rfl⟩:=h2;have hr:=M.res id;rw [ha id (List.mem_cons_self ..),hl] at hr;obtain ⟨v0,q1,vsr,u1,c1,c2,c3,c4,c5⟩:=hr;rw [hν] at c1;cases c1;rw [hνk] at c5
 injection c5 with c5
 injection c5 with _ c5
 injection c5 with c5
 cases c5;rw [zH1] at hz;cases hz;have hle:=M.lend_le ids;obtain ⟨hz1,hm0⟩:=zsP hlz;obtain ⟨d1,d2⟩:=c4.get hz1;obtain ⟨f1,f2⟩:=zy2 (zzv (ν:=ν) d1) g2 hp;have ha2:∀i∈ids,lk L2 i=lk L i:=fun i hi=>ha i (List.mem_cons_of_mem _ hi);have f3:=ztd (A:=zbJ L2 L φ (zrw h w (fps φ ids)) w) (fun _ _=>zbJ.app) (zwP M hle depth) hq (M.look ha2) f2;have f4:=f3;rw [← zDn X.G ty q] at f4;unfold zwR at hs
 split at hs
 ·rename_i hb
  cases hs;have hset:=RpR.set (c4.le hle) (i:=m.toNat) (by omega) f4;obtain ⟨hlen,⟨e1,_⟩|⟨g,d,cap,cur,e1,h0d,hg,hnc,hcm,hcs,htk⟩⟩:=c3
  ·cases e1
  ·cases e1
   have husl:((vsr.drop (m.toNat*(ets X.G ty).length)).take (ets X.G ty).length).length=(ets X.G ty).length:=by rw [List.length_take,List.length_drop]; omega
   have hcl:cur.toList.length=cur.size:=by simp
   have hN:d*(ets X.G ty).length+xs'.length*(ets X.G ty).length≤cur.toList.length:=by rw [hcl, ← Nat.add_mul]; exact Nat.le_trans (Nat.mul_le_mul_right _ (by omega)) hcs
   rw [husl] at f1;have hsp:=zOL vsr ws (m.toNat*(ets X.G ty).length) (ets X.G ty).length o f1 d2;rw [hsp] at hset
   have hsz2:d*(ets X.G ty).length+m.toNat*(ets X.G ty).length+o+ws.length≤cur.size:=by
    have:cur.toList.length=cur.size:=by simp
    omega
   have hrun:=zAE (X:=X) (dst:=dst) (t:=t) (p:=p) (af:=af) (gd:=gd) (hf.ev h1) g1 (zfA ht) (by rw [g2.len,hn]) hg hsz2 g2.one;have M1:=M.freeze hU ha2
   have hnin:id∉ids:=fun hi=>by rw [zep.2 hi] at hid; cases hid
   have hne:id≠nid:=by rintro rfl; rw [hn'] at hν; cases hν
   refine zHV hrun (kk (up1 ν nid (some (undef,some ⟨ty,_⟩))) _ _ _ undef (M1.turn (i:=id) (b:=b) (.row te ty _ nid) (by rw [znj hnin,c2]; rfl) (zbj hn') rfl rfl rfl (by simp [World.setRow]) (fun j hj=>setRow_other w b j _ hj) ⟨_,q0,_,undef,(zaV ν _ hne).trans hν,rfl,?_,hset,zU _ _ _⟩) (zbj hn') hle zd4 rfl);have hlen2:=hset.len
   have hsn:(cur.toList.take (d*(ets X.G ty).length+m.toNat*(ets X.G ty).length+o)++ws++cur.toList.drop (d*(ets X.G ty).length+m.toNat*(ets X.G ty).length+o+ws.length)).toArray.size=cur.size:=by
    simp only [List.size_toArray,List.length_append,List.length_take,List.length_drop];omega
   refine ⟨hlen2, .inr ⟨b,d,cp,_,by simp,fun hz=>?_,setRow_heap w b cur _ te (0,0) hg,by simpa using hnc,hcm,?_,?_⟩⟩
   ·rw [hsn]; exact h0d hz
   ·rw [hsn]; exact hcs
   ·have h7:=zJH cur.toList ws (m.toNat*(ets X.G ty).length+o) (xs'.length*(ets X.G ty).length) (d*(ets X.G ty).length) (by omega) hN;rw [htk] at h7;simpa [Nat.add_assoc] using h7
 ·cases hs
theorem zON {i f ft id ko:Nat} {k0:Hp τ→List Nat→Nat→Option ρ} (hfl:zGG X.P t' i=some (f,ft)) (hx:evC E x=some (.pt id ko)) (hk:∀U l nid,k0 U l nid=K (.c (.pt id (ko+f))) [] U l nid) (e:ptK X L nid id k0=some r):zc4 X w0 h0 F ⟨dst, .fieldAddr t' x i,t,p,af,gd⟩ E L nid K r:=by
 obtain ⟨U,nid',h1,h2,h3⟩:=zNA (w0:=w0) (h0:=h0) (F:=F) e;rw [hk] at h1;refine ⟨_,_,_,_,_,h1,h2,(fun _ h=>by cases h),fun L2 ν h φ a w next Q hd M hE ha hn k=>?_⟩;obtain ⟨Ea,hf,hl'⟩:=zdC a hd;obtain ⟨u,g1,g2⟩:=zh hl' (hE.op (by simp [Op.operands])) hx;obtain ⟨ν', φ',b,q,M',hle,hfr,hν⟩:=h3 L2 ν h φ w M (ha id (by simp)) hn;obtain ⟨u',q',g3,rfl,_⟩:=g2;rw [hν] at g3;cases g3;refine zfz (u:=ptr b (0+ko+f)) ?_ (k ν' h φ' w _ M' hle (Fz.le.refl _) hfr ⟨some ⟨b,0,none⟩,q,hle _ _ hν,by simp [zuo,Nat.add_assoc],fun _=>⟨b,rfl⟩⟩);simp only [execOp]; rw [hf.ev g1]; simp [zuo,zsb hfl,Result.andThen]
theorem zOO {id k:Nat} {k0:Hp τ→List Nat→Nat→Option ρ} (hx:evC E x=some (.pt id k)) (hk:∀U l nid,k0 U l nid=K (.c (.pt id k)) [] U l nid) (e:ptK X L nid id k0=some r):zc4 X w0 h0 F ⟨dst, .nilCheck x,t,p,af,gd⟩ E L nid K r:=by
 obtain ⟨U,nid',h1,h2,h3⟩:=zNA (w0:=w0) (h0:=h0) (F:=F) e;rw [hk] at h1;refine ⟨_,_,_,_,_,h1,h2,(fun _ h=>by cases h),fun L2 ν h φ a w next Q hd M hE ha hn k=>?_⟩;obtain ⟨Ea,hf,hl'⟩:=zdC a hd;obtain ⟨u,g1,g2⟩:=zh hl' (hE.op (by simp [Op.operands])) hx;obtain ⟨ν', φ',b,q,M',hle,hfr,hν⟩:=h3 L2 ν h φ w M (ha id (by simp)) hn;obtain ⟨u',q',g3,rfl,g4⟩:=g2;rw [hν] at g3;cases g3;exact zfz (zr1 hf g1) (k ν' h φ' w _ M' hle (Fz.le.refl _) hfr ⟨_,_,hle _ _ hν,rfl,fun _=>⟨b,rfl⟩⟩)
theorem zOP {bo:BinOp} {e' id:Nat} {k0:Bool→Hp τ→List Nat→Nat→Option ρ} (hu:X.P.underlying t'=some (.pointer e')) (hx:evX E x=some (.c (.pt id 0))) (hy:evX E y=some (.c .nl)) (hk:∀z U l nid,k0 z U l nid=match okX (eqO bo z) with
      | some v=>K v [] U l nid
      | none=>none) (e:nlK X L nid id k0=some r):zc4 X w0 h0 F ⟨dst, .binOp bo t' x y ty,t,p,af,gd⟩ E L nid K r:=by
  obtain ⟨z,U,nid',h1,h2,h3⟩:=zNz (w0:=w0) (h0:=h0) (F:=F) e;rw [hk] at h1
  split at h1
  · rename_i v hv
    obtain ⟨b,hb,rfl⟩:=zDj hv;refine ⟨_,_,_,_,_,h1,h2,(fun _ h=>by cases h),fun L2 ν h φ a w next Q hd M hE ha hn k=>?_⟩;obtain ⟨Ea,hf,hl'⟩:=zdC a hd;obtain ⟨u,g1,g2⟩:=zno hl' (hE.op (by simp [Op.operands])) hx rfl;obtain ⟨uy,g3,g4⟩:=zno hl' (hE.op (by simp [Op.operands])) hy rfl;obtain rfl:uy=_:=g4;obtain ⟨ν', φ',up,q,M',hle,hfr,hν,hz1,hz0⟩:=h3 L2 ν h φ w M (ha id (by simp)) hn;obtain ⟨u',q',g5,rfl,_⟩:=g2;rw [hν] at g5;cases g5
    have fin:∀{vb:Bool},(execOp a.eval ⟨dst, .binOp bo t' x y ty,t,p,af,gd⟩).run X.P w = .ok (.value (.bool vb)) w→vb=b→(⟨dst, .binOp bo t' x y ty,t,p,af,gd⟩:Oper).wp X.P a w next Q:=by
      intro vb hx e;subst e;exact zfz hx (k ν' h φ' w _ M' hle (Fz.le.refl _) hfr rfl)
    cases z with
    | true =>
      rw [hz1 rfl] at g1
      cases bo<;>first|(cases hb; done)|skip
      all_goals cases hb
      · exact fin (zCH hu hf g1 g3) rfl
      · exact fin (zCI hu hf g1 g3) rfl
    | false =>
      obtain ⟨bb,rfl⟩:=hz0 rfl
      cases bo<;>first|(cases hb; done)|skip
      all_goals cases hb
      · exact fin (zCF hu hf g1 g3) rfl
      · exact fin (zCG hu hf g1 g3) rfl
  · cases h1
theorem zKo {te:Nat} {e:Ty} {xs s:List (e.den τ)} {lo hi:Option Operand} {i:Nat} (hu:X.P.underlying t'=some (.slice te)) (hsz:szO X.P te=some (ets X.G e).length) (k:zCP E e xs lo hi=some (i,s)):∃j,i≤j∧j≤xs.length∧s=(xs.take j).drop i ∧
  ∀{a:Act} {Ea:Env} {N:Nat} {ν h} {w:World} {ad:Option Addr} {n cp:Nat},Fits N Ea a→(∀t,Dk.look Ea t=a.tmps[t]?)→zd8 X h ν a (rdO (.slice t' x lo hi none)) E→evl Ea x=some (.slice ad n cp)→n=xs.length→xs.length≤cp →
   (execOp a.eval ⟨dst, .slice t' x lo hi none,t,p,af,gd⟩).run X.P w = .ok (.value (.slice (if cp=i then ad else ad.map (·.add (i*(ets X.G e).length))) (j-i) (cp-i))) w:=by
 unfold zCP at k
 split at k
 ·split at k
  ·rename_i i hy
   split at k
   ·rename_i j hz
    split at k
    ·rename_i s' hr
     cases k;unfold zDv at hr
     split at hr
     ·rename_i hb
      cases hr
      have ei:(i.toNat:Int)=i:=by omega
      have ej:(j.toNat:Int)=j:=by omega
      refine ⟨j.toNat,by omega,by omega,rfl,fun {a Ea N ν h w ad n cp} hf hl hE hvx hn hcp=>?_⟩;obtain ⟨vy,h1,h2⟩:=zh hl (hE.op (by simp [Op.operands])) hy;obtain ⟨vz,h3,h4⟩:=zh hl (hE.op (by simp [Op.operands])) hz;obtain rfl:vy=_:=h2;obtain rfl:vz=_:=h4;refine zxL hu (fun w=>?_) hf hvx h1 h3;have:=(zk2 (w:=w) (ad:=ad) hu (zfA hsz) (show i.toNat≤j.toNat by omega) (show j.toNat≤n by omega) (show n≤cp by omega)).1
      rwa [ei,ej] at this
     ·cases hr
    ·cases k
   ·cases k
  ·cases k
 ·split at k
  ·rename_i i hy
   split at k
   ·rename_i s' hr
    cases k;unfold zpn at hr
    split at hr
    ·rename_i hb
     cases hr
     have ei:(i.toNat:Int)=i:=by omega
     refine ⟨xs.length,by omega,Nat.le_refl _,by rw [List.take_length],fun {a Ea N ν h w ad n cp} hf hl hE hvx hn hcp=>?_⟩;obtain ⟨vy,h1,h2⟩:=zh hl (hE.op (by simp [Op.operands])) hy;obtain rfl:vy=_:=h2;refine zwq hu (fun w=>?_) hf hvx h1;have:=(zk2 (w:=w) (ad:=ad) hu (zfA hsz) (show i.toNat≤xs.length by omega) (show xs.length≤n by omega) (show n≤cp by omega)).2.2 hn.symm
     rwa [ei] at this
    ·cases hr
   ·cases k
  ·cases k
 ·split at k
  ·rename_i j hz
   split at k
   ·rename_i s' hr
    cases k;unfold lTo at hr
    split at hr
    ·rename_i hb
     cases hr
     have ej:(j.toNat:Int)=j:=by omega
     refine ⟨j.toNat,by omega,by omega,rfl,fun {a Ea N ν h w ad n cp} hf hl hE hvx hn hcp=>?_⟩;obtain ⟨vz,h3,h4⟩:=zh hl (hE.op (by simp [Op.operands])) hz;obtain rfl:vz=_:=h4;refine zAK hu (fun w=>?_) hf hvx h3;have:=(zk2 (w:=w) (ad:=ad) hu (zfA hsz) (show 0≤j.toNat by omega) (show j.toNat≤n by omega) (show n≤cp by omega)).2.1 rfl
     rwa [ej] at this
    ·cases hr
   ·cases k
  ·cases k
 ·cases k
theorem zwS {te te' id kk i:Nat} {e':Ty} {xs s:List (e'.den τ)} {lo hi:Option Operand} (hu:X.P.underlying t'=some (.slice te)) (hx:evC E x=some (.os id)) (hlk:lk L id = .row te' e' xs kk) (hsz:szO X.P te=some (ets X.G e').length) (hp:zCP E e' xs lo hi=some (i,s))
  (e:K (.c (.os nid)) [] [(nid, .vw id kk e' i s)] [id] (nid+1)=some r):zc4 X w0 h0 F ⟨dst, .slice t' x lo hi none,t,p,af,gd⟩ E L nid K r:=by
 obtain ⟨j,h1,h2,hs,hrun⟩:=zKo (X:=X) (x:=x) (dst:=dst) (t:=t) (p:=p) (af:=af) (gd:=gd) hu hsz hp;refine ⟨_,_,_,_,_,e,Nat.le_succ _,(fun _ h=>by cases h),fun L2 ν h φ a w next Q hd M hE ha hfr kc=>?_⟩;have hn:=hfr nid (Nat.le_refl _) (Nat.lt_succ_self _);obtain ⟨Ea,hf,hl'⟩:=zdC a hd;obtain ⟨vx,g1,g2⟩:=zh hl' (hE.op (by simp [Op.operands])) hx;obtain ⟨ad,n,cp,q,hν,rfl⟩:=g2;have hres:=M.res id;rw [ha id (List.mem_singleton.2 rfl),hlk] at hres;obtain ⟨v',q',vs,u,c1,c2,c3,c4,c5⟩:=hres;rw [hν] at c1;cases c1
 have hnl:n=xs.length∧n≤cp:=by
  exact c3.len
 have hexec:=hrun (w:=w) hf hl' hE g1 hnl.1 (by omega)
 have hsl:s.length=j-i:=by rw [hs,List.length_drop,List.length_take]; omega
 have hadd:=M.add hn (.vw id kk e' i s) (.slice (if cp=i then ad else ad.map (·.add (i*(ets X.G e').length))) (j-i) (cp-i),none) (fp:=[])
  ⟨ad,n,cp,q,none,u,xs,_,_,(zbj hn) _ _ hν,(zbj hn) _ _ c5,by omega,by rw [hs]; congr 1; rw [← hs,hsl]; congr 1; omega,by rw [hsl],by omega,⟨fun hne=>by
   have:0<s.length:=List.length_pos_iff.2 hne
   rw [if_neg (by omega)],by omega,by omega,rfl⟩,rfl⟩ (fun b hb=>by cases hb)
 exact zfz hexec (kc _ h _ w _ hadd (zbj hn) (Fz.le.refl _) zd4 ⟨_,_,_,none,zU _ _ _,rfl⟩)
theorem zOQ {te:Nat} {e':Ty} {c:CV τ} {id k:Nat} {l:List (e'.den τ)} {lo hi':Option Operand} (hu:X.P.underlying t'=some (.slice te)) (hx:evC E x=some c) (hv:vwO L c=some (id,k,⟨e',l⟩)) (hsz:szO X.P te=some (ets X.G e').length) (e:vwX E nid K id k e' l lo hi'=some r) :
  zc4 X w0 h0 F ⟨dst, .slice t' x lo hi' none,t,p,af,gd⟩ E L nid K r:=by
 unfold vwO at hv
 split at hv
 ·split at hv
  ·rename_i te' e0 xs kk hlk
   cases hv;unfold vwX Rk.hi at e
   split at e
   ·rename_i y z
    split at e
    ·rename_i i hy
     split at e
     ·rename_i j hz
      obtain ⟨s,hs,e⟩:=ob e;exact zwS hu hx hlk hsz (by unfold zCP; dsimp only; rw [hy]; dsimp only; rw [hz]; dsimp only; rw [hs]) e
     ·cases e
    ·cases e
   ·rename_i y
    split at e
    ·rename_i i hy
     obtain ⟨s,hs,e⟩:=ob e;exact zwS hu hx hlk hsz (by unfold zCP; dsimp only; rw [hy]; dsimp only; rw [hs]) e
    ·cases e
   ·rename_i z
    split at e
    ·rename_i j hz
     obtain ⟨s,hs,e⟩:=ob e;exact zwS hu hx hlk hsz (by unfold zCP; dsimp only; rw [hz]; dsimp only; rw [hs]) e
    ·cases e
   ·cases e
  ·cases hv
 ·cases hv
theorem zH2 (g k j:Nat):(⟨g,k,none⟩:Addr).add j=⟨g,k+j,none⟩:=by unfold Addr.add; split<;>simp_all
theorem zMF {i k lo te fi:Nat} {e e':Ty} {ys:List (e.den τ)} {xs:List (e'.den τ)} {ad:Option Addr} {n cp:Nat} {q:Option ((e:Ty) × List (e.den τ))} {fp fp2:List Nat} (hν:ν fi=some (.slice ad n cp,q)) (r1:zmx X.P X.G h ν w (.vw i k e lo ys) (ν fi) fp) (r2:zmx X.P X.G h ν w (.row te e' xs k) (ν i) fp2) :
  e=e'∧HEq ((xs.take (lo+ys.length)).drop lo) ys∧lo+ys.length≤xs.length∧n=ys.length∧∃u, ν k=some (u,some ⟨e',xs⟩)∧((ys=[]∧(∃v q vs, ν i=some (v,q)∧fp2=v.ownBlock.toList∧zgC X.G w te (ets X.G e').length v xs.length vs∧RpR X.P X.G h e' xs vs)) ∨
   ys≠[]∧∃g d cap cur q vs,ad=some ⟨g,d*(ets X.G e').length+lo*(ets X.G e').length,none⟩∧ν i=some (.slice (some ⟨g,d*(ets X.G e').length,none⟩) xs.length cap,q)∧fp2=[g]∧(X.G.dr te=false→d=0∧cur.size=cap*(ets X.G e').length)∧w.heap[g]? = some (.cells cur te (0,0))∧xs.length≤cap∧cap≤maxLen∧(d+cap)*(ets X.G e').length≤cur.size∧(cur.toList.drop (d*(ets X.G e').length)).take (xs.length*(ets X.G e').length)=vs∧RpR X.P X.G h e' xs vs):=by
 obtain ⟨a1,n1,c1,q1,q2,u1,ys1,a2,c2,g1,g2,g3,g4,g5,g6,g7,_⟩:=r1;obtain ⟨v',q',vs,u,d1,d2,d3,d4,d5⟩:=r2;rw [g2] at d5
 injection d5 with d5
 injection d5 with d6 d5
 injection d5 with d5
 cases d5;rw [hν] at g5;cases g5;refine ⟨rfl,heq_of_eq g4.symm,g3,rfl,_,g2,?_⟩
 by_cases hne:ys=[]
 ·exact .inl ⟨hne,_,_,_,d1,d2,d3,d4⟩
 ·right
  rw [g1] at d1;cases d1;have had:=g7.1 hne;have hpos:0<ys.length:=List.length_pos_iff.2 hne;obtain ⟨hlen,⟨e1,hz0⟩|⟨g,d,cap,cur,e1,h0,h1,h2,h3,h4,h5⟩⟩:=d3
  ·omega
  ·cases e1;simp only [Option.map_some,zH2] at had;exact ⟨hne,g,d,_,cur,_,vs,had,g1,by rw [d2]; rfl,h0,h1,h2,h3,h4,h5,d4⟩
theorem zFS {te id i k te2 lo:Nat} {m:Int} {e e2:Ty} {xs:List (e.den τ)} {ys:List (e2.den τ)} {d:e.den τ} (hel:elO X.P t'=some te) (hx:evC E x=some (.os id)) (hy:evC E y=some (.i m)) (hlk:lk L id = .vw i k e lo xs) (hlk2:lk L i = .row te2 e2 ys k) (hsz:szE X te e=true) (hr:lAt xs m=some d)
  (kk:K (.c (.oe i k (lo+m.toNat:Nat) e d 0)) [] [] [id,i] nid=some r):zc4 X w0 h0 F ⟨dst, .indexAddr t' x y,t,p,af,gd⟩ E L nid K r:=by
 obtain ⟨hsz,_⟩:=zuz hsz;refine zaK kk fun L2 ν h φ a w hd M hE ha=>?_;obtain ⟨Ea,hf,hl'⟩:=zdC a hd;obtain ⟨vx,h1,h2⟩:=zh hl' (hE.op (by simp [Op.operands])) hx;obtain ⟨vy,h3,h4⟩:=zh hl' (hE.op (by simp [Op.operands])) hy;obtain rfl:vy=_:=h4;obtain ⟨ad,n,cp,q,hν,rfl⟩:=h2;have hres:=M.res id;rw [ha id (List.mem_cons_self ..),hlk] at hres;have hr2:=M.res i;rw [ha i (List.mem_cons_of_mem _ (List.mem_cons_self ..)),hlk2] at hr2;obtain ⟨rfl,g4,g3,hn,u,g2,h5⟩:=zMF hν hres hr2;have g4:=eq_of_heq g4;obtain ⟨hz,hm0⟩:=zsP hr;have hlt:m.toNat<xs.length:=(List.getElem?_eq_some_iff.1 hz).1
 rcases h5 with ⟨rfl,_⟩|⟨_,g,d0,cap,cur,q2,vs,rfl,g1,_⟩
 ·simp at hlt
 ·have hget:lAt ys ((lo+m.toNat:Nat):Int)=some d:=by
   unfold lAt;rw [if_pos (by omega),Int.toNat_natCast];rw [← g4,List.getElem?_drop,List.getElem?_take] at hz
   split at hz
   ·exact hz
   ·cases hz
  refine ⟨ptr g (d0*(ets X.G e).length+(lo+m.toNat)*(ets X.G e).length),?_,g,_,_,_,_,ys,_,g1,g2,hget,by rw [Int.toNat_natCast,Nat.add_zero]⟩;refine znd (fun w=>?_) hf h1 h3;rw [zoE (zjZ hel) (zfA hsz) hm0 (by omega),zH2,Nat.add_mul,Nat.add_assoc]
theorem zMG (M:Mem X.P X.G w0 h0 F L2 w ν h φ) {te:TypeId} {e:Ty} {z:e.den τ} (k:zNa X te e=some z):∃v us,(∀w,(zeroValue te).run X.P w = .ok v w)∧v.cells=us.toArray∧RpL X.P X.G h (ets X.G e) (edt X.G e z) us:=by
 unfold zNa at k
 split at k
 ·rename_i zs hz
  split at k
  ·rename_i q hq
   cases k;obtain ⟨it,v,hi,hz0,hc⟩:=zzq hz;refine ⟨v,v.cells.toList,fun w=>by simp [zeroValue,typeInfo,hi,hz0,go_sem,Result.andThen],by simp,?_⟩;rw [zDn];exact ztd (A:=zbJ L2 [] φ h w) (fun _ _=>zbJ.app) (zwP M (Fz.le.refl _) depth) hq ⟨fun i hi=>(by cases hi),fun b hb=>(by cases hb)⟩ (zy1 (X:=X) hc)
  ·cases k
 ·cases k
theorem zCL (us:List Value) (n:Nat) (e:Ty) (z:e.den τ) (hz:RpL X.P X.G h (ets X.G e) (edt X.G e z) us):RpR X.P X.G h e (List.replicate n z) (cells (fun _:Unit=>us) (List.replicate n ())):=by
 induction n with
 | zero=>exact .nil e
 | succ n ih=>exact .cons e z _ us _ hz ih
theorem zMH {te id:Nat} (hel:elO X.P t'=some te) (hx:evC E x=some (.os id)) (e:clrX X L nid K te id=some r):zc4 X w0 h0 F ⟨dst, .call ⟨.builtin .clear,⟨[x]⟩,⟨[t']⟩⟩,t,p,af,gd⟩ E L nid K r:=by
 unfold clrX at e
 split at e
 ·rename_i i k e1 lo ys hlk
  split at e
  ·rename_i te' e' xs k' hlk2
   have hb:=(zgF e).1
   replace e:=(zgF e).2
   simp only [Bool.and_eq_true,Nat.beq_eq] at hb;obtain ⟨rfl,rfl,hsz⟩:=hb;obtain ⟨hsz,hpos⟩:=zuz hsz
   split at e
   ·rename_i z hz
    refine ⟨_,_,_,_,_,e,Nat.le_succ _,(fun _ h=>by cases h),fun L2 ν h φ a w next Q hd M hE ha hfr kk=>?_⟩;obtain ⟨zv,us,hzv,hzc,hzr⟩:=zMG M hz;have hn':=hfr nid (Nat.le_refl _) (Nat.lt_succ_self _);obtain ⟨Ea,hf,hl'⟩:=zdC a hd;obtain ⟨vx,h1,h2⟩:=zh hl' (hE.op (by simp [Op.operands,Call.operands])) hx;obtain ⟨ad,n,cp,q,hν,rfl⟩:=h2;have hres:=M.res id;rw [ha id (List.mem_cons_self ..),hlk] at hres;have hr2:=M.res i;rw [ha i (List.mem_cons_of_mem _ (List.mem_cons_self ..)),hlk2] at hr2;obtain ⟨rfl,_,g3,rfl,u,g2,h5⟩:=zMF hν hres hr2
    have hrun2:∀w',(Builtin.clear_ #[t'] t #[.slice ad ys.length cp]).run X.P w = .ok (.tuple #[]) w'→(execOp a.eval ⟨dst, .call ⟨.builtin .clear,⟨[x]⟩,⟨[t']⟩⟩,t,p,af,gd⟩).run X.P w = .ok (.value (.tuple #[])) w':=by
     intro w' hr';simp only [execOp,resolve,invoke,builtin,Sem.run_bind,Sem.run_pure,Result.andThen,List.map_toArray,List.map_cons,List.map_nil,hf.ev h1,hr']
    have hu:=zjZ hel;have hlz:us.length=(ets X.G e1).length:=hzr.len
    rcases h5 with ⟨rfl,v,q2,vs,c1,c2,c3,c4⟩|⟨hne0,g,d0,cap,cur,q2,vs,rfl,c1,c2,h0d,hg,hnc,hcm,hcs,htk,hrr⟩
    ·have hcl:(Builtin.clear_ #[t'] t #[.slice ad ([]:List (e1.den τ)).length cp]).run X.P w = .ok (.tuple #[]) w:=by
      cases ad<;>simp [Builtin.clear_,Sem.run_bind,run_underlying hu,Result.andThen]
     have hne:i≠nid:=by rintro rfl; rw [hn'] at c1; cases c1
     have el:xs.take lo++(List.replicate ([]:List (e1.den τ)).length z++xs.drop (lo+([]:List (e1.den τ)).length))=xs:=by simp
     rw [el] at kk;refine zfz (hrun2 _ hcl) (kk (up1 ν nid (some (undef,some ⟨e1,xs⟩))) h φ w _ ?_ (zbj hn') (Fz.le.refl _) zd4 ⟨[],rfl,rfl⟩);refine ((M.ext (zbj hn')).upd [i] (fun j hj=>zdr _ _ (by simpa using hj)) (fun j _=>rfl) (Vn.le.refl _) (Fz.le.refl _) rfl rfl rfl (Nat.le_refl _) (fun _ _ _=>rfl) (fun b o h1 h2=>M.on b o h2) (fun b h1 h2=>(h2 h1).elim) ?_ ?_ ?_)
     ·intro j hj;obtain rfl:=List.mem_singleton.1 hj;rw [show [(j,AR.row te e1 xs nid)]++L2=(j,AR.row te e1 xs nid)::L2 from rfl,zaP];exact ⟨v,q2,vs,undef,(zaV ν _ hne).trans c1,c2,c3,c4,zU _ _ _⟩
     ·intro j hj b hb;exact ⟨(M.out j b hb).1, .inl (mem_fps.2 ⟨j,hj,hb⟩)⟩
     ·intro j hj j2 hj2 b _ _;rw [List.mem_singleton.1 hj,List.mem_singleton.1 hj2]
    ·have hzl:(cells (fun _:Unit=>us) (List.replicate ys.length ())).length=ys.length*(ets X.G e1).length:=by rw [cells_length (fun _=>hlz),List.length_replicate]
     have hset:=(hrr.take lo).app ((zCL us ys.length e1 z hzr).app (hrr.drop (lo+ys.length)));have hvl:=hrr.len;have hN:(lo+ys.length)*(ets X.G e1).length≤xs.length*(ets X.G e1).length:=Nat.mul_le_mul_right _ g3
     have hN2:d0*(ets X.G e1).length+xs.length*(ets X.G e1).length≤cur.size:=by rw [← Nat.add_mul]; exact Nat.le_trans (Nat.mul_le_mul_right _ (by omega)) hcs
     have hmul:(lo+ys.length)*(ets X.G e1).length=lo*(ets X.G e1).length+ys.length*(ets X.G e1).length:=Nat.add_mul ..;have hone:∀v∈cells (fun _:Unit=>us) (List.replicate ys.length ()),v.oneCell'=true:=fun v hv=>(zCL us ys.length e1 z hzr).one v hv;have hst:=run_storeCells_at X.P g (d0*(ets X.G e1).length+lo*(ets X.G e1).length) te (cells (fun _:Unit=>us) (List.replicate ys.length ())) 0 cur w hg (by rw [hzl]; omega) hone
     have hcl:(Builtin.clear_ #[t'] t #[.slice (some ⟨g,d0*(ets X.G e1).length+lo*(ets X.G e1).length,none⟩) ys.length cp]).run X.P w = .ok (.tuple #[]) (w.setRow g (cur.toList.take (d0*(ets X.G e1).length+lo*(ets X.G e1).length)++cells (fun _:Unit=>us) (List.replicate ys.length ())++cur.toList.drop (d0*(ets X.G e1).length+lo*(ets X.G e1).length+(cells (fun _:Unit=>us) (List.replicate ys.length ())).length)).toArray):=by
      simp only [Nat.add_zero] at hst;obtain ⟨q,hy⟩:∃q,ys.length=q+1:=⟨ys.length-1,by have:=List.length_pos_iff.2 hne0; omega⟩;rw [hy] at hst ⊢;simp [Builtin.clear_,Sem.run_bind,run_underlying hu,Result.andThen,hzv,hzc,zAA (enc:=fun _:Unit=>us) (z:=()) (fun _=>hlz) hpos,hst]
     have hne:i≠nid:=by rintro rfl; rw [hn'] at c1; cases c1
     refine zfz (hrun2 _ hcl) (kk (up1 ν nid (some (undef,some ⟨e1,_⟩))) h φ _ _ (M.turn (i:=i) (b:=g) (.row te e1 _ nid) c2 (zbj hn') rfl rfl rfl (by simp [World.setRow]) (fun j hj=>setRow_other w g j _ hj) ⟨_,q2,_,undef,(zaV ν _ hne).trans c1,rfl,?_,hset,zU _ _ _⟩) (zbj hn') (Fz.le.refl _) zd4 ⟨[],rfl,rfl⟩)
     have hll:(xs.take lo++(List.replicate ys.length z++xs.drop (lo+ys.length))).length=xs.length:=by simp; omega
     rw [hll];have hlen2:=hset.len;rw [hll] at hlen2
     have hcl2:cur.toList.length=cur.size:=by simp
     have hsn:(cur.toList.take (d0*(ets X.G e1).length+lo*(ets X.G e1).length)++cells (fun _:Unit=>us) (List.replicate ys.length ())++cur.toList.drop (d0*(ets X.G e1).length+lo*(ets X.G e1).length+(cells (fun _:Unit=>us) (List.replicate ys.length ())).length)).toArray.size=cur.size:=by
      simp only [List.size_toArray,List.length_append,List.length_take,List.length_drop,hzl];omega
     refine ⟨hlen2, .inr ⟨g,d0,cap,_,rfl,fun hz=>?_,setRow_heap w g cur _ te (0,0) hg,hnc,hcm,?_,?_⟩⟩
     ·rw [hsn]; exact h0d hz
     ·rw [hsn]; exact hcs
     ·have h7:=zJH cur.toList (cells (fun _:Unit=>us) (List.replicate ys.length ())) (lo*(ets X.G e1).length) (xs.length*(ets X.G e1).length) (d0*(ets X.G e1).length) (by rw [hzl]; omega) (by omega);rw [htk,hzl, ← hmul] at h7;rw [hzl];simpa [List.append_assoc] using h7
   ·cases e
  ·cases e
 ·cases e
theorem zKp {id i k0 te lo:Nat} {e:Ty} {xs:List (e.den τ)} (hx:evC E x=some (.os id)) (hl:lk L id = .vw i k0 e lo xs) (hu:elO X.P t'=some te) (k:K (.c (.i (xs.length:Int))) [] [] [id] nid=some r) :
  zc4 X w0 h0 F ⟨dst, .call ⟨.builtin .len,⟨[x]⟩,⟨[t']⟩⟩,t,p,af,gd⟩ E L nid K r:=by
 refine zaK k fun L2 ν h φ a w hd M hE ha=>?_;obtain ⟨Ea,hf,hl'⟩:=zdC a hd;obtain ⟨vx,h1,h2⟩:=zh hl' (hE.op (by simp [Op.operands,Call.operands])) hx;obtain ⟨ad,m,cp,q,hν,rfl⟩:=h2;have hr:=M.res id;rw [ha id (List.mem_singleton.2 rfl),hl] at hr;obtain ⟨a1,n1,c1,q1,q2,u1,ys1,a2,c2,g1,g2,g3,g4,g5,g6,g7,_⟩:=hr;rw [hν] at g5;cases g5;exact ⟨_,zpc (zjZ hu) hf h1,rfl⟩
end
end Go.Rk
end
section
namespace Go.Rk
open Go.RowKit Go.Dm Go.Dk
variable {τ:Nat→Type}

section
variable (P:Program) (G:Sig τ) (h:Fz) (w:World)
def TrX:(t:Ty)→t.den τ→Value→List Nat→Prop
 | .st n,x,v,fp=>∃vs,v = .agg ⟨vs⟩∧TrL P G h w (G.fs n) (G.dtor n x) vs fp
 | .pr _ _,_,_,fp=>fp=[]
 | .sn te e,x,v,fp=>(x=none∧v = .slice none 0 0∧fp=[])∨∃xs,x=some xs∧Tr P G h w (.so te e) xs v fp
 | t,x,v,fp=>Tr P G h w t x v fp
inductive TrXs:(ts:List Ty)→DP τ ts→List Value→List Nat→Prop
 | nil:TrXs [] () [] []
 | cons (t:Ty) (ts:List Ty) (p:DP τ (t::ts)) (v:Value) (vs:List Value) (f f':List Nat) (h1:TrX P G h w t p.hd v f) (h2:TrXs ts p.tl vs f') (hd:∀b∈f,b∉f'):TrXs (t::ts) p (v::vs) (f++f')
end
def zy9:List Value→Value
 | [v]=>v
 | vs => .tuple ⟨vs⟩
structure Left (h:Fz) (w:World) (fp:List Nat) (h':Fz) (w':World) (fp':List Nat):Prop where
 os:w'.os=w.os
 tape:w'.tape=w.tape
 output:w'.output=w.output
 size:w.heap.size≤w'.heap.size
 frame:∀b,b<w.heap.size→b∉fp→w'.heap[b]? = w.heap[b]?
 le:h.le h'
 on:h'.on w'
 new:∀b,h' b≠none→h b≠none∨b∈fp∨w.heap.size≤b
 own:∀b∈fp',h' b=none∧(b∈fp∨w.heap.size≤b)
def cellV (v:Value):Nat→Value
 | 0=>v
 | i+1=>match v with
  | .agg ⟨ws⟩=>ws.getD i undef
  | _=>undef
def bkV (vs:List Value) (j:Nat):Value:=cellV (vs.getD (j%32) undef) (j/32)
def COk (P:Program) (G:Sig τ) (f:FuncId) (k:Con τ):Prop :=
 zcC P f∧∀(h:Fz) (w:World) (p:DP τ k.ps) (r:DP τ k.rs) (vs:List Value) (fp:List Nat),zrU P G h→zC2 P G→h.on w→TrXs P G h w k.ps p vs fp→(∀b∈fp,h b=none)→k.m p=some r →
  Calls P f vs.toArray w fun e w'=>∃h' rs fp',e = .returned (zy9 (rs.take k.nr))∧Left h w fp h' w' fp'∧TrXs P G h' w' k.rs r rs fp'∧rs.drop k.nr=k.bk.map (bkV vs)
section
variable {P:Program} {G:Sig τ} {w0 w w':World} {h0 h h' H:Fz} {F:List Nat} {L L' L2:Hp τ} {ν ν':Vn τ} {φ φ':Nat→List Nat}
theorem TrX.plain {t:Ty} {x:t.den τ} {v:Value} {fp:List Nat} (hp:Tr P G h w t x v fp) (h1:∀n,t ≠ .st n):TrX P G h w t x v fp:=by
 cases t with
 | st n=>exact (h1 n rfl).elim
 | pr a b=>cases hp with|fz _ _ _ _ hr=>cases hr
 | sn te e=>cases hp with|fz _ _ _ hz _=>cases hz
 | _=>exact hp
theorem res_st {n:Nat} {c:CV τ}:∀d,res G L d (.st n) c=none
 | 0=>rfl
 | d+1=>by unfold res; dsimp only; unfold lok; rfl
theorem zJe (M:Mem P G w0 h0 F L2 w ν h φ) (hH:h.le H) {t:Ty} {A:XV τ} {x:t.den τ} {l m:List Nat} {v:Value} (k:resX G L t A=some (x,l,m)) (ha:∀i∈l,lk L2 i=lk L i) (hm:zbJ L2 L φ H w m) (hn:nod l=true) (hv:XOk P G h ν A v):TrX P G H w t x v (fps φ l):=by
 unfold resX at k
 split at k
 ·rename_i n cs
  split at k
  ·rename_i q l' m' hq
   cases k;obtain ⟨vs,rfl,hc⟩:=hv;refine ⟨vs,rfl,?_⟩;rw [G.dc];exact zDq M (zDr M hH depth) hq ha hm hn hc
  ·cases k
 ·rename_i te e c
  split at k
  ·cases k;exact .inl ⟨rfl,hv,rfl⟩
  ·split at k
   ·rename_i x' l' m' hx
    cases k;exact .inr ⟨_,rfl,zDr M hH _ _ _ _ _ _ _ hx ha hm hn hv⟩
   ·cases k
 ·rename_i c
  refine TrX.plain (zDr M hH _ _ _ _ _ _ _ k ha hm hn hv) ?_;rintro n rfl;rw [res_st] at k; cases k
 ·split at k
  ·cases k; rfl
  ·cases k
 ·cases k
theorem zza (M:Mem P G w0 h0 F L2 w ν h φ) (hH:h.le H):∀{ts:List Ty} {As:List (XV τ)} {p:DP τ ts} {l m:List Nat} {vs:List Value},zsC G L ts As=some (p,l,m)→(∀i∈l,lk L2 i=lk L i)→zbJ L2 L φ H w m→nod l=true →
  vs.length=As.length→(∀(i:Nat) (A:XV τ) (v:Value),As[i]? = some A→vs[i]? = some v→XOk P G h ν A v)→TrXs P G H w ts p vs (fps φ l)
 | [],[],p,l,m,vs,e,_,_,_,hl,_=>by
  cases e;have:vs=[]:=List.eq_nil_of_length_eq_zero hl;subst this; exact .nil
 | t :: ts,A::As,p,l,m,vs,e,ha,hm,hn,hl,hv=>by
  unfold zsC at e
  split at e
  ·rename_i x l1 m1 hx
   split at e
   ·rename_i q l2 m2 hq
    cases e;obtain ⟨n1,n2,n3⟩:=zvu hn
    cases vs with
    | nil=>simp at hl
    | cons v vs =>
     rw [ze4];refine .cons t ts _ v vs _ _ ?_ ?_ (M.fps_dis n3)
     ·rw [DP.hd_mk]; exact zJe M hH hx (fun i hi=>ha i (List.mem_append_left _ hi)) hm.app.1 n1 (hv 0 A v rfl rfl)
     ·rw [DP.tl_mk]; exact zza M hH hq (fun i hi=>ha i (List.mem_append_right _ hi)) hm.app.2 n2 (by simpa using hl) (fun i A v h1 h2=>hv (i+1) A v h1 h2)
   ·cases e
  ·cases e
 | [],_::_,_,_,_,_,e,_,_,_,_,_=>by cases e
 | _::_,[],_,_,_,_,e,_,_,_,_,_=>by cases e

structure Adds (P:Program) (G:Sig τ) (w0:World) (h0:Fz) (F:List Nat) (L:Hp τ) (w:World) (ν:Vn τ) (h:Fz) (φ:Nat→List Nat) (U:Hp τ) (nid nid':Nat) (fp:List Nat) (ν':Vn τ) (φ':Nat→List Nat):Prop where
 mem:Mem P G w0 h0 F (U++L) w ν' h φ'
 le:ν.le ν'
 fresh:zde ν ν' nid nid'
 sub:∀j b,b∈φ' j→b∈φ j∨b∈fp
theorem Grew.adds {U:Hp τ} {nid nid':Nat} {fp:List Nat} (g:Grew P G w0 h0 F L w ν h φ U nid nid' fp ν' φ'):Adds P G w0 h0 F L w ν h φ U nid nid' fp ν' φ' :=
 ⟨g.mem,g.le,g.fresh,fun j b hb=>by
  by_cases e:nid≤j∧j<nid'
  ·exact .inr (g.fp j b e.1 e.2 hb)
  ·rw [(g.same j e).2] at hb; exact .inl hb⟩
theorem zhr.adds {U:Hp τ} {nid nid':Nat} {fp fp':List Nat} (g:Adds P G w0 h0 F L w ν h φ U nid nid' fp ν' φ') (hf:zhr w0 h F φ fp') (hd:∀b∈fp',b∉fp):zhr w0 h F φ' fp':=fun b hb =>
 ⟨fun i hi=>by
  rcases g.sub i b hi with h1|h1
  ·exact (hf b hb).1 i h1
  ·exact hd b hb h1,(hf b hb).2⟩
theorem Adds.seq {U U':Hp τ} {a b c:Nat} {fp fp':List Nat} {ν'':Vn τ} {φ'':Nat→List Nat} (g:Adds P G w0 h0 F L w ν h φ U' b c fp' ν' φ') (g':Adds P G w0 h0 F (U'++L) w ν' h φ' U a b fp ν'' φ'') (h1:a≤b) (h2:b≤c):Adds P G w0 h0 F L w ν h φ (U++U') a c (fp++fp') ν'' φ'' :=
 ⟨by rw [List.append_assoc]; exact g'.mem,g.le.trans g'.le,fun i e1 e2=>by
  by_cases e:ν' i=none
  ·have:=g'.fresh i e e2; omega
  ·have:=g.fresh i e1 e; omega,fun j b hb=>by
  rcases g'.sub j b hb with h3|h3
  ·rcases g.sub j b h3 with h4|h4
   ·exact .inl h4
   ·exact .inr (List.mem_append_right _ h4)
  ·exact .inr (List.mem_append_left _ h3)⟩
theorem zvh {t:Ty} {x:t.den τ} {nid nid':Nat} {v:XV τ} {U:Hp τ} (e:zIH G t x nid=(v,U,nid')):nid≤nid':=by
 cases t
 case st n =>
  have e:zIG G _ x nid=(v,U,nid'):=e;unfold zIG at e
  split at e
  rename_i h1
  cases e;exact zjY (zga G depth) h1
 case pr a b=>cases e; exact Nat.le_refl _
 case sn te e0=>cases e; exact Nat.le_refl _
 all_goals
  have e:zIF G _ x nid=(v,U,nid'):=e;unfold zIF at e
  split at e
  rename_i h1
  cases e;exact zga G depth _ _ _ _ _ _ h1
theorem zN9 {t:Ty} {x:t.den τ} {nid nid':Nat} {v:XV τ} {U:Hp τ} (e:zIH G t x nid=(v,U,nid')):∀j∈kys U,nid≤j∧j<nid':=by
 cases t
 case st n =>
  have e:zIG G _ x nid=(v,U,nid'):=e;unfold zIG at e
  split at e
  rename_i h1
  cases e;exact zvv (zga G depth) (zyZ G depth) h1
 case pr a b=>cases e; intro j hj; cases hj
 case sn te e0=>cases e; intro j hj; cases hj
 all_goals
  have e:zIF G _ x nid=(v,U,nid'):=e;unfold zIF at e
  split at e
  rename_i h1
  cases e;exact zyZ G depth _ _ _ _ _ _ h1
theorem zyS (M:Mem P G w0 h0 F L w ν h φ) {t:Ty} {x:t.den τ} {nid nid':Nat} {A:XV τ} {U:Hp τ} {v:Value} {fp:List Nat} (e:zIH G t x nid=(A,U,nid')) (ht:TrX P G h w t x v fp) (hn:∀i,nid≤i→i<nid'→ν i=none) (hf:zhr w0 h F φ fp) :
  ∃ν' φ',Adds P G w0 h0 F L w ν h φ U nid nid' fp ν' φ'∧XOk P G h ν' A v:=by
 have flat:∀{t:Ty} {x:t.den τ} {c:CV τ},zsD G depth t x nid=(c,U,nid')→Tr P G h w t x v fp→∃ν' φ',Adds P G w0 h0 F L w ν h φ U nid nid' fp ν' φ'∧XOk P G h ν' (.c c) v:=by
  intro t x c h1 ht;obtain ⟨ν', φ',g,hc⟩:=zDs depth _ _ _ _ _ _ _ _ _ _ _ h1 ht M hn hf;exact ⟨ν', φ',g.adds,hc⟩
 cases t
 case st n =>
  have e:zIG G _ x nid=(A,U,nid'):=e;unfold zIG at e
  split at e
  rename_i cs U1 n1 h1
  cases e;obtain ⟨vs,rfl,hl⟩:=ht;obtain ⟨ν', φ',g,hc⟩:=zyY (zga G depth) (zDs depth) h1 hl M hn hf;exact ⟨ν', φ',g.adds,vs,rfl,hc⟩
 case pr a b =>
  cases e;exact ⟨ν, φ,(Grew.nil M _ fp).adds,trivial⟩
 case sn te e0 =>
  cases e;exact ⟨ν, φ,(Grew.nil M _ fp).adds,trivial⟩
 all_goals
  have e:zIF G _ x nid=(A,U,nid'):=e;unfold zIF at e
  split at e
  rename_i h1
  cases e;exact flat h1 ht
theorem zzb (M:Mem P G w0 h0 F L w ν h φ) {i n nid nid':Nat} {x:τ n} {U:Hp τ} {v:Value} {q:Option ((e:Ty) × List (e.den τ))} {fp:List Nat} (e:zj2 G i n x nid=(U,nid')) (hg:lk L i = .gone) (hi:ν i=some (v,q)) (ht:Tr P G h w (.po n) x v fp) (hf:zhr w0 h F φ fp)
  (hn:∀i,nid≤i→i<nid'→ν i=none):∃ν' φ' b,Adds P G w0 h0 F L w ν h φ U nid nid' fp ν' φ'∧v=ptr b 0:=by
 obtain ⟨_, ν', φ',t,cs,b,h1,h2,h3,h4,_,h5,h6⟩:=zFQ M e hg hi ht hf hn;refine ⟨ν', φ',b,⟨h1,h2,h3,fun j b hb=>?_⟩,h4⟩
 by_cases hj:j=i∨nid≤j∧j<nid'
 ·exact .inr (h6 j b hj hb)
 ·rw [h5 j (fun a=>hj (.inr a)) (fun a=>hj (.inl a))] at hb;exact .inl hb
theorem zFt {i n nid nid':Nat} {x:τ n} {U:Hp τ} (e:zj2 G i n x nid=(U,nid')):nid≤nid':=by
 unfold zj2 at e
 split at e
 rename_i h1
 cases e;exact zjY (zga G depth) h1
theorem Mem.gone_of (M:Mem P G w0 h0 F L w ν h φ) {i:Nat} (hi:ν i=none):lk L i = .gone:=by
 have hr:=M.res i;rw [hi] at hr
 cases e:lk L i with
 | gone=>rfl
 | blk t cs=>rw [e] at hr; obtain ⟨_,_,_,h,_⟩:=hr; cases h
 | row t e' xs k=>rw [e] at hr; obtain ⟨_,_,_,_,h,_⟩:=hr; cases h
 | fz e' xs=>rw [e] at hr; obtain ⟨_,_,h,_⟩:=hr; cases h
 | tree n x=>rw [e] at hr; obtain ⟨_,_,h,_⟩:=hr; cases h
 | nilp=>rw [e] at hr; obtain ⟨_,h,_⟩:=hr; cases h
 | clo f bs cs=>rw [e] at hr; obtain ⟨_,_,_,h,_⟩:=hr; cases h
 | sb i' n=>rw [e] at hr; obtain ⟨_,_,_,_,h,_⟩:=hr; cases h
 | vw i' k e' lo xs=>rw [e] at hr; obtain ⟨_,_,_,_,_,_,_,_,_,_,_,_,_,h,_⟩:=hr; cases h
 | mp l=>rw [e] at hr; obtain ⟨_,_,h,_⟩:=hr; cases h

def zmJ (L:Hp τ) (ν:Vn τ):List (Option (Option Nat))→List Value→Prop
 | some (some i)::rs,v::vs=>lk L i = .gone∧(∃q, ν i=some (v,q))∧some (some i)∉rs∧zmJ L ν rs vs
 | some none::rs,v::vs=>v = .pointer none∧zmJ L ν rs vs
 | none::rs,_::vs=>zmJ L ν rs vs
 | _,_=>True
def outs:List (Option (Option Nat))→List Value→List Value
 | none::rs,v::vs=>v::outs rs vs
 | some _::rs,_::vs=>outs rs vs
 | _,_=>[]
def zFu (P:Program) (G:Sig τ) (h:Fz) (ν:Vn τ):List (XV τ)→List Value→Prop
 | [],vs=>vs=[]
 | x::xs,vs=>∃v us,vs=v::us∧XOk P G h ν x v∧zFu P G h ν xs us
theorem zFu.le (hh:h.le h') (hν:ν.le ν'):∀{xs:List (XV τ)} {vs:List Value},zFu P G h ν xs vs→zFu P G h' ν' xs vs
 | [],_,e=>e
 | _::_,_,⟨v,us,e,h1,h2⟩=>⟨v,us,e,h1.le hh hν,h2.le hh hν⟩
theorem zOa {ρ:Type} {r:ρ} {a:Option (Option Nat)} {t:Ty} {x:t.den τ} {nid:Nat} {k:Option (XV τ)→Hp τ→Nat→Option ρ} (e:resH G a t x nid k=some r):∃x0 U n1,k x0 U n1=some r∧nid≤n1∧(∀j∈kys U,some (some j)=a∨nid≤j∧j<n1) ∧
  ∀(L:Hp τ) (w:World) (ν:Vn τ) (h:Fz) (φ:Nat→List Nat) (v:Value) (fp:List Nat),Mem P G w0 h0 F L w ν h φ→TrX P G h w t x v fp→(∀i,nid≤i→i<n1→ν i=none)→zhr w0 h F φ fp→(∀i,a=some (some i)→lk L i = .gone∧∃q, ν i=some (v,q))→(a=some none→v = .pointer none) →
   ∃ν' φ',Adds P G w0 h0 F L w ν h φ U nid n1 fp ν' φ'∧((a=none∧∃y,x0=some y∧XOk P G h ν' y v)∨(a≠none∧x0=none)):=by
 unfold resH at e
 split at e
 ·rename_i i n x
  obtain ⟨U,n1,h1⟩:∃U n1,zj2 G i n x nid=(U,n1):=⟨_,_,rfl⟩;rw [h1] at e;refine ⟨none,U,n1,e,zFt h1,fun j hj=>?_,fun L w ν h φ v fp M ht hn hf ha _=>?_⟩
  ·rcases zFR h1 j hj with h2|h2
   ·exact .inl (by rw [h2])
   ·exact .inr h2
  ·obtain ⟨hg,q,hi⟩:=ha i rfl;obtain ⟨ν', φ',b,A,_⟩:=zzb M h1 hg hi ht hf hn;exact ⟨ν', φ',A, .inr ⟨by simp,rfl⟩⟩
 ·rename_i i n x
  refine ⟨none,_,_,e,Nat.le_refl _,fun j hj=>?_,fun L w ν h φ v fp M ht hn hf ha _=>?_⟩
  ·simp [kys] at hj;subst hj; exact .inl rfl
  ·obtain ⟨hg,q,hi⟩:=ha i rfl;refine ⟨ν,_,⟨M.put (i:=i) hg (.tree n x) (fp:=fp) ⟨v,q,hi,ht⟩ hf,Vn.le.refl _,zde.refl _ _ _,fun j b hb=>?_⟩, .inr ⟨by simp,rfl⟩⟩
   by_cases hj:j=i
   ·subst hj; rw [zU] at hb; exact .inr hb
   ·rw [zaV _ _ hj] at hb; exact .inl hb
 ·rename_i i te ee x
  refine ⟨none,_,_,e,Nat.le_succ _,fun j hj=>?_,fun L w ν h φ v fp M ht hn hf ha _=>?_⟩
  ·simp [kys] at hj;subst hj; exact .inl rfl
  ·obtain ⟨hg,q,hi⟩:=ha i rfl;have hn':=hn nid (Nat.le_refl _) (Nat.lt_succ_self _);have hle:ν.le (up1 ν nid (some (v,some ⟨ee,x⟩))):=zbj hn';have ht:Tr P G h w (.so te ee) x v fp:=ht
   cases ht with
   | fz _ _ _ hz _=>cases hz
   | so _ _ _ _ vs ho hr =>
    refine ⟨up1 ν nid (some (v,some ⟨ee,x⟩)),_,⟨(M.ext hle).put (i:=i) hg (.row te ee x nid) ⟨v,q,vs,v,hle _ _ hi,rfl,ho,hr,zU _ _ _⟩ hf,hle,fun j e1 e2=>?_,fun j b hb=>?_⟩, .inr ⟨by simp,rfl⟩⟩
    ·by_cases hj:j=nid
     ·omega
     ·rw [zaV _ _ hj] at e2;exact (e2 e1).elim
    ·by_cases hj:j=i
     ·subst hj; rw [zU] at hb; exact .inr hb
     ·rw [zaV _ _ hj] at hb; exact .inl hb
 ·refine ⟨none,_,_,e,Nat.le_refl _,(fun j hj=>by cases hj),fun L w ν h φ v fp M ht hn hf ha _=>⟨ν, φ,(Grew.nil M _ _).adds, .inr ⟨by simp,rfl⟩⟩⟩
 ·refine ⟨none,_,_,e,Nat.le_refl _,(fun j hj=>by cases hj),fun L w ν h φ v fp M ht hn hf ha _=>⟨ν, φ,(Grew.nil M _ _).adds, .inr ⟨by simp,rfl⟩⟩⟩
 ·rename_i n x
  cases x with
  | none =>
   refine ⟨_,_,_,e,Nat.le_refl _,(fun j hj=>by cases hj),fun L w ν h φ v fp M ht hn hf ha _=>⟨ν, φ,(Grew.nil M _ _).adds, .inl ⟨rfl,_,rfl,?_⟩⟩⟩;exact (Tr.pn_none ht).1
  | some y =>
   obtain ⟨U,n1,h1⟩:∃U n1,zj2 G nid n y (nid+1)=(U,n1):=⟨_,_,rfl⟩;simp only [optK,h1] at e;have hle:=zFt h1;refine ⟨_,_,_,e,by omega,fun j hj=>?_,fun L w ν h φ v fp M ht hn hf ha _=>?_⟩
   ·rcases zFR h1 j hj with h2|h2
    ·exact .inr (by omega)
    ·exact .inr (by omega)
   ·have hn':=hn nid (Nat.le_refl _) (by omega)
    have hne:∀i,nid+1≤i→i<n1→up1 ν nid (some (v,none)) i=none:=fun i a b=>by rw [zaV _ _ (by omega)]; exact hn i (by omega) b
    obtain ⟨ν', φ',b,A,rfl⟩:=zzb (M.ext (zbj (x:=some (v,none)) hn')) h1 (M.gone_of hn') (zU _ _ _) (Tr.pn_some ht) hf hne;refine ⟨ν', φ',⟨A.mem,(zbj hn').trans A.le,fun i e1 e2=>?_,A.sub⟩, .inl ⟨rfl,_,rfl,some ⟨b,0,none⟩,none,A.le _ _ (zU _ _ _),rfl,fun _=>⟨b,rfl⟩⟩⟩
    by_cases hi:i=nid
    ·omega
    ·have:=A.fresh i (by rw [zaV _ _ hi]; exact e1) e2; omega
 ·rename_i te ee x
  cases x with
  | none =>
   refine ⟨_,_,_,e,Nat.le_refl _,(fun j hj=>by cases hj),fun L w ν h φ v fp M ht hn hf ha _=>⟨ν, φ,(Grew.nil M _ _).adds, .inl ⟨rfl,_,rfl,?_⟩⟩⟩
   rcases ht with ⟨_,h1,_⟩|⟨xs,h1,_⟩
   ·exact h1
   ·cases h1
  | some y =>
   simp only [optK] at e;refine ⟨_,_,_,e,Nat.le_succ _,fun j hj=>?_,fun L w ν h φ v fp M ht hn hf ha _=>?_⟩
   ·simp [kys] at hj;subst hj; exact .inr ⟨Nat.le_refl _,Nat.lt_succ_self _⟩
   ·have ht:Tr P G h w (.so te ee) y v fp:=by
     rcases ht with ⟨h1,_⟩|⟨xs,h1,h2⟩
     ·cases h1
     ·cases h1; exact h2
    obtain ⟨ν', φ',A,hx⟩:=zyS (t := .so te ee) (nid:=nid) M rfl ht hn hf;exact ⟨ν', φ',A, .inl ⟨rfl,_,rfl,hx⟩⟩
 ·obtain ⟨v,U,n1,h1⟩:∃v U n1,zIH G t x nid=(v,U,n1):=⟨_,_,_,rfl⟩;rw [h1] at e;refine ⟨_,_,_,e,zvh h1,fun j hj => .inr (zN9 h1 j hj),fun L w ν h φ v fp M ht hn hf ha _=>?_⟩;obtain ⟨ν', φ',A,hx⟩:=zyS M h1 ht hn hf;exact ⟨ν', φ',A, .inl ⟨rfl,_,rfl,hx⟩⟩
 ·cases e
theorem zOb {ρ:Type} {r:ρ}:∀(ts:List Ty) (rs:List (Option (Option Nat))) (p:DP τ ts) (nid:Nat) (K0:List (XV τ)→Hp τ→Nat→Option ρ),resK G rs ts p nid K0=some r→∃l U nid',K0 l U nid'=some r∧nid≤nid'∧(∀j∈kys U,some (some j)∈rs∨nid≤j∧j<nid') ∧
  ∀(L:Hp τ) (w:World) (ν:Vn τ) (h:Fz) (φ:Nat→List Nat) (vals:List Value) (fp:List Nat),Mem P G w0 h0 F L w ν h φ→TrXs P G h w ts p vals fp→(∀i,nid≤i→i<nid'→ν i=none)→zhr w0 h F φ fp→zmJ L ν rs vals →
   ∃ν' φ',Adds P G w0 h0 F L w ν h φ U nid nid' fp ν' φ'∧zFu P G h ν' l (outs rs vals):=by
 intro ts
 induction ts with
 | nil =>
  intro rs p nid K0 e;refine ⟨[],[],nid,?_,Nat.le_refl _,(fun j hj=>by cases hj),fun L w ν h φ vals fp M ht hn hf hr=>?_⟩
  ·unfold resK hi at e; exact e
  ·cases ht;refine ⟨ν, φ,(Grew.nil M _ _).adds,?_⟩
   cases rs with
   | nil=>rfl
   | cons a rs=>cases a<;>rfl
 | cons t ts ih =>
  intro rs p nid K0 e
  cases rs with
  | nil=>cases e
  | cons a0 rs' =>
   unfold resK at e;obtain ⟨x0,U1,n1,e1,hle,hky,hdo⟩:=zOa (P:=P) (w0:=w0) (h0:=h0) (F:=F) e;obtain ⟨l,U,nid',g1,g2,g3,g4⟩:=ih rs' p.tl n1 _ e1;refine ⟨_,_,nid',g1,by omega,fun j hj=>?_,fun L w ν h φ vals fp M ht hn hf hr=>?_⟩
   ·simp only [kys,List.map_append] at hj
    rcases List.mem_append.1 hj with hj|hj
    ·rcases hky j hj with h1|h1
     ·exact .inl (h1▸List.mem_cons_self ..)
     ·exact .inr (by omega)
    ·rcases g3 j hj with h1|h1
     ·exact .inl (List.mem_cons_of_mem _ h1)
     ·exact .inr (by omega)
   ·cases ht with
    | cons _ _ _ v vs f f' t1 t2 hd =>
     have hr2:zmJ L ν rs' vs:=by
      cases a0 with
      | none=>exact hr
      | some a1 =>
       cases a1 with
       | none=>exact hr.2
       | some i=>exact hr.2.2.2
     obtain ⟨ν1, φ1,A1,x1⟩:=g4 L w ν h φ vs f' M t2 (fun i a b=>hn i (by omega) b) (hf.sub fun b hb=>List.mem_append_right _ hb) hr2
     have hν1:∀i,nid≤i→i<n1→ν1 i=none:=by
      intro i a b
      cases e:ν1 i with
      | none=>rfl
      | some y =>
       have:=A1.fresh i (hn i a (by omega)) (by rw [e]; simp);omega
     obtain ⟨ν2, φ2,A2,x2⟩:=hdo (U++L) w ν1 h φ1 v f A1.mem t1 hν1 (zhr.adds A1 (hf.sub fun b hb=>List.mem_append_left _ hb) hd) (fun i ha=>by
      subst ha;obtain ⟨q1,⟨q,q2⟩,q3,_⟩:=hr;refine ⟨?_,q,A1.le _ _ q2⟩;rw [zcJ]
      ·exact q1
      ·intro hi
       rcases g3 i hi with h1|h1
       ·exact q3 h1
       ·rw [hn i (by omega) h1.2] at q2; cases q2) (fun ha=>by subst ha; exact hr.1)
     refine ⟨ν2, φ2,Adds.seq A1 A2 hle g2,?_⟩
     rcases x2 with ⟨rfl,x,rfl,hx⟩|⟨ha,rfl⟩
     ·exact ⟨v,_,rfl,hx,x1.le (Fz.le.refl _) A2.le⟩
     ·cases a0 with
      | none=>exact (ha rfl).elim
      | some a1=>exact x1.le (Fz.le.refl _) A2.le

theorem zOc {t:Ty} {x:t.den τ} {v:Value} (hs:zhk t=true) (hr:Rp P G h t x v):Rp P G h' t x v:=by
 cases hr<;>first|(cases hs; done)|constructor
theorem zJf:∀{ts:List Ty} {q:DP τ ts} {vs:List Value},RpL P G h ts q vs→ts.all zhk=true→RpL P G h' ts q vs
 | _,_,_, .nil,_ => .nil
 | _,_,_, .cons t ts q v vs h1 h2,hs=>by
  simp only [List.all_cons,Bool.and_eq_true] at hs;exact .cons t ts q v vs (zOc hs.1 h1) (zJf h2 hs.2)
theorem zJg:∀{e:Ty} {xs:List (e.den τ)} {vs:List Value},RpR P G h e xs vs→(ets G e).all zhk=true→RpR P G h' e xs vs
 | _,_,_, .nil e,_ => .nil e
 | _,_,_, .cons e x xs vs ws h1 h2,hs => .cons e x xs vs ws (zJf h1 hs) (zJg h2 hs)
theorem zyT {f:Ty→Bool} (hf:∀t x v fp,f t=false→Tr P G h w t x v fp→Tr P G h' w t x v fp):∀{ts:List Ty} {q:DP τ ts} {vs:List Value} {fp:List Nat},TrL P G h w ts q vs fp→ts.any f=false→TrL P G h' w ts q vs fp
 | _,_,_,_, .nil,_ => .nil
 | _,_,_,_, .cons t ts q v vs f1 f2 h1 h2 hd,hs=>by
  simp only [List.any_cons,Bool.or_eq_false_iff] at hs;exact .cons t ts q v vs f1 f2 (hf _ _ _ _ hs.1 h1) (zyT hf h2 hs.2) hd
theorem zzc:∀(d:Nat) (t:Ty) (x:t.den τ) (v:Value) (fp:List Nat),zmB G d t=false→Tr P G h w t x v fp→Tr P G h' w t x v fp
 | 0,t,x,v,fp,hs,_=>by cases hs
 | d+1,t,x,v,fp,hs,ht=>by
  unfold zmB at hs
  cases ht with
  | fz _ _ _ hz hr =>
   refine .fz t x v hz ?_
   cases hr<;>first|(cases hs; done)|(cases hz; done)|(constructor; done)|exact .fn _ _ ‹_›
  | so te e xs _ vs ho hr =>
   refine .so te e xs v vs ho (zJg hr ?_);simpa using hs
  | po n y b vs fp hb hl hn hm=>exact .po n y b vs fp hb (zyT (zzc d) hl hs) hn hm
  | pn0 n=>exact .pn0 n
  | pn1 n y _ _ hp =>
   refine .pn1 n y v fp ?_
   cases hp with
   | fz _ _ _ hz _=>cases hz
   | po _ _ b vs fp hb hl hn hm=>exact .po n y b vs fp hb (zyT (zzc d) hl hs) hn hm
theorem zOd {d:Nat} {t:Ty} {x:t.den τ} {v:Value} {fp:List Nat} (hs:zmB G (d+1) t=false) (ht:TrX P G h w t x v fp):TrX P G h' w t x v fp:=by
 cases t
 case st n =>
  obtain ⟨vs,rfl,hl⟩:=ht;unfold zmB at hs;exact ⟨vs,rfl,zyT (zzc d) hl hs⟩
 case pr a b=>exact ht
 case sn te e =>
  rcases ht with h1|⟨xs,h1,h2⟩
  ·exact .inl h1
  ·exact .inr ⟨xs,h1,zzc (d+1) (.so te e) _ _ _ hs h2⟩
 all_goals exact zzc (d+1) _ _ _ _ hs ht
theorem zFv {d:Nat}:∀{ts:List Ty} {q:DP τ ts} {vs:List Value} {fp:List Nat},TrXs P G h w ts q vs fp→ts.any (zmB G (d+1))=false→TrXs P G h' w ts q vs fp
 | _,_,_,_, .nil,_ => .nil
 | _,_,_,_, .cons t ts q v vs f1 f2 h1 h2 hd,hs=>by
  simp only [List.any_cons,Bool.or_eq_false_iff] at hs;exact .cons t ts q v vs f1 f2 (zOd hs.1 h1) (zFv h2 hs.2) hd

theorem zzd {rs:List (Option (Option Nat))} (hr:∀a∈rs,a≠none):∀(n:Nat) (vs:List Value),outs (zAj n rs) vs=vs.take n
 | 0,vs=>by
  have:∀(rs:List (Option (Option Nat))) (vs:List Value),(∀a∈rs,a≠none)→outs rs vs=[]:=by
   intro rs
   induction rs with
   | nil=>intro vs _; rfl
   | cons a rs ih =>
    intro vs h
    cases a with
    | none=>exact (h none (List.mem_cons_self ..) rfl).elim
    | some a =>
     cases vs with
     | nil=>rfl
     | cons v vs=>exact ih vs fun b hb=>h b (List.mem_cons_of_mem _ hb)
  rw [List.take_zero]; exact this rs vs hr
 | n+1,[]=>rfl
 | n+1,v::vs=>by
  show v::outs (zAj n rs) vs=_;rw [zzd hr n vs,List.take_succ_cons]
theorem zp3 {avs:List (XV τ)}:∀{js:List Nat} {rs:List (Option (Option Nat))},roots avs js=some rs→∀a∈rs,a≠none
 | [],rs,e,a,ha=>by cases e; cases ha
 | j :: js,rs,e,a,ha=>by
  unfold roots at e
  split at e
  ·rename_i rs' h1
   split at e
   ·split at e
    ·cases e
     rcases List.mem_cons.1 ha with rfl|ha
     ·simp
     ·exact zp3 h1 a ha
    ·cases e
     rcases List.mem_cons.1 ha with rfl|ha
     ·simp
     ·exact zp3 h1 a ha
    ·cases e
     rcases List.mem_cons.1 ha with rfl|ha
     ·simp
     ·exact zp3 h1 a ha
    ·cases e
   ·cases e
  ·cases e
theorem zvi {v:XV τ} {u:Value} (hv:XOk P G h ν v u):∀{i:Nat} {c:CV τ},zM7 v i=some c→zcI P G h ν c (cellV u i)
 | 0,c,e=>by
  cases v with
  | c c'=>have e:some c'=some c:=e; cases e; exact hv
  | _=>cases e
 | i+1,c,e=>by
  cases v with
  | g cs =>
   have e:zh2 cs i=some c:=e;obtain ⟨vs,rfl,hc⟩:=hv;rw [zgb] at e;obtain ⟨w,h1,h2⟩:=CVs.get (X:=⟨P,G,[],[],0,fun _ => .bool false⟩) hc e;show zcI P G h ν c (vs.getD i undef);rw [List.getD_eq_getElem?_getD,h1]; exact h2
  | _=>cases e
theorem zze:∀{rs:List (Option (Option Nat))} {i:Nat},some (some i)∈rs→i∈zv4 rs
 | a::rs,i,h=>by
  rcases List.mem_cons.1 h with e|h
  ·subst e; exact List.mem_cons_self ..
  ·have:=zze h
   cases a with
   | none=>exact this
   | some a =>
    cases a with
    | none=>exact this
    | some j=>exact List.mem_cons_of_mem _ this
theorem zvj {avs:List (XV τ)} {vs:List Value} (hl:vs.length=avs.length) (hv:∀(i:Nat) (A:XV τ) (v:Value),avs[i]? = some A→vs[i]? = some v→XOk P G h ν A v) :
  ∀{js:List Nat} {rs:List (Option (Option Nat))},roots avs js=some rs→nod (zv4 rs)=true→(∀i∈zv4 rs,lk L i = .gone)→zmJ L ν rs (js.map (bkV vs))
 | [],rs,e,_,_=>by cases e; trivial
 | j :: js,rs,e,hn,hg=>by
  unfold roots at e
  split at e
  ·rename_i rs' h1
   split at e
   ·rename_i A hj
    rw [zgb] at hj
    have hlt:j%32<vs.length:=by rw [hl]; exact (List.getElem?_eq_some_iff.1 hj).1
    have hvj:vs[j%32]? = some (vs.getD (j%32) undef):=by rw [List.getD_eq_getElem?_getD,List.getElem?_eq_getElem hlt]; rfl
    have hA:=hv _ _ _ hj hvj
    split at e
    ·rename_i id hr
     cases e;simp only [zv4,nod,Bool.and_eq_true,Bool.not_eq_true'] at hn;obtain ⟨u,q,hν,he,_⟩:=zvi hA hr;refine ⟨hg id (List.mem_cons_self ..),⟨q,?_⟩,fun hm=>?_,zvj hl hv h1 hn.2 fun i hi=>hg i (List.mem_cons_of_mem _ hi)⟩
     ·show ν id=some (bkV vs j,q);unfold bkV;rw [he,hν]; cases u<;>rfl
     ·rw [zep.2 (zze hm)] at hn; cases hn.1
    ·rename_i id hr
     cases e;simp only [zv4,nod,Bool.and_eq_true,Bool.not_eq_true'] at hn;obtain ⟨u1,u2,u3,q,hν,he⟩:=zvi hA hr;refine ⟨hg id (List.mem_cons_self ..),⟨q,?_⟩,fun hm=>?_,zvj hl hv h1 hn.2 fun i hi=>hg i (List.mem_cons_of_mem _ hi)⟩
     ·show ν id=some (bkV vs j,q);unfold bkV;rw [he,hν]
     ·rw [zep.2 (zze hm)] at hn; cases hn.1
    ·rename_i hr
     cases e;exact ⟨zvi hA hr,zvj hl hv h1 hn hg⟩
    ·cases e
   ·cases e
  ·cases e
theorem zCD {rs:List (Option (Option Nat))}:∀{n:Nat} {vs:List Value},zmJ L ν rs (vs.drop n)→zmJ L ν (zAj n rs) vs
 | 0,vs,h=>by rw [List.drop_zero] at h; exact h
 | n+1,[],h=>trivial
 | n+1,v::vs,h=>zCD (n:=n) (vs:=vs) (by simpa using h)
theorem zJh {l:List (XV τ)} {v:XV τ} {vs:List Value} (e:zBI l=some v) (h1:zFu P G h ν l vs):XOk P G h ν v (zy9 vs):=by
 have hgo:∀{l:List (XV τ)} {ts:List (Bool × List (CV τ))} {vs:List Value},zBI.go l=some ts→zFu P G h ν l vs→TVs P G h ν ts vs:=by
  intro l
  induction l with
  | nil=>intro ts vs e h1; cases e; exact h1
  | cons x l ih =>
   intro ts vs e h1;obtain ⟨v,us,rfl,h2,h3⟩:=h1;unfold zBI.go at e
   split at e
   ·cases ‹_::_=[]›
   ·rename_i heq
    cases heq
    split at e
    ·rename_i l' hl'
     cases e;exact ⟨v,us,rfl,h2,ih hl' h3⟩
    ·cases e
   ·rename_i heq
    cases heq
    split at e
    ·rename_i l' hl'
     cases e;obtain ⟨ws,rfl,h4⟩:=h2;exact ⟨ws,us,rfl,h4,ih hl' h3⟩
    ·cases e
   ·cases e
 unfold zBI at e
 split at e
 ·cases e;obtain ⟨u,us,rfl,h2,h3⟩:=h1;cases h3;exact h2
 ·cases e; cases h1;exact ⟨[],rfl,rfl⟩
 ·rename_i hne1 hne2
  split at e
  ·rename_i ts hts
   cases e;have:=hgo hts h1
   have hr:zy9 vs = .tuple ⟨vs⟩:=by
    cases l with
    | nil=>exact (hne2 rfl).elim
    | cons x l =>
     cases l with
     | nil=>exact (hne1 _ rfl).elim
     | cons y l =>
      obtain ⟨v,us,rfl,_,v',us',rfl,_⟩:=h1;rfl
   rw [hr];exact ⟨vs,rfl,this⟩
  ·cases e
theorem zo9 (l:List Nat):kys (zn3 (τ:=τ) l)=l:=by
 induction l with
 | nil=>rfl
 | cons i l ih=>exact congrArg (i :: ·) ih
theorem zzf (l:List Nat) (Z:Hp τ) {i:Nat} (hi:i∈l):lk (zn3 l++Z) i = .gone:=by
 induction l with
 | nil=>cases hi
 | cons j l ih =>
  by_cases e:i=j
  ·subst e; exact zaP ..
  ·have:lk (zn3 (j::l)++Z) i=lk (zn3 l++Z) i:=zdr _ _ e;rw [this];exact ih ((List.mem_cons.1 hi).resolve_left e)
end
end Go.Rk
end
