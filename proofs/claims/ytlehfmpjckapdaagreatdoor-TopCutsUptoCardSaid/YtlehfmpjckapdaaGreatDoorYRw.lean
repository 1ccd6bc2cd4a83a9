/- Walks by evaluation: data taken out of what is owned, and taken apart into it. Over any program. Walks by evaluation: ea -/
import Derived.Test.YtlehfmpjckapdaaGreatDoorYPu
set_option linter.unusedVariables false
set_option linter.unusedSimpArgs false
section
namespace Go.Rk
open Go.RowKit Go.Dm Go.Dk
variable {τ:Nat→Type}
variable {vs:List Value} {ad:Option Addr} {v:Value} {bs:List Nat} {e:Ty}
open Classical in
noncomputable def zrV (h:Fz) (w:World) (bs:List Nat):Fz:=fun b=>if b∈bs then w.heap[b]? else h b
section
variable {P:Program} {G:Sig τ} {w0 w w':World} {h0 h h' H:Fz} {F:List Nat} {L L' L2:Hp τ} {ν ν':Vn τ} {φ φ':Nat→List Nat}
theorem Fz.le.refl (h:Fz):h.le h:=fun _ _ e=>e
theorem Fz.le.trans {h h' c:Fz} (a:h.le h') (b:h'.le c):h.le c:=fun _ _ e=>b _ _ (a _ _ e)
theorem Vn.le.refl (ν:Vn τ):ν.le ν:=fun _ _ e=>e
theorem Vn.le.trans {ν ν' ν'':Vn τ} (a:ν.le ν') (b:ν'.le ν''):ν.le ν'':=fun _ _ e=>b _ _ (a _ _ e)
theorem zqA {b:Nat} (a:b∈bs):zrV h w bs b=w.heap[b]? := by simp [zrV,a]
theorem zkt {b:Nat} (a:b∉bs):zrV h w bs b=h b:=by simp [zrV,a]
theorem zvL (c:h.on w):(zrV h w bs).on w:=by
 intro b o e
 by_cases a:b∈bs
 ·rwa [zqA a] at e
 ·rw [zkt a] at e; exact c _ _ e
theorem Mem.lend_le (M:Mem P G w0 h0 F L w ν h φ) (ids:List Nat):h.le (zrV h w (fps φ ids)):=by
 intro b o e
 by_cases a:b∈fps φ ids
 ·obtain ⟨i,_,hi⟩:=zeZ.1 a;rw [(M.out i b hi).1] at e; cases e
 ·rw [zkt a]; exact e
theorem zfy (φ:Nat→List Nat) (l m:List Nat):fps φ (l++m)=fps φ l++fps φ m:=by simp [fps]
theorem zdr (φ:Nat→List Nat) (i:Nat) (m:List Nat):fps φ (i::m)=φ i++fps φ m:=by simp [fps]
theorem zw5 {c:TypeId} {xs:List (e.den τ)} (j:h.le H) (m:zhj G w c (ets G e).length v xs.length vs) (o:RpR P G h e xs vs) (n:∀b∈v.ownBlock.toList,H b=w.heap[b]?):Rp P G H (.sl e) xs v:=by
 obtain ⟨f,⟨rfl,hn⟩|⟨g,d,cap,cur,rfl,_,l,hc,_,p,i⟩⟩:=m
 ·rw [hn] at f;have:vs=[]:=List.eq_nil_of_length_eq_zero (by simpa using f);have hxs:xs=[]:=List.eq_nil_of_length_eq_zero hn;subst this; subst hxs;exact .sl e [] none 0 [] (Nat.le_refl _) (.inl rfl) (.nil _)
 ·refine .sl e xs _ cap vs hc (.inr ⟨g,_,cur,c,(0,0),rfl,?_,?_⟩) (o.le j)
  ·rw [n g (by simp [Value.ownBlock])]; exact l
  ·intro k v a;rw [← i,List.getElem?_take] at a
   split at a
   ·rw [List.getElem?_drop] at a; simpa using a
   ·cases a
theorem RpL.len:∀{ts:List Ty} {q:DP τ ts} {vs:List Value},RpL P G h ts q vs→vs.length=ts.length
 | _,_,_,.nil=>rfl
 | _,_,_,.cons _ _ _ _ _ _ h2=>by simp [RpL.len h2]
theorem RpR.len:∀{e:Ty} {xs:List (e.den τ)} {vs:List Value},RpR P G h e xs vs→vs.length=xs.length*(ets G e).length
 | _,_,_,.nil _=>by simp
 | _,_,_,.cons e x xs vs a h1 h2=>by simp [RpR.len h2,h1.len,Nat.add_mul]; omega
theorem RpR.drop:∀{e:Ty} {xs:List (e.den τ)} {vs:List Value},RpR P G h e xs vs→∀(i:Nat),RpR P G h e (xs.drop i) (vs.drop (i*(ets G e).length))
 | _,_,_,.nil e,i=>by simp; exact .nil e
 | _,_,_,.cons e x xs vs a h1 h2,0=>by simp; exact .cons e x xs vs a h1 h2
 | _,_,_,.cons e x xs vs a h1 h2,i+1=>by
  have c:=h1.len;have b:vs.drop (i*(ets G e).length+(ets G e).length)=[]:=List.drop_eq_nil_of_le (by omega);rw [List.drop_succ_cons,Nat.add_mul,Nat.one_mul,List.drop_append,b,List.nil_append,c,Nat.add_sub_cancel];exact h2.drop i
theorem RpR.take:∀{e:Ty} {xs:List (e.den τ)} {vs:List Value},RpR P G h e xs vs→∀(i:Nat),RpR P G h e (xs.take i) (vs.take (i*(ets G e).length))
 | _,_,_,.nil e,i=>by simp; exact .nil e
 | _,_,_,.cons e x xs vs a h1 h2,0=>by simp; exact .nil e
 | _,_,_,.cons e x xs vs a h1 h2,i+1=>by
  have c:=h1.len;have b:vs.take (i*(ets G e).length+(ets G e).length)=vs:=List.take_of_length_le (by omega);rw [List.take_succ_cons,Nat.add_mul,Nat.one_mul,List.take_append,b,c,Nat.add_sub_cancel];exact .cons e x _ vs _ h1 (h2.take i)
theorem zqs.part {vs us:List Value} {k:Nat} (g:zqs h ad vs) (f:∀j v,us[j]? = some v→vs[k+j]? = some v):zqs h (ad.map (·.add k)) us:=by
 rcases g with rfl|⟨b,o,c,e,z,rfl,h1,h2⟩
 ·left
  apply List.eq_nil_iff_forall_not_mem.2
  intro v i;obtain ⟨j,d⟩:=List.mem_iff_getElem?.1 i;have:=f j v d;simp at this
 ·have a:(⟨b,o,none⟩:Addr).add k=⟨b,o+k,none⟩:=by unfold Addr.add; split<;>simp_all
  refine .inr ⟨b,o+k,c,e,z,by simp [a],h1,fun j v d=>?_⟩;rw [Nat.add_assoc]; exact h2 _ _ (f j v d)
theorem zLZ {xs:List (e.den τ)} {n c i j:Nat} (o:Rp P G h (.sl e) xs (.slice ad n c)) (m:i≤j) (p:j≤xs.length):n=xs.length∧xs.length≤c ∧
  Rp P G h (.sl e) ((xs.take j).drop i) (.slice (if c=i then ad else ad.map (·.add (i*(ets G e).length))) (j-i) (c-i)):=by
 cases o with
 | sl _ _ _ _ vs hc l f =>
  refine ⟨rfl,hc,?_⟩
  have a:((xs.take j).drop i).length=j-i:=by rw [List.length_drop,List.length_take]; omega
  rw [← a]
  have b:∀k v,((vs.take (j*(ets G e).length)).drop (i*(ets G e).length))[k]? = some v→vs[i*(ets G e).length+k]? = some v:=by
   intro k v g;rw [List.getElem?_drop,List.getElem?_take] at g
   split at g
   ·exact g
   ·cases g
  refine .sl e _ _ _ ((vs.take (j*(ets G e).length)).drop (i*(ets G e).length)) (by rw [a]; omega) ?_ ((f.take j).drop i)
  by_cases d:c=i
  ·rw [if_pos d]
   left
   have h1:=((f.take j).drop i).len;rw [a,show j-i=0 by omega,Nat.zero_mul] at h1;exact List.eq_nil_of_length_eq_zero h1
  ·rw [if_neg d]; exact l.part b
theorem vw_rp {xs ys:List (e.den τ)} {a d:Option Addr} {n c f lo:Nat} (m:Rp P G H (.sl e) ys (.slice a n c)) (h1:lo+xs.length≤ys.length) (h2:xs=(ys.take (lo+xs.length)).drop lo) (k:xs.length≤f) (l:xs≠[]→d=a.map (·.add (lo*(ets G e).length))):Rp P G H (.sl e) xs (.slice d xs.length f):=by
 by_cases g:xs=[]
 ·subst g; exact .sl e [] d f [] k (.inl rfl) (.nil _)
 ·obtain ⟨_,hc,b⟩:=zLZ m (i:=lo) (j:=lo+xs.length) (by omega) h1;have o:0<xs.length:=List.length_pos_iff.2 g;rw [← h2,if_neg (by omega), ← l g] at b;rw [show lo+xs.length-lo=xs.length by omega] at b
  cases b with
  | sl _ _ _ _ vs _ b h=>exact .sl e xs d f vs k b h
theorem ze1.part {vs us:List Value} {k:Nat} (e:ze1 w ad vs) (f:∀(j:Nat) v,us[j]? = some v→vs[k+j]? = some v):ze1 w (ad.map (·.add k)) us:=by
 by_cases d:us=[]
 ·subst d
  cases ad with
  | none=>rfl
  | some x=>exact .inl rfl
 ·have a:vs≠[]:=by
   rintro rfl
   apply d
   apply List.eq_nil_iff_forall_not_mem.2
   intro v a;obtain ⟨j,h⟩:=List.mem_iff_getElem?.1 a;have:=f j v h;simp at this
  cases ad with
  | none=>exact (a e).elim
  | some x =>
   obtain ⟨h1,h2,g⟩:=e.hard a;obtain ⟨b,o,l⟩:=x;simp only at h1 h2 g;subst h1
   have c:(⟨b,o,none⟩:Addr).add k=⟨b,o+k,none⟩:=by unfold Addr.add; split<;>simp_all
   simp only [Option.map_some,c];refine .inr ⟨rfl,h2,fun i v a=>?_⟩;have:=g _ _ (f i v a);simpa [Nat.add_assoc] using this
mutual
theorem Tr.rp (f:h.le H):∀{t:Ty} {x:t.den τ} {v:Value} {fp:List Nat},Tr P G h w t x v fp→(∀b∈fp,H b=w.heap[b]?)→Rp P G H t x v
 | _,_,_,_,.fz t x v l d,_=>d.le f
 | _,_,_,_,.so i e xs v vs j d,a => .so i e xs v (zw5 f j d a)
 | _,_,_,_,.po n x b vs fp h1 h2 hn _,a => .po n x _ (.pt n x b 0 vs (.inr ⟨b,0,vs.toArray,G.ti n,(0,0),rfl,(a b (List.mem_cons_self ..)).trans h1,fun k v g=>by simpa using g⟩) (h2.rp f fun c hc=>a c (List.mem_cons_of_mem _ hc)))
 | _,_,_,_,.pn0 n,_ => .pn0 n
 | _,_,_,_,.pn1 n x v fp hp,a => .pn1 n x v (match hp.rp f a with | .po _ _ _ d=>d)
theorem TrL.rp (d:h.le H):∀{ts:List Ty} {p:DP τ ts} {vs:List Value} {fp:List Nat},TrL P G h w ts p vs fp→(∀b∈fp,H b=w.heap[b]?)→RpL P G H ts p vs
 | _,_,_,_,.nil,_ => .nil
 | _,_,_,_,.cons t ts p v vs f f' h1 h2 hd,c => .cons t ts p v vs (h1.rp d fun b a=>c b (List.mem_append_left _ a)) (h2.rp d fun b a=>c b (List.mem_append_right _ a))
end
theorem zDI (M:Mem P G w0 h0 F L2 w ν h φ) (x:h.le H) {e:Ty} {c:CV τ} {xs:List (e.den τ)} {m:List Nat} {v:Value} (k:zFz L e c=some (xs,m)) (t:∀i∈m,lk L2 i=lk L i) (I:∀b∈fps φ m,H b=w.heap[b]?)
  (y:zdg P G h ν c v):Rp P G H (.sl e) xs v:=by
 unfold zFz at k
 split at k
 ·split at k
  ·rename_i g
   obtain ⟨rfl,rfl⟩:=zhi g;cases k;exact Rp.le x y
  ·cases k
 ·cases k; cases y;exact .sl e [] none 0 [] (Nat.le_refl _) (.inl rfl) (.nil _)
 ·rename_i id
  obtain ⟨ad,n,V,q,hν,rfl⟩:=y
  split at k
  ·rename_i K J s z a
   split at k
   ·rename_i g
    obtain ⟨rfl,rfl⟩:=zhi g;cases k;have f:=M.res id;rw [t id (List.mem_singleton.2 rfl),a] at f;obtain ⟨E,B,vs,u,h1,h2,o,A,_⟩:=f;rw [hν] at h1;cases h1;exact zw5 x o A fun b j=>I b (by rw [zdr,h2]; exact List.mem_append_left _ j)
   ·cases k
  ·rename_i J s a
   split at k
   ·rename_i g
    obtain ⟨rfl,rfl⟩:=zhi g;cases k;have f:=M.res id;rw [t id (List.mem_singleton.2 rfl),a] at f;obtain ⟨E,B,h1,_,o⟩:=f;rw [hν] at h1;cases h1;exact o.le x
   ·cases k
  ·rename_i i z J lo s a
   split at k
   ·rename_i K W ys C p
    cases l:Nat.beq z C with
    | false=>rw [l] at k; cases k
    | true =>
     rw [l] at k
     have:z=C:=by simpa using l
     subst this;dsimp only [cond_true] at k
     split at k
     ·rename_i g
      obtain ⟨rfl,rfl⟩:=zhi g;cases k;have f:=M.res id;rw [t id (List.mem_cons_self ..),a] at f;obtain ⟨a1,Z,c1,q1,q2,X,R,a2,Y,N,O,U,T,D,Q,S,_⟩:=f;have r:=M.res i;rw [t i (List.mem_cons_of_mem _ (List.mem_cons_self ..)),p] at r;obtain ⟨E,B,vs,u,h1,h2,o,A,d⟩:=r;rw [N] at h1;cases h1;rw [O] at d
      injection d with d
      injection d with _ d
      injection d with d
      cases d;rw [hν] at D;cases D;exact vw_rp (zw5 x o A fun b j=>I b (by rw [zdr,zdr,h2]; exact List.mem_append_right _ (List.mem_append_left _ j))) U T Q S.1
     ·cases k
   ·cases k
  ·cases k
 ·cases k
theorem zto {f:(t:Ty)→CV τ→Option (t.den τ × List Nat)} {A:List Nat→Prop} (a:∀l m,A (l++m)→A l∧A m)
  (b:∀t c x m v,f t c=some (x,m)→A m→zdg P G h ν c v→Rp P G H t x v):∀{ts:List Ty} {cs:List (CV τ)} {q:DP τ ts} {vs:List Value} {m:List Nat},zxS f ts cs=some (q,m)→A m→CVs P G h ν cs vs→RpL P G H ts q vs
 | [],[],q,vs,_,e,_,j=>by cases e; cases j; exact .nil
 | t::ts,c::cs,q,_,_,e,d,⟨v,us,rfl,h1,h2⟩=>by
  unfold zxS at e
  split at e
  ·rename_i x m i
   split at e
   ·rename_i k n g
    cases e;refine .cons t ts _ v us ?_ ?_
    ·rw [DP.hd_mk]; exact b _ _ _ _ _ i (a _ _ d).1 h1
    ·rw [DP.tl_mk]; exact zto a b g (a _ _ d).2 h2
   ·cases e
  ·cases e
 | [],_::_,_,_,_,e,_,_=>by cases e
 | _::_,[],_,_,_,e,_,_=>by cases e
theorem zJH {t:Ty} {x:t.den τ} (d:Rp P G h t x v):zdg P G h ν (t.av x) v:=by
 cases d with
 | sl e xs a c vs hc g d=>exact .sl e xs a c vs hc g d
 | so j e xs v d=>exact d
 | pt n x b k vs g d=>exact ⟨b,k,vs,rfl,g,d⟩
 | po n x v d=>cases d with|pt n x b k vs g d=>exact ⟨b,k,vs,rfl,g,d⟩
 | pn0 n=>exact .pn0 n
 | pn1 n x v d=>exact .pn1 n x v d
 | fn m f i=>exact .fn m f i
 | cl f t x u d=>exact .cl f t x u d
 | mv f u=>exact .mv f u
 | _=>rfl
theorem zzI:∀{ts:List Ty} {q:DP τ ts} {vs:List Value},RpL P G h ts q vs→CVs P G h ν (avs ts q) vs
 | _,_,_,.nil=>rfl
 | _,_,_,.cons t ts q v vs h1 h2=>⟨v,vs,rfl,zJH h1,zzI h2⟩
def zcd (a L:Hp τ) (φ:Nat→List Nat) (H:Fz) (w:World) (m:List Nat):Prop:=(∀i∈m,lk a i=lk L i)∧∀b∈fps φ m,H b=w.heap[b]?
theorem zcd.app {l m:List Nat} (a:zcd L2 L φ H w (l++m)):zcd L2 L φ H w l∧zcd L2 L φ H w m :=
  ⟨⟨fun i hi=>a.1 i (List.mem_append_left _ hi),fun b c=>a.2 b (by rw [zfy]; exact List.mem_append_left _ c)⟩,
   ⟨fun i hi=>a.1 i (List.mem_append_right _ hi),fun b c=>a.2 b (by rw [zfy]; exact List.mem_append_right _ c)⟩⟩
theorem zDJ (M:Mem P G w0 h0 F L2 w ν h φ) (y:h.le H) {f:(t:Ty)→CV τ→Option (t.den τ × List Nat)} (E:∀t c x m v,f t c=some (x,m)→zcd L2 L φ H w m→zdg P G h ν c v→Rp P G H t x v)
  {n:Nat} {c:CV τ} {x:τ n} {m:List Nat} {v:Value} (k:lokP f G L n c=some (x,m)) (j:zcd L2 L φ H w m) (I:zdg P G h ν c v):Rp P G H (.pt n) x v:=by
 unfold lokP at k
 split at k
 ·rename_i t z o
  obtain ⟨b,q,vs,rfl,h1,h2⟩:=I
  split at k
  ·rename_i R g
   cases k;unfold eaO at g
   split at g
   ·rename_i S z
    cases ho:Nat.beq o 0
    ·rw [ho] at g; cases g
    ·rw [ho] at g
     replace ho:=Nat.eq_of_beq_eq_true ho
     subst ho;obtain ⟨rfl,rfl⟩:=zOA g;exact .pt _ _ b _ vs (h1.le y) (h2.le y)
   ·cases g
  ·split at k
   ·rename_i cs d
    split at k
    ·rename_i p O r
     cases k;have hc:=(CVs.cut (X:=⟨P,G,[],[],0,fun _ => .bool false⟩) (zzI (ν:=ν) h2) d).1;refine .pt n _ b (q+o) ((vs.drop o).take (G.fs n).length) ?_ ?_
     ·rcases h1 with rfl|⟨T,o',c,e,K,s,B,i⟩
      ·exact .inl (by simp)
      ·cases s;refine .inr ⟨b,q+o,c,e,K,rfl,y _ _ B,fun k v a=>?_⟩;rw [List.getElem?_take] at a
       split at a
       ·rw [List.getElem?_drop] at a;rw [Nat.add_assoc];exact i _ _ a
       ·cases a
     ·rw [G.dc]; exact zto (A:=zcd L2 L φ H w) (fun _ _=>zcd.app) E r j hc
    ·cases k
   ·cases k
 ·rename_i id o
  split at k
  ·rename_i t cs C
   split at k
   ·rename_i N d
    split at k
    ·rename_i p O r
     cases k;have D:=zcd.app (l:=[id]) j;have J:=M.res id;rw [j.1 id (List.mem_cons_self ..),C] at J;obtain ⟨b,q,vs,h1,h2,s,B⟩:=J;obtain ⟨u,Q,i,rfl,_⟩:=I;rw [h1] at i;cases i;have hc:=(CVs.cut (X:=⟨P,G,[],[],0,fun _ => .bool false⟩) B d).1;refine .pt n _ b (0+o) ((vs.drop o).take (G.fs n).length) (.inr ⟨b,0+o,vs.toArray,t,(0,0),rfl,?_,fun k v a=>?_⟩) ?_
     ·rw [j.2 b (by rw [zdr,h2]; simp)]; exact s
     ·rw [List.getElem?_take] at a
      split at a
      ·rw [List.getElem?_drop] at a;simpa using a
      ·cases a
     ·rw [G.dc]; exact zto (A:=zcd L2 L φ H w) (fun _ _=>zcd.app) E r D.2 hc
    ·cases k
   ·cases k
  ·cases k
 ·cases k
theorem zPb (M:Mem P G w0 h0 F L2 w ν h φ) (j:h.le H) {n:Nat} {c:CV τ} {x:Option (τ n)} {m:List Nat} {v:Value} (k:lokT L n c=some (x,m)) (f:zcd L2 L φ H w m) (l:zdg P G h ν c v):Rp P G H (.pn n) x v:=by
 unfold lokT at k
 split at k
 ·rename_i id
  obtain ⟨u,p,e,rfl,_⟩:=l
  have i:zvn (.pointer u) 0 = .pointer u:=by cases u<;>rfl
  rw [i]
  split at k
  ·rename_i s y a
   split at k
   ·rename_i g
    obtain ⟨rfl,rfl⟩:=zBb g;cases k;have d:=M.res id;rw [f.1 id (List.mem_singleton.2 rfl),a] at d;obtain ⟨r,q,h1,h2⟩:=d;rw [h1] at e; cases e;exact h2.rp j fun b o=>f.2 b (by rw [zdr]; exact List.mem_append_left _ o)
   ·cases k
  ·rename_i a
   cases k;have d:=M.res id;rw [f.1 id (List.mem_singleton.2 rfl),a] at d;obtain ⟨q,h1,h2⟩:=d;rw [h1] at e; cases e;exact .pn0 n
  ·cases k
 ·cases k
theorem zw6 (M:Mem P G w0 h0 F L2 w ν h φ) (hH:h.le H):∀(d:Nat) (t:Ty) (c:CV τ) (x:t.den τ) (m:List Nat) (v:Value),lok G L d t c=some (x,m)→zcd L2 L φ H w m→zdg P G h ν c v→Rp P G H t x v
 | 0,t,c,x,m,v,k,_,_=>by cases k
 | d + 1,t,c,x,m,v,k,ha,hv=>by
  have ih:=zw6 M hH d;unfold lok at k;cases t<;>dsimp only at k
  case sl e=>exact zDI M hH k ha.1 ha.2 hv
  case so te e=>exact .so te e x v (zDI M hH k ha.1 ha.2 hv)
  case pt n=>exact zDJ M hH ih k ha hv
  case po n=>exact .po n x v (zDJ M hH ih k ha hv)
  case pn n =>
   split at k
   ·cases k; cases hv; exact .pn0 n
   ·split at k
    ·rename_i hx
     obtain ⟨rfl,rfl⟩:=zBb hx;cases k;exact Rp.le hH hv
    ·cases k
   ·split at k
    ·rename_i hy
     cases k;exact zPb M hH hy ha hv
    ·split at k
     ·rename_i y m' hy
      cases k;exact .pn1 n y v (zDJ M hH ih hy ha hv)
     ·cases k
  case fn =>
   split at k
   ·cases k; exact Rp.le hH hv
   ·split at k
    ·rename_i f m hm
     cases k; cases hv;exact .fn _ _ (M.fp _ (znE hm))
    ·cases k
   ·cases k
  case fc f =>
   split at k
   ·rename_i g
    cases hb:Nat.beq g f with
    | false=>rw [hb] at k; cases k
    | true =>
     rw [hb] at k;cases k
     have:g=f:=by simpa using hb
     subst this;cases hv;exact .fc g
   ·cases k
  case mv f =>
   split at k
   ·rename_i g
    cases hb:Nat.beq g f with
    | false=>rw [hb] at k; cases k
    | true =>
     rw [hb] at k;cases k
     have:g=f:=by simpa using hb
     subst this;exact Rp.le hH hv
   ·rename_i g i
    cases hb:Nat.beq g f with
    | false=>rw [hb] at k; cases k
    | true =>
     rw [hb] at k;cases k
     have:g=f:=by simpa using hb
     subst this;obtain ⟨u,q,_,rfl⟩:=hv;exact .mv _ _
   ·cases k
  case cl f t' =>
   split at k
   ·rename_i g t2 y
    cases hb:Nat.beq g f with
    | false=>rw [hb] at k; cases k
    | true =>
     rw [hb] at k;dsimp only [cond_true] at k
     have:g=f:=by simpa using hb
     subst this
     split at k
     ·rename_i hx
      obtain ⟨rfl,rfl⟩:=zOz hx;cases k;exact Rp.le hH hv
     ·cases k
   ·rename_i id
    split at k
    ·rename_i g c' hl
     cases hb:Nat.beq g f with
     | false=>rw [hb] at k; cases k
     | true =>
      rw [hb] at k;dsimp only [cond_true] at k
      have:g=f:=by simpa using hb
      subst this
      split at k
      ·rename_i x' m' hx
       cases k;obtain ⟨f',us,vs,q,hν,rfl⟩:=hv;have hr:=M.res id;rw [ha.1 id (List.mem_cons_self ..),hl] at hr;obtain ⟨us',vs',q',h1,_,h2,h3⟩:=hr;rw [hν] at h1;cases h1;obtain rfl:us=[]:=h2;obtain ⟨v',_,rfl,h4,rfl⟩:=h3;exact .cl _ _ _ _ (ih _ _ _ _ _ hx (zcd.app (l:=[id]) ha).2 h4)
      ·cases k
    ·cases k
   ·cases k
  all_goals first|(cases k; done)|(split at k<;>first|(cases k; done)|(cases k; cases hv; constructor))
theorem zeP {l:List Nat} {i:Nat}:mem l i=true↔i∈l:=by simp [ztR,List.any_eq_true]
theorem zvM:∀{l m:List Nat},nod (l++m)=true→nod l=true∧nod m=true∧∀i∈l,i∉m
 | [],m,h=>⟨rfl,h,fun i hi=>by cases hi⟩
 | a::l,m,h=>by
  simp only [List.cons_append,nod,Bool.and_eq_true,Bool.not_eq_true'] at h;obtain ⟨h1,h2⟩:=h;obtain ⟨d,c,b⟩:=zvM h2
  have hn:a∉l++m:=fun e=>by rw [zeP.2 e] at h1; cases h1
  refine ⟨?_,c,fun i hi=>?_⟩
  ·simp only [nod,Bool.and_eq_true,Bool.not_eq_true'];exact ⟨Bool.eq_false_iff.2 fun e=>hn (List.mem_append_left _ (zeP.1 e)),d⟩
  ·rcases List.mem_cons.1 hi with rfl|hi
   ·exact fun e=>hn (List.mem_append_right _ e)
   ·exact b i hi
theorem zw7 {l m:List Nat} (h:zy8 l m=true):∀i∈l,i∉m:=by
 intro i hi e;have:=List.all_eq_true.1 (zBd l m▸h) i hi;rw [zeP.2 e] at this;cases this
theorem Mem.fps_dis (M:Mem P G w0 h0 F L2 w ν h φ) {l m:List Nat} (h:∀i∈l,i∉m):∀b∈fps φ l,b∉fps φ m:=by
 intro b h1 h2;obtain ⟨i,hi,c⟩:=zeZ.1 h1;obtain ⟨j,d,a⟩:=zeZ.1 h2;exact h i hi (M.dis i j b c a▸d)
theorem zDK (M:Mem P G w0 h0 F L2 w ν h φ) {f:(t:Ty)→CV τ→Rs (t.den τ)}
  (a:∀t c x l m v,f t c=some (x,l,m)→(∀i∈l,lk L2 i=lk L i)→zcd L2 L φ H w m→nod l=true→zdg P G h ν c v→Tr P G H w t x v (fps φ l)) :
  ∀{ts:List Ty} {cs:List (CV τ)} {q:DP τ ts} {vs:List Value} {l m:List Nat},zJx f ts cs=some (q,l,m)→(∀i∈l,lk L2 i=lk L i)→zcd L2 L φ H w m→nod l=true→CVs P G h ν cs vs→TrL P G H w ts q vs (fps φ l)
 | [],[],q,vs,_,_,e,_,_,_,p=>by cases e; cases p; exact .nil
 | t::ts,c::cs,q,_,_,_,e,b,d,hn,⟨v,us,rfl,h1,h2⟩=>by
  unfold zJx at e
  split at e
  ·rename_i x l m j
   split at e
   ·rename_i r s u g
    cases e;obtain ⟨n,o,k⟩:=zvM hn;rw [zfy];refine .cons t ts _ v us _ _ ?_ ?_ (M.fps_dis k)
    ·rw [DP.hd_mk]; exact a _ _ _ _ _ _ j (fun i hi=>b i (List.mem_append_left _ hi)) d.app.1 n h1
    ·rw [DP.tl_mk]; exact zDK M a g (fun i hi=>b i (List.mem_append_right _ hi)) d.app.2 o h2
   ·cases e
  ·cases e
 | [],_::_,_,_,_,_,e,_,_,_,_=>by cases e
 | _::_,[],_,_,_,_,e,_,_,_,_=>by cases e
theorem zL1:∀{ts:List Ty},noM ts=true→∀{vs:List Value},MvOk ts vs
 | [],_,vs,i,f,h=>by simp at h
 | t::ts,a,vs,i,f,h=>by
  simp only [noM,Bool.and_eq_true] at a
  cases i with
  | zero =>
   simp only [List.getElem?_cons_zero,Option.some.injEq] at h;subst h;exact absurd a.1 (by simp)
  | succ i =>
   have c:=zL1 a.2 (vs:=[]) i f (by simpa using h);obtain ⟨u,b,_⟩:=c;simp at b
theorem zL2 {i:Nat} {u:Option Addr} {q:Option ((e:Ty) × List (e.den τ))} (hν:ν i=some (.pointer u,q)):∀{ts:List Ty} {cs:List (CV τ)} {vs:List Value},okM i ts cs=true→CVs P G h ν cs vs→ts.length≤cs.length→∀(k:Nat) (f:Nat),ts[k]? = some (.mv f)→vs[k]? = some (.func (.func f) #[.pointer u] #[])
 | [],_,_,_,_,_,k,f,e=>by simp at e
 | _::_,[],_,_,_,b,_,_,_=>by simp at b
 | t::ts,c::cs,_,a,⟨v,us,rfl,h1,h2⟩,b,k,f,e=>by
  simp only [okM,Bool.and_eq_true] at a
  cases k with
  | succ k=>simpa using zL2 hν a.2 h2 (by simpa using b) k f (by simpa using e)
  | zero =>
   simp only [List.getElem?_cons_zero,Option.some.injEq] at e;subst e
   replace a:=a.1
   dsimp only at a
   split at a
   ·rename_i g j
    simp only [Bool.and_eq_true,Nat.beq_eq] at a;obtain ⟨rfl,rfl⟩:=a;obtain ⟨m,l,d,rfl⟩:=h1;rw [hν] at d;cases d;rfl
   ·cases a
theorem zF7 {f:(t:Ty)→CV τ→Rs (t.den τ)}:∀{ts:List Ty} {cs:List (CV τ)} {r:DP τ ts × List Nat × List Nat},zJx f ts cs=some r→ts.length=cs.length
 | [],[],_,_=>rfl
 | t::ts,c::cs,r,e=>by
  unfold zJx at e
  split at e
  ·split at e
   ·rename_i a; simp [zF7 a]
   ·cases e
  ·cases e
 | [],_::_,_,e=>by cases e
 | _::_,[],_,e=>by cases e
theorem okN_ok {ts:List Ty} {cs:List (CV τ)} (h1:okN ts cs=true) (h2:CVs P G h ν cs vs) (c:ts.length≤cs.length):MvOk ts vs:=by
 unfold okN at h1
 split at h1
 ·rename_i i cs
  obtain ⟨v,us,rfl,⟨u,q,a,rfl,b⟩,g⟩:=h2;have d:=zL2 a h1 (show CVs P G h ν (.pt i 0::cs) _ from ⟨_,us,rfl,⟨u,q,a,rfl,b⟩,g⟩) c;intro k f e;refine ⟨.pointer u,?_,d k f e⟩;cases u<;>rfl
 ·exact zL1 h1
theorem zJI {i:Nat} {u:Option Addr} {q:Option ((e:Ty) × List (e.den τ))} (hν:ν i=some (.pointer u,q)):∀{ts:List Ty} {cs:List (CV τ)} {vs:List Value},CVs P G h ν cs vs→(∀(k:Nat) (f:Nat),ts[k]? = some (.mv f)→vs[k]? = some (.func (.func f) #[.pointer u] #[]))→CVs P G h ν (fixM i ts cs) vs
 | [],cs,vs,h1,_=>h1
 | _::_,[],vs,h1,_=>h1
 | t::ts,c::cs,_,⟨v,us,rfl,h1,h2⟩,hm=>by
  refine ⟨v,us,rfl,?_,zJI hν h2 fun k f e=>by simpa using hm (k+1) f (by simpa using e)⟩;cases t
  case mv f =>
   have:=hm 0 f rfl;simp only [List.getElem?_cons_zero,Option.some.injEq] at this;exact ⟨u,q,hν,this⟩
  all_goals exact h1
theorem zJJ {ts:List Ty} {cs:List (CV τ)} (h1:CVs P G h ν cs vs) (c:MvOk ts vs):CVs P G h ν (zJy ts cs) vs:=by
 unfold zJy
 split
 ·rename_i i cs
  cases noM ts with
  | true=>exact h1
  | false =>
   have h0:=h1;obtain ⟨v,us,rfl,⟨u,q,b,rfl,g⟩,l⟩:=h0;refine zJI b h1 fun k f e=>?_;obtain ⟨j,a,d⟩:=c k f e;simp only [List.getElem?_cons_zero,Option.some.injEq] at a;rw [d, ← a];cases u<;>rfl
 ·exact h1
theorem zJK (M:Mem P G w0 h0 F L2 w ν h φ) {f:(t:Ty)→CV τ→Rs (t.den τ)}
  (A:∀t c x l m v,f t c=some (x,l,m)→(∀i∈l,lk L2 i=lk L i)→zcd L2 L φ H w m→nod l=true→zdg P G h ν c v→Tr P G H w t x v (fps φ l))
  {n id:Nat} {x:τ n} {l m:List Nat} {v:Value} (k:resP f G L n id=some (x,l,m)) (o:∀i∈l,lk L2 i=lk L i) (E:zcd L2 L φ H w m) (hn:nod l=true) (I:zdg P G h ν (.pt id 0) v):Tr P G H w (.po n) x v (fps φ l):=by
 unfold resP at k
 split at k
 ·rename_i t cs e
  cases a:(Nat.beq t (G.ti n)&&okN (G.fs n) cs) with
  | false=>rw [a] at k; cases k
  | true =>
   rw [a] at k;dsimp only [cond_true] at k;simp only [Bool.and_eq_true,Nat.beq_eq] at a;obtain ⟨a,d⟩:=a
   split at k
   ·rename_i p C N g
    cases k;have y:t=G.ti n:=a;have s:=M.res id;rw [o id (List.mem_cons_self ..),e] at s;obtain ⟨b,q,vs,h1,h2,B,r⟩:=s;obtain ⟨u,J,j,rfl,_⟩:=I;rw [h1] at j;cases j;obtain ⟨K,D,z⟩:=zvM (l:=[id]) hn;have hd:=M.fps_dis (l:=[id]) (m:=C) z;rw [zdr,h2];refine .po n _ b vs _ (y▸B) ?_ (fun hc=>hd b (by rw [zdr,h2]; simp) hc) (okN_ok d r (Nat.le_of_eq (zF7 g)));rw [G.dc];exact zDK M A g (fun i hi=>o i (List.mem_cons_of_mem _ hi)) E D r
   ·cases k
 ·cases k
theorem zL3 {t sz n m lo k c o:Nat} {a s:Option Addr} (h:zhj G w t sz (.slice a n c) m vs) (A:lo+k≤m) (hd:lo=0∨G.dr t=true) (hc:o+lo=c) (p:s=if c=lo then a else a.map (·.add (lo*sz))) :
  zhj G w t sz (.slice s k o) k ((vs.take ((lo+k)*sz)).drop (lo*sz))∧(Value.slice s k o).ownBlock=(Value.slice a n c).ownBlock:=by
 obtain ⟨h1,h2⟩:=h;have u:(lo+k)*sz≤m*sz:=Nat.mul_le_mul_right _ A;have q:(lo+k)*sz=lo*sz+k*sz:=Nat.add_mul ..
 have b:((vs.take ((lo+k)*sz)).drop (lo*sz)).length=k*sz:=by rw [List.length_drop,List.length_take]; omega
 rcases h2 with ⟨e,E⟩|⟨g,d,cap,cur,e,x,z,C,D,y,B⟩
 ·cases e
  have l:k=0:=by omega
  have j:o=0:=by omega
  subst l; subst j
  have:s=none:=by rw [p]; split<;>rfl
  subst this;exact ⟨⟨b,.inl ⟨rfl,rfl⟩⟩,rfl⟩
 ·cases e
  by_cases f:c=lo
  ·rw [if_pos f] at p;subst p
   have l:k=0:=by omega
   have j:o=0:=by omega
   subst l; subst j;refine ⟨⟨b,.inr ⟨g,d,0,cur,rfl,fun i=>?_,z,Nat.le_refl _,Nat.zero_le _,?_,?_⟩⟩,rfl⟩
   ·rcases hd with h0|h0
    ·obtain ⟨rfl,v⟩:=x i;exact ⟨rfl,by rw [v,f,h0]⟩
    ·rw [h0] at i; cases i
   ·exact Nat.le_trans (Nat.mul_le_mul_right _ (by omega)) y
   ·rw [Nat.zero_mul,List.take_zero];exact (List.eq_nil_of_length_eq_zero (by rw [b,Nat.zero_mul])).symm
  ·rw [if_neg f] at p
   have r:(⟨g,d*sz,none⟩:Addr).add (lo*sz)=⟨g,(d+lo)*sz,none⟩:=by rw [Nat.add_mul]; unfold Addr.add; split<;>simp_all
   simp only [Option.map_some,r] at p;subst p;refine ⟨⟨b,.inr ⟨g,d+lo,o,cur,rfl,fun i=>?_,z,by omega,by omega,?_,?_⟩⟩,rfl⟩
   ·rcases hd with h0|h0
    ·obtain ⟨rfl,v⟩:=x i;subst h0;exact ⟨rfl,by rw [v, ← hc,Nat.add_zero]⟩
    ·rw [h0] at i; cases i
   ·rw [show d+lo+o=d+c by omega]; exact y
   ·rw [← B,List.take_take,Nat.min_eq_left u,List.drop_take,List.drop_drop,q,Nat.add_sub_cancel_left,Nat.add_mul]
theorem zDL (M:Mem P G w0 h0 F L2 w ν h φ) (hH:h.le H):∀(d:Nat) (t:Ty) (c:CV τ) (x:t.den τ) (l m:List Nat) (v:Value),res G L d t c=some (x,l,m)→(∀i∈l,lk L2 i=lk L i)→zcd L2 L φ H w m→nod l=true→zdg P G h ν c v→Tr P G H w t x v (fps φ l)
 | 0,t,c,x,l,m,v,k,_,_,_,_=>by cases k
 | d + 1,t,c,x,l,m,v,k,ha,hm,hn,hv=>by
  have ih:=zDL M hH d
  have hlok:frz t=true→(match lok G L (d+1) t c with
   | some (x,m)=>some (x,[],m)
   | none=>none)=some (x,l,m)→Tr P G H w t x v (fps φ l):=by
   intro hz k
   split at k
   ·rename_i x' m' hx
    cases k;exact .fz t x v hz (zw6 M hH _ _ _ _ _ _ hx hm hv)
   ·cases k
  unfold res at k;cases t<;>dsimp only at k
  case so te e =>
   split at k
   ·cases k; cases hv;exact .so te e [] _ [] ⟨by simp,.inl ⟨rfl,rfl⟩⟩ (.nil _)
   ·rename_i id
    split at k
    ·rename_i te' e' xs kk hlk
     cases hb:Nat.beq te te' with
     | false=>rw [hb] at k; cases k
     | true =>
      rw [hb] at k;dsimp only [cond_true] at k
      split at k
      ·rename_i hx
       obtain ⟨rfl,rfl⟩:=zhi hx;cases k
       have ht:te=te':=by simpa using hb
       subst ht;have hr:=M.res id;rw [ha id (List.mem_singleton.2 rfl),hlk] at hr;obtain ⟨v',q',vs,u,h1,h2,h3,h4,_⟩:=hr;obtain ⟨ad,n,cp,q,hν,rfl⟩:=hv;rw [hν] at h1;cases h1;rw [zdr,h2,show fps φ []=[] from rfl,List.append_nil];exact .so te _ _ _ vs h3 (h4.le hH)
      ·cases k
    ·rename_i i kk e0 lo xs hlk
     split at k
     ·rename_i te' e' ys k2 hlk2
      cases hb:(Nat.beq te te'&&(Nat.beq kk k2&&(Nat.beq lo 0||G.dr te))) with
      | false=>rw [hb] at k; cases k
      | true =>
       rw [hb] at k;dsimp only [cond_true] at k;simp only [Bool.and_eq_true,Bool.or_eq_true,Nat.beq_eq] at hb;obtain ⟨rfl,rfl,hdr⟩:=hb
       split at k
       ·rename_i hx
        obtain ⟨rfl,rfl⟩:=zhi hx;cases k;have hr:=M.res id;rw [ha id (List.mem_cons_self ..),hlk] at hr;obtain ⟨a1,n1,c1,q1,q2,u1,ys1,a2,c2,g1,g2,g3,g4,g5,g6,g7,g8⟩:=hr;have hr2:=M.res i;rw [ha i (List.mem_cons_of_mem _ (List.mem_cons_self ..)),hlk2] at hr2;obtain ⟨v',q',vs,u,h1,h2,h3,h4,h5⟩:=hr2;rw [g1] at h1;cases h1;rw [g2] at h5
        injection h5 with h5
        injection h5 with _ h5
        injection h5 with h5
        cases h5;obtain ⟨ad,n,cp,q,hν,rfl⟩:=hv;rw [hν] at g5;cases g5;obtain ⟨_,_,g9,g10⟩:=g7;rw [zdr,g8,zdr,h2,show fps φ []=[] from rfl,List.append_nil,List.nil_append];obtain ⟨hcut,hob⟩:=zL3 (k:=xs.length) h3 g3 hdr g9 g10;have h6:=(h4.take (lo+xs.length)).drop lo;rw [← g4] at h6;rw [← hob];exact .so te _ _ _ _ hcut (h6.le hH)
       ·cases k
     ·cases k
    ·cases k
   ·cases k
  case po n =>
   cases c<;>first|(cases k; done)|skip
   rename_i id o
   cases o with
   | zero=>exact zJK M ih k ha hm hn hv
   | succ o=>cases k
  case pn n =>
   split at k
   ·cases k; cases hv; exact .pn0 n
   ·rename_i id
    split at k
    ·rename_i n' y hlk
     split at k
     ·rename_i hx
      obtain ⟨rfl,rfl⟩:=zBb hx;cases k;have hr:=M.res id;rw [ha id (List.mem_singleton.2 rfl),hlk] at hr;obtain ⟨v',q',h1,h2⟩:=hr;obtain ⟨u,q,hν,rfl,_⟩:=hv;rw [hν] at h1;cases h1;rw [zdr,show fps φ []=[] from rfl,List.append_nil];cases u<;>exact h2.of hH fun _ _=>rfl
     ·cases k
    ·rename_i hlk
     cases k;have hr:=M.res id;rw [ha id (List.mem_singleton.2 rfl),hlk] at hr;obtain ⟨q',h1,h2⟩:=hr;obtain ⟨u,q,hν,rfl,_⟩:=hv;rw [hν] at h1;cases h1;rw [zdr,h2];exact .pn0 n
    ·split at k
     ·rename_i y l' m' hy
      cases k;exact .pn1 n y v _ (zJK M ih hy ha hm hn hv)
     ·cases k
   ·cases k
  case sn te e =>
   have h1:lok G L (d+1) (.sn te e) c=none:=by unfold lok; rfl
   rw [h1] at k;cases k
  all_goals exact hlok rfl k
def up1 {α:Type} (f:Nat→α) (i:Nat) (x:α):Nat→α:=fun j=>if j=i then x else f j
theorem za0 {α:Type} (f:Nat→α) (i:Nat) (x:α):up1 f i x i=x:=by simp [up1]
theorem zbz {α:Type} (f:Nat→α) {i j:Nat} (x:α) (h:j≠i):up1 f i x j=f j:=by simp [up1,h]
theorem zbV {ν:Vn τ} {i:Nat} {x:Option (Value × Option ((e:Ty) × List (e.den τ)))} (h:ν i=none):ν.le (up1 ν i x):=by
 intro j y e;rw [zbz]
 ·exact e
 ·rintro rfl; rw [h] at e; cases e
def zhJ (w0:World) (h:Fz) (F:List Nat) (φ:Nat→List Nat) (fp:List Nat):Prop:=∀b∈fp,(∀i,b∉φ i)∧h b=none∧(b∈F∨w0.heap.size≤b)
theorem Mem.add (M:Mem P G w0 h0 F L w ν h φ) {nid:Nat} (hn:ν nid=none) (r:AR τ) (x:Value × Option ((e:Ty) × List (e.den τ))) {fp:List Nat} (k:znb P G h (up1 ν nid (some x)) w r (some x) fp) (d:zhJ w0 h F φ fp) :
  Mem P G w0 h0 F ((nid,r)::L) w (up1 ν nid (some x)) h (up1 φ nid fp):=by
 refine ⟨M.os,M.tape,M.output,M.size,M.frame,M.le,M.on,M.new,?_,?_,?_,M.gl,M.fp⟩
 ·intro i
  by_cases e:nid=i
  ·subst e;rw [za0,za0]
   have:lk ((nid,r)::L) nid=r:=by simp [zvo,znK]
   rw [this]; exact k
  ·have:lk ((nid,r)::L) i=lk L i:=by simp [zvo,znK,zcL.2 e]
   have f:=(M.res i).of (w':=w) (Fz.le.refl _) (zbV (x:=some x) hn) fun _ _=>rfl;rw [this,zbz φ fp (Ne.symm e)];exact f
 ·intro i j b h1 h2
  by_cases g:i=nid
  ·by_cases a:j=nid
   ·rw [g,a]
   ·subst g;rw [za0] at h1;rw [zbz _ _ a] at h2;exact ((d b h1).1 j h2).elim
  ·rw [zbz _ _ g] at h1
   by_cases a:j=nid
   ·subst a;rw [za0] at h2;exact ((d b h2).1 i h1).elim
   ·rw [zbz _ _ a] at h2;exact M.dis i j b h1 h2
 ·intro i b c
  by_cases e:i=nid
  ·subst e;rw [za0] at c;exact (d b c).2
  ·rw [zbz _ _ e] at c;exact M.out i b c
structure Grew (P:Program) (G:Sig τ) (w0:World) (h0:Fz) (F:List Nat) (L:Hp τ) (w:World) (ν:Vn τ) (h:Fz) (φ:Nat→List Nat) (U:Hp τ) (nid nid':Nat) (fp:List Nat) (ν':Vn τ) (φ':Nat→List Nat):Prop where
 up:nid≤nid'
 mem:Mem P G w0 h0 F (U++L) w ν' h φ'
 le:ν.le ν'
 same:∀i, ¬(nid≤i∧i<nid')→ν' i=ν i∧φ' i=φ i
 fp:∀i b,nid≤i→i<nid'→b∈φ' i→b∈fp
theorem Grew.nil (M:Mem P G w0 h0 F L w ν h φ) (nid:Nat) (fp:List Nat):Grew P G w0 h0 F L w ν h φ [] nid nid fp ν φ :=
 ⟨Nat.le_refl _,M,Vn.le.refl _,fun _ _=>⟨rfl,rfl⟩,fun i b h1 h2=>by omega⟩
theorem Grew.one (M:Mem P G w0 h0 F L w ν h φ) {nid:Nat} (hn:ν nid=none) (r:AR τ) (x:Value × Option ((e:Ty) × List (e.den τ))) {fp:List Nat} (c:znb P G h (up1 ν nid (some x)) w r (some x) fp) (d:zhJ w0 h F φ fp) :
  Grew P G w0 h0 F L w ν h φ [(nid,r)] nid (nid+1) fp (up1 ν nid (some x)) (up1 φ nid fp) :=
 ⟨by omega,M.add hn r x c d,zbV hn,fun i hi=>⟨zbz _ _ (by rintro rfl; exact hi ⟨by omega,by omega⟩),zbz _ _ (by rintro rfl; exact hi ⟨by omega,by omega⟩)⟩,fun i b h1 h2 a=>by
  have:i=nid:=by omega
  subst this
  rwa [za0] at a⟩
theorem zhJ.grew {U:Hp τ} {nid a:Nat} {fp fp':List Nat} (g:Grew P G w0 h0 F L w ν h φ U nid a fp ν' φ') (d:zhJ w0 h F φ fp') (hd:∀b∈fp',b∉fp):zhJ w0 h F φ' fp':=by
 intro b c;refine ⟨fun i hi=>?_,(d b c).2⟩
 by_cases e:nid≤i∧i<a
 ·exact hd b c (g.fp i b e.1 e.2 hi)
 ·rw [(g.same i e).2] at hi;exact (d b c).1 i hi
theorem zhJ.sub {fp fp':List Nat} (d:zhJ w0 h F φ fp) (c:∀b∈fp',b∈fp):zhJ w0 h F φ fp':=fun b a=>d b (c b a)
def ExpOk (P:Program) (G:Sig τ) (w0:World) (h0:Fz) (F:List Nat) (w:World) (h:Fz) (f:(t:Ty)→t.den τ→Nat→CV τ × Hp τ × Nat):Prop :=
 ∀(t:Ty) (x:t.den τ) (nid:Nat) (c:CV τ) (U:Hp τ) (a:Nat) (v:Value) (fp:List Nat) (L:Hp τ) (ν:Vn τ) (φ:Nat→List Nat),f t x nid=(c,U,a)→Tr P G h w t x v fp→Mem P G w0 h0 F L w ν h φ →
  (∀i,nid≤i→i<a→ν i=none)→zhJ w0 h F φ fp→∃ν' φ',Grew P G w0 h0 F L w ν h φ U nid a fp ν' φ'∧zdg P G h ν' c v
theorem zku {f:(t:Ty)→t.den τ→Nat→CV τ × Hp τ × Nat} (b:∀t x nid c U a,f t x nid=(c,U,a)→nid≤a):∀{ts:List Ty} {q:DP τ ts} {nid:Nat} {cs:List (CV τ)} {U:Hp τ} {a:Nat},zCM f ts q nid=(cs,U,a)→nid≤a
 | [],q,nid,cs,U,a,e=>by cases e; exact Nat.le_refl _
 | t::ts,q,nid,cs,U,a,e=>by
  unfold zCM at e
  split at e
  rename_i c j g h1
  split at e
  rename_i d i h h2
  cases e;exact Nat.le_trans (b _ _ _ _ _ _ h1) (zku b h2)
theorem zgz (G:Sig τ):∀(d:Nat) (t:Ty) (x:t.den τ) (nid:Nat) (c:CV τ) (U:Hp τ) (nid':Nat),ztj G d t x nid=(c,U,nid')→nid≤nid':=by
 intro d
 induction d with
 | zero=>intro t x nid c U nid' e; cases t<;>simp only [ztj,Prod.mk.injEq] at e<;>omega
 | succ d ih =>
  intro t x nid c U nid' e;cases t
  case po n =>
   unfold ztj at e
   split at e
   rename_i cs U1 n1 h1
   cases e;exact Nat.le_trans (Nat.le_succ _) (zku ih h1)
  all_goals (simp only [ztj,Prod.mk.injEq] at e; omega)
theorem zy9 {f:(t:Ty)→t.den τ→Nat→CV τ × Hp τ × Nat} (g:∀t x nid c U d,f t x nid=(c,U,d)→nid≤d) (o:ExpOk P G w0 h0 F w h f) :
  ∀{ts:List Ty} {q:DP τ ts} {nid:Nat} {cs:List (CV τ)} {U:Hp τ} {d:Nat} {vs:List Value} {fp:List Nat} {L:Hp τ} {ν:Vn τ} {φ:Nat→List Nat},zCM f ts q nid=(cs,U,d)→TrL P G h w ts q vs fp→Mem P G w0 h0 F L w ν h φ →
   (∀i,nid≤i→i<d→ν i=none)→zhJ w0 h F φ fp→∃ν' φ',Grew P G w0 h0 F L w ν h φ U nid d fp ν' φ'∧CVs P G h ν' cs vs
 | [],q,nid,cs,U,d,vs,fp,L, ν, φ,e,n,M,hn,k=>by
  cases e; cases n;exact ⟨ν, φ,Grew.nil M _ _,rfl⟩
 | t::ts,q,nid,cs,U,d,vs,fp,L, ν, φ,e,n,M,hn,k=>by
  unfold zCM at e
  split at e
  rename_i c N r h1
  split at e
  rename_i A I E h2
  cases e
  cases n with
  | cons _ _ _ v us J K y t2 hd =>
   have H:=g _ _ _ _ _ _ h1;have D:=zku g h2;obtain ⟨ν1, φ1,l,z⟩:=zy9 g o h2 t2 M (fun i a b=>hn i (by omega) b) (k.sub fun b j=>List.mem_append_right _ j);obtain ⟨ν2, φ2,m,s⟩:=o _ _ _ _ _ _ _ _ _ _ _ h1 y l.mem (fun i a b=>by rw [(l.same i (by omega)).1]; exact hn i a (by omega))
    (zhJ.grew l (k.sub fun b j=>List.mem_append_left _ j) hd)
   refine ⟨ν2, φ2,⟨by omega,by rw [List.append_assoc]; exact m.mem,l.le.trans m.le,fun i hi=>?_,fun i b a u j=>?_⟩,v,us,rfl,s,z.le (Fz.le.refl _) m.le⟩
   ·obtain ⟨B,a2⟩:=l.same i (by omega);obtain ⟨p,C⟩:=m.same i (by omega);exact ⟨p.trans B,C.trans a2⟩
   ·by_cases hi:i<r
    ·exact List.mem_append_left _ (m.fp i b a hi j)
    ·rw [(m.same i (by omega)).2] at j;exact List.mem_append_right _ (l.fp i b (by omega) u j)
theorem so_res {b:TypeId} {xs:List (e.den τ)} {fp:List Nat} (i:Tr P G h w (.so b e) xs v fp):fp=v.ownBlock.toList∧(∃a n c,v = .slice a n c)∧∃vs,zhj G w b (ets G e).length v xs.length vs∧RpR P G h e xs vs:=by
 cases i with
 | fz _ _ _ j _=>cases j
 | so _ _ _ _ vs f k =>
  refine ⟨rfl,?_,vs,f,k⟩;obtain ⟨_,⟨rfl,_⟩|⟨g,d,cap,cur,rfl,_⟩⟩:=f
  ·exact ⟨_,_,_,rfl⟩
  ·exact ⟨_,_,_,rfl⟩
theorem zL4 {n:Nat} {x:Option (τ n)} {fp:List Nat} (c:Tr P G h w (.pn n) x v fp):∃u,v = .pointer u:=by
 cases c with
 | fz _ _ _ a _=>cases a
 | pn0 _=>exact ⟨_,rfl⟩
 | pn1 _ _ _ _ hp =>
  cases hp with
  | fz _ _ _ a _=>cases a
  | po _ _ b vs fp d e hn _=>exact ⟨_,rfl⟩
theorem zDM (d:Nat):ExpOk P G w0 h0 F w h (ztj G d):=by
 induction d with
 | zero =>
  intro t x nid c U nid' v fp L ν φ e ht M hn hfr;exact base t x nid c U nid' v fp L ν φ (by cases t<;>exact e) ht M hn hfr
 | succ d ih =>
  intro t x nid c U nid' v fp L ν φ e ht M hn hfr
  by_cases hp:∃n,t = .po n
  ·obtain ⟨n,rfl⟩:=hp;unfold ztj at e
   split at e
   rename_i cs U1 n1 h1
   cases e;have l1:=zku (zgz G d) h1
   cases ht with
   | fz _ _ _ hz _=>cases hz
   | po _ _ b vs fp hb hl hnb hmv =>
    obtain ⟨ν1, φ1,g1,c1⟩:=zy9 (zgz G d) ih h1 hl M (fun i a b=>hn i (by omega) b) (hfr.sub fun b hb=>List.mem_cons_of_mem _ hb)
    have hν1:ν1 nid=none:=by rw [(g1.same nid (by omega)).1]; exact hn nid (Nat.le_refl _) (by omega)
    have hf1:=zhJ.grew g1 (hfr.sub (fp':=[b]) fun b' hb'=>by rw [List.mem_singleton.1 hb']; exact List.mem_cons_self ..) fun b' hb'=>by rw [List.mem_singleton.1 hb']; exact hnb
    have M2:=g1.mem.add hν1 (.blk (G.ti n) (zJy (G.fs n) cs)) (ptr b 0,none) (fp:=[b]) ⟨b,none,vs,rfl,rfl,hb,(zJJ c1 hmv).le (Fz.le.refl _) (zbV hν1)⟩ hf1;refine ⟨_,_,⟨by omega,M2,g1.le.trans (zbV hν1),fun i hi=>?_,fun i b' a a' hb'=>?_⟩,⟨some ⟨b,0,none⟩,none,za0 _ _ _,rfl,fun e=>(e rfl).elim⟩⟩
    ·have hne:i≠nid:=by rintro rfl; exact hi ⟨Nat.le_refl _,by omega⟩
     rw [zbz _ _ hne,zbz _ _ hne];exact g1.same i (by omega)
    ·by_cases e:i=nid
     ·subst e;rw [za0] at hb';rw [List.mem_singleton.1 hb']; exact List.mem_cons_self ..
     ·rw [zbz _ _ e] at hb';exact List.mem_cons_of_mem _ (g1.fp i b' (by omega) a' hb')
  ·exact base t x nid c U nid' v fp L ν φ (by cases t<;>first|exact e|exact absurd ⟨_,rfl⟩ hp) ht M hn hfr
where
 base (t:Ty) (x:t.den τ) (nid:Nat) (c:CV τ) (U:Hp τ) (nid':Nat) (v:Value) (fp:List Nat) (L:Hp τ) (ν:Vn τ) (φ:Nat→List Nat) (e:ztj G 0 t x nid=(c,U,nid')) (ht:Tr P G h w t x v fp) (M:Mem P G w0 h0 F L w ν h φ)
  (hn:∀i,nid≤i→i<nid'→ν i=none) (hfr:zhJ w0 h F φ fp):∃ν' φ',Grew P G w0 h0 F L w ν h φ U nid nid' fp ν' φ'∧zdg P G h ν' c v:=by
  have flat:frz t=true→ztj G 0 t x nid=(t.av x,[],nid)→∃ν' φ',Grew P G w0 h0 F L w ν h φ U nid nid' fp ν' φ'∧zdg P G h ν' c v:=by
   intro hz e2;rw [e] at e2;cases e2
   cases ht with
   | fz _ _ _ _ hr=>exact ⟨ν, φ,Grew.nil M _ _,zJH hr⟩
   | _=>cases hz
  cases t
  case so te e' =>
   cases e;obtain ⟨rfl,⟨a,n,c,rfl⟩,vs,ho,hr⟩:=so_res ht;have hn':=hn nid (Nat.le_refl _) (Nat.lt_succ_self _);exact ⟨_,_,Grew.one M hn' (.row te e' x nid) (.slice a n c,some ⟨e',x⟩) ⟨_,_,vs,_,rfl,rfl,ho,hr,za0 _ _ _⟩ hfr,a,n,c,_,za0 _ _ _,rfl⟩
  case po n =>
   cases e;have hn':=hn nid (Nat.le_refl _) (Nat.lt_succ_self _);have ht':=Tr.pn1 n x v fp ht;obtain ⟨u,rfl⟩:=zL4 ht';exact ⟨_,_,Grew.one M hn' (.tree n (some x)) (.pointer u,none) ⟨_,_,rfl,ht'⟩ hfr,u,none,za0 _ _ _,by cases u<;>rfl,fun e=>(e rfl).elim⟩
  case pn n =>
   cases e;have hn':=hn nid (Nat.le_refl _) (Nat.lt_succ_self _);obtain ⟨u,rfl⟩:=zL4 ht;exact ⟨_,_,Grew.one M hn' (.tree n x) (.pointer u,none) ⟨_,_,rfl,ht⟩ hfr,u,none,za0 _ _ _,by cases u<;>rfl,fun e=>(e rfl).elim⟩
  case sn te e0=>cases ht with|fz _ _ _ hz _=>cases hz
  all_goals exact flat rfl rfl
end
end Go.Rk
end
section
namespace Go.Rk
open Go.RowKit Go.Dm Go.Dk
variable {τ:Nat→Type}
variable {fp:List Nat}
section
variable {P:Program} {G:Sig τ} {w0 w w':World} {h0 h h' H:Fz} {F:List Nat} {L L' L2:Hp τ} {ν ν':Vn τ} {φ φ':Nat→List Nat}
theorem Mem.congr (M:Mem P G w0 h0 F L w ν h φ) (a:∀i,lk L' i=lk L i):Mem P G w0 h0 F L' w ν h φ :=
 ⟨M.os,M.tape,M.output,M.size,M.frame,M.le,M.on,M.new,fun i=>by rw [a]; exact M.res i,M.dis,M.out,M.gl,M.fp⟩
theorem Mem.ext (M:Mem P G w0 h0 F L w ν h φ) (hν:ν.le ν'):Mem P G w0 h0 F L w ν' h φ :=
 ⟨M.os,M.tape,M.output,M.size,M.frame,M.le,M.on,M.new,fun i=>(M.res i).of (Fz.le.refl _) hν fun _ _=>rfl,M.dis,M.out,M.gl,M.fp⟩
theorem zby (i:Nat) (r:AR τ) (L:Hp τ):lk ((i,r)::L) i=r:=by simp [zvo,znK]
theorem zdS {i j:Nat} (r:AR τ) (L:Hp τ) (h:j≠i):lk ((i,r)::L) j=lk L j:=by simp [zvo,znK,zcL.2 (Ne.symm h)]
theorem Mem.put (M:Mem P G w0 h0 F L w ν h φ) {i:Nat} (l:lk L i = .gone) (r:AR τ) {fp:List Nat} (g:znb P G h ν w r (ν i) fp) (f:zhJ w0 h F φ fp):Mem P G w0 h0 F ((i,r)::L) w ν h (up1 φ i fp):=by
 refine ⟨M.os,M.tape,M.output,M.size,M.frame,M.le,M.on,M.new,?_,?_,?_,M.gl,M.fp⟩
 ·intro j
  by_cases e:j=i
  ·subst e; rw [zby,za0]; exact g
  ·rw [zdS r L e,zbz φ fp e]; exact M.res j
 ·intro j k b h1 h2
  by_cases d:j=i
  ·by_cases a:k=i
   ·rw [d,a]
   ·subst d;rw [za0] at h1; rw [zbz φ fp a] at h2;exact ((f b h1).1 k h2).elim
  ·rw [zbz φ fp d] at h1
   by_cases a:k=i
   ·subst a;rw [za0] at h2;exact ((f b h2).1 j h1).elim
   ·rw [zbz φ fp a] at h2; exact M.dis j k b h1 h2
 ·intro j b c
  by_cases e:j=i
  ·subst e; rw [za0] at c; exact (f b c).2
  ·rw [zbz φ fp e] at c; exact M.out j b c
theorem Mem.drop (M:Mem P G w0 h0 F L w ν h φ) (i:Nat):Mem P G w0 h0 F ((i,.gone)::L) w ν h (up1 φ i [])∧zhJ w0 h F (up1 φ i []) (φ i):=by
 refine ⟨⟨M.os,M.tape,M.output,M.size,M.frame,M.le,M.on,M.new,?_,?_,?_,M.gl,M.fp⟩,?_⟩
 ·intro j
  by_cases e:j=i
  ·subst e; rw [zby,za0]; rfl
  ·rw [zdS _ L e,zbz φ [] e]; exact M.res j
 ·intro j k b h1 h2
  by_cases d:j=i
  ·subst d; rw [za0] at h1; cases h1
  ·by_cases f:k=i
   ·subst f; rw [za0] at h2; cases h2
   ·rw [zbz φ [] d] at h1; rw [zbz φ [] f] at h2; exact M.dis j k b h1 h2
 ·intro j b a
  by_cases e:j=i
  ·subst e; rw [za0] at a; cases a
  ·rw [zbz φ [] e] at a; exact M.out j b a
 ·intro b a;refine ⟨fun j c=>?_,M.out i b a⟩
  by_cases e:j=i
  ·subst e; rw [za0] at c; cases c
  ·rw [zbz φ [] e] at c; exact e (M.dis j i b c a)
def zdM (ν ν':Vn τ) (nid a:Nat):Prop:=∀i, ν i=none→ν' i≠none→nid≤i∧i<a
theorem zdM.refl (ν:Vn τ) (nid a:Nat):zdM ν ν nid a:=fun i h1 h2=>(h2 h1).elim
theorem Grew.fresh {U:Hp τ} {nid a:Nat} (g:Grew P G w0 h0 F L w ν h φ U nid a fp ν' φ'):zdM ν ν' nid a:=by
 intro i h1 h2
 by_cases e:nid≤i∧i<a
 ·exact e
 ·rw [(g.same i e).1] at h2; exact (h2 h1).elim
theorem zv8 {f:(t:Ty)→t.den τ→Nat→CV τ × Hp τ × Nat} (b:∀t x nid c U a,f t x nid=(c,U,a)→nid≤a) (d:∀t x nid c U a,f t x nid=(c,U,a)→∀i∈kys U,nid≤i∧i<a) :
  ∀{ts:List Ty} {q:DP τ ts} {nid:Nat} {cs:List (CV τ)} {U:Hp τ} {a:Nat},zCM f ts q nid=(cs,U,a)→∀i∈kys U,nid≤i∧i<a
 | [],q,nid,cs,U,a,e,i,hi=>by cases e; cases hi
 | t::ts,q,nid,cs,U,a,e,i,hi=>by
  unfold zCM at e
  split at e
  rename_i c n j h1
  split at e
  rename_i g m k h2
  cases e;have l:=b _ _ _ _ _ _ h1;have h:=zku b h2;simp only [kys,List.map_append] at hi
  rcases List.mem_append.1 hi with hi|hi
  ·have:=d _ _ _ _ _ _ h1 i hi; omega
  ·have:=zv8 b d h2 i hi; omega
theorem zzf (G:Sig τ):∀(d:Nat) (t:Ty) (x:t.den τ) (nid:Nat) (c:CV τ) (U:Hp τ) (nid':Nat),ztj G d t x nid=(c,U,nid')→∀i∈kys U,nid≤i∧i<nid':=by
 intro d
 induction d with
 | zero=>intro t x nid c U nid' e; cases t<;>simp only [ztj,Prod.mk.injEq] at e<;>obtain ⟨_,rfl,rfl⟩:=e<;>simp [kys]
 | succ d ih =>
  intro t x nid c U nid' e;cases t
  case po n =>
   unfold ztj at e
   split at e
   rename_i cs U1 n1 h1
   cases e;have l1:=zku (zgz G d) h1;intro i hi
   rcases List.mem_cons.1 hi with rfl|hi
   ·omega
   ·have:=zv8 (zgz G d) ih h1 i hi; omega
  all_goals (simp only [ztj,Prod.mk.injEq] at e; obtain ⟨_,rfl,rfl⟩:=e; simp [kys])
theorem zGv (M:Mem P G w0 h0 F L w ν h φ) {i n nid c:Nat} {x:τ n} {U:Hp τ} {v:Value} {q:Option ((e:Ty) × List (e.den τ))} {fp:List Nat} (e:zli G i n x nid=(U,c)) (E:lk L i = .gone) (hi:ν i=some (v,q)) (A:Tr P G h w (.po n) x v fp) (y:zhJ w0 h F φ fp)
  (hn:∀i,nid≤i→i<c→ν i=none):nid≤c∧∃ν' φ' t cs b,Mem P G w0 h0 F (U++L) w ν' h φ'∧ν.le ν'∧zdM ν ν' nid c∧v=ptr b 0∧lk U i = .blk t cs∧(∀j, ¬(nid≤j∧j<c)→j≠i→φ' j=φ j)∧∀j b,(j=i∨nid≤j∧j<c)→b∈φ' j→b∈fp:=by
 unfold zli at e
 split at e
 rename_i cs J K h1
 cases e;have C:=zku (zgz G depth) h1
 cases A with
 | fz _ _ _ H _=>cases H
 | po _ _ b vs fp s B k l =>
  obtain ⟨ν1, φ1,g,D⟩:=zy9 (zgz G depth) (zDM depth) h1 B M hn (y.sub fun b s=>List.mem_cons_of_mem _ s)
  have r:¬(nid≤i∧i<c):=fun a=>by rw [hn i a.1 a.2] at hi; cases hi
  have o:i∉kys J:=fun z=>r (zv8 (zgz G depth) (zzf G depth) h1 i z)
  have m:=zhJ.grew g (y.sub (fp':=[b]) fun u d=>by rw [List.mem_singleton.1 d]; exact List.mem_cons_self ..) fun u d=>by rw [List.mem_singleton.1 d]; exact k
  have I:=g.mem.put (i:=i) (by rw [zdh L o]; exact E) (.blk (G.ti n) (zJy (G.fs n) cs)) (fp:=[b]) ⟨b,q,vs,(g.le _ _ hi),rfl,s,zJJ D l⟩ m;refine ⟨C, ν1,_,G.ti n,zJy (G.fs n) cs,b,I,g.le,g.fresh,rfl,zby ..,fun j f p=>?_,fun j u f d=>?_⟩
  ·rw [zbz _ _ p]; exact (g.same j f).2
  ·by_cases e:j=i
   ·subst e; rw [za0] at d; rw [List.mem_singleton.1 d]; exact List.mem_cons_self ..
   ·rw [zbz _ _ e] at d;exact List.mem_cons_of_mem _ (g.fp j u (by rcases f with f|f; exact absurd f e; exact f.1) (by rcases f with f|f; exact absurd f e; exact f.2) d)
theorem zGw {i n nid a:Nat} {x:τ n} {U:Hp τ} (e:zli G i n x nid=(U,a)):∀j∈kys U,j=i∨nid≤j∧j<a:=by
 unfold zli at e
 split at e
 rename_i cs d c h1
 cases e;intro j b
 rcases List.mem_cons.1 b with rfl|b
 ·exact .inl rfl
 ·exact .inr (zv8 (zgz G depth) (zzf G depth) h1 j b)
theorem Tr.pn_some {n:Nat} {x:τ n} {v:Value} (h:Tr P G H w (.pn n) (some x) v fp):Tr P G H w (.po n) x v fp:=by
 cases h with
 | fz _ _ _ a _=>cases a
 | pn1 _ _ _ _ hp=>exact hp
theorem Tr.pn_none {n:Nat} {v:Value} (h:Tr P G H w (.pn n) none v fp):v = .pointer none∧fp=[]:=by
 cases h with
 | fz _ _ _ a _=>cases a
 | pn0 _=>exact ⟨rfl,rfl⟩
theorem zJ0 (M:Mem P G w0 h0 F L2 w ν h φ) {i n nid a:Nat} {x:τ n} {U:Hp τ} (e:zli G i n x nid=(U,a)) (o:lk L2 i = .tree n (some x)) (hn:∀i,nid≤i→i<a→ν i=none) :
  nid≤a∧∃ν' φ' b q,Mem P G w0 h0 F (U++L2) w ν' h φ'∧ν.le ν'∧zdM ν ν' nid a∧ν i=some (ptr b 0,q):=by
 have f:=M.res i;rw [o] at f;obtain ⟨v,q,d,k⟩:=f;obtain ⟨g,l⟩:=M.drop i;obtain ⟨h1, ν', φ',t,cs,b,M2,h2,m,rfl,p,_⟩:=zGv g e (zby ..) d (Tr.pn_some k) l hn;refine ⟨h1, ν', φ',b,q,M2.congr fun j=>?_,h2,m,d⟩
 by_cases c:j∈kys U
 ·rw [zhs _ c,zhs _ c]
 ·rw [zdh _ c,zdh _ c,zdS];rintro rfl
  apply c
  unfold zli at e
  split at e
  cases e;exact List.mem_cons_self ..
end
section
variable {ρ:Type} (X:Cx τ) (w0:World) (h0:Fz) (F:List Nat)
def Ok1 (o:Oper) (E:zad τ) (L:Hp τ) (nid:Nat) (v:XV τ) (U:Hp τ) (tch:List Nat) (nid':Nat):Prop :=
 ∀(L2:Hp τ) (ν:Vn τ) (h:Fz) (φ:Nat→List Nat) (a:Act) (w:World) (next:Act→World→Prop) (Q:Exit→Act→World→Prop),a.defers=[]→Mem X.P X.G w0 h0 F L2 w ν h φ→zeL X h ν a (rdO o.op) E →
  (∀i∈tch,lk L2 i=lk L i)→(∀i,nid≤i→i<nid'→ν i=none) →
  (∀ν' h' φ' w' u,Mem X.P X.G w0 h0 F (U++L2) w' ν' h' φ'→ν.le ν'→h.le h'→zdM ν ν' nid nid'→XOk X.P X.G h' ν' v u→next (a.put o.dst u) w')→o.wp X.P a w next Q
def zdD (o:Oper) (E:zad τ) (L:Hp τ) (nid:Nat) (K:Nx τ ρ) (r:ρ):Prop :=
 ∃v g U b a,K v g U b a=some r∧nid≤a∧(∀x∈g,zkm x=true)∧Ok1 X w0 h0 F o E L nid v U b a
def zv9 (op:OpF τ ρ):Prop:=∀(r:ρ) (o:Oper) (E:zad τ) (L:Hp τ) (nid:Nat) (K:Nx τ ρ),op E L nid K o.op=some r→zdD X w0 h0 F o E L nid K r
end
section
variable {ρ:Type} {X:Cx τ} {w0 w w':World} {h0:Fz} {F:List Nat} {o:Oper} {E:zad τ} {L:Hp τ} {nid nid':Nat} {K:Nx τ ρ} {r:ρ} {v:XV τ} {U:Hp τ} {tch:List Nat} {g:List (XV τ)}
theorem zgm {a:Act} {u:Value} {next:Act→World→Prop} {Q:Exit→Act→World→Prop} (hx:(execOp a.eval o).run X.P w = .ok (.value u) w') (k:next (a.put o.dst u) w'):o.wp X.P a w next Q:=by
 unfold Oper.wp; rw [hx]; exact k
theorem zIt {a:Act} {next:Act→World→Prop} {Q:Exit→Act→World→Prop} (hx:(execOp a.eval o).run X.P w = .ok .skip w') (k:next (a.put o.dst undef) w'):o.wp X.P a w next Q:=by
 unfold Oper.wp; rw [hx]; exact k
theorem zbp (e:K v [] [] tch nid=some r) (hx:∀(L2:Hp τ) ν h φ (a:Act) (w:World),a.defers=[]→Mem X.P X.G w0 h0 F L2 w ν h φ→zeL X h ν a (rdO o.op) E→(∀i∈tch,lk L2 i=lk L i)→∃u,(execOp a.eval o).run X.P w = .ok (.value u) w∧XOk X.P X.G h ν v u) :
  zdD X w0 h0 F o E L nid K r :=
 ⟨v,[],[],tch,nid,e,Nat.le_refl _,(fun _ h=>by cases h),fun L2 ν h φ a w next Q hd M hE ha hn k=>by
  obtain ⟨u,h1,h2⟩:=hx L2 ν h φ a w hd M hE ha
  exact zgm h1 (k ν h φ w u M (Vn.le.refl _) (Fz.le.refl _) (zdM.refl _ _ _) h2)⟩
theorem zIu {b:BinOp} {t' ty t:Nat} {x y:Operand} {A B:XV τ} (j:evX E x=some A) (m:evX E y=some B) {dst:Option Nat} {p:String} {af:Array Edge} {gd:Option (Nat × Bool)}
    (e:opI nid K b A B=some r):zdD X w0 h0 F ⟨dst,.binOp b t' x y ty,t,p,af,gd⟩ E L nid K r:=by
  unfold opI hi at e
  split at e
  all_goals first
  | (cases e; done)
  | (obtain ⟨z,f,e⟩:=ob e
     refine zbp e fun q ν h φ a w hd M i n=>?_;obtain ⟨o,c,g⟩:=zef a hd;obtain ⟨u,h1,h2⟩:=zol g (i.op (by simp [Op.operands])) j rfl;obtain ⟨k,d,l⟩:=zol g (i.op (by simp [Op.operands])) m rfl;obtain rfl:u=_:=h2;obtain rfl:k=_:=l
     first
     | exact ⟨_,ex_add c h1 d f,rfl⟩
     | exact ⟨_,ex_sub c h1 d f,rfl⟩
     | exact ⟨_,ex_mul c h1 d f,rfl⟩
     | exact ⟨_,ex_quo c h1 d f,rfl⟩
     | exact ⟨_,ex_rem c h1 d f,rfl⟩
     | exact ⟨_,ex_cat c h1 d f,rfl⟩)
end
end Go.Rk
end
section
namespace Go.Rk
open Go.RowKit Go.Dm Go.Dk
variable {τ:Nat→Type}
section
variable {ρ:Type} {X:Cx τ} {w0 w w':World} {h0 h H:Fz} {F:List Nat} {o:Oper} {E:zad τ} {L L2:Hp τ} {ν ν':Vn τ} {φ φ':Nat→List Nat} {nid nid':Nat} {K:Nx τ ρ} {r:ρ} {v:XV τ} {U:Hp τ} {tch:List Nat} {g:List (XV τ)}
theorem zNB {i:Nat} {k:Bool→Hp τ→List Nat→Nat→Option ρ} (e:nlK X L nid i k=some r):∃b U a,k b U [i] a=some r∧nid≤a ∧
  ∀(c:Hp τ) ν h φ (w:World),Mem X.P X.G w0 h0 F c w ν h φ→lk c i=lk L i→(∀i,nid≤i→i<a→ν i=none) →
   ∃ν' φ' u q,Mem X.P X.G w0 h0 F (U++c) w ν' h φ'∧ν.le ν'∧zdM ν ν' nid a∧ν i=some (.pointer u,q)∧(b=true→u=none)∧(b=false→∃s,u=some ⟨s,0,none⟩):=by
 unfold nlK at e
 split at e
 ·rename_i t cs g
  refine ⟨false,[],nid,e,Nat.le_refl _,fun c ν h φ w M f _=>?_⟩;have d:=M.res i;rw [f,g] at d;obtain ⟨b,q,vs,h1,_⟩:=d;exact ⟨ν, φ,_,q,M,Vn.le.refl _,zdM.refl _ _ _,h1,(by simp),fun _=>⟨b,rfl⟩⟩
 ·rename_i n y g
  cases y with
  | none =>
   refine ⟨true,_,nid,e,Nat.le_refl _,fun c ν h φ w M f _=>?_⟩;have d:=M.res i;rw [f,g] at d;obtain ⟨v,q,h1,h2⟩:=d;obtain ⟨rfl,o⟩:=Tr.pn_none h2;obtain ⟨M1,A⟩:=M.drop i;have M2:=M1.put (i:=i) (zby ..) .nilp (fp:=[]) ⟨q,h1,rfl⟩ (fun b z=>by cases z);refine ⟨ν,_,none,q,M2.congr fun j=>?_,Vn.le.refl _,zdM.refl _ _ _,h1,fun _=>rfl,by simp⟩
   by_cases l:j=i
   ·subst l; exact (zby ..).trans (zby ..).symm
   ·show lk ((i,.nilp)::c) j=_;rw [zdS _ _ l,zdS _ _ l,zdS _ _ l]
  | some y =>
   obtain ⟨U,m,h1⟩:∃U m,zli X.G i n y nid=(U,m):=⟨_,_,rfl⟩;simp only [optK,h1] at e;refine ⟨false,U,m,e,?_,fun c ν h φ w M f hn=>?_⟩
   ·unfold zli at h1
    split at h1
    rename_i h2
    cases h1;exact zku (zgz X.G depth) h2
   ·obtain ⟨_, ν', φ',b,q,h2,o,x,p⟩:=zJ0 M h1 (f.trans g) hn;exact ⟨ν', φ',_,q,h2,o,x,p,by simp,fun _=>⟨b,rfl⟩⟩
 ·rename_i g
  refine ⟨true,[],nid,e,Nat.le_refl _,fun c ν h φ w M f _=>?_⟩;have d:=M.res i;rw [f,g] at d;obtain ⟨q,h1,_⟩:=d;exact ⟨ν, φ,none,q,M,Vn.le.refl _,zdM.refl _ _ _,h1,fun _=>rfl,by simp⟩
 ·cases e
theorem zNC {i:Nat} {k:Hp τ→List Nat→Nat→Option ρ} (e:ptK X L nid i k=some r):∃U a,k U [i] a=some r∧nid≤a ∧
  ∀(c:Hp τ) ν h φ (w:World),Mem X.P X.G w0 h0 F c w ν h φ→lk c i=lk L i→(∀i,nid≤i→i<a→ν i=none) →
   ∃ν' φ' b q,Mem X.P X.G w0 h0 F (U++c) w ν' h φ'∧ν.le ν'∧zdM ν ν' nid a∧ν i=some (ptr b 0,q):=by
 unfold ptK at e
 split at e
 ·rename_i t cs g
  refine ⟨[],nid,e,Nat.le_refl _,fun c ν h φ w M f _=>?_⟩;have j:=M.res i;rw [f,g] at j;obtain ⟨b,q,vs,h1,_⟩:=j;exact ⟨ν, φ,b,q,M,Vn.le.refl _,zdM.refl _ _ _,h1⟩
 ·rename_i n y g
  cases y with
  | none=>cases e
  | some y =>
   obtain ⟨U,d,h1⟩:∃U d,zli X.G i n y nid=(U,d):=⟨_,_,rfl⟩;simp only [Option.bind_some,h1] at e;refine ⟨U,d,e,?_,fun c ν h φ w M f hn=>?_⟩
   ·unfold zli at h1
    split at h1
    rename_i h2
    cases h1;exact zku (zgz X.G depth) h2
   ·obtain ⟨_, ν', φ',b,q,h2,m,o,l⟩:=zJ0 M h1 (f.trans g) hn;exact ⟨ν', φ',b,q,h2,m,o,l⟩
 ·cases e
theorem zA1 {α:Type}:∀{n o:Nat} {cs l:List α},cutL cs o n=some l→l.length=n
 | 0,o,cs,l,e=>by cases e; rfl
 | n+1,o,cs,l,e=>by
  unfold cutL at e
  split at e
  ·split at e
   ·rename_i h
    cases e;simp [zA1 h]
   ·cases e
  ·cases e
theorem zKd {a:Act} {q:Env} {N:Nat} {x:Operand} {t' t b ob k n:Nat} {dst:Option Nat} {p:String} {af:Array Edge} {gd:Option (Nat × Bool)} (m:Fits N q a) (i:evl q x=some (ptr b (ob+k))) {cs:List (CV τ)} {vs:List Value}
  (j:ze1 w (some ⟨b,ob,none⟩) vs) (hc:CVs X.P X.G h ν cs vs) (hn:szO X.P t'=some n) (e:zHQ X.P t' (cutL cs k n)=some v):∃u,(execOp a.eval ⟨dst,.load t' x,t,p,af,gd⟩).run X.P w = .ok (.value u) w∧XOk X.P X.G h ν v u:=by
 unfold zHQ at e
 split at e
 ·rename_i l o
  obtain ⟨h1,h2⟩:=hc.cut o;have d:=zA1 o
  split at e
  ·rename_i g
   cases e;have f:=h1.len;exact ⟨_,zMd (zxJ g) (zgp hn) j rfl (by rw [f,d]) m i,_,rfl,h1⟩
  ·rename_i g
   split at e
   ·rename_i c
    cases e;obtain ⟨u,us,f,r,s⟩:=h1;refine ⟨u,zMc (zxJ g) j ?_ m i,r⟩
    have:((vs.drop k).take n)[0]? = some u:=by rw [f]; rfl
    rw [List.getElem?_take] at this
    split at this
    ·simpa using this
    ·cases this
   ·cases e
  ·cases e
 ·cases e
theorem RpR.get {P:Program} {G:Sig τ}:∀{e:Ty} {xs:List (e.den τ)} {vs:List Value},RpR P G h e xs vs→∀{i:Nat} {z:e.den τ},xs[i]? = some z →
  RpL P G h (ets G e) (edt G e z) ((vs.drop (i*(ets G e).length)).take (ets G e).length)∧i*(ets G e).length+(ets G e).length≤vs.length
 | _,_,_,.nil _,_,_,a=>by simp at a
 | _,_,_,.cons e x xs vs b h1 h2,0,_,a=>by
  simp at a;subst a;have:=h1.len;refine ⟨?_,by simp [this]⟩;rw [Nat.zero_mul,List.drop_zero,List.take_append_of_le_length (by omega),List.take_of_length_le (by omega)];exact h1
 | _,_,_,.cons e x xs vs b h1 h2,i+1,z,a=>by
  simp at a;obtain ⟨c,d⟩:=RpR.get h2 a;have:=h1.len;refine ⟨?_,by simp [Nat.add_mul,this]; omega⟩;rw [Nat.add_mul,Nat.one_mul,List.drop_append,List.drop_eq_nil_of_le (by omega),List.nil_append,this,Nat.add_sub_cancel];exact c
theorem zs7 {α:Type} {xs:List α} {m:Int} {z:α} (e:lAt xs m=some z):xs[m.toNat]? = some z∧0≤m:=by
 unfold lAt at e
 split at e
 ·exact ⟨e, ‹_›⟩
 ·cases e
theorem zP1 (M:Mem X.P X.G w0 h0 F L2 w ν h φ) {i k:Nat} {m:Int} {t e:Ty} {z:t.den τ} {o:Nat} {v:Value} {A:TypeId} {xs:List (e.den τ)} (E:zdg X.P X.G h ν (.oe i k m t z o) v) (B:lk L2 i = .row A e xs k) :
  ∃b d vs,v=ptr b (d+m.toNat*(ets X.G t).length+o)∧ze1 w (some ⟨b,d+m.toNat*(ets X.G t).length,none⟩) vs∧RpL X.P X.G h (ets X.G t) (edt X.G t z) vs:=by
 obtain ⟨b,d,n,c,q,C,u,h1,h2,y,rfl⟩:=E;have r:=M.res i;rw [B] at r;obtain ⟨N,K,vs,L,p,J,l,D,a⟩:=r;rw [h1] at p;cases p;rw [h2] at a
 injection a with a
 injection a with _ a
 injection a with a
 cases a;obtain ⟨H,h0⟩:=zs7 y;obtain ⟨I,s⟩:=D.get H;refine ⟨b,d,_,rfl,?_,I⟩;obtain ⟨rfl,_⟩:=l.len;have x:=l.sees;obtain ⟨_,g,hc⟩:=x;refine .inr ⟨rfl,g,fun j u f=>?_⟩;rw [List.getElem?_take] at f
 split at f
 ·rw [List.getElem?_drop] at f;have:=hc _ _ f;simpa [Nat.add_assoc] using this
 ·cases f
theorem zFg (M:Mem X.P X.G w0 h0 F L2 w ν h φ) {i k:Nat} {t:TypeId} {cs:List (CV τ)} {v:Value} (g:zdg X.P X.G h ν (.pt i k) v) (e:lk L2 i = .blk t cs) :
  ∃b q vs, ν i=some (ptr b 0,q)∧v=ptr b k∧φ i=[b]∧w.heap[b]? = some (.cells vs.toArray t (0,0))∧CVs X.P X.G h ν cs vs∧ze1 w (some ⟨b,0,none⟩) vs:=by
 have d:=M.res i;rw [e] at d;obtain ⟨b,q,vs,h1,h2,a,l⟩:=d;obtain ⟨u,m,c,rfl,_⟩:=g;rw [h1] at c;cases c;refine ⟨b,q,vs,h1,by simp [zvn],h2,a,l,.inr ⟨rfl,(Array.getElem?_eq_some_iff.1 a).1,fun j v f=>by simp [World.cell?,a,f]⟩⟩
theorem zP2 {n:Nat} {u:Value} (a:zdg X.P X.G h ν (.ep n none) u):zdg X.P X.G h ν .nl u:=by cases a; rfl
theorem zP3 {n:Nat} {y:τ n} {u:Value} (d:zdg X.P X.G h ν (.ep n (some y)) u):zdg X.P X.G h ν (.ea (.st n) y 0) u:=by
 cases d with
 | pn1 _ _ _ a=>cases a; rename_i b k vs c a; exact ⟨b,k,vs,rfl,c,a⟩
theorem zND {x:Operand} {t' t:Nat} {dst:Option Nat} {p:String} {af:Array Edge} {gd:Option (Nat × Bool)} {c:CV τ} (hx:evC E x=some c) (e:zOP X L nid K t' c=some r):zdD X w0 h0 F ⟨dst,.load t' x,t,p,af,gd⟩ E L nid K r:=by
 unfold zOP at e
 split at e
 ·rename_i id o
  split at e
  ·rename_i bt cs hl
   split at e
   ·rename_i n hn
    split at e
    ·rename_i j hv
     cases hb:Nat.beq j id with
     | true=>rw [hb] at e; cases e
     | false =>
      rw [hb] at e;obtain ⟨b,U,nid',h1,h2,h3⟩:=zNB (w0:=w0) (h0:=h0) (F:=F) e;refine ⟨if b=true then .c .nl else .c (.pt j 0),[],U,[id,j],nid',?_,h2,fun _ h=>by (cases h),fun L2 ν h φ a w next Q hd M hE ha hfr k=>?_⟩
      ·cases b<;>exact h1
      ·obtain ⟨Ea,hf,hl'⟩:=zef a hd;obtain ⟨u,h4,h5⟩:=zB hl' (hE.op (by simp [Op.operands])) hx;obtain ⟨bb,q,vs,hν,rfl,_,hh,hc,hs⟩:=zFg M h5 ((ha id (by simp)).trans hl);obtain ⟨u,h6,h7⟩:=zKd (ob:=0) (dst:=dst) (t:=t) (p:=p) (af:=af) (gd:=gd) hf (by rw [Nat.zero_add]; exact h4) hs hc hn hv;obtain ⟨ν', φ',uj,q',M',hle,hfre,hνj,hb1,hb0⟩:=h3 L2 ν h φ w M (ha j (by simp)) hfr;obtain ⟨uj',q'',h8,h9,_⟩:=h7;rw [hνj] at h8;cases h8;refine zgm h6 (k ν' h φ' w u M' hle (Fz.le.refl _) hfre ?_)
       cases b with
       | true =>
        rw [hb1 rfl] at h9;subst h9;rfl
       | false=>exact ⟨uj,q',hle _ _ hνj,h9,fun e=>(e rfl).elim⟩
    ·rename_i v _ hv
     refine zbp e fun L2 ν h φ a w hd M hE ha=>?_;obtain ⟨Ea,hf,hl'⟩:=zef a hd;obtain ⟨u,h4,h5⟩:=zB hl' (hE.op (by simp [Op.operands])) hx;obtain ⟨bb,q,vs,hν,rfl,_,hh,hc,hs⟩:=zFg M h5 ((ha id (by simp)).trans hl);exact zKd (ob:=0) hf (by rw [Nat.zero_add]; exact h4) hs hc hn hv
    ·cases e
   ·cases e
  ·cases e
 ·rename_i ty z o
  split at e
  ·rename_i n hn
   have key:∀{v},zHQ X.P t' (cutL (zxR X.G ty z) o n)=some v→∀(L2:Hp τ) ν h φ (a:Act) (w:World),a.defers=[]→Mem X.P X.G w0 h0 F L2 w ν h φ→zeL X h ν a (rdO (.load t' x)) E→∃u,(execOp a.eval ⟨dst,.load t' x,t,p,af,gd⟩).run X.P w = .ok (.value u) w∧XOk X.P X.G h ν v u:=by
    intro v hv L2 ν h φ a w hd M hE;obtain ⟨Ea,hf,hl'⟩:=zef a hd;obtain ⟨u,h4,h5⟩:=zB hl' (hE.op (by simp [Op.operands])) hx;obtain ⟨b,k,vs,rfl,hs,hr⟩:=h5;exact zKd hf h4 (hs.sees M.on) (zzI hr) hn hv
   split at e
   ·rename_i n' y hv
    have fin:∀{c':CV τ},K (.c c') [] [] [] nid=some r→(∀{ν h u},zdg X.P X.G h ν (.ep n' y) u→zdg X.P X.G h ν c' u)→zdD X w0 h0 F ⟨dst,.load t' x,t,p,af,gd⟩ E L nid K r:=by
     intro c' e hcc;refine zbp e fun L2 ν h φ a w hd M hE ha=>?_;obtain ⟨u,h1,h2⟩:=key hv L2 ν h φ a w hd M hE;exact ⟨u,h1,hcc h2⟩
    cases y with
    | none=>exact fin e zP2
    | some y=>exact fin e zP3
   ·rename_i v _ hv
    exact zbp e fun L2 ν h φ a w hd M hE ha=>key hv L2 ν h φ a w hd M hE
   ·cases e
  ·cases e
 ·rename_i id k m ty z o
  split at e
  ·rename_i te e' xs k' hl
   cases hb:Nat.beq k k' with
   | false=>rw [hb] at e; cases e
   | true =>
    rw [hb] at e
    have hkk:k=k':=by simpa using hb
    subst hkk
    split at e
    ·rename_i n hn
     split at e
     ·rename_i v hv
      refine zbp e fun L2 ν h φ a w hd M hE ha=>?_;obtain ⟨Ea,hf,hl'⟩:=zef a hd;obtain ⟨u,h4,h5⟩:=zB hl' (hE.op (by simp [Op.operands])) hx;obtain ⟨b,d,vs,rfl,hs,hr⟩:=zP1 M h5 ((ha id (by simp)).trans hl);exact zKd hf h4 hs (zzI hr) hn hv
     ·cases e
    ·cases e
  ·cases e
 ·cases e
end
end Go.Rk
end
section
namespace Go.Rk
open Go.RowKit Go.Dm Go.Dk
variable {τ:Nat→Type}
variable {ids:List Nat}
section
variable {P:Program} {G:Sig τ} {w0 w w':World} {h0 h h' H:Fz} {F:List Nat} {L L' L2:Hp τ} {ν ν':Vn τ} {φ φ':Nat→List Nat}
theorem Mem.grow (M:Mem P G w0 h0 F L w ν h φ) (a:Below w.heap.size w w'):Mem P G w0 h0 F L w' ν h φ :=
 M.upd [] (fun _ _=>rfl) (fun _ _=>rfl) (Vn.le.refl _) (Fz.le.refl _) a.os a.tape a.output a.size (fun b c _=>a.block b c) (fun b o h1 h2=>by rw [h1] at h2; cases h2) (fun b h1 h2=>(h2 h1).elim)
  (fun i hi=>by cases hi) (fun i hi=>by cases hi) (fun i hi=>by cases hi)
theorem Mem.alloc (M:Mem P G w0 h0 F L w ν h φ) {nid:Nat} (hn:ν nid=none) (o:Obj) (r:AR τ) (x:Value × Option ((e:Ty) × List (e.den τ))) (c:znb P G h (up1 ν nid (some x)) (w.alloc o) r (some x) [w.heap.size]) :
  Mem P G w0 h0 F ((nid,r)::L) (w.alloc o) (up1 ν nid (some x)) h (up1 φ nid [w.heap.size]) :=
 (M.grow (zoG w o)).add hn r x c fun b a=>by
  rw [List.mem_singleton.1 a];refine ⟨fun i hi=>Nat.lt_irrefl _ (M.lt hi),?_,.inr M.size⟩
  cases e:h w.heap.size with
  | none=>rfl
  | some o'=>exact (Nat.lt_irrefl _ (M.in_lt (b:=w.heap.size) (by rw [e]; simp))).elim
theorem zet {nid:Nat} {x:Value × Option ((e:Ty) × List (e.den τ))}:zdM ν (up1 ν nid (some x)) nid (nid+1):=by
 intro i h1 h2
 by_cases e:i=nid
 ·omega
 ·rw [zbz _ _ e] at h2; exact (h2 h1).elim
theorem zdM.trans {ν'':Vn τ} {a b c:Nat} (h1:zdM ν ν' a b) (h2:zdM ν' ν'' b c) (d:a≤b) (h:b≤c):zdM ν ν'' a c:=by
 intro i f g
 by_cases e:ν' i=none
 ·have:=h2 i e g; omega
 ·have:=h1 i f e; omega
theorem Mem.turn (M:Mem P G w0 h0 F L w ν h φ) {i b:Nat} (r:AR τ) (hφ:φ i=[b]) (hν:ν.le ν') (g:w'.os=w.os) (d:w'.tape=w.tape) (f:w'.output=w.output) (m:w'.heap.size=w.heap.size) (e:∀k,k≠b→w'.heap[k]? = w.heap[k]?)
  (l:znb P G h ν' w' r (ν' i) [b]):Mem P G w0 h0 F ((i,r)::L) w' ν' h φ:=by
 refine M.upd [i] (fun j a=>zdS _ _ (by simpa using a)) (fun _ _=>rfl) hν (Fz.le.refl _) g d f (by omega) (fun k _ c=>e k ?_) (fun b o h1 h2=>by rw [h1] at h2; cases h2) (fun b h1 h2=>(h2 h1).elim) ?_ ?_ ?_
 ·rintro rfl
  apply c
  rw [zdr,hφ]; simp
 ·intro j a;rw [List.mem_singleton.1 a,zby,hφ]; exact l
 ·intro j a k c;rw [List.mem_singleton.1 a] at c;refine ⟨(M.out i k c).1,.inl ?_⟩;rw [zdr]; exact List.mem_append_left _ c
 ·intro j a k c b _ _;rw [List.mem_singleton.1 a,List.mem_singleton.1 c]
theorem zD0 {i j:Nat} {U:Hp τ} (f:∀i∈ids, ∃e xs,lk U i = .fz e xs∧((∃a k,lk L i = .row a e xs k)∨lk L i = .fz e xs∨∃j k lo a c ys,lk L i = .vw j k e lo xs∧lk L j = .row a c ys k∧j∈ids)) (g:j∈ids) :
  ∃e xs,lk U j = .fz e xs∧((∃a k,lk L j = .row a e xs k)∨lk L j = .fz e xs∨∃b k lo a c ys,lk L j = .vw b k e lo xs∧lk L b = .row a c ys k∧b∈i::ids):=by
 obtain ⟨e,xs,h1,h|h|⟨b,k,lo,a,c,ys,h2,l,d⟩⟩:=f j g
 ·exact ⟨e,xs,h1,.inl h⟩
 ·exact ⟨e,xs,h1,.inr (.inl h)⟩
 ·exact ⟨e,xs,h1,.inr (.inr ⟨b,k,lo,a,c,ys,h2,l,List.mem_cons_of_mem _ d⟩)⟩
theorem zxd:∀{ids:List Nat} {U:Hp τ},freeze L ids=some U→kys U=ids∧∀i∈ids, ∃e xs,lk U i = .fz e xs∧((∃b k,lk L i = .row b e xs k)∨lk L i = .fz e xs∨∃j k lo b c ys,lk L i = .vw j k e lo xs∧lk L j = .row b c ys k∧j∈ids)
 | [],U,e=>by cases e; exact ⟨rfl,fun i hi=>by cases hi⟩
 | i :: ids,U,e=>by
  unfold freeze at e
  split at e
  ·rename_i q h1
   obtain ⟨h2,h⟩:=zxd h1
   split at e
   ·rename_i b c xs k d
    cases e;refine ⟨by simp [kys] at h2 ⊢; exact h2,fun j f=>?_⟩
    by_cases a:j=i
    ·subst a; exact ⟨c,xs,zby ..,.inl ⟨b,k,d⟩⟩
    ·rw [zdS _ _ a];exact zD0 h ((List.mem_cons.1 f).resolve_left a)
   ·rename_i c xs d
    cases e;refine ⟨by simp [kys] at h2 ⊢; exact h2,fun j f=>?_⟩
    by_cases a:j=i
    ·subst a; exact ⟨c,xs,zby ..,.inr (.inl d)⟩
    ·rw [zdS _ _ a];exact zD0 h ((List.mem_cons.1 f).resolve_left a)
   ·rename_i m k c lo xs d
    split at e
    ·rename_i b n ys o l
     cases g:(mem ids m&&Nat.beq k o) with
     | false=>rw [g] at e; cases e
     | true =>
      rw [g] at e;cases e;simp only [Bool.and_eq_true,Nat.beq_eq] at g;obtain ⟨p,rfl⟩:=g;refine ⟨by simp [kys] at h2 ⊢; exact h2,fun j f=>?_⟩
      by_cases a:j=i
      ·subst a; exact ⟨c,xs,zby ..,.inr (.inr ⟨m,k,lo,b,n,ys,d,l,List.mem_cons_of_mem _ (zeP.1 p)⟩)⟩
      ·rw [zdS _ _ a];exact zD0 h ((List.mem_cons.1 f).resolve_left a)
    ·cases e
   ·cases e
  ·cases e
theorem vw_fz {i j k lo m:Nat} {e f:Ty} {xs:List (e.den τ)} {ys:List (f.den τ)} {fp c:List Nat} (r:znb P G h ν w (.vw j k e lo xs) (ν i) fp) (y:znb P G h ν w (.row m f ys k) (ν j) c) (t:h.le H) (A:∀b∈c,H b=w.heap[b]?) :
  ∃v q, ν i=some (v,q)∧fp=[]∧Rp P G H (.sl e) xs v:=by
 obtain ⟨O,J,L,M,K,F,x,a2,I,o,p,D,C,n,s,B,g⟩:=r;obtain ⟨N,E,vs,u,h1,h2,l,z,a⟩:=y;rw [o] at h1;cases h1;rw [p] at a
 injection a with a
 injection a with _ a
 injection a with a
 cases a;exact ⟨_,_,n,g,vw_rp (zw5 t l z fun b d=>A b (by rw [h2]; exact d)) D C s B.1⟩
open Classical in
noncomputable def zAe (φ:Nat→List Nat) (ids:List Nat):Nat→List Nat:=fun i=>if i∈ids then [] else φ i
theorem zii {i:Nat} (h:i∈ids):zAe φ ids i=[]:=by simp [zAe,h]
theorem znP {i:Nat} (h:i∉ids):zAe φ ids i=φ i:=by simp [zAe,h]
theorem Mem.freeze (M:Mem P G w0 h0 F L2 w ν h φ) {ids:List Nat} {U:Hp τ} (e:Rk.freeze L ids=some U) (r:∀i∈ids,lk L2 i=lk L i):Mem P G w0 h0 F (U++L2) w ν (zrV h w (fps φ ids)) (zAe φ ids):=by
 obtain ⟨p,t⟩:=zxd e;have c:=M.lend_le ids;refine M.upd ids (fun i hi=>zdh _ (by rw [p]; exact hi)) (fun i hi=>znP hi) (Vn.le.refl _) c rfl rfl rfl (Nat.le_refl _) (fun _ _ _=>rfl) ?_ ?_ ?_ ?_ ?_
 ·intro b o _ h2;exact zvL M.on b o h2
 ·intro b h1 h2
  by_cases a:b∈fps φ ids
  ·exact .inl a
  ·rw [zkt a] at h2; exact (h2 h1).elim
 ·intro i hi;obtain ⟨y,xs,h1,h2⟩:=t i hi;rw [zhs _ (by rw [p]; exact hi),h1,zii hi];have d:=M.res i;rw [r i hi] at d
  rcases h2 with ⟨s,k,h2⟩|h2|⟨j,k,lo,s,x,ys,h2,g,f⟩
  ·rw [h2] at d;obtain ⟨v,q,vs,u,g,f,m,n,_⟩:=d;exact ⟨v,q,g,rfl,zw5 c m n fun b a=>zqA (zeZ.2 ⟨i,hi,by rw [f]; exact a⟩)⟩
  ·rw [h2] at d;obtain ⟨v,q,g,_,f⟩:=d;exact ⟨v,q,g,rfl,f.le c⟩
  ·rw [h2] at d;have l:=M.res j;rw [r j f,g] at l;obtain ⟨v,q,m,_,n⟩:=vw_fz d l c fun b a=>zqA (zeZ.2 ⟨j,f,a⟩);exact ⟨v,q,m,rfl,n⟩
 ·intro i hi b a; rw [zii hi] at a; cases a
 ·intro i hi j _ b a; rw [zii hi] at a; cases a
theorem Mem.look (M:Mem P G w0 h0 F L2 w ν h φ) {ids:List Nat} (b:∀i∈ids,lk L2 i=lk L i):zcd L2 L φ (zrV h w (fps φ ids)) w ids:=⟨b,fun _ a=>zqA a⟩
end
section
variable {ρ:Type} {X:Cx τ} {w0 w w':World} {h0 h H:Fz} {F:List Nat} {o:Oper} {E:zad τ} {L L2:Hp τ} {ν ν':Vn τ} {φ φ':Nat→List Nat} {nid nid':Nat} {K:Nx τ ρ} {r:ρ} {v:XV τ} {U:Hp τ} {tch:List Nat} {g:List (XV τ)}
variable {x y:Operand} {t' t ty:Nat} {dst:Option Nat} {p:String} {af:Array Edge} {gd:Option (Nat × Bool)}
theorem zMX {cs:List (CV τ)} (hz:zBe X.P t'=some cs) (e:K (.c (.pt nid 0)) [] [(nid,.blk t' cs)] [] (nid+1)=some r):zdD X w0 h0 F ⟨dst,.alloc t',t,p,af,gd⟩ E L nid K r:=by
 obtain ⟨it,z,hi,hz0,hc⟩:=zAc hz;refine ⟨_,_,_,_,_,e,Nat.le_succ _,(fun _ h=>by cases h),fun L2 ν h φ a w next Q hd M hE ha hn k=>?_⟩;have hn':=hn nid (Nat.le_refl _) (Nat.lt_succ_self _)
 have hx:(execOp a.eval ⟨dst,.alloc t',t,p,af,gd⟩).run X.P w = .ok (.value (ptr w.heap.size 0)) (w.alloc (.cells z.cells t')):=by
  simp [execOp,Instr.alloc,zeroValue,typeInfo,hi,hz0,newVar,newRow,go_sem,Result.andThen]
 have hzl:z.cells=z.cells.toList.toArray:=by simp
 refine zgm hx (k _ h _ _ _ (M.alloc hn' _ (.blk t' cs) (ptr w.heap.size 0,none) ⟨_,none,z.cells.toList,rfl,rfl,?_,zzj hc⟩) (zbV hn') (Fz.le.refl _) zet ⟨_,none,za0 _ _ _,rfl,fun e=>(e rfl).elim⟩);rw [← hzl]; exact zkx _
theorem box_ok {A:XV τ} {cs:List (CV τ)} (hA:evX E x=some A) (hc:ztk A=some cs) (e:K (.c (.pt nid 0)) [] [(nid,.blk t' cs)] [] (nid+1)=some r):zdD X w0 h0 F ⟨dst,.box t' x,t,p,af,gd⟩ E L nid K r:=by
 refine ⟨_,_,_,_,_,e,Nat.le_succ _,(fun _ h=>by cases h),fun L2 ν h φ a w next Q hd M hE ha hn k=>?_⟩;have hn':=hn nid (Nat.le_refl _) (Nat.lt_succ_self _);obtain ⟨us,h1,h2,_⟩:=ztJ hc (zrM hd (hE.op (by simp [Op.operands])) hA)
 have hx:(execOp a.eval ⟨dst,.box t' x,t,p,af,gd⟩).run X.P w = .ok (.value (ptr w.heap.size 0)) (w.alloc (.cells us.toArray t')):=by
  simp only [execOp]; unfold Instr.box newVar; rw [h1]; simp [newRow,go_sem]
 exact zgm hx (k _ h _ _ _ (M.alloc hn' _ (.blk t' cs) (ptr w.heap.size 0,none) ⟨_,none,us,rfl,rfl,zkx _,h2.le (Fz.le.refl _) (zbV hn')⟩) (zbV hn') (Fz.le.refl _) zet ⟨_,none,za0 _ _ _,rfl,fun e=>(e rfl).elim⟩)
theorem zAf {a:Act} {b o n:Nat} {c:TypeId} {cur:Array Value} {vs:List Value} (g:a.eval x=ptr b o) (e:(a.eval y).cells=⟨vs⟩) (i:znV X.P t'=some n) (hn:vs.length=n) (f:w.heap[b]? = some (.cells cur c (0,0))) (j:o+vs.length≤cur.size) (h:∀v∈vs,v.oneCell'=true) :
  (execOp a.eval ⟨dst,.store t' x y,t,p,af,gd⟩).run X.P w = .ok .skip (w.setRow b (cur.toList.take o++vs++cur.toList.drop (o+vs.length)).toArray):=by
 have d:=run_storeCells_at X.P b o c vs 0 cur w f (by simpa using j) h;simp only [Nat.add_zero] at d;simp only [execOp]; rw [g]
 have h2:(a.eval y).cells.size=n:=by rw [e]; simpa using hn
 have k:(a.eval y).cells.toList=vs:=by rw [e]
 simp [Instr.storeAt,Instr.sureAddr,storeVar,zeo i,h2,k,d,Result.andThen]
theorem zKY {A:XV τ} {vs:List (CV τ)} {n id o bt:Nat} {cs cs':List (CV τ)} (hA:evX E y=some A) (hc:ztk A=some vs) (ht:szO X.P t'=some n) (hn:vs.length=n) (hx:evC E x=some (.pt id o)) (hl:lk L id = .blk bt cs) (hp:zwT cs o vs=some cs')
  (e:K .un [] [(id,.blk bt cs')] [id] nid=some r):zdD X w0 h0 F ⟨dst,.store t' x y,t,p,af,gd⟩ E L nid K r:=by
 refine ⟨_,_,_,_,_,e,Nat.le_refl _,(fun _ h=>by cases h),fun L2 ν h φ a w next Q hd M hE ha hfr k=>?_⟩;obtain ⟨Ea,hf,hl'⟩:=zef a hd;obtain ⟨u,h1,h2⟩:=zB hl' (hE.op (by simp [Op.operands])) hx;obtain ⟨b,q,us,hν,rfl,hφ,hh,hcs,_⟩:=zFg M h2 ((ha id (by simp)).trans hl);obtain ⟨ws,h3,h4,_⟩:=ztJ hc (zrM hd (hE.op (by simp [Op.operands])) hA);obtain ⟨h5,h6⟩:=zzk hcs h4 hp;have hrun:=zAf (X:=X) (dst:=dst) (t:=t) (p:=p) (af:=af) (gd:=gd) (hf.ev h1) h3 (zgp ht) (by rw [h4.len,hn]) hh (by simpa using h5) h4.one;refine zIt hrun (k ν h φ _ undef (M.turn (.blk bt cs') hφ (Vn.le.refl _) rfl rfl rfl (by simp [World.setRow]) (fun j hj=>setRow_other w b j _ hj) ⟨b,q,_,hν,rfl,setRow_heap w b us.toArray _ bt (0,0) hh,?_⟩) (Vn.le.refl _) (Fz.le.refl _) (zdM.refl _ _ _) rfl);simpa using h6
end
end Go.Rk
end
section
namespace Go.Rk
open Go.RowKit Go.Dm Go.Dk
variable {τ:Nat→Type}
variable {P:Program}
theorem zPP (C a:List Value) (A N D:Nat) (h1:A+a.length≤N) (h2:D+N≤C.length) :
  ((C.take (D+A)++a++C.drop (D+A+a.length)).drop D).take N=((C.drop D).take N).take A++a++((C.drop D).take N).drop (A+a.length):=by
 have d:(C.take (D+A)++a++C.drop (D+A+a.length)).drop D=(C.drop D).take A++(a++(C.drop D).drop (A+a.length)):=by
  rw [List.append_assoc,List.drop_append_of_le_length (by rw [List.length_take]; omega),List.drop_take,Nat.add_sub_cancel_left,List.drop_drop,Nat.add_assoc]
 have b:((C.drop D).take A).length=A:=by rw [List.length_take,List.length_drop]; omega
 have c:∀R:List Value,((C.drop D).take A++(a++R)).take N=(C.drop D).take A++(a++R.take (N-(A+a.length))):=by
  intro R;rw [← List.append_assoc,List.take_append,List.take_of_length_le (l:=(C.drop D).take A++a) (by rw [List.length_append,b]; exact h1),List.length_append,b,List.append_assoc]
 rw [d,c,List.take_take,Nat.min_eq_left (by omega),List.append_assoc,List.drop_take]
section
variable {P:Program} (w:World)
theorem zxE (t ty e:TypeId) (i:TypeInfo) (p:P.underlying t=some (.slice e)) (hi:P.info? e=some i)
  (g o b d:Nat) (cur:Array Value) (s:w.heap[g]? = some (.cells cur e (0,0)))
  (a:Addr) (m c:Nat) (news:List Value) (r:news.length=m*i.size) (f:∀j u,news[j]? = some u→w.cell? (a.add j)=some u) (h1:∀u∈news,u.oneCell'=true)
  (h:b+m≤d) (n:o+b*i.size+news.length≤cur.size) :
  (Builtin.append_ #[t,t] ty #[.slice (some ⟨g,o,none⟩) b d,.slice (some a) m c]).run P w =
   .ok (.slice (some ⟨g,o,none⟩) (b+m) d) (w.setRow g (cur.toList.take (o+b*i.size)++news++cur.toList.drop (o+b*i.size+news.length)).toArray):=by
 have q:=run_firstCells_some (P:=P) w i.size m a m c news r f;have l:=run_storeCells_at P g (o+b*i.size) e news 0 cur w s (by simpa using n) h1
 have k:(⟨g,o,none⟩:Addr).add (b*i.size)=⟨g,o+b*i.size,none⟩:=by unfold Addr.add; split<;>simp_all
 simp only [Nat.add_zero] at l;simp [Builtin.append_,run_underlying p,sizeOf,typeInfo,hi,Builtin.lenOf,h,q,k,l]
end
theorem zE5 {G:Sig τ} {w:World} (t ty e:TypeId) (i:TypeInfo) (z:Value) (size bytes:Nat) (F:P.underlying t=some (.slice e)) (hi:P.info? e=some i) (D:i.zero=some z)
  (l:i.size=size) (B:i.bytes=bytes) (A:z.cells.size=size) (I:0<size)
  (v:Value) (n:Nat) (xs:List Value) (p:zhj G w e size v n xs)
  (ad:Addr) (m c:Nat) (news:List Value) (y:news.length=m*size) (b:∀j u,news[j]? = some u→w.cell? (ad.add j)=some u) (h1:∀u∈news,u.oneCell'=true)
  (r:n+m≤maxLen) (f:(n+m)*bytes≤140737488355328) :
  ∃a q w',(Builtin.append_ #[t,t] ty #[v,.slice (some ad) m c]).run P w = .ok (.slice a (n+m) q) w'∧zhj G w' e size (.slice a (n+m) q) (n+m) (xs++news)∧w.grownBy w' v.ownBlock ∧
   ((Value.slice a (n+m) q).ownBlock=v.ownBlock∨(Value.slice a (n+m) q).ownBlock=some w.heap.size):=by
 have base:w.ownsRow 0 e size v n xs→_:=fun X=>zkv (P:=P) (w:=w) t ty e i z size bytes F hi D l B A I v n xs X ad m c news y b h1 r f
 cases hd:G.dr e with
 | false =>
  obtain ⟨a,q,w',J,K,R,Q⟩:=base (p.row hd);exact ⟨a,q,w',J,zhj.of_row K,R,Q⟩
 | true =>
  obtain ⟨h2,V⟩:=p
  rcases V with ⟨rfl,rfl⟩|⟨g,d,cap,cur,rfl,_,L,Y,O,N,C⟩
  ·obtain ⟨a,q,w',J,K,R,Q⟩:=base ⟨h2,.inl ⟨rfl,rfl⟩⟩;exact ⟨a,q,w',J,zhj.of_row K,R,Q⟩
  ·subst l;subst B
   have h:(xs++news).length=(n+m)*i.size:=by rw [List.length_append,h2,y,Nat.add_mul]
   by_cases o:n+m≤cap
   ·have Z:d*i.size+(n+m)*i.size≤cur.size:=by rw [← Nat.add_mul]; exact Nat.le_trans (Nat.mul_le_mul_right _ (by omega)) N
    have S:(n+m)*i.size=n*i.size+m*i.size:=Nat.add_mul ..;have M:=zxE (P:=P) w t ty e i F hi g (d*i.size) n cap cur L ad m c news y b h1 o (by omega)
    have T:cur.toList.length=cur.size:=by simp
    refine ⟨_,_,_,M,⟨h,.inr ⟨g,d,cap,_,rfl,(fun D=>(Bool.noConfusion (hd.symm.trans D):_)),setRow_heap w g cur _ e _ L,o,O,?_,?_⟩⟩,⟨rfl,rfl,rfl,by simp,fun k _ E=>setRow_other w g k _ (fun e=>E (by simp [Value.ownBlock,e]))⟩,.inl rfl⟩
    ·simp only [List.size_toArray,List.length_append,List.length_take,List.length_drop];omega
    ·have W:=zPP cur.toList news (n*i.size) ((n+m)*i.size) (d*i.size) (by omega) (by omega);rw [List.toList_toArray,W,List.take_take,Nat.min_eq_left (by omega),C,List.drop_eq_nil_of_le (by rw [List.length_take,List.length_drop]; omega),List.append_nil]
   ·have U:n+m≤9223372036854775807:=by simp only [maxLen] at r; omega
    have holds:∀j u,xs[j]? = some u→w.cell? ((⟨g,d*i.size,none⟩:Addr).add j)=some u:=by
     intro j u s
     have x:(⟨g,d*i.size,none⟩:Addr).add j=⟨g,d*i.size+j,none⟩:=by unfold Addr.add; split<;>simp_all
     rw [x,cell_of_row w g _ cur e (0,0) L];rw [← C,List.getElem?_take] at s
     split at s
     ·rw [List.getElem?_drop] at s; simpa using s
     ·cases s
    have M:=run_append_grow (P:=P) w t ty e i z F hi D ⟨g,d*i.size,none⟩ n cap xs h2 holds ad m c news y b (by omega) (by omega) (growslice_fits (by omega) f);have H:=grownCap_ge w (n+m) cap e;refine ⟨_,_,_,M,zhj.of_row ⟨h,.inr ⟨w.heap.size,_,_,rfl,Nat.zero_le _,heap_alloc_new w.drew _,H,grownCap_le_maxLen w (n+m) cap e r,?_,?_⟩⟩,⟨rfl,rfl,rfl,by simp,fun k E _=>heap_alloc_old w.drew _ E⟩,.inr rfl⟩
    ·simp only [Array.size_append,List.size_toArray,size_zeroCells,A,h2,y, ← Nat.add_mul]
     congr 1
     omega
    ·simp only [Array.toList_append,List.append_assoc];rw [← List.append_assoc, ← h];exact List.take_left
theorem zwF {G:Sig τ} {w:World} (t ty e:TypeId) (i:TypeInfo) {size c:Nat} (d:P.underlying t=some (.slice e)) (hi:P.info? e=some i) {ad:Option Addr} {m a n:Nat} {xs:List Value} (f:zhj G w e size (.slice ad m a) n xs) :
  (Builtin.append_ #[t,t] ty #[.slice ad m a,.slice none 0 c]).run P w = .ok (.slice ad m a) w:=by
 obtain ⟨_,b⟩:=f.len;cases ad<;>simp [Builtin.append_,run_underlying d,sizeOf,typeInfo,hi,Builtin.lenOf,Builtin.firstCells,b,storeCells]
section
variable {P:Program} {G:Sig τ} {w0 w w':World} {h0 h h' H:Fz} {F:List Nat} {L L' L2:Hp τ} {ν ν':Vn τ} {φ φ':Nat→List Nat}
theorem Mem.growBy (M:Mem P G w0 h0 F L w ν h φ) {row:Option Nat} (d:w.grownBy w' row) (g:zhJ w0 h F φ row.toList):Mem P G w0 h0 F L w' ν h φ:=by
 have c:∀b,b<w.heap.size→b∉row.toList→w'.heap[b]? = w.heap[b]? := fun b f a=>d.block b f fun e=>a (by rw [← e]; simp);refine ⟨d.os.trans M.os,d.tape.trans M.tape,d.output.trans M.output,Nat.le_trans M.size d.size,fun b h1 h2=>?_,M.le,fun b o e=>?_,M.new,fun i=>?_,M.dis,M.out,M.gl,M.fp⟩
 ·refine (c b (Nat.lt_of_lt_of_le h1 M.size) fun a=>?_).trans (M.frame b h1 h2)
  rcases (g b a).2.2 with j|j
  ·exact h2 j
  ·omega
 ·refine (c b (M.in_lt (by rw [e]; simp)) fun a=>?_).trans (M.on b o e);rw [(g b a).2.1] at e; cases e
 ·exact (M.res i).of (Fz.le.refl _) (Vn.le.refl _) fun b f=>c b (M.lt f) fun a=>(g b a).1 i f
theorem zvf (M:Mem P G w0 h0 F L w ν h φ) {v a:Value} {g nid:Nat} {e:Ty} {xs:List (e.den τ)} {cs:List Value} (f:zhJ w0 h F φ v.ownBlock.toList) (hn:ν nid=none) (j:w.grownBy w' v.ownBlock) (k:zhj G w' g (ets G e).length a xs.length cs)
  (l:RpR P G h e xs cs) (c:a.ownBlock=v.ownBlock∨a.ownBlock=some w.heap.size):Mem P G w0 h0 F ((nid,.row g e xs nid)::L) w' (up1 ν nid (some (a,some ⟨e,xs⟩))) h (up1 φ nid a.ownBlock.toList):=by
 refine (M.growBy j f).add hn _ _ ⟨a,_,cs,a,rfl,rfl,k,l,za0 _ _ _⟩ fun b d=>?_
 rcases c with c|c
 ·rw [c] at d; exact f b d
 ·rw [c] at d
  obtain rfl:b=w.heap.size:=by simpa using d
  refine ⟨fun i hi=>Nat.lt_irrefl _ (M.lt hi),?_,.inr M.size⟩
  cases e:h w.heap.size with
  | none=>rfl
  | some o'=>exact (Nat.lt_irrefl _ (M.in_lt (b:=w.heap.size) (by rw [e]; simp))).elim
theorem RpL.one:∀{ts:List Ty} {q:DP τ ts} {vs:List Value},RpL P G h ts q vs→∀v∈vs,v.oneCell'=true
 | _,_,_,.nil,v,a=>by cases a
 | _,_,_,.cons t ts q u us h1 h2,v,a=>by
  rcases List.mem_cons.1 a with rfl|a
  ·exact (zdg.one (X:=⟨P,G,[],[],0,fun _=>undef⟩) (ν:=fun _=>none) (zJH h1)).1
  ·exact h2.one v a
theorem RpR.one:∀{e:Ty} {xs:List (e.den τ)} {vs:List Value},RpR P G h e xs vs→∀v∈vs,v.oneCell'=true
 | _,_,_,.nil e,v,a=>by cases a
 | _,_,_,.cons e x xs vs b h1 h2,v,a=>by
  rcases List.mem_append.1 a with a|a
  ·exact h1.one v a
  ·exact h2.one v a
theorem RpR.app:∀{e:Ty} {xs ys:List (e.den τ)} {vs a:List Value},RpR P G h e xs vs→RpR P G h e ys a→RpR P G h e (xs++ys) (vs++a)
 | _,_,_,_,_,.nil _,h2=>h2
 | _,_,_,_,_,.cons e x xs vs a h1 h2,b=>by rw [List.append_assoc]; exact .cons e x _ vs _ h1 (h2.app b)
theorem RpR.set:∀{e:Ty} {xs:List (e.den τ)} {vs:List Value},RpR P G h e xs vs→∀{i:Nat} {z:e.den τ} {us:List Value},i<xs.length→RpL P G h (ets G e) (edt G e z) us →
  RpR P G h e (xs.set i z) (vs.take (i*(ets G e).length)++us++vs.drop (i*(ets G e).length+(ets G e).length))
 | _,_,_,.nil _,i,z,us,hi,c=>by simp at hi
 | _,_,_,.cons e x xs vs a h1 h2,0,z,us,hi,c=>by
  have:=h1.len;simp only [Nat.zero_mul,List.take_zero,List.nil_append,Nat.zero_add,List.set_cons_zero];rw [List.drop_append,List.drop_eq_nil_of_le (by omega),List.nil_append,this,Nat.sub_self,List.drop_zero];exact .cons e z xs us a c h2
 | _,_,_,.cons e x xs vs a h1 h2,i+1,z,us,hi,c=>by
  have b:=h1.len;have:=RpR.set h2 (i:=i) (by simpa using hi) c;rw [List.set_cons_succ]
  have d:(vs++a).take ((i+1)*(ets G e).length)=vs++a.take (i*(ets G e).length):=by
   rw [List.take_append,List.take_of_length_le (by rw [b,Nat.add_mul]; omega),b,Nat.add_mul,Nat.one_mul,Nat.add_sub_cancel]
  have f:(vs++a).drop ((i+1)*(ets G e).length+(ets G e).length)=a.drop (i*(ets G e).length+(ets G e).length):=by
   rw [List.drop_append,List.drop_eq_nil_of_le (by rw [b,Nat.add_mul]; omega),b,List.nil_append,Nat.add_mul,Nat.one_mul]
   congr 1; omega
  rw [d,f,List.append_assoc,List.append_assoc];rw [List.append_assoc] at this;exact .cons e x _ vs _ h1 this
theorem zJ8 (M:Mem P G w0 h0 F L2 w ν h φ) {e:Ty} {c:CV τ} {xs:List (e.den τ)} {m:List Nat} {v:Value} (k:rowO L e c=some (xs,m)) (N:∀i∈m,lk L2 i=lk L i) (O:zdg P G h ν c v) :
  ∃ad p cs,v = .slice ad xs.length p∧xs.length≤p∧ze1 w ad cs∧RpR P G h e xs cs∧∀b,b∈(ad.map (·.block)).toList→cs≠[]→b∈fps φ m∨h b≠none:=by
 have rp:∀{v:Value} {xs:List (e.den τ)},Rp P G h (.sl e) xs v→∃ad p cs,v = .slice ad xs.length p∧xs.length≤p∧ze1 w ad cs∧RpR P G h e xs cs∧∀b,b∈(ad.map (·.block)).toList→cs≠[]→b∈fps φ m∨h b≠none:=by
  intro v xs f
  cases f with
  | sl _ _ a c vs hc S f =>
   refine ⟨a,c,vs,rfl,hc,S.sees M.on,f,fun b d s => .inr ?_⟩
   rcases S with rfl|⟨b',o,cc,z,zz,rfl,h2,_⟩
   ·exact (s rfl).elim
   ·simp at d; subst d; rw [h2]; simp
 unfold rowO at k
 split at k
 ·split at k
  ·rename_i t
   obtain ⟨rfl,rfl⟩:=zhi t;cases k;exact rp O
  ·cases k
 ·cases k;obtain rfl:v=_:=O;exact ⟨none,0,[],rfl,Nat.le_refl _,rfl,.nil e,fun b d=>by cases d⟩
 ·rename_i id
  obtain ⟨ad,n,p,q,hν,rfl⟩:=O
  split at k
  ·rename_i Y z g Q l
   split at k
   ·rename_i t
    obtain ⟨rfl,rfl⟩:=zhi t;cases k;have f:=M.res id;rw [N id (List.mem_singleton.2 rfl),l] at f;obtain ⟨X,T,vs,u,h1,h2,A,R,_⟩:=f;rw [hν] at h1;cases h1;obtain ⟨rfl,hc⟩:=A.len;refine ⟨ad,p,vs,rfl,hc,A.sees.sees,R,fun b d _ => .inl ?_⟩;rw [zdr,h2];refine List.mem_append_left _ ?_
    cases ad with
    | none=>simp at d
    | some a=>simpa [Value.ownBlock] using d
   ·cases k
  ·rename_i z g l
   split at k
   ·rename_i t
    obtain ⟨rfl,rfl⟩:=zhi t;cases k;have f:=M.res id;rw [N id (List.mem_singleton.2 rfl),l] at f;obtain ⟨X,T,h1,_,A⟩:=f;rw [hν] at h1;cases h1;exact rp A
   ·cases k
  ·rename_i i Q z lo g l
   split at k
   ·rename_i Y e2 ys W C
    cases y:Nat.beq Q W with
    | false=>rw [y] at k; cases k
    | true =>
     rw [y] at k
     have:Q=W:=by simpa using y
     subst this;dsimp only [cond_true] at k
     split at k
     ·rename_i t
      obtain ⟨rfl,rfl⟩:=zhi t;cases k;have f:=M.res id;rw [N id (List.mem_cons_self ..),l] at f;obtain ⟨a1,n1,c1,q1,q2,u1,ys1,a2,c2,Z,g2,g3,g4,U,V,g7,_⟩:=f;have I:=M.res i;rw [N i (List.mem_cons_of_mem _ (List.mem_cons_self ..)),C] at I;obtain ⟨X,T,vs,u,h1,h2,A,R,r⟩:=I;rw [Z] at h1;cases h1;rw [g2] at r
      injection r with r
      injection r with _ r
      injection r with r
      cases r;rw [hν] at U;cases U
      by_cases J:g=[]
      ·subst J;refine ⟨ad,p,[],rfl,V,?_,.nil _,fun b _ s=>(s rfl).elim⟩
       cases ad with
       | none=>rfl
       | some x=>exact .inl rfl
      ·obtain ⟨rfl,_⟩:=A.len;have H:=A.sees.sees
       have B:∀(j:Nat) v,((vs.take ((lo+g.length)*(ets G z).length)).drop (lo*(ets G z).length))[j]? = some v→vs[lo*(ets G z).length+j]? = some v:=by
        intro j v K;rw [List.getElem?_drop,List.getElem?_take] at K
        split at K
        ·exact K
        ·cases K
       have E:=(R.take (lo+g.length)).drop lo;rw [← g4] at E;have D:=g7.1 J;refine ⟨ad,p,_,rfl,V,by rw [D]; exact ze1.part H B,E,fun b d _ => .inl ?_⟩;rw [zdr,zdr,h2];refine List.mem_append_right _ (List.mem_append_left _ ?_);rw [D] at d
       cases a1 with
       | none=>simp at d
       | some a =>
        have e:(a.add (lo*(ets G z).length)).block=a.block:=by unfold Addr.add; split<;>rfl
        simp [e] at d;simpa [Value.ownBlock] using d
     ·cases k
   ·cases k
  ·cases k
 ·cases k
end
section
variable {ρ:Type} {X:Cx τ} {w0 w w':World} {h0 h H:Fz} {F:List Nat} {o:Oper} {E:zad τ} {L L2:Hp τ} {ν ν':Vn τ} {φ φ':Nat→List Nat} {nid nid':Nat} {K:Nx τ ρ} {r:ρ} {v:XV τ} {U:Hp τ} {tch:List Nat} {g:List (XV τ)}
variable {x y:Operand} {t' t ty u':Nat} {dst:Option Nat} {p:String} {af:Array Edge} {gd:Option (Nat × Bool)}
theorem zE6 (M:Mem X.P X.G w0 h0 F L2 w ν h φ) {j:Nat} {e:Ty} {c:CV τ} {xs:List (e.den τ)} {m:List Nat} {v:Value} (k:rowA L j e c=some (xs,U,m)) (z:∀i∈m,lk L2 i=lk L i) (p:zdg X.P X.G h ν c v) :
  ∃φ1 cs,Mem X.P X.G w0 h0 F (U++L2) w ν h φ1∧zhJ w0 h F φ1 v.ownBlock.toList∧zhj X.G w j (ets X.G e).length v xs.length cs∧RpR X.P X.G h e xs cs∧(∃a n c,v = .slice a n c)∧∀i b,b∈φ1 i→b∈φ i∧i∉m:=by
 unfold rowA at k
 split at k
 ·cases k; cases p;exact ⟨φ,[],M,fun b f=>by simp [Value.ownBlock] at f,zhj.nil ..,.nil _,⟨_,_,_,rfl⟩,fun i b f=>⟨f,by simp⟩⟩
 ·rename_i id
  split at k
  ·rename_i g I A E l
   cases f:Nat.beq j g with
   | false=>rw [f] at k; cases k
   | true =>
    rw [f] at k;dsimp only [cond_true] at k
    have x:j=g:=by simpa using f
    subst x
    split at k
    ·rename_i s
     obtain ⟨rfl,rfl⟩:=zhi s;cases k;have r:=M.res id;rw [z id (List.mem_singleton.2 rfl),l] at r;obtain ⟨H,D,vs,u,h1,h2,y,B,_⟩:=r;obtain ⟨ad,n,C,q,hν,rfl⟩:=p;rw [hν] at h1;cases h1;obtain ⟨t,o⟩:=M.drop id;rw [h2] at o;refine ⟨_,vs,t,o,y,B,⟨_,_,_,rfl⟩,fun i b d=>?_⟩
     by_cases hi:i=id
     ·subst hi; rw [za0] at d; cases d
     ·rw [zbz _ _ hi] at d; exact ⟨d,by simpa using hi⟩
    ·cases k
  ·cases k
 ·cases k
theorem zAS:∀{l:List UInt8} {vs:List Value},vs=cells (fun b=>[zcs b]) l→RpR X.P X.G h .u8 l vs
 | [],vs,e=>by subst e; exact .nil _
 | b::l,vs,e=>by subst e; exact .cons .u8 b l [zcs b] _ (.cons .u8 [] b _ [] (.u8 b) .nil) (zAS rfl)
theorem zk9 {t e:TypeId} (h:elO P t=some e):P.underlying t=some (.slice e):=by
 unfold elO at h
 split at h
 ·rename_i a; cases h; exact a
 ·cases h
theorem zPQ {e:TypeId} (h:bytO P e=true):∃i,P.info? e=some i∧i.zero=some (.int .u8 0)∧i.size=1∧i.bytes=1:=by
 unfold bytO at h
 split at h
 ·rename_i i hi
  split at h
  ·rename_i a
   simp only [Bool.and_eq_true,Nat.beq_eq] at h;exact ⟨i,hi,a,h.1,h.2⟩
  ·cases h
 ·cases h
theorem zI3 {te:Nat} {e:Ty} {a0:CV τ} {xs:List (e.den τ)} {l0:Str} {l:List (e.den τ)} (hel:elO X.P t'=some te) (hx:evC E x=some a0) (hA:rowA L te e a0=some (xs,U,tch)) (hy:evC E y=some (.s l0)) (hu:X.P.underlying u'=some .string)
  (hl:zna (t := .u8) (t':=e) l0=some l) (hb:(bytO X.P te && !X.G.dr te)=true) (hfit:zf xs.length l.length 1=true) (k:K (.c (.os nid)) [] ((nid,.row te e (xs++l) nid)::U) tch (nid+1)=some r) :
  zdD X w0 h0 F ⟨dst,.call ⟨.builtin .append,⟨[x,y]⟩,⟨[t',u']⟩⟩,t,p,af,gd⟩ E L nid K r:=by
 refine ⟨_,_,_,_,_,k,Nat.le_succ _,(fun _ h=>by cases h),fun L2 ν h φ a w next Q hd M hE ha hn k=>?_⟩;have hn':=hn nid (Nat.le_refl _) (Nat.lt_succ_self _);obtain ⟨Ea,hf,hl'⟩:=zef a hd;obtain ⟨vx,h1,h2⟩:=zB hl' (hE.op (by simp [Op.operands,Call.operands])) hx;obtain ⟨vy,h3,h4⟩:=zB hl' (hE.op (by simp [Op.operands,Call.operands])) hy;obtain rfl:vy=_:=h4;obtain ⟨φ1,cs,M1,hfr,ho,hr,⟨ad,n,cp,rfl⟩,_⟩:=zE6 M hA ha h2;obtain ⟨rfl,rfl⟩:=zhi hl;simp only [Bool.and_eq_true,Bool.not_eq_true'] at hb;obtain ⟨ti,hti,hz,hs1,hs2⟩:=zPQ hb.1;simp only [zf,Bool.and_eq_true,decide_eq_true_eq] at hfit;have f1:xs.length+List.length (α:=UInt8) l0≤9223372036854775807:=hfit.1;have f2:(xs.length+List.length (α:=UInt8) l0)*1≤140737488355328:=hfit.2;have hsz:(⟨l0.toArray⟩:ByteArray).size=l0.length:=rfl;obtain ⟨ad',c',w',hrun,g2,g3,g4⟩:=zrW (P:=X.P) (w:=w) t' u' t te ti (zk9 hel) hu hti hz hs1 hs2 (.slice ad n cp) xs.length cs (ho.row hb.2) ⟨l0.toArray⟩ (by rw [hsz]; unfold maxLen; omega) (by rw [hsz]; omega);rw [hsz,zDW (en:=fun b=>[zcs b]) (fun _=>rfl)] at g2;rw [hsz] at hrun g4
 have hexec:(execOp a.eval ⟨dst,.call ⟨.builtin .append,⟨[x,y]⟩,⟨[t',u']⟩⟩,t,p,af,gd⟩).run X.P w = .ok (.value (.slice ad' (xs.length+l0.length) c')) w':=by
  simp only [execOp,resolve,invoke,builtin,Sem.run_bind,Sem.run_pure,Result.andThen_ok,List.map_toArray,List.map_cons,List.map_nil,hf.ev h1,hf.ev h3,hrun]
 refine zgm hexec (k _ h _ _ _ (zvf M1 hfr hn' g3 (zhj.of_row (by rw [List.length_append]; exact g2)) (hr.app (zAS rfl)) g4) (zbV hn') (Fz.le.refl _) zet ⟨_,_,_,_,za0 _ _ _,rfl⟩)
theorem zI4 (hT:TyOk X) {te:Nat} {e:Ty} {a0 b0:CV τ} {xs ys:List (e.den τ)} {m:List Nat} (hel:elO X.P t'=some te) (hel':elO X.P u'=some te) (hte:asc X.ty te=some e) (hx:evC E x=some a0) (hA:rowA L te e a0=some (xs,U,tch)) (hy:evC E y=some b0) (hB:rowO L e b0=some (ys,m)) (hdj:zy8 tch m=true)
  (hfit:fitO X.P xs.length ys.length te=true) (k:K (.c (.os nid)) [] ((nid,.row te e (xs++ys) nid)::U) (tch++m) (nid+1)=some r) (htu:t'=u') :
  zdD X w0 h0 F ⟨dst,.call ⟨.builtin .append,⟨[x,y]⟩,⟨[t',u']⟩⟩,t,p,af,gd⟩ E L nid K r:=by
 subst htu;refine ⟨_,_,_,_,_,k,Nat.le_succ _,(fun _ h=>by cases h),fun L2 ν h φ a w next Q hd M hE ha hn k=>?_⟩;have hn':=hn nid (Nat.le_refl _) (Nat.lt_succ_self _);obtain ⟨Ea,hf,hl'⟩:=zef a hd;obtain ⟨vx,h1,h2⟩:=zB hl' (hE.op (by simp [Op.operands,Call.operands])) hx;obtain ⟨vy,h3,h4⟩:=zB hl' (hE.op (by simp [Op.operands,Call.operands])) hy;obtain ⟨ad2,cp2,ds,rfl,hc2,hs2,hr2,_⟩:=zJ8 M hB (fun i hi=>ha i (List.mem_append_right _ hi)) h4;obtain ⟨φ1,cs,M1,hfr,ho,hr,⟨ad,n,cp,rfl⟩,_⟩:=zE6 M hA (fun i hi=>ha i (List.mem_append_left _ hi)) h2;obtain ⟨ti,z,hti,hz,hs1,hzs,hpos⟩:=hT.el _ (znE hte);have hs1:ti.size=(ets X.G e).length:=hs1;unfold fitO at hfit;rw [hti] at hfit;simp only [zf,Bool.and_eq_true,decide_eq_true_eq] at hfit
 have key:∃ad' c' w',(Builtin.append_ #[t',t'] t #[.slice ad n cp,.slice ad2 ys.length cp2]).run X.P w = .ok (.slice ad' (xs.length+ys.length) c') w'∧zhj X.G w' te (ets X.G e).length (.slice ad' (xs.length+ys.length) c') (xs.length+ys.length) (cs++ds)∧w.grownBy w' (Value.slice ad n cp).ownBlock ∧
   ((Value.slice ad' (xs.length+ys.length) c').ownBlock=(Value.slice ad n cp).ownBlock∨(Value.slice ad' (xs.length+ys.length) c').ownBlock=some w.heap.size):=by
  cases ad2 with
  | none =>
   have hds:ds=[]:=hs2;subst hds;have hl2:=hr2.len
   have hys:ys.length=0:=by
    rcases Nat.eq_zero_or_pos ys.length with h|h
    ·exact h
    ·have:0<ys.length*(ets X.G e).length:=Nat.mul_pos h (by omega);simp at hl2; omega
   obtain ⟨hn,hnc⟩:=ho.len;have h5:=zwF (c:=cp2) t' t te ti (zk9 hel) hti ho;rw [hys,Nat.add_zero,List.append_nil];refine ⟨ad,cp,w,?_,?_,⟨rfl,rfl,rfl,Nat.le_refl _,fun _ _ _=>rfl⟩,.inl (by subst hn; rfl)⟩
   ·rw [h5,hn]
   ·subst hn; exact ho
  | some a2 =>
   have hnews:∀j u,ds[j]? = some u→w.cell? (a2.add j)=some u:=by
    intro j u hj
    rcases hs2 with rfl|⟨hsp,hlt,hc⟩
    ·simp at hj
    ·have:a2.add j=⟨a2.block,a2.off+j,none⟩:=by
      obtain ⟨b,o,s⟩:=a2;simp only at hsp; subst hsp;unfold Addr.add; split<;>simp_all
     rw [this]; exact hc j u hj
   exact zE5 (P:=X.P) (w:=w) t' t te ti z _ ti.bytes (zk9 hel) hti hz hs1 rfl (by rw [hzs,hs1]) (by omega) _ _ _ ho a2 ys.length cp2 ds hr2.len hnews hr2.one (by unfold maxLen; omega) hfit.2
 obtain ⟨ad',c',w',hrun,g2,g3,g4⟩:=key
 have hexec:(execOp a.eval ⟨dst,.call ⟨.builtin .append,⟨[x,y]⟩,⟨[t',t']⟩⟩,t,p,af,gd⟩).run X.P w = .ok (.value (.slice ad' (xs.length+ys.length) c')) w':=by
  simp only [execOp,resolve,invoke,builtin,Sem.run_bind,Sem.run_pure,Result.andThen_ok,List.map_toArray,List.map_cons,List.map_nil,hf.ev h1,hf.ev h3,hrun]
 exact zgm hexec (k _ h _ _ _ (zvf M1 hfr hn' g3 (by rw [List.length_append]; exact g2) (hr.app hr2) g4) (zbV hn') (Fz.le.refl _) zet ⟨_,_,_,_,za0 _ _ _,rfl⟩)
end
end Go.Rk
end
section
namespace Go.Rk
open Go.RowKit Go.Dm Go.Dk
variable {τ:Nat→Type}
section
variable {ρ:Type} {X:Cx τ} {w0 w w':World} {h0 h H:Fz} {F:List Nat} {o:Oper} {E:zad τ} {L L2:Hp τ} {ν ν':Vn τ} {φ φ':Nat→List Nat} {nid nid':Nat} {K:Nx τ ρ} {r:ρ} {v:XV τ} {U:Hp τ} {tch:List Nat} {g:List (XV τ)}
variable {a:Act} {x y z:Operand} {t' t ty u':Nat} {dst:Option Nat} {p:String} {af:Array Edge} {gd:Option (Nat × Bool)}
theorem zQb (hT:TyOk X) {te:Nat} {e:Ty} {a0:CV τ} {xs:List (e.den τ)} (hel:elO X.P t'=some te) (hel':elO X.P u'=some te) (hte:asc X.ty te=some e) (hx:evC E x=some a0) (hA:rowA L te e a0=some (xs,U,tch)) (hy:evC E y=some .n0)
  (k:K (.c (.os nid)) [] ((nid,.row te e xs nid)::U) tch (nid+1)=some r) (htu:t'=u') :
  zdD X w0 h0 F ⟨dst,.call ⟨.builtin .append,⟨[x,y]⟩,⟨[t',u']⟩⟩,t,p,af,gd⟩ E L nid K r:=by
 subst htu;refine ⟨_,_,_,_,_,k,Nat.le_succ _,(fun _ h=>by cases h),fun L2 ν h φ a w next Q hd M hE ha hn k=>?_⟩;have hn':=hn nid (Nat.le_refl _) (Nat.lt_succ_self _);obtain ⟨Ea,hf,hl'⟩:=zef a hd;obtain ⟨vx,h1,h2⟩:=zB hl' (hE.op (by simp [Op.operands,Call.operands])) hx;obtain ⟨vy,h3,h4⟩:=zB hl' (hE.op (by simp [Op.operands,Call.operands])) hy;obtain rfl:vy=_:=h4;obtain ⟨φ1,cs,M1,hfr,ho,hr,⟨ad,n,cp,rfl⟩,_⟩:=zE6 M hA ha h2;obtain ⟨ti,z,hti,hz,hs1,hzs,hpos⟩:=hT.el _ (znE hte);have h5:=zwF (c:=0) t' t te ti (zk9 hel) hti ho
 have hexec:(execOp a.eval ⟨dst,.call ⟨.builtin .append,⟨[x,y]⟩,⟨[t',t']⟩⟩,t,p,af,gd⟩).run X.P w = .ok (.value (.slice ad n cp)) w:=by
  simp only [execOp,resolve,invoke,builtin,Sem.run_bind,Sem.run_pure,Result.andThen_ok,List.map_toArray,List.map_cons,List.map_nil,hf.ev h1,hf.ev h3,h5]
 exact zgm hexec (k _ h _ _ _ (zvf M1 hfr hn' ⟨rfl,rfl,rfl,Nat.le_refl _,fun _ _ _=>rfl⟩ ho hr (.inl rfl)) (zbV hn') (Fz.le.refl _) zet ⟨_,_,_,_,za0 _ _ _,rfl⟩)
theorem zQc (M:Mem X.P X.G w0 h0 F L2 w ν h φ) (hH:h.le H) {t:Ty} {A:XV τ} {d:t.den τ} {m:List Nat} {u:Value} (e:lokX X.G L t A=some (d,m)) (ha:zcd L2 L φ H w m) (hu:XOk X.P X.G h ν A u) :
  ∃us,u.cells=⟨us⟩∧RpL X.P X.G H (ets X.G t) (edt X.G t d) us:=by
 unfold lokX at e
 split at e
 ·rename_i n cs
  split at e
  ·rename_i q m' hq
   cases e;obtain ⟨us,rfl,hc⟩:=hu;refine ⟨us,rfl,?_⟩;show RpL _ _ _ (X.G.fs n) (X.G.dtor n (X.G.ctor n q)) us;rw [X.G.dc];exact zto (A:=zcd L2 L φ H w) (fun _ _=>zcd.app) (zw6 M hH depth) hq ha hc
  ·cases e
 ·rename_i c
  have hr:=zw6 M hH _ _ _ _ _ _ e ha hu;have hc:zdg X.P X.G h ν c u:=hu;refine ⟨[u],hc.one.2,?_⟩;cases t
  case st n=>cases hr
  all_goals exact .cons _ [] _ u [] hr .nil
 ·cases e
theorem zFj (hd:a.defers=[]) (M:Mem X.P X.G w0 h0 F L2 w ν h φ) (t:h.le H) {e:Ty}:∀{ps:List (Nat × Operand)} {k:Nat} {xs:List (e.den τ)} {m:List Nat} {pre rest:List Value},zHR X L E e k ps=some (xs,m)→zcd L2 L φ H w m→(∀q∈ps,zeL X h ν a (zxU q.2) E) →
  pre.length=k*(ets X.G e).length→rest.length=ps.length*(ets X.G e).length →
  ∃cs,RpR X.P X.G H e xs cs∧xs.length=ps.length∧Instr.fill (fun i=>some (i*(ets X.G e).length,(ets X.G e).length)) (pre++rest).toArray (ps.map fun q=>(q.1,a.eval q.2))=some (pre++cs).toArray
 | [],k,xs,m,pre,rest,b,l,p,hp,s=>by
  cases b;have:rest=[]:=List.eq_nil_of_length_eq_zero (by simpa using s);subst this;exact ⟨[],.nil e,rfl,rfl⟩
 | (i,x)::ps,k,xs,m,pre,rest,b,l,p,hp,s=>by
  unfold zHR at b
  cases r:Nat.beq i k with
  | false=>rw [r] at b; cases b
  | true =>
   rw [r] at b;dsimp only [cond_true] at b
   have c:i=k:=by simpa using r
   subst c
   split at b
   ·rename_i A v
    split at b
    ·rename_i d K g
     split at b
     ·rename_i o N n
      cases b;obtain ⟨us,h1,h2⟩:=zQc M t g l.app.1 (zrM hd (p _ (List.mem_cons_self ..)) v);have D:=h2.len;simp only [List.length_cons,Nat.add_mul,Nat.one_mul] at s
      have f:(rest.drop us.length).length=ps.length*(ets X.G e).length:=by rw [List.length_drop]; omega
      obtain ⟨cs,C,I,y⟩:=zFj hd M t (pre:=pre++us) (rest:=rest.drop us.length) n l.app.2 (fun q u=>p q (List.mem_cons_of_mem _ u)) (by rw [List.length_append,hp,D,Nat.add_mul,Nat.one_mul]) f;refine ⟨us++cs,.cons e d o us cs h2 C,by simp [I],?_⟩;have j:=zsH us (pre++rest) (i*(ets X.G e).length) 0 (by rw [List.length_append]; omega);simp only [Nat.add_zero] at j;simp only [List.map_cons,Instr.fill,h1];rw [if_neg (by simp; omega)]
      have B:(Array.zipIdx ⟨us⟩).foldl (fun cs (q:Value × Nat)=>cs.setIfInBounds (i*(ets X.G e).length+q.2) q.1) (pre++rest).toArray=(us.zipIdx).foldl (fun cs (q:Value × Nat)=>cs.setIfInBounds (i*(ets X.G e).length+q.2) q.1) (pre++rest).toArray:=by
       rw [← Array.foldl_toList]; simp
      have J:(pre++rest).take (i*(ets X.G e).length)++us++(pre++rest).drop (i*(ets X.G e).length+us.length)=pre++us++rest.drop us.length:=by
       rw [← hp,List.take_left,List.drop_append,List.drop_eq_nil_of_le (by omega),List.nil_append,Nat.add_sub_cancel_left]
      rw [J] at j;refine Eq.trans (congrArg (fun z=>Instr.fill _ z _) (B.trans j)) ?_;rw [y,List.append_assoc]
     ·cases b
    ·cases b
   ·cases b
theorem zNL {P:Program} {te n:Nat} {ti:TypeInfo} {z:Value} {parts:List (Nat × Value)} {cells:Array Value} (hu:P.underlying t'=some (.slice te)) (hi:P.info? te=some ti) (hz:ti.zero=some z) (hb:¬(n*ti.size>2^24))
  (hf:Instr.fill (fun i=>some (i*ti.size,ti.size)) ((Array.range (n*ti.size)).map ((if n*ti.size=0 then #[] else z.cells)[· % (if n*ti.size=0 then #[] else z.cells).size]!)) parts=some cells) :
  (Instr.buildSlice t' n parts.toArray).run P w = .ok (.slice (some ⟨w.heap.size,0,none⟩) n n) (w.alloc (.cells cells te)):=by
 have hsize:∀w,(sizeOf te).run P w = .ok ti.size w:=fun w=>by simp [sizeOf,typeInfo,hi]
 have hzv:∀w,(zeroValue te).run P w = .ok z w:=fun w=>by simp [zeroValue,typeInfo,hi,hz]
 unfold Instr.buildSlice;simp only [Sem.run_bind,run_underlying hu,Result.andThen_ok,hsize];rw [if_neg hb]
 by_cases hzero:n*ti.size=0
 ·simp only [hzero,if_true] at hf ⊢;simp only [Sem.run_bind,Sem.run_pure,Result.andThen_ok,hf];simp [newRow,go_sem,Result.andThen]
 ·simp only [hzero,if_false] at hf ⊢;simp only [Sem.run_bind,Sem.run_pure,Result.andThen_ok,hzv,hf];simp [newRow,go_sem,Result.andThen]
theorem bs_ok (hT:TyOk X) {te n:Nat} {e:Ty} {ps:List (Nat × Operand)} {xs:List (e.den τ)} {ids:List Nat} (hel:elO X.P t'=some te) (hte:asc X.ty te=some e) (hx:zHR X L E e 0 ps=some (xs,ids)) (hn:xs.length=n) (hsz:n*(ets X.G e).length≤65536) (hU:freeze L ids=some U)
  (k:K (.c (.os nid)) [] ((nid,.row te e xs nid)::U) ids (nid+1)=some r):zdD X w0 h0 F ⟨dst,.buildSlice t' n ⟨ps⟩,t,p,af,gd⟩ E L nid K r:=by
 refine ⟨_,_,_,_,_,k,Nat.le_succ _,(fun _ h=>by cases h),fun L2 ν h φ a w next Q hd M hE ha hnn k=>?_⟩;have hn':=hnn nid (Nat.le_refl _) (Nat.lt_succ_self _);obtain ⟨ti,z,hti,hz,hs1,hzs,hpos⟩:=hT.el _ (znE hte);have hs1:ti.size=(ets X.G e).length:=hs1;have hti:X.P.info? te=some ti:=hti;have hM1:=M.freeze hU ha;have hle:=M.lend_le ids
 have hm0:ps.length=n:=by
  obtain ⟨cs,_,h2,_⟩:=zFj (pre:=[]) (rest:=List.replicate (ps.length*(ets X.G e).length) undef) hd M hle hx (M.look ha) (fun q hq=>hE.op (by simp only [Op.operands,List.toList_toArray,List.mem_map]; exact ⟨q,hq,rfl⟩)) (by simp) (by simp);omega
 have hrng:∀f:Nat→Value,(Array.range (n*ti.size)).map f=((List.range (n*ti.size)).map f).toArray:=by
  intro f; apply Array.toList_inj.1; simp
 have hlen:∀f:Nat→Value,((List.range (n*ti.size)).map f).length=ps.length*(ets X.G e).length:=by intro f; simp [hm0,hs1]
 have hfill:∀zc:Array Value, ∃cs,RpR X.P X.G (zrV h w (fps φ ids)) e xs cs∧Instr.fill (fun i=>some (i*ti.size,ti.size)) ((Array.range (n*ti.size)).map (zc[· % zc.size]!)) (ps.map fun q=>(q.1,a.eval q.2))=some cs.toArray:=by
  intro zc;obtain ⟨cs,h1,_,h3⟩:=zFj (pre:=[]) (rest:=(List.range (n*ti.size)).map (zc[· % zc.size]!)) hd M hle hx (M.look ha) (fun q hq=>hE.op (by simp only [Op.operands,List.toList_toArray,List.mem_map]; exact ⟨q,hq,rfl⟩)) (by simp) (hlen _);refine ⟨cs,h1,?_⟩;rw [hrng];simp only [hs1] at h3 ⊢;simpa using h3
 have hpm:(Array.map (fun x=>match x with|(i,x)=>(i,a.eval x)) (⟨ps⟩:Array (Nat × Operand)))=(ps.map fun q=>(q.1,a.eval q.2)).toArray:=by
  have:(Array.map (fun (q:Nat × Operand)=>(q.1,a.eval q.2)) ⟨ps⟩)=(ps.map fun q=>(q.1,a.eval q.2)).toArray:=by simp
  exact this
 have key:∃cs,RpR X.P X.G (zrV h w (fps φ ids)) e xs cs∧(execOp a.eval ⟨dst,.buildSlice t' n ⟨ps⟩,t,p,af,gd⟩).run X.P w = .ok (.value (.slice (some ⟨w.heap.size,0,none⟩) n n)) (w.alloc (.cells cs.toArray te)):=by
  have hb:¬(n*ti.size>2^24):=by rw [hs1]; omega
  obtain ⟨cs,h1,h2⟩:=hfill (if n*ti.size=0 then #[] else z.cells);refine ⟨cs,h1,?_⟩;simp only [execOp];rw [hpm,Sem.run_bind,zNL (zk9 hel) hti hz hb h2];rfl
 obtain ⟨cs,h1,hexec⟩:=key;have hl:=h1.len
 have ho:zhj X.G (w.alloc (.cells cs.toArray te)) te (ets X.G e).length (.slice (some ⟨w.heap.size,0,none⟩) n n) xs.length cs :=
  zhj.of_row ⟨hl,.inr ⟨w.heap.size,n,cs.toArray,by rw [hn],Nat.zero_le _,zkx _,by omega,by have:n≤n*(ets X.G e).length:=Nat.le_mul_of_pos_right _ (by omega); unfold maxLen; omega,by simp [hl,hn],by rw [← hl]; simp⟩⟩
 refine zgm hexec (k _ _ _ _ _ (hM1.alloc hn' _ (.row te e xs nid) (.slice (some ⟨w.heap.size,0,none⟩) n n,some ⟨e,xs⟩) ⟨_,_,cs,_,rfl,rfl,ho,h1,za0 _ _ _⟩) (zbV hn') hle zet ⟨_,_,_,_,za0 _ _ _,rfl⟩)
theorem ix_ok {D:Nat} {e:Ty} {c:CV τ} {xs:List (e.den τ)} {m:Int} {d:e.den τ} (hT:TyOk X) (s:elO X.P t'=some D) (O:evC E x=some c) (hy:evC E y=some (.i m)) (hr:lAt xs m=some d) (z:szO X.P D=some (ets X.G e).length) (J:0<(ets X.G e).length)
  (k:K (.c (.ea e d 0)) [] [] tch nid=some r)
  (Q:∀(q:Hp τ) ν h φ (w:World) u,Mem X.P X.G w0 h0 F q w ν h φ→(∀i∈tch,lk q i=lk L i)→zdg X.P X.G h ν c u→Rp X.P X.G h (.sl e) xs u):zdD X w0 h0 F ⟨dst,.indexAddr t' x y,t,p,af,gd⟩ E L nid K r:=by
 refine zbp k fun q ν h φ a w hd M H V=>?_;obtain ⟨Ea,R,g⟩:=zef a hd;obtain ⟨vx,h1,h2⟩:=zB g (H.op (by simp [Op.operands])) O;obtain ⟨vy,T,h4⟩:=zB g (H.op (by simp [Op.operands])) hy;obtain rfl:vy=_:=h4;have C:=Q q ν h φ w vx M V h2;obtain ⟨I,B⟩:=zs7 hr
 cases C with
 | sl _ _ ad cp vs hc f A =>
  obtain ⟨N,U⟩:=A.get I;have hlt:m.toNat<xs.length:=(List.getElem?_eq_some_iff.1 I).1
  rcases f with rfl|⟨b,o,S,e',Y,rfl,W,Z⟩
  ·rw [List.length_nil] at U; omega
  ·have l:(⟨b,o,none⟩:Addr).add (m.toNat*(ets X.G e).length)=⟨b,o+m.toNat*(ets X.G e).length,none⟩:=by unfold Addr.add; split<;>simp_all
   refine ⟨ptr b (o+m.toNat*(ets X.G e).length),?_,b,o+m.toNat*(ets X.G e).length,_,rfl,.inr ⟨b,_,S,e',Y,rfl,W,fun j v n=>?_⟩,N⟩
   ·refine znf (fun w=>?_) R h1 T;rw [zoE (zk9 s) (zgp z) B (by omega),l]
   ·rw [List.getElem?_take] at n
    split at n
    ·rw [List.getElem?_drop] at n;rw [Nat.add_assoc]; exact Z _ _ n
    ·cases n
theorem ixo_ok {B A id D:Nat} {e:Ty} {xs:List (e.den τ)} {m:Int} {d:e.den τ} (l:elO X.P t'=some B) (O:evC E x=some (.os id)) (V:evC E y=some (.i m)) (z:lk L id = .row A e xs D) (I:lAt xs m=some d) (o:szO X.P B=some (ets X.G e).length) (J:0<(ets X.G e).length)
  (k:K (.c (.oe id D m e d 0)) [] [] [id] nid=some r):zdD X w0 h0 F ⟨dst,.indexAddr t' x y,t,p,af,gd⟩ E L nid K r:=by
 refine zbp k fun L2 ν h φ a w hd M H U=>?_;obtain ⟨Ea,Q,f⟩:=zef a hd;obtain ⟨vx,h1,h2⟩:=zB f (H.op (by simp [Op.operands])) O;obtain ⟨Z,R,Y⟩:=zB f (H.op (by simp [Op.operands])) V;obtain rfl:Z=_:=Y;obtain ⟨ad,n,cp,q,hν,rfl⟩:=h2;have b:=M.res id;rw [U id (List.mem_singleton.2 rfl),z] at b;obtain ⟨v',q',vs,u,C,g2,g3,g4,S⟩:=b;rw [hν] at C;cases C;obtain ⟨hz,v⟩:=zs7 I;have W:m.toNat<xs.length:=(List.getElem?_eq_some_iff.1 hz).1;obtain ⟨_,⟨N,T⟩|⟨g,s,cap,cur,N,_⟩⟩:=g3
 ·omega
 ·cases N
  have j:(⟨g,s*(ets X.G e).length,none⟩:Addr).add (m.toNat*(ets X.G e).length)=⟨g,s*(ets X.G e).length+m.toNat*(ets X.G e).length,none⟩:=by unfold Addr.add; split<;>simp_all
  refine ⟨ptr g (s*(ets X.G e).length+m.toNat*(ets X.G e).length),?_,g,_,_,_,_,xs,u,hν,S,I,rfl⟩;refine znf (fun w=>?_) Q h1 R;rw [zoE (zk9 l) (zgp o) v (by omega),j]
theorem zlM {P:Program} {e sz n c i j:Nat} {ad:Option Addr} (b:P.underlying t=some (.slice e)) (hn:znV P e=some sz) (a:i≤j) (g:j≤n) (hc:n≤c) :
  (Instr.slice t (.slice ad n c) (some (int i)) (some (int j)) none).run P w = .ok (.slice (if c=i then ad else ad.map (·.add (i*sz))) (j-i) (c-i)) w ∧
  (i=0→(Instr.slice t (.slice ad n c) none (some (int j)) none).run P w = .ok (.slice (if c=i then ad else ad.map (·.add (i*sz))) (j-i) (c-i)) w) ∧
  (j=n→(Instr.slice t (.slice ad n c) (some (int i)) none none).run P w = .ok (.slice (if c=i then ad else ad.map (·.add (i*sz))) (j-i) (c-i)) w):=by
 have f:j≤c:=by omega
 refine ⟨?_,fun hi=>?_,fun d=>?_⟩
 ·simp [Instr.slice,Instr.sliceBounds,Instr.sliceBound,asIntOf,run_underlying b,zeo hn,a,f,Result.andThen]
 ·subst hi;simp [Instr.slice,Instr.sliceBounds,Instr.sliceBound,asIntOf,run_underlying b,zeo hn,f,Result.andThen]
 ·subst d;simp [Instr.slice,Instr.sliceBounds,Instr.sliceBound,asIntOf,run_underlying b,zeo hn,a,Result.andThen]
theorem sli_ok (M:Mem X.P X.G w0 h0 F L2 w ν h φ) {c:CV τ} {e:Ty} {l:List (e.den τ)} {ids:List Nat} {u:Value} (k:zJD L c=some ⟨e,l,U,ids⟩) (j:∀i∈ids,lk L2 i=lk L i) (g:zdg X.P X.G h ν c u) :
  ∃h' φ',Mem X.P X.G w0 h0 F (U++L2) w ν h' φ'∧h.le h'∧Rp X.P X.G h' (.sl e) l u:=by
 unfold zJD at k
 split at k
 ·cases k;exact ⟨h, φ,M,Fz.le.refl _,g⟩
 ·rename_i id
  obtain ⟨ad,n,r,q,hν,rfl⟩:=g
  split at k
  ·rename_i s p xs t a
   cases k
   have f:freeze L [id]=some [(id,.fz e l)]:=by simp [freeze,a]
   have M1:=M.freeze f j;have b:=M1.res id;rw [zhs _ (by simp [kys]),zby] at b;obtain ⟨o,m,h1,_,d⟩:=b;rw [hν] at h1;cases h1;exact ⟨_,_,M1,M.lend_le _,d⟩
  ·rename_i p xs a
   cases k;have b:=M.res id;rw [j id (List.mem_singleton.2 rfl),a] at b;obtain ⟨o,m,h1,_,d⟩:=b;rw [hν] at h1;cases h1;exact ⟨h, φ,M,Fz.le.refl _,d⟩
  ·cases k
 ·cases k
end
end Go.Rk
end
