/- Walks by evaluation: rows of one's own. Over any program. Walks by evaluation: parts of rows, places in rows, rows that  -/
import Derived.Test.YtkbigjfhddediaaGreatDoorYSt
set_option linter.unusedVariables false
set_option linter.unusedSimpArgs false
section
namespace Go.Rk
open Go.RowKit Go.Dm Go.Dk
variable {τ:Nat→Type}
variable {P:Program}
theorem zPw (C a:List Value) (A N D:Nat) (h1:A+a.length≤N) (h2:D+N≤C.length) :
  ((C.take (D+A)++a++C.drop (D+A+a.length)).drop D).take N=((C.drop D).take N).take A++a++((C.drop D).take N).drop (A+a.length):=by
 have c:(C.take (D+A)++a++C.drop (D+A+a.length)).drop D=(C.drop D).take A++(a++(C.drop D).drop (A+a.length)):=by
  rw [List.append_assoc,List.drop_append_of_le_length (by rw [List.length_take]; omega),List.drop_take,Nat.add_sub_cancel_left,List.drop_drop,Nat.add_assoc]
 have b:((C.drop D).take A).length=A:=by rw [List.length_take,List.length_drop]; omega
 have d:∀R:List Value,((C.drop D).take A++(a++R)).take N=(C.drop D).take A++(a++R.take (N-(A+a.length))):=by
  intro R;rw [← List.append_assoc,List.take_append,List.take_of_length_le (l:=(C.drop D).take A++a) (by rw [List.length_append,b]; exact h1),List.length_append,b,List.append_assoc]
 rw [c,d,List.take_take,Nat.min_eq_left (by omega),List.append_assoc,List.drop_take]
section
variable {P:Program} (w:World)
theorem zw4 (t ty e:TypeId) (i:TypeInfo) (r:P.underlying t=some (.slice e)) (hi:P.info? e=some i)
  (g o b d:Nat) (cur:Array Value) (p:w.heap[g]? = some (.cells cur e (0,0)))
  (a:Addr) (m c:Nat) (news:List Value) (q:news.length=m*i.size) (h:∀j u,news[j]? = some u→w.cell? (a.add j)=some u) (h1:∀u∈news,u.oneCell'=true)
  (f:b+m≤d) (k:o+b*i.size+news.length≤cur.size) :
  (Builtin.append_ #[t,t] ty #[.slice (some ⟨g,o,none⟩) b d,.slice (some a) m c]).run P w =
   .ok (.slice (some ⟨g,o,none⟩) (b+m) d) (w.setRow g (cur.toList.take (o+b*i.size)++news++cur.toList.drop (o+b*i.size+news.length)).toArray):=by
 have s:=run_firstCells_some (P:=P) w i.size m a m c news q h;have l:=run_storeCells_at P g (o+b*i.size) e news 0 cur w p (by simpa using k) h1
 have n:(⟨g,o,none⟩:Addr).add (b*i.size)=⟨g,o+b*i.size,none⟩:=by unfold Addr.add; split<;>simp_all
 simp only [Nat.add_zero] at l;simp [Builtin.append_,run_underlying r,sizeOf,typeInfo,hi,Builtin.lenOf,f,s,n,l]
end
theorem zDx {G:Sig τ} {w:World} (t ty e:TypeId) (i:TypeInfo) (z:Value) (size bytes:Nat) (O:P.underlying t=some (.slice e)) (hi:P.info? e=some i) (D:i.zero=some z)
  (o:i.size=size) (x:i.bytes=bytes) (C:z.cells.size=size) (E:0<size)
  (v:Value) (n:Nat) (xs:List Value) (p:zg1 G w e size v n xs)
  (ad:Addr) (m c:Nat) (news:List Value) (B:news.length=m*size) (b:∀j u,news[j]? = some u→w.cell? (ad.add j)=some u) (h1:∀u∈news,u.oneCell'=true)
  (r:n+m≤maxLen) (f:(n+m)*bytes≤140737488355328) :
  ∃a q w',(Builtin.append_ #[t,t] ty #[v,.slice (some ad) m c]).run P w = .ok (.slice a (n+m) q) w'∧zg1 G w' e size (.slice a (n+m) q) (n+m) (xs++news)∧w.grownBy w' v.ownBlock ∧
   ((Value.slice a (n+m) q).ownBlock=v.ownBlock∨(Value.slice a (n+m) q).ownBlock=some w.heap.size):=by
 have base:w.ownsRow 0 e size v n xs→_:=fun W=>zkk (P:=P) (w:=w) t ty e i z size bytes O hi D o x C E v n xs W ad m c news B b h1 r f
 cases hd:G.dr e with
 | false =>
  obtain ⟨a,q,w',M,K,F,H⟩:=base (p.row hd);exact ⟨a,q,w',M,zg1.of_row K,F,H⟩
 | true =>
  obtain ⟨h2,T⟩:=p
  rcases T with ⟨rfl,rfl⟩|⟨g,d,cap,cur,rfl,_,L,X,Q,I,s⟩
  ·obtain ⟨a,q,w',M,K,F,H⟩:=base ⟨h2,.inl ⟨rfl,rfl⟩⟩;exact ⟨a,q,w',M,zg1.of_row K,F,H⟩
  ·subst o;subst x
   have h:(xs++news).length=(n+m)*i.size:=by rw [List.length_append,h2,B,Nat.add_mul]
   by_cases l:n+m≤cap
   ·have Z:d*i.size+(n+m)*i.size≤cur.size:=by rw [← Nat.add_mul]; exact Nat.le_trans (Nat.mul_le_mul_right _ (by omega)) I
    have S:(n+m)*i.size=n*i.size+m*i.size:=Nat.add_mul ..;have R:=zw4 (P:=P) w t ty e i O hi g (d*i.size) n cap cur L ad m c news B b h1 l (by omega)
    have V:cur.toList.length=cur.size:=by simp
    refine ⟨_,_,_,R,⟨h,.inr ⟨g,d,cap,_,rfl,(fun D=>(Bool.noConfusion (hd.symm.trans D):_)),setRow_heap w g cur _ e _ L,l,Q,?_,?_⟩⟩,⟨rfl,rfl,rfl,by simp,fun k _ J=>setRow_other w g k _ (fun e=>J (by simp [Value.ownBlock,e]))⟩,.inl rfl⟩
    ·simp only [List.size_toArray,List.length_append,List.length_take,List.length_drop];omega
    ·have Y:=zPw cur.toList news (n*i.size) ((n+m)*i.size) (d*i.size) (by omega) (by omega);rw [List.toList_toArray,Y,List.take_take,Nat.min_eq_left (by omega),s,List.drop_eq_nil_of_le (by rw [List.length_take,List.length_drop]; omega),List.append_nil]
   ·have U:n+m≤9223372036854775807:=by simp only [maxLen] at r; omega
    have holds:∀j u,xs[j]? = some u→w.cell? ((⟨g,d*i.size,none⟩:Addr).add j)=some u:=by
     intro j u y
     have A:(⟨g,d*i.size,none⟩:Addr).add j=⟨g,d*i.size+j,none⟩:=by unfold Addr.add; split<;>simp_all
     rw [A,cell_of_row w g _ cur e (0,0) L];rw [← s,List.getElem?_take] at y
     split at y
     ·rw [List.getElem?_drop] at y; simpa using y
     ·cases y
    have R:=run_append_grow (P:=P) w t ty e i z O hi D ⟨g,d*i.size,none⟩ n cap xs h2 holds ad m c news B b (by omega) (by omega) (growslice_fits (by omega) f);have N:=grownCap_ge w (n+m) cap e;refine ⟨_,_,_,R,zg1.of_row ⟨h,.inr ⟨w.heap.size,_,_,rfl,Nat.zero_le _,heap_alloc_new w.drew _,N,grownCap_le_maxLen w (n+m) cap e r,?_,?_⟩⟩,⟨rfl,rfl,rfl,by simp,fun k J _=>heap_alloc_old w.drew _ J⟩,.inr rfl⟩
    ·simp only [Array.size_append,List.size_toArray,size_zeroCells,C,h2,B, ← Nat.add_mul]
     congr 1
     omega
    ·simp only [Array.toList_append,List.append_assoc];rw [← List.append_assoc, ← h];exact List.take_left
theorem zvA {G:Sig τ} {w:World} (t ty e:TypeId) (i:TypeInfo) {size c:Nat} (f:P.underlying t=some (.slice e)) (hi:P.info? e=some i) {ad:Option Addr} {m a n:Nat} {xs:List Value} (d:zg1 G w e size (.slice ad m a) n xs) :
  (Builtin.append_ #[t,t] ty #[.slice ad m a,.slice none 0 c]).run P w = .ok (.slice ad m a) w:=by
 obtain ⟨_,b⟩:=d.len;cases ad<;>simp [Builtin.append_,run_underlying f,sizeOf,typeInfo,hi,Builtin.lenOf,Builtin.firstCells,b,storeCells]
section
variable {P:Program} {G:Sig τ} {w0 w w':World} {h0 h h' H:Fz} {F:List Nat} {L L' L2:Hp τ} {ν ν':Vn τ} {φ φ':Nat→List Nat}
theorem Mem.growBy (M:Mem P G w0 h0 F L w ν h φ) {row:Option Nat} (d:w.grownBy w' row) (g:zhP w0 h F φ row.toList):Mem P G w0 h0 F L w' ν h φ:=by
 have a:∀b,b<w.heap.size→b∉row.toList→w'.heap[b]? = w.heap[b]? := fun b f c=>d.block b f fun e=>c (by rw [← e]; simp);refine ⟨d.os.trans M.os,d.tape.trans M.tape,d.output.trans M.output,Nat.le_trans M.size d.size,fun b h1 h2=>?_,M.le,fun b o e=>?_,M.new,fun i=>?_,M.dis,M.out,M.gl,M.fp⟩
 ·refine (a b (Nat.lt_of_lt_of_le h1 M.size) fun c=>?_).trans (M.frame b h1 h2)
  rcases (g b c).2.2 with j|j
  ·exact h2 j
  ·omega
 ·refine (a b (M.in_lt (by rw [e]; simp)) fun c=>?_).trans (M.on b o e);rw [(g b c).2.1] at e; cases e
 ·exact (M.res i).of (Fz.le.refl _) (Vn.le.refl _) fun b f=>a b (M.lt f) fun c=>(g b c).1 i f
theorem zuN (M:Mem P G w0 h0 F L w ν h φ) {v a:Value} {f nid:Nat} {e:Ty} {xs:List (e.den τ)} {cs:List Value} (g:zhP w0 h F φ v.ownBlock.toList) (hn:ν nid=none) (j:w.grownBy w' v.ownBlock) (k:zg1 G w' f (ets G e).length a xs.length cs)
  (l:RpR P G h e xs cs) (c:a.ownBlock=v.ownBlock∨a.ownBlock=some w.heap.size):Mem P G w0 h0 F ((nid,.row f e xs nid)::L) w' (up1 ν nid (some (a,some ⟨e,xs⟩))) h (up1 φ nid a.ownBlock.toList):=by
 refine (M.growBy j g).add hn _ _ ⟨a,_,cs,a,rfl,rfl,k,l,za1 _ _ _⟩ fun b d=>?_
 rcases c with c|c
 ·rw [c] at d; exact g b d
 ·rw [c] at d
  obtain rfl:b=w.heap.size:=by simpa using d
  refine ⟨fun i hi=>Nat.lt_irrefl _ (M.lt hi),?_,.inr M.size⟩
  cases e:h w.heap.size with
  | none=>rfl
  | some o'=>exact (Nat.lt_irrefl _ (M.in_lt (b:=w.heap.size) (by rw [e]; simp))).elim
theorem RpL.one:∀{ts:List Ty} {q:DP τ ts} {vs:List Value},RpL P G h ts q vs→∀v∈vs,v.oneCell'=true
 | _,_,_,.nil,v,a=>by cases a
 | _,_,_,.cons t ts q u us h1 h2,v,a=>by
  rcases List.mem_cons.1 a with rfl|a
  ·exact (zc9.one (X:=⟨P,G,[],[],0,fun _=>undef⟩) (ν:=fun _=>none) (zKw h1)).1
  ·exact h2.one v a
theorem RpR.one:∀{e:Ty} {xs:List (e.den τ)} {vs:List Value},RpR P G h e xs vs→∀v∈vs,v.oneCell'=true
 | _,_,_,.nil e,v,a=>by cases a
 | _,_,_,.cons e x xs vs b h1 h2,v,a=>by
  rcases List.mem_append.1 a with a|a
  ·exact h1.one v a
  ·exact h2.one v a
theorem RpR.app:∀{e:Ty} {xs ys:List (e.den τ)} {vs a:List Value},RpR P G h e xs vs→RpR P G h e ys a→RpR P G h e (xs++ys) (vs++a)
 | _,_,_,_,_,.nil _,h2=>h2
 | _,_,_,_,_,.cons e x xs vs a h1 h2,b=>by rw [List.append_assoc]; exact .cons e x _ vs _ h1 (h2.app b)
theorem RpR.set:∀{e:Ty} {xs:List (e.den τ)} {vs:List Value},RpR P G h e xs vs→∀{i:Nat} {z:e.den τ} {us:List Value},i<xs.length→RpL P G h (ets G e) (edt G e z) us →
  RpR P G h e (xs.set i z) (vs.take (i*(ets G e).length)++us++vs.drop (i*(ets G e).length+(ets G e).length))
 | _,_,_,.nil _,i,z,us,hi,b=>by simp at hi
 | _,_,_,.cons e x xs vs a h1 h2,0,z,us,hi,b=>by
  have:=h1.len;simp only [Nat.zero_mul,List.take_zero,List.nil_append,Nat.zero_add,List.set_cons_zero];rw [List.drop_append,List.drop_eq_nil_of_le (by omega),List.nil_append,this,Nat.sub_self,List.drop_zero];exact .cons e z xs us a b h2
 | _,_,_,.cons e x xs vs a h1 h2,i+1,z,us,hi,b=>by
  have c:=h1.len;have:=RpR.set h2 (i:=i) (by simpa using hi) b;rw [List.set_cons_succ]
  have f:(vs++a).take ((i+1)*(ets G e).length)=vs++a.take (i*(ets G e).length):=by
   rw [List.take_append,List.take_of_length_le (by rw [c,Nat.add_mul]; omega),c,Nat.add_mul,Nat.one_mul,Nat.add_sub_cancel]
  have d:(vs++a).drop ((i+1)*(ets G e).length+(ets G e).length)=a.drop (i*(ets G e).length+(ets G e).length):=by
   rw [List.drop_append,List.drop_eq_nil_of_le (by rw [c,Nat.add_mul]; omega),c,List.nil_append,Nat.add_mul,Nat.one_mul]
   congr 1; omega
  rw [f,d,List.append_assoc,List.append_assoc];rw [List.append_assoc] at this;exact .cons e x _ vs _ h1 this
theorem zJ8 (M:Mem P G w0 h0 F L2 w ν h φ) {e:Ty} {c:CV τ} {xs:List (e.den τ)} {m:List Nat} {v:Value} (k:rowO L e c=some (xs,m)) (K:∀i∈m,lk L2 i=lk L i) (Q:zc9 P G h ν c v) :
  ∃ad p cs,v = .slice ad xs.length p∧xs.length≤p∧ze3 w ad cs∧RpR P G h e xs cs∧∀b,b∈(ad.map (·.block)).toList→cs≠[]→b∈fps φ m∨h b≠none:=by
 have rp:∀{v:Value} {xs:List (e.den τ)},Rp P G h (.sl e) xs v→∃ad p cs,v = .slice ad xs.length p∧xs.length≤p∧ze3 w ad cs∧RpR P G h e xs cs∧∀b,b∈(ad.map (·.block)).toList→cs≠[]→b∈fps φ m∨h b≠none:=by
  intro v xs f
  cases f with
  | sl _ _ a c vs hc S f =>
   refine ⟨a,c,vs,rfl,hc,S.sees M.on,f,fun b d t => .inr ?_⟩
   rcases S with rfl|⟨b',o,cc,A,zz,rfl,h2,_⟩
   ·exact (t rfl).elim
   ·simp at d; subst d; rw [h2]; simp
 unfold rowO at k
 split at k
 ·split at k
  ·rename_i B
   obtain ⟨rfl,rfl⟩:=zhj B;cases k;exact rp Q
  ·cases k
 ·cases k;obtain rfl:v=_:=Q;exact ⟨none,0,[],rfl,Nat.le_refl _,rfl,.nil e,fun b d=>by cases d⟩
 ·rename_i id
  obtain ⟨ad,n,p,q,hν,rfl⟩:=Q
  split at k
  ·rename_i te A g R l
   split at k
   ·rename_i B
    obtain ⟨rfl,rfl⟩:=zhj B;cases k;have f:=M.res id;rw [K id (List.mem_singleton.2 rfl),l] at f;obtain ⟨V,U,vs,u,h1,h2,s,O,_⟩:=f;rw [hν] at h1;cases h1;obtain ⟨rfl,hc⟩:=s.len;refine ⟨ad,p,vs,rfl,hc,s.sees.sees,O,fun b d _ => .inl ?_⟩;rw [zdt,h2];refine List.mem_append_left _ ?_
    cases ad with
    | none=>simp at d
    | some a=>simpa [Value.ownBlock] using d
   ·cases k
  ·rename_i A g l
   split at k
   ·rename_i B
    obtain ⟨rfl,rfl⟩:=zhj B;cases k;have f:=M.res id;rw [K id (List.mem_singleton.2 rfl),l] at f;obtain ⟨V,U,h1,_,s⟩:=f;rw [hν] at h1;cases h1;exact rp s
   ·cases k
  ·rename_i i R A lo g l
   split at k
   ·rename_i te e2 ys T I
    cases y:Nat.beq R T with
    | false=>rw [y] at k; cases k
    | true =>
     rw [y] at k
     have:R=T:=by simpa using y
     subst this;dsimp only [cond_true] at k
     split at k
     ·rename_i B
      obtain ⟨rfl,rfl⟩:=zhj B;cases k;have f:=M.res id;rw [K id (List.mem_cons_self ..),l] at f;obtain ⟨a1,n1,c1,q1,q2,u1,ys1,a2,c2,Z,Y,g3,g4,X,W,g7,_⟩:=f;have H:=M.res i;rw [K i (List.mem_cons_of_mem _ (List.mem_cons_self ..)),I] at H;obtain ⟨V,U,vs,u,h1,h2,s,O,r⟩:=H;rw [Z] at h1;cases h1;rw [Y] at r
      injection r with r
      injection r with _ r
      injection r with r
      cases r;rw [hν] at X;cases X
      by_cases C:g=[]
      ·subst C;refine ⟨ad,p,[],rfl,W,?_,.nil _,fun b _ t=>(t rfl).elim⟩
       cases ad with
       | none=>rfl
       | some x=>exact .inl rfl
      ·obtain ⟨rfl,_⟩:=s.len;have J:=s.sees.sees
       have z:∀(j:Nat) v,((vs.take ((lo+g.length)*(ets G A).length)).drop (lo*(ets G A).length))[j]? = some v→vs[lo*(ets G A).length+j]? = some v:=by
        intro j v N;rw [List.getElem?_drop,List.getElem?_take] at N
        split at N
        ·exact N
        ·cases N
       have D:=(O.take (lo+g.length)).drop lo;rw [← g4] at D;have E:=g7.1 C;refine ⟨ad,p,_,rfl,W,by rw [E]; exact ze3.part J z,D,fun b d _ => .inl ?_⟩;rw [zdt,zdt,h2];refine List.mem_append_right _ (List.mem_append_left _ ?_);rw [E] at d
       cases a1 with
       | none=>simp at d
       | some a =>
        have e:(a.add (lo*(ets G A).length)).block=a.block:=by unfold Addr.add; split<;>rfl
        simp [e] at d;simpa [Value.ownBlock] using d
     ·cases k
   ·cases k
  ·cases k
 ·cases k
end
section
variable {ρ:Type} {X:Cx τ} {w0 w w':World} {h0 h H:Fz} {F:List Nat} {o:Oper} {E:zad τ} {L L2:Hp τ} {ν ν':Vn τ} {φ φ':Nat→List Nat} {nid nid':Nat} {K:Nx τ ρ} {r:ρ} {v:XV τ} {U:Hp τ} {tch:List Nat} {g:List (XV τ)}
variable {x y:Operand} {t' t ty u':Nat} {dst:Option Nat} {p:String} {af:Array Edge} {gd:Option (Nat × Bool)}
theorem zDy (M:Mem X.P X.G w0 h0 F L2 w ν h φ) {j:Nat} {e:Ty} {c:CV τ} {xs:List (e.den τ)} {m:List Nat} {v:Value} (k:rowA L j e c=some (xs,U,m)) (B:∀i∈m,lk L2 i=lk L i) (o:zc9 X.P X.G h ν c v) :
  ∃φ1 cs,Mem X.P X.G w0 h0 F (U++L2) w ν h φ1∧zhP w0 h F φ1 v.ownBlock.toList∧zg1 X.G w j (ets X.G e).length v xs.length cs∧RpR X.P X.G h e xs cs∧(∃a n c,v = .slice a n c)∧∀i b,b∈φ1 i→b∈φ i∧i∉m:=by
 unfold rowA at k
 split at k
 ·cases k; cases o;exact ⟨φ,[],M,fun b f=>by simp [Value.ownBlock] at f,zg1.nil ..,.nil _,⟨_,_,_,rfl⟩,fun i b f=>⟨f,by simp⟩⟩
 ·rename_i id
  split at k
  ·rename_i g D y C l
   cases f:Nat.beq j g with
   | false=>rw [f] at k; cases k
   | true =>
    rw [f] at k;dsimp only [cond_true] at k
    have A:j=g:=by simpa using f
    subst A
    split at k
    ·rename_i z
     obtain ⟨rfl,rfl⟩:=zhj z;cases k;have r:=M.res id;rw [B id (List.mem_singleton.2 rfl),l] at r;obtain ⟨H,E,vs,u,h1,h2,s,t,_⟩:=r;obtain ⟨ad,n,I,q,hν,rfl⟩:=o;rw [hν] at h1;cases h1;obtain ⟨x,p⟩:=M.drop id;rw [h2] at p;refine ⟨_,vs,x,p,s,t,⟨_,_,_,rfl⟩,fun i b d=>?_⟩
     by_cases hi:i=id
     ·subst hi; rw [za1] at d; cases d
     ·rw [zbz _ _ hi] at d; exact ⟨d,by simpa using hi⟩
    ·cases k
  ·cases k
 ·cases k
theorem zzE:∀{l:List UInt8} {vs:List Value},vs=cells (fun b=>[zct b]) l→RpR X.P X.G h .u8 l vs
 | [],vs,e=>by subst e; exact .nil _
 | b::l,vs,e=>by subst e; exact .cons .u8 b l [zct b] _ (.cons .u8 [] b _ [] (.u8 b) .nil) (zzE rfl)
theorem zki {t e:TypeId} (h:elO P t=some e):P.underlying t=some (.slice e):=by
 unfold elO at h
 split at h
 ·rename_i a; cases h; exact a
 ·cases h
theorem zPx {e:TypeId} (h:bytO P e=true):∃i,P.info? e=some i∧i.zero=some (.int .u8 0)∧i.size=1∧i.bytes=1:=by
 unfold bytO at h
 split at h
 ·rename_i i hi
  split at h
  ·rename_i a
   simp only [Bool.and_eq_true,Nat.beq_eq] at h;exact ⟨i,hi,a,h.1,h.2⟩
  ·cases h
 ·cases h
theorem zIp {te:Nat} {e:Ty} {a0:CV τ} {xs:List (e.den τ)} {l0:Str} {l:List (e.den τ)} (hel:elO X.P t'=some te) (hx:evC E x=some a0) (hA:rowA L te e a0=some (xs,U,tch)) (hy:evC E y=some (.s l0)) (hu:X.P.underlying u'=some .string)
  (hl:zmU (t := .u8) (t':=e) l0=some l) (hb:(bytO X.P te && !X.G.dr te)=true) (hfit:zf xs.length l.length 1=true) (k:K (.c (.os nid)) [] ((nid,.row te e (xs++l) nid)::U) tch (nid+1)=some r) :
  zdu X w0 h0 F ⟨dst,.call ⟨.builtin .append,⟨[x,y]⟩,⟨[t',u']⟩⟩,t,p,af,gd⟩ E L nid K r:=by
 refine ⟨_,_,_,_,_,k,Nat.le_succ _,(fun _ h=>by cases h),fun L2 ν h φ a w next Q hd M hE ha hn k=>?_⟩;have hn':=hn nid (Nat.le_refl _) (Nat.lt_succ_self _);obtain ⟨Ea,hf,hl'⟩:=zd4 a hd;obtain ⟨vx,h1,h2⟩:=zB hl' (hE.op (by simp [Op.operands,Call.operands])) hx;obtain ⟨vy,h3,h4⟩:=zB hl' (hE.op (by simp [Op.operands,Call.operands])) hy;obtain rfl:vy=_:=h4;obtain ⟨φ1,cs,M1,hfr,ho,hr,⟨ad,n,cp,rfl⟩,_⟩:=zDy M hA ha h2;obtain ⟨rfl,rfl⟩:=zhj hl;simp only [Bool.and_eq_true,Bool.not_eq_true'] at hb;obtain ⟨ti,hti,hz,hs1,hs2⟩:=zPx hb.1;simp only [zf,Bool.and_eq_true,decide_eq_true_eq] at hfit;have f1:xs.length+List.length (α:=UInt8) l0≤9223372036854775807:=hfit.1;have f2:(xs.length+List.length (α:=UInt8) l0)*1≤140737488355328:=hfit.2;have hsz:(⟨l0.toArray⟩:ByteArray).size=l0.length:=rfl;obtain ⟨ad',c',w',hrun,g2,g3,g4⟩:=zsh (P:=X.P) (w:=w) t' u' t te ti (zki hel) hu hti hz hs1 hs2 (.slice ad n cp) xs.length cs (ho.row hb.2) ⟨l0.toArray⟩ (by rw [hsz]; unfold maxLen; omega) (by rw [hsz]; omega);rw [hsz,zFY (en:=fun b=>[zct b]) (fun _=>rfl)] at g2;rw [hsz] at hrun g4
 have hexec:(execOp a.eval ⟨dst,.call ⟨.builtin .append,⟨[x,y]⟩,⟨[t',u']⟩⟩,t,p,af,gd⟩).run X.P w = .ok (.value (.slice ad' (xs.length+l0.length) c')) w':=by
  simp only [execOp,resolve,invoke,builtin,Sem.run_bind,Sem.run_pure,Result.andThen_ok,List.map_toArray,List.map_cons,List.map_nil,hf.ev h1,hf.ev h3,hrun]
 refine zf7 hexec (k _ h _ _ _ (zuN M1 hfr hn' g3 (zg1.of_row (by rw [List.length_append]; exact g2)) (hr.app (zzE rfl)) g4) (zbW hn') (Fz.le.refl _) zeq ⟨_,_,_,_,za1 _ _ _,rfl⟩)
theorem zIq (hT:TyOk X) {te:Nat} {e:Ty} {a0 b0:CV τ} {xs ys:List (e.den τ)} {m:List Nat} (hel:elO X.P t'=some te) (hel':elO X.P u'=some te) (hte:asc X.ty te=some e) (hx:evC E x=some a0) (hA:rowA L te e a0=some (xs,U,tch)) (hy:evC E y=some b0) (hB:rowO L e b0=some (ys,m)) (hdj:zy0 tch m=true)
  (hfit:fitO X.P xs.length ys.length te=true) (k:K (.c (.os nid)) [] ((nid,.row te e (xs++ys) nid)::U) (tch++m) (nid+1)=some r) (htu:t'=u') :
  zdu X w0 h0 F ⟨dst,.call ⟨.builtin .append,⟨[x,y]⟩,⟨[t',u']⟩⟩,t,p,af,gd⟩ E L nid K r:=by
 subst htu;refine ⟨_,_,_,_,_,k,Nat.le_succ _,(fun _ h=>by cases h),fun L2 ν h φ a w next Q hd M hE ha hn k=>?_⟩;have hn':=hn nid (Nat.le_refl _) (Nat.lt_succ_self _);obtain ⟨Ea,hf,hl'⟩:=zd4 a hd;obtain ⟨vx,h1,h2⟩:=zB hl' (hE.op (by simp [Op.operands,Call.operands])) hx;obtain ⟨vy,h3,h4⟩:=zB hl' (hE.op (by simp [Op.operands,Call.operands])) hy;obtain ⟨ad2,cp2,ds,rfl,hc2,hs2,hr2,_⟩:=zJ8 M hB (fun i hi=>ha i (List.mem_append_right _ hi)) h4;obtain ⟨φ1,cs,M1,hfr,ho,hr,⟨ad,n,cp,rfl⟩,_⟩:=zDy M hA (fun i hi=>ha i (List.mem_append_left _ hi)) h2;obtain ⟨ti,z,hti,hz,hs1,hzs,hpos⟩:=hT.el _ (zm0 hte);have hs1:ti.size=(ets X.G e).length:=hs1;unfold fitO at hfit;rw [hti] at hfit;simp only [zf,Bool.and_eq_true,decide_eq_true_eq] at hfit
 have key:∃ad' c' w',(Builtin.append_ #[t',t'] t #[.slice ad n cp,.slice ad2 ys.length cp2]).run X.P w = .ok (.slice ad' (xs.length+ys.length) c') w'∧zg1 X.G w' te (ets X.G e).length (.slice ad' (xs.length+ys.length) c') (xs.length+ys.length) (cs++ds)∧w.grownBy w' (Value.slice ad n cp).ownBlock ∧
   ((Value.slice ad' (xs.length+ys.length) c').ownBlock=(Value.slice ad n cp).ownBlock∨(Value.slice ad' (xs.length+ys.length) c').ownBlock=some w.heap.size):=by
  cases ad2 with
  | none =>
   have hds:ds=[]:=hs2;subst hds;have hl2:=hr2.len
   have hys:ys.length=0:=by
    rcases Nat.eq_zero_or_pos ys.length with h|h
    ·exact h
    ·have:0<ys.length*(ets X.G e).length:=Nat.mul_pos h (by omega);simp at hl2; omega
   obtain ⟨hn,hnc⟩:=ho.len;have h5:=zvA (c:=cp2) t' t te ti (zki hel) hti ho;rw [hys,Nat.add_zero,List.append_nil];refine ⟨ad,cp,w,?_,?_,⟨rfl,rfl,rfl,Nat.le_refl _,fun _ _ _=>rfl⟩,.inl (by subst hn; rfl)⟩
   ·rw [h5,hn]
   ·subst hn; exact ho
  | some a2 =>
   have hnews:∀j u,ds[j]? = some u→w.cell? (a2.add j)=some u:=by
    intro j u hj
    rcases hs2 with rfl|⟨hsp,hlt,hc⟩
    ·simp at hj
    ·have:a2.add j=⟨a2.block,a2.off+j,none⟩:=by
      obtain ⟨b,o,s⟩:=a2;simp only at hsp; subst hsp;unfold Addr.add; split<;>simp_all
     rw [this]; exact hc j u hj
   exact zDx (P:=X.P) (w:=w) t' t te ti z _ ti.bytes (zki hel) hti hz hs1 rfl (by rw [hzs,hs1]) (by omega) _ _ _ ho a2 ys.length cp2 ds hr2.len hnews hr2.one (by unfold maxLen; omega) hfit.2
 obtain ⟨ad',c',w',hrun,g2,g3,g4⟩:=key
 have hexec:(execOp a.eval ⟨dst,.call ⟨.builtin .append,⟨[x,y]⟩,⟨[t',t']⟩⟩,t,p,af,gd⟩).run X.P w = .ok (.value (.slice ad' (xs.length+ys.length) c')) w':=by
  simp only [execOp,resolve,invoke,builtin,Sem.run_bind,Sem.run_pure,Result.andThen_ok,List.map_toArray,List.map_cons,List.map_nil,hf.ev h1,hf.ev h3,hrun]
 exact zf7 hexec (k _ h _ _ _ (zuN M1 hfr hn' g3 (by rw [List.length_append]; exact g2) (hr.app hr2) g4) (zbW hn') (Fz.le.refl _) zeq ⟨_,_,_,_,za1 _ _ _,rfl⟩)
end
end Go.Rk
end
section
namespace Go.Rk
open Go.RowKit Go.Dm Go.Dk
variable {τ:Nat→Type}
section
variable {ρ:Type} {X:Cx τ} {w0 w w':World} {h0 h H:Fz} {F:List Nat} {o:Oper} {E:zad τ} {L L2:Hp τ} {ν ν':Vn τ} {φ φ':Nat→List Nat} {nid nid':Nat} {K:Nx τ ρ} {r:ρ} {v:XV τ} {U:Hp τ} {tch:List Nat} {g:List (XV τ)}
variable {a:Act} {x y z:Operand} {t' t ty u':Nat} {dst:Option Nat} {p:String} {af:Array Edge} {gd:Option (Nat × Bool)}
theorem zPF (hT:TyOk X) {te:Nat} {e:Ty} {a0:CV τ} {xs:List (e.den τ)} (hel:elO X.P t'=some te) (hel':elO X.P u'=some te) (hte:asc X.ty te=some e) (hx:evC E x=some a0) (hA:rowA L te e a0=some (xs,U,tch)) (hy:evC E y=some .n0)
  (k:K (.c (.os nid)) [] ((nid,.row te e xs nid)::U) tch (nid+1)=some r) (htu:t'=u') :
  zdu X w0 h0 F ⟨dst,.call ⟨.builtin .append,⟨[x,y]⟩,⟨[t',u']⟩⟩,t,p,af,gd⟩ E L nid K r:=by
 subst htu;refine ⟨_,_,_,_,_,k,Nat.le_succ _,(fun _ h=>by cases h),fun L2 ν h φ a w next Q hd M hE ha hn k=>?_⟩;have hn':=hn nid (Nat.le_refl _) (Nat.lt_succ_self _);obtain ⟨Ea,hf,hl'⟩:=zd4 a hd;obtain ⟨vx,h1,h2⟩:=zB hl' (hE.op (by simp [Op.operands,Call.operands])) hx;obtain ⟨vy,h3,h4⟩:=zB hl' (hE.op (by simp [Op.operands,Call.operands])) hy;obtain rfl:vy=_:=h4;obtain ⟨φ1,cs,M1,hfr,ho,hr,⟨ad,n,cp,rfl⟩,_⟩:=zDy M hA ha h2;obtain ⟨ti,z,hti,hz,hs1,hzs,hpos⟩:=hT.el _ (zm0 hte);have h5:=zvA (c:=0) t' t te ti (zki hel) hti ho
 have hexec:(execOp a.eval ⟨dst,.call ⟨.builtin .append,⟨[x,y]⟩,⟨[t',t']⟩⟩,t,p,af,gd⟩).run X.P w = .ok (.value (.slice ad n cp)) w:=by
  simp only [execOp,resolve,invoke,builtin,Sem.run_bind,Sem.run_pure,Result.andThen_ok,List.map_toArray,List.map_cons,List.map_nil,hf.ev h1,hf.ev h3,h5]
 exact zf7 hexec (k _ h _ _ _ (zuN M1 hfr hn' ⟨rfl,rfl,rfl,Nat.le_refl _,fun _ _ _=>rfl⟩ ho hr (.inl rfl)) (zbW hn') (Fz.le.refl _) zeq ⟨_,_,_,_,za1 _ _ _,rfl⟩)
theorem zPG (M:Mem X.P X.G w0 h0 F L2 w ν h φ) (hH:h.le H) {t:Ty} {A:XV τ} {d:t.den τ} {m:List Nat} {u:Value} (e:lokX X.G L t A=some (d,m)) (ha:zcf L2 L φ H w m) (hu:XOk X.P X.G h ν A u) :
  ∃us,u.cells=⟨us⟩∧RpL X.P X.G H (ets X.G t) (edt X.G t d) us:=by
 unfold lokX at e
 split at e
 ·rename_i n cs
  split at e
  ·rename_i q m' hq
   cases e;obtain ⟨us,rfl,hc⟩:=hu;refine ⟨us,rfl,?_⟩;show RpL _ _ _ (X.G.fs n) (X.G.dtor n (X.G.ctor n q)) us;rw [X.G.dc];exact ztw (A:=zcf L2 L φ H w) (fun _ _=>zcf.app) (zxs M hH depth) hq ha hc
  ·cases e
 ·rename_i c
  have hr:=zxs M hH _ _ _ _ _ _ e ha hu;have hc:zc9 X.P X.G h ν c u:=hu;refine ⟨[u],hc.one.2,?_⟩;cases t
  case st n=>cases hr
  all_goals exact .cons _ [] _ u [] hr .nil
 ·cases e
theorem zDB (hd:a.defers=[]) (M:Mem X.P X.G w0 h0 F L2 w ν h φ) (t:h.le H) {e:Ty}:∀{ps:List (Nat × Operand)} {k:Nat} {xs:List (e.den τ)} {m:List Nat} {pre rest:List Value},zG2 X L E e k ps=some (xs,m)→zcf L2 L φ H w m→(∀q∈ps,zew X h ν a (zxy q.2) E) →
  pre.length=k*(ets X.G e).length→rest.length=ps.length*(ets X.G e).length →
  ∃cs,RpR X.P X.G H e xs cs∧xs.length=ps.length∧Instr.fill (fun i=>some (i*(ets X.G e).length,(ets X.G e).length)) (pre++rest).toArray (ps.map fun q=>(q.1,a.eval q.2))=some (pre++cs).toArray
 | [],k,xs,m,pre,rest,b,r,n,hp,s=>by
  cases b;have:rest=[]:=List.eq_nil_of_length_eq_zero (by simpa using s);subst this;exact ⟨[],.nil e,rfl,rfl⟩
 | (i,x)::ps,k,xs,m,pre,rest,b,r,n,hp,s=>by
  unfold zG2 at b
  cases c:Nat.beq i k with
  | false=>rw [c] at b; cases b
  | true =>
   rw [c] at b;dsimp only [cond_true] at b
   have f:i=k:=by simpa using c
   subst f
   split at b
   ·rename_i A y
    split at b
    ·rename_i d K j
     split at b
     ·rename_i o N g
      cases b;obtain ⟨us,h1,h2⟩:=zPG M t j r.app.1 (zrK hd (n _ (List.mem_cons_self ..)) y);have J:=h2.len;simp only [List.length_cons,Nat.add_mul,Nat.one_mul] at s
      have l:(rest.drop us.length).length=ps.length*(ets X.G e).length:=by rw [List.length_drop]; omega
      obtain ⟨cs,u,v,I⟩:=zDB hd M t (pre:=pre++us) (rest:=rest.drop us.length) g r.app.2 (fun q B=>n q (List.mem_cons_of_mem _ B)) (by rw [List.length_append,hp,J,Nat.add_mul,Nat.one_mul]) l;refine ⟨us++cs,.cons e d o us cs h2 u,by simp [v],?_⟩;have p:=zsL us (pre++rest) (i*(ets X.G e).length) 0 (by rw [List.length_append]; omega);simp only [Nat.add_zero] at p;simp only [List.map_cons,Instr.fill,h1];rw [if_neg (by simp; omega)]
      have C:(Array.zipIdx ⟨us⟩).foldl (fun cs (q:Value × Nat)=>cs.setIfInBounds (i*(ets X.G e).length+q.2) q.1) (pre++rest).toArray=(us.zipIdx).foldl (fun cs (q:Value × Nat)=>cs.setIfInBounds (i*(ets X.G e).length+q.2) q.1) (pre++rest).toArray:=by
       rw [← Array.foldl_toList]; simp
      have D:(pre++rest).take (i*(ets X.G e).length)++us++(pre++rest).drop (i*(ets X.G e).length+us.length)=pre++us++rest.drop us.length:=by
       rw [← hp,List.take_left,List.drop_append,List.drop_eq_nil_of_le (by omega),List.nil_append,Nat.add_sub_cancel_left]
      rw [D] at p;refine Eq.trans (congrArg (fun z=>Instr.fill _ z _) (C.trans p)) ?_;rw [I,List.append_assoc]
     ·cases b
    ·cases b
   ·cases b
theorem zMA {P:Program} {te n:Nat} {ti:TypeInfo} {z:Value} {parts:List (Nat × Value)} {cells:Array Value} (hu:P.underlying t'=some (.slice te)) (hi:P.info? te=some ti) (hz:ti.zero=some z) (hb:¬(n*ti.size>2^24))
  (hf:Instr.fill (fun i=>some (i*ti.size,ti.size)) ((Array.range (n*ti.size)).map ((if n*ti.size=0 then #[] else z.cells)[· % (if n*ti.size=0 then #[] else z.cells).size]!)) parts=some cells) :
  (Instr.buildSlice t' n parts.toArray).run P w = .ok (.slice (some ⟨w.heap.size,0,none⟩) n n) (w.alloc (.cells cells te)):=by
 have hsize:∀w,(sizeOf te).run P w = .ok ti.size w:=fun w=>by simp [sizeOf,typeInfo,hi]
 have hzv:∀w,(zeroValue te).run P w = .ok z w:=fun w=>by simp [zeroValue,typeInfo,hi,hz]
 unfold Instr.buildSlice;simp only [Sem.run_bind,run_underlying hu,Result.andThen_ok,hsize];rw [if_neg hb]
 by_cases hzero:n*ti.size=0
 ·simp only [hzero,if_true] at hf ⊢;simp only [Sem.run_bind,Sem.run_pure,Result.andThen_ok,hf];simp [newRow,go_sem,Result.andThen]
 ·simp only [hzero,if_false] at hf ⊢;simp only [Sem.run_bind,Sem.run_pure,Result.andThen_ok,hzv,hf];simp [newRow,go_sem,Result.andThen]
theorem bs_ok (hT:TyOk X) {te n:Nat} {e:Ty} {ps:List (Nat × Operand)} {xs:List (e.den τ)} {ids:List Nat} (hel:elO X.P t'=some te) (hte:asc X.ty te=some e) (hx:zG2 X L E e 0 ps=some (xs,ids)) (hn:xs.length=n) (hsz:n*(ets X.G e).length≤65536) (hU:freeze L ids=some U)
  (k:K (.c (.os nid)) [] ((nid,.row te e xs nid)::U) ids (nid+1)=some r):zdu X w0 h0 F ⟨dst,.buildSlice t' n ⟨ps⟩,t,p,af,gd⟩ E L nid K r:=by
 refine ⟨_,_,_,_,_,k,Nat.le_succ _,(fun _ h=>by cases h),fun L2 ν h φ a w next Q hd M hE ha hnn k=>?_⟩;have hn':=hnn nid (Nat.le_refl _) (Nat.lt_succ_self _);obtain ⟨ti,z,hti,hz,hs1,hzs,hpos⟩:=hT.el _ (zm0 hte);have hs1:ti.size=(ets X.G e).length:=hs1;have hti:X.P.info? te=some ti:=hti;have hM1:=M.freeze hU ha;have hle:=M.lend_le ids
 have hm0:ps.length=n:=by
  obtain ⟨cs,_,h2,_⟩:=zDB (pre:=[]) (rest:=List.replicate (ps.length*(ets X.G e).length) undef) hd M hle hx (M.look ha) (fun q hq=>hE.op (by simp only [Op.operands,List.toList_toArray,List.mem_map]; exact ⟨q,hq,rfl⟩)) (by simp) (by simp);omega
 have hrng:∀f:Nat→Value,(Array.range (n*ti.size)).map f=((List.range (n*ti.size)).map f).toArray:=by
  intro f; apply Array.toList_inj.1; simp
 have hlen:∀f:Nat→Value,((List.range (n*ti.size)).map f).length=ps.length*(ets X.G e).length:=by intro f; simp [hm0,hs1]
 have hfill:∀zc:Array Value, ∃cs,RpR X.P X.G (zrX h w (fps φ ids)) e xs cs∧Instr.fill (fun i=>some (i*ti.size,ti.size)) ((Array.range (n*ti.size)).map (zc[· % zc.size]!)) (ps.map fun q=>(q.1,a.eval q.2))=some cs.toArray:=by
  intro zc;obtain ⟨cs,h1,_,h3⟩:=zDB (pre:=[]) (rest:=(List.range (n*ti.size)).map (zc[· % zc.size]!)) hd M hle hx (M.look ha) (fun q hq=>hE.op (by simp only [Op.operands,List.toList_toArray,List.mem_map]; exact ⟨q,hq,rfl⟩)) (by simp) (hlen _);refine ⟨cs,h1,?_⟩;rw [hrng];simp only [hs1] at h3 ⊢;simpa using h3
 have hpm:(Array.map (fun x=>match x with|(i,x)=>(i,a.eval x)) (⟨ps⟩:Array (Nat × Operand)))=(ps.map fun q=>(q.1,a.eval q.2)).toArray:=by
  have:(Array.map (fun (q:Nat × Operand)=>(q.1,a.eval q.2)) ⟨ps⟩)=(ps.map fun q=>(q.1,a.eval q.2)).toArray:=by simp
  exact this
 have key:∃cs,RpR X.P X.G (zrX h w (fps φ ids)) e xs cs∧(execOp a.eval ⟨dst,.buildSlice t' n ⟨ps⟩,t,p,af,gd⟩).run X.P w = .ok (.value (.slice (some ⟨w.heap.size,0,none⟩) n n)) (w.alloc (.cells cs.toArray te)):=by
  have hb:¬(n*ti.size>2^24):=by rw [hs1]; omega
  obtain ⟨cs,h1,h2⟩:=hfill (if n*ti.size=0 then #[] else z.cells);refine ⟨cs,h1,?_⟩;simp only [execOp];rw [hpm,Sem.run_bind,zMA (zki hel) hti hz hb h2];rfl
 obtain ⟨cs,h1,hexec⟩:=key;have hl:=h1.len
 have ho:zg1 X.G (w.alloc (.cells cs.toArray te)) te (ets X.G e).length (.slice (some ⟨w.heap.size,0,none⟩) n n) xs.length cs :=
  zg1.of_row ⟨hl,.inr ⟨w.heap.size,n,cs.toArray,by rw [hn],Nat.zero_le _,zkj _,by omega,by have:n≤n*(ets X.G e).length:=Nat.le_mul_of_pos_right _ (by omega); unfold maxLen; omega,by simp [hl,hn],by rw [← hl]; simp⟩⟩
 refine zf7 hexec (k _ _ _ _ _ (hM1.alloc hn' _ (.row te e xs nid) (.slice (some ⟨w.heap.size,0,none⟩) n n,some ⟨e,xs⟩) ⟨_,_,cs,_,rfl,rfl,ho,h1,za1 _ _ _⟩) (zbW hn') hle zeq ⟨_,_,_,_,za1 _ _ _,rfl⟩)
theorem ix_ok {J:Nat} {e:Ty} {c:CV τ} {xs:List (e.den τ)} {m:Int} {d:e.den τ} (hT:TyOk X) (z:elO X.P t'=some J) (hx:evC E x=some c) (V:evC E y=some (.i m)) (hr:lAt xs m=some d) (s:szO X.P J=some (ets X.G e).length) (D:0<(ets X.G e).length)
  (k:K (.c (.ea e d 0)) [] [] tch nid=some r)
  (W:∀(q:Hp τ) ν h φ (w:World) u,Mem X.P X.G w0 h0 F q w ν h φ→(∀i∈tch,lk q i=lk L i)→zc9 X.P X.G h ν c u→Rp X.P X.G h (.sl e) xs u):zdu X w0 h0 F ⟨dst,.indexAddr t' x y,t,p,af,gd⟩ E L nid K r:=by
 refine zbp k fun q ν h φ a w hd M H O=>?_;obtain ⟨Ea,hf,l⟩:=zd4 a hd;obtain ⟨S,h1,h2⟩:=zB l (H.op (by simp [Op.operands])) hx;obtain ⟨Z,N,U⟩:=zB l (H.op (by simp [Op.operands])) V;obtain rfl:Z=_:=U;have C:=W q ν h φ w S M O h2;obtain ⟨I,A⟩:=zsK hr
 cases C with
 | sl _ _ ad cp vs hc f B =>
  obtain ⟨h5,h6⟩:=B.get I;have T:m.toNat<xs.length:=(List.getElem?_eq_some_iff.1 I).1
  rcases f with rfl|⟨b,o,Q,R,zz,rfl,g1,Y⟩
  ·rw [List.length_nil] at h6; omega
  ·have n:(⟨b,o,none⟩:Addr).add (m.toNat*(ets X.G e).length)=⟨b,o+m.toNat*(ets X.G e).length,none⟩:=by unfold Addr.add; split<;>simp_all
   refine ⟨ptr b (o+m.toNat*(ets X.G e).length),?_,b,o+m.toNat*(ets X.G e).length,_,rfl,.inr ⟨b,_,Q,R,zz,rfl,g1,fun j v g=>?_⟩,h5⟩
   ·refine zmW (fun w=>?_) hf h1 N;rw [zop (zki z) (zf4 s) A (by omega),n]
   ·rw [List.getElem?_take] at g
    split at g
    ·rw [List.getElem?_drop] at g;rw [Nat.add_assoc]; exact Y _ _ g
    ·cases g
theorem ixo_ok {J z id B:Nat} {e:Ty} {xs:List (e.den τ)} {m:Int} {d:e.den τ} (o:elO X.P t'=some J) (Y:evC E x=some (.os id)) (V:evC E y=some (.i m)) (A:lk L id = .row z e xs B) (N:lAt xs m=some d) (l:szO X.P J=some (ets X.G e).length) (D:0<(ets X.G e).length)
  (k:K (.c (.oe id B m e d 0)) [] [] [id] nid=some r):zdu X w0 h0 F ⟨dst,.indexAddr t' x y,t,p,af,gd⟩ E L nid K r:=by
 refine zbp k fun L2 ν h φ a w hd M H Q=>?_;obtain ⟨Ea,S,f⟩:=zd4 a hd;obtain ⟨vx,h1,h2⟩:=zB f (H.op (by simp [Op.operands])) Y;obtain ⟨vy,O,U⟩:=zB f (H.op (by simp [Op.operands])) V;obtain rfl:vy=_:=U;obtain ⟨ad,n,cp,q,hν,rfl⟩:=h2;have b:=M.res id;rw [Q id (List.mem_singleton.2 rfl),A] at b;obtain ⟨v',q',vs,u,I,g2,R,g4,g5⟩:=b;rw [hν] at I;cases I;obtain ⟨Z,s⟩:=zsK N;have T:m.toNat<xs.length:=(List.getElem?_eq_some_iff.1 Z).1;obtain ⟨_,⟨C,W⟩|⟨g,v,cap,cur,C,_⟩⟩:=R
 ·omega
 ·cases C
  have j:(⟨g,v*(ets X.G e).length,none⟩:Addr).add (m.toNat*(ets X.G e).length)=⟨g,v*(ets X.G e).length+m.toNat*(ets X.G e).length,none⟩:=by unfold Addr.add; split<;>simp_all
  refine ⟨ptr g (v*(ets X.G e).length+m.toNat*(ets X.G e).length),?_,g,_,_,_,_,xs,u,hν,g5,N,rfl⟩;refine zmW (fun w=>?_) S h1 O;rw [zop (zki o) (zf4 l) s (by omega),j]
theorem zlj {P:Program} {e sz n c i j:Nat} {ad:Option Addr} (d:P.underlying t=some (.slice e)) (hn:znB P e=some sz) (a:i≤j) (g:j≤n) (hc:n≤c) :
  (Instr.slice t (.slice ad n c) (some (int i)) (some (int j)) none).run P w = .ok (.slice (if c=i then ad else ad.map (·.add (i*sz))) (j-i) (c-i)) w ∧
  (i=0→(Instr.slice t (.slice ad n c) none (some (int j)) none).run P w = .ok (.slice (if c=i then ad else ad.map (·.add (i*sz))) (j-i) (c-i)) w) ∧
  (j=n→(Instr.slice t (.slice ad n c) (some (int i)) none none).run P w = .ok (.slice (if c=i then ad else ad.map (·.add (i*sz))) (j-i) (c-i)) w):=by
 have f:j≤c:=by omega
 refine ⟨?_,fun hi=>?_,fun b=>?_⟩
 ·simp [Instr.slice,Instr.sliceBounds,Instr.sliceBound,asIntOf,run_underlying d,zeo hn,a,f,Result.andThen]
 ·subst hi;simp [Instr.slice,Instr.sliceBounds,Instr.sliceBound,asIntOf,run_underlying d,zeo hn,f,Result.andThen]
 ·subst b;simp [Instr.slice,Instr.sliceBounds,Instr.sliceBound,asIntOf,run_underlying d,zeo hn,a,Result.andThen]
theorem sli_ok (M:Mem X.P X.G w0 h0 F L2 w ν h φ) {c:CV τ} {e:Ty} {l:List (e.den τ)} {ids:List Nat} {u:Value} (k:zJc L c=some ⟨e,l,U,ids⟩) (j:∀i∈ids,lk L2 i=lk L i) (g:zc9 X.P X.G h ν c u) :
  ∃h' φ',Mem X.P X.G w0 h0 F (U++L2) w ν h' φ'∧h.le h'∧Rp X.P X.G h' (.sl e) l u:=by
 unfold zJc at k
 split at k
 ·cases k;exact ⟨h, φ,M,Fz.le.refl _,g⟩
 ·rename_i id
  obtain ⟨ad,n,t,q,hν,rfl⟩:=g
  split at k
  ·rename_i s m xs r a
   cases k
   have f:freeze L [id]=some [(id,.fz e l)]:=by simp [freeze,a]
   have M1:=M.freeze f j;have b:=M1.res id;rw [zhl _ (by simp [kys]),zbu] at b;obtain ⟨p,o,h1,_,d⟩:=b;rw [hν] at h1;cases h1;exact ⟨_,_,M1,M.lend_le _,d⟩
  ·rename_i m xs a
   cases k;have b:=M.res id;rw [j id (List.mem_singleton.2 rfl),a] at b;obtain ⟨p,o,h1,_,d⟩:=b;rw [hν] at h1;cases h1;exact ⟨h, φ,M,Fz.le.refl _,d⟩
  ·cases k
 ·cases k
end
end Go.Rk
end
section
namespace Go.Rk
open Go.RowKit Go.Dm Go.Dk
variable {τ:Nat→Type}
variable {ids:List Nat} {lo hi:Option Operand} {e:Ty} {l:Str}
section
variable {ρ:Type} {X:Cx τ} {w0 w w':World} {h0 h H:Fz} {F:List Nat} {o:Oper} {E:zad τ} {L L2:Hp τ} {ν ν':Vn τ} {φ φ':Nat→List Nat} {nid nid':Nat} {K:Nx τ ρ} {r:ρ} {v:XV τ} {U:Hp τ} {tch:List Nat} {g:List (XV τ)}
variable {a:Act} {x y z:Operand} {t' t ty u':Nat} {dst:Option Nat} {p:String} {af:Array Edge} {gd:Option (Nat × Bool)}
theorem zvu {a:TypeId} (k:szE X a e=true):szO X.P a=some (ets X.G e).length∧0<(ets X.G e).length:=by
 unfold szE at k
 split at k
 ·rename_i n hn
  simp only [Bool.and_eq_true,Nat.beq_eq,Nat.blt_eq] at k;obtain ⟨rfl,h⟩:=k;exact ⟨hn,h⟩
 ·cases k
theorem zhi {α:Type} {b:Bool} {x:Option α} {r:α} (e:bc b x none=some r):b=true∧x=some r:=by
 cases b with
 | false=>cases e
 | true=>exact ⟨rfl,e⟩
theorem bc_f {α:Type} {b:Bool} {x:Option α} {r:α} (e:bc b none x=some r):b=false∧x=some r:=by
 cases b with
 | false=>exact ⟨rfl,e⟩
 | true=>cases e
theorem zvv {te:Nat} {c:CV τ} {l s:List (e.den τ)} (hu:X.P.underlying t'=some (.slice te)) (hx:evC E x=some c) (hs:zJc L c=some ⟨e,l,U,ids⟩) (hsz:szO X.P te=some (ets X.G e).length) (i j:Nat) (hij:i≤j) (hj:j≤l.length) (hsub:s=(l.take j).drop i)
  (hlo:∀{a:Act} {Ea:Env} {N:Nat} {L2:Hp τ} {ν h φ} {w:World} {ad:Option Addr} {n cp:Nat},Fits N Ea a→(∀t,Dk.look Ea t=a.tmps[t]?)→zew X h ν a (rdO (.slice t' x lo hi none)) E→evl Ea x=some (.slice ad n cp)→Mem X.P X.G w0 h0 F L2 w ν h φ→n=l.length→l.length≤cp →
   (execOp a.eval ⟨dst,.slice t' x lo hi none,t,p,af,gd⟩).run X.P w = .ok (.value (.slice (if cp=i then ad else ad.map (·.add (i*(ets X.G e).length))) (j-i) (cp-i))) w)
  (k:K (.c (.sl e s)) [] U ids nid=some r):zdu X w0 h0 F ⟨dst,.slice t' x lo hi none,t,p,af,gd⟩ E L nid K r:=by
 refine ⟨_,_,_,_,_,k,Nat.le_refl _,(fun _ h=>by cases h),fun L2 ν h φ a w next Q hd M hE ha hn k=>?_⟩;obtain ⟨Ea,hf,hl'⟩:=zd4 a hd;obtain ⟨vx,h1,h2⟩:=zB hl' (hE.op (by simp [Op.operands])) hx;obtain ⟨h', φ',M',hle,hrp⟩:=sli_ok M hs ha h2
 have hform:∃ad n cp,vx = .slice ad n cp:=by cases hrp; exact ⟨_,_,_,rfl⟩
 obtain ⟨ad,n,cp,rfl⟩:=hform;obtain ⟨hn1,hn2,hsub'⟩:=zNX hrp hij hj;have hexec:=hlo hf hl' hE h1 M hn1 hn2;subst hsub;exact zf7 hexec (k ν h' φ' w _ M' (Vn.le.refl _) hle (zdF.refl _ _ _) hsub')
theorem slice3 {q:Nat} {c:CV τ} {l s:List (e.den τ)} {i j:Int} (f:X.P.underlying t'=some (.slice q)) (Q:evC E x=some c) (D:zJc L c=some ⟨e,l,U,ids⟩) (b:szO X.P q=some (ets X.G e).length) (C:evC E y=some (.i i)) (R:evC E z=some (.i j)) (d:zFW l i j=some s)
  (k:K (.c (.sl e s)) [] U ids nid=some r):zdu X w0 h0 F ⟨dst,.slice t' x (some y) (some z) none,t,p,af,gd⟩ E L nid K r:=by
 unfold zFW at d
 split at d
 ·rename_i T
  cases d
  have H:(i.toNat:Int)=i:=by omega
  have O:(j.toNat:Int)=j:=by omega
  refine zvv f Q D b i.toNat j.toNat (by omega) (by omega) rfl (fun {a W N V ν h φ w ad n J} v o m g M hn I=>?_) k;obtain ⟨S,h1,h2⟩:=zB o (m.op (by simp [Op.operands])) C;obtain ⟨A,u,B⟩:=zB o (m.op (by simp [Op.operands])) R;obtain rfl:S=_:=h2;obtain rfl:A=_:=B;refine zx3 f (fun w=>?_) v g h1 u;have:=(zlj (w:=w) (ad:=ad) f (zf4 b) (show i.toNat≤j.toNat by omega) (show j.toNat≤n by omega) (show n≤J by omega)).1
  rwa [H,O] at this
 ·cases d
theorem slice1 {j:Nat} {c:CV τ} {l s:List (e.den τ)} {i:Int} (f:X.P.underlying t'=some (.slice j)) (B:evC E x=some c) (q:zJc L c=some ⟨e,l,U,ids⟩) (b:szO X.P j=some (ets X.G e).length) (o:evC E y=some (.i i)) (d:zof l i=some s)
  (k:K (.c (.sl e s)) [] U ids nid=some r):zdu X w0 h0 F ⟨dst,.slice t' x (some y) none none,t,p,af,gd⟩ E L nid K r:=by
 unfold zof at d
 split at d
 ·rename_i H
  cases d
  have u:(i.toNat:Int)=i:=by omega
  refine zvv f B q b i.toNat l.length (by omega) (Nat.le_refl _) (by rw [List.take_length]) (fun {a J N I ν h φ w ad n A} m C v g M hn z=>?_) k;obtain ⟨D,h1,h2⟩:=zB C (v.op (by simp [Op.operands])) o;obtain rfl:D=_:=h2;refine zvF f (fun w=>?_) m g h1;have:=(zlj (w:=w) (ad:=ad) f (zf4 b) (show i.toNat≤l.length by omega) (show l.length≤n by omega) (show n≤A by omega)).2.2 hn.symm
  rwa [u] at this
 ·cases d
theorem slice2 {m:Nat} {c:CV τ} {l s:List (e.den τ)} {j:Int} (f:X.P.underlying t'=some (.slice m)) (H:evC E x=some c) (y:zJc L c=some ⟨e,l,U,ids⟩) (b:szO X.P m=some (ets X.G e).length) (I:evC E z=some (.i j)) (d:lTo l j=some s)
  (k:K (.c (.sl e s)) [] U ids nid=some r):zdu X w0 h0 F ⟨dst,.slice t' x none (some z) none,t,p,af,gd⟩ E L nid K r:=by
 unfold lTo at d
 split at d
 ·rename_i O
  cases d
  have B:(j.toNat:Int)=j:=by omega
  refine zvv f H y b 0 j.toNat (by omega) (by omega) rfl (fun {a R N Q ν h φ w ad n D} q J A g M hn C=>?_) k;obtain ⟨u,o,v⟩:=zB J (A.op (by simp [Op.operands])) I;obtain rfl:u=_:=v;refine zzG f (fun w=>?_) q g o;have:=(zlj (w:=w) (ad:=ad) f (zf4 b) (show 0≤j.toNat by omega) (show j.toNat≤n by omega) (show n≤D by omega)).2.1 rfl
  rwa [B] at this
 ·cases d
theorem Mem.drew (M:Mem X.P X.G w0 h0 F L w ν h φ):Mem X.P X.G w0 h0 F L w.drew ν h φ:=M.grow ⟨rfl,rfl,rfl,Nat.le_refl _,fun _ _=>rfl⟩
theorem Mem.newFz (M:Mem X.P X.G w0 h0 F L w ν h φ) (o:Obj):Mem X.P X.G w0 h0 F L (w.alloc o) ν (fun b=>if b=w.heap.size then some o else h b) φ∧h.le (fun b=>if b=w.heap.size then some o else h b):=by
 have a:h.le (fun b=>if b=w.heap.size then some o else h b):=by
  intro b o' e;have:=M.in_lt (b:=b) (by rw [e]; simp);show (if b=w.heap.size then some o else h b)=_;rw [if_neg (by omega)]; exact e
 refine ⟨?_,a⟩;refine M.upd [] (fun _ _=>rfl) (fun _ _=>rfl) (Vn.le.refl _) a rfl rfl rfl (by simp) (fun b c _=>zK9 o c) (fun b o' h1 h2=>?_) (fun b h1 h2=>?_) (fun i hi=>by cases hi) (fun i hi=>by cases hi) (fun i hi=>by cases hi)
 ·split at h2
  ·rename_i e
   cases h2;subst e;exact zkj _
  ·rw [h1] at h2; cases h2
 ·split at h2
  ·rename_i e; subst e; exact .inr (Nat.le_refl _)
  ·exact (h2 h1).elim
theorem zOv {te:Nat} (hx:evC E x=some (.s l)) (hs:X.P.underlying ty=some .string) (hd':X.P.underlying t'=some (.slice te)) (he:X.P.underlying te=some (.int .u8)) (k:K (.c (.sl .u8 l)) [] [] [] nid=some r) :
  zdu X w0 h0 F ⟨dst,.convert ty t' x,t,p,af,gd⟩ E L nid K r:=by
 refine ⟨_,_,_,_,_,k,Nat.le_refl _,(fun _ h=>by cases h),fun L2 ν h φ a w next Q hd M hE ha hn k=>?_⟩;obtain ⟨Ea,hf,hl'⟩:=zd4 a hd;obtain ⟨vx,h1,h2⟩:=zB hl' (hE.op (by simp [Op.operands])) hx;obtain rfl:vx=_:=h2;have hr:=run_bytes_of_string (P:=X.P) w ty t' te ⟨l.toArray⟩ hs hd' he;have hsz:(⟨l.toArray⟩:ByteArray).size=l.length:=rfl;rw [hsz] at hr;generalize hc:grownCap w l.length 0 te=c at hr
 have hcl:l.length≤c:=by rw [← hc]; exact grownCap_ge _ _ _ _
 obtain ⟨M1,hle⟩:=M.drew.newFz (.cells (bytesRow ⟨l.toArray⟩ c) te ((bytesRow ⟨l.toArray⟩ c).size,(bytesRow ⟨l.toArray⟩ c).size+1));refine zf7 (u := .slice (some ⟨w.drew.heap.size,0,none⟩) l.length c) (by simp only [execOp]; rw [hf.ev h1]; simp only [Sem.run_bind,hr,Result.andThen_ok,Sem.run_pure]; rfl) (k ν _ φ _ _ M1 (Vn.le.refl _) hle (zdF.refl _ _ _) ?_);refine .sl .u8 l _ c (cells (fun b=>[zct b]) l) hcl (.inr ⟨w.drew.heap.size,0,_,te,_,rfl,if_pos rfl,fun i v hv=>?_⟩) (zzE rfl)
 have hce:∀m:Str,cells (fun b=>[zct b]) m=m.map zct:=fun m=>by
  unfold cells
  induction m with
  | nil=>rfl
  | cons x m ih=>rw [List.flatMap_cons,ih]; rfl
 rw [hce,List.getElem?_map] at hv;obtain ⟨x,hx1,hx2⟩:=Option.map_eq_some_iff.1 hv;have hil:i<l.length:=(List.getElem?_eq_some_iff.1 hx1).1;rw [Nat.zero_add];unfold bytesRow;rw [Array.getElem?_append_left (by simpa using hil),Array.getElem?_map]
 have:(⟨l.toArray⟩:ByteArray).data[i]? = some x:=by simpa using hx1
 rw [this, ← hx2];rfl
theorem zOw:∀{l:List UInt8} {vs:List Value},RpR X.P X.G h .u8 l vs→vs=cells (fun b=>[zct b]) l
 | [],vs,e=>by cases e; rfl
 | b::l,_,.cons _ _ _ us f h1 h2=>by
  have a:=zOw h2
  cases h1 with
  | cons _ _ _ v vs d c =>
   cases c;cases d;rw [a]; rfl
theorem str_ok {g:Nat} {c:CV τ} (q:evC E x=some c) (f:X.P.underlying t'=some .string) (n:X.P.underlying ty=some (.slice g)) (m:X.P.underlying g=some (.int .u8)) (j:rowO L .u8 c=some (l,ids)) (k:K (.c (.s l)) [] [] ids nid=some r) :
  zdu X w0 h0 F ⟨dst,.convert ty t' x,t,p,af,gd⟩ E L nid K r:=by
 refine zbp k fun y ν h φ a w hd M o i=>?_;obtain ⟨A,u,e⟩:=zd4 a hd;obtain ⟨v,h1,h2⟩:=zB e (o.op (by simp [Op.operands])) q;obtain ⟨ad,z,cs,rfl,hc,b,d,_⟩:=zJ8 M j i h2;rw [zOw d] at b;exact ⟨_,zBy (fun _=>rfl) f n m b u h1,rfl⟩
theorem zOx {i:Int} {c:UInt8} (n:X.P.underlying t'=some .string) (o:evC E x=some (.s l)) (m:evC E y=some (.i i)) (f:sAt l i=some c) (k:K (.c (.u8 c)) [] [] [] nid=some r):zdu X w0 h0 F ⟨dst,.index t' x y,t,p,af,gd⟩ E L nid K r:=by
 refine zbp k fun v ν h φ a w hd M d z=>?_;obtain ⟨A,q,b⟩:=zd4 a hd;obtain ⟨g,h1,h2⟩:=zB b (d.op (by simp [Op.operands])) o;obtain ⟨u,e,j⟩:=zB b (d.op (by simp [Op.operands])) m;obtain rfl:g=_:=h2;obtain rfl:u=_:=j;exact ⟨_,zMY n q h1 e f,rfl⟩
theorem zo2 {l s:Str} (i:evC E x=some (.s l))
  (d:∀{a:Act} {e:Env} {N:Nat} {ν h} {w:World},Fits N e a→(∀t,Dk.look e t=a.tmps[t]?)→zew X h ν a (rdO (.slice t' x lo hi none)) E→evl e x=some (str l)→(execOp a.eval ⟨dst,.slice t' x lo hi none,t,p,af,gd⟩).run X.P w = .ok (.value (str s)) w)
  (k:K (.c (.s s)) [] [] [] nid=some r):zdu X w0 h0 F ⟨dst,.slice t' x lo hi none,t,p,af,gd⟩ E L nid K r:=by
 refine zbp k fun m ν h φ a w hd M f n=>?_;obtain ⟨e,j,b⟩:=zd4 a hd;obtain ⟨g,h1,h2⟩:=zB b (f.op (by simp [Op.operands])) i;obtain rfl:g=_:=h2;exact ⟨_,d j b f h1,rfl⟩
theorem zJM {t:Ty} (x:t.den τ):zBr (t':=t) x=some x:=dif_pos rfl
theorem zQB (V a:List Value) (i sz o:Nat) (h1:o+a.length≤sz) (h2:i+sz≤V.length) :
  V.take i++(((V.drop i).take sz).take o++a++((V.drop i).take sz).drop (o+a.length))++V.drop (i+sz)=V.take (i+o)++a++V.drop (i+o+a.length):=by
 have e:V.take (i+o)=V.take i++(V.drop i).take o:=by rw [List.take_add]
 have c:((V.drop i).take sz).take o=(V.drop i).take o:=by rw [List.take_take,Nat.min_eq_left (by omega)]
 have f:V.drop (i+o+a.length)=((V.drop i).take sz).drop (o+a.length)++V.drop (i+sz):=by
  have b:V.drop i=(V.drop i).take sz++V.drop (i+sz):=by rw [← List.drop_drop,List.take_append_drop]
  have g:V.drop (i+o+a.length)=(V.drop i).drop (o+a.length):=by rw [List.drop_drop,Nat.add_assoc]
  rw [g]
  conv=>lhs; rw [b]
  rw [List.drop_append]
  have d:((V.drop i).take sz).length=sz:=by rw [List.length_take,List.length_drop]; omega
  rw [d,show o+a.length-sz=0 by omega,List.drop_zero]
 rw [e,c,f];simp only [List.append_assoc]
theorem zQC (C a:List Value) (A N:Nat) (h1:A+a.length≤N) (h2:N≤C.length) :
  (C.take A++a++C.drop (A+a.length)).take N=(C.take N).take A++a++(C.take N).drop (A+a.length):=by
 have b:(C.take A++a).length=A+a.length:=by rw [List.length_append,List.length_take]; omega
 rw [List.take_append,List.take_of_length_le (by omega),b,List.take_take,Nat.min_eq_left (by omega),List.drop_take]
theorem zKL (C a:List Value) (A N D:Nat) (h1:A+a.length≤N) (h2:D+N≤C.length) :
  ((C.take (D+A)++a++C.drop (D+A+a.length)).drop D).take N=((C.drop D).take N).take A++a++((C.drop D).take N).drop (A+a.length):=by
 have b:(C.take (D+A)++a++C.drop (D+A+a.length)).drop D=(C.drop D).take A++a++(C.drop D).drop (A+a.length):=by
  rw [List.append_assoc,List.drop_append_of_le_length (by rw [List.length_take]; omega),List.drop_take,Nat.add_sub_cancel_left,List.drop_drop,List.append_assoc,Nat.add_assoc]
 rw [b];exact zQC _ a A N h1 (by rw [List.length_drop]; omega)
theorem zLR {A:XV τ} {vs cs:List (CV τ)} {n id o k te:Nat} {m:Int} {ty e:Ty} {z:ty.den τ} {xs l:List (e.den τ)} {q:DP τ (ets X.G ty)} {z':e.den τ} (hA:evX E y=some A) (hc:zsT A=some vs) (ht:szO X.P t'=some n) (hn:vs.length=n) (hx:evC E x=some (.oe id k m ty z o)) (hl:lk L id = .row te e xs k)
  (hp:zwd (zxZ X.G ty z) o vs=some cs) (hq:zxw (lok X.G L depth) (ets X.G ty) cs=some (q,ids)) (hz:zBr (ect X.G ty q)=some z') (hU:freeze L ids=some U) (hid:mem ids id=false) (hs:ztp xs m z'=some l)
  (ek:K .un [] ((id,.row te e l nid)::U) (id::ids) (nid+1)=some r):zdu X w0 h0 F ⟨dst,.store t' x y,t,p,af,gd⟩ E L nid K r:=by
 refine ⟨_,_,_,_,_,ek,Nat.le_succ _,(fun _ h=>by cases h),fun L2 ν h φ a w next Q hd M hE ha hfr kk=>?_⟩;have hn':=hfr nid (Nat.le_refl _) (Nat.lt_succ_self _);obtain ⟨Ea,hf,hl'⟩:=zd4 a hd;obtain ⟨u,h1,h2⟩:=zB hl' (hE.op (by simp [Op.operands])) hx;obtain ⟨ws,g1,g2,_⟩:=ztu hc (zrK hd (hE.op (by simp [Op.operands])) hA);obtain ⟨b,dd,n',cp,q0,xs',u',hν,hνk,hlz,rfl⟩:=h2;have hr:=M.res id;rw [ha id (List.mem_cons_self ..),hl] at hr;obtain ⟨v0,q1,vsr,u1,c1,c2,c3,c4,c5⟩:=hr;rw [hν] at c1;cases c1;rw [hνk] at c5
 injection c5 with c5
 injection c5 with _ c5
 injection c5 with c5
 cases c5;rw [zJM] at hz;cases hz;have hle:=M.lend_le ids;obtain ⟨hz1,hm0⟩:=zsK hlz;obtain ⟨d1,d2⟩:=c4.get hz1;obtain ⟨f1,f2⟩:=zzu (zAr (ν:=ν) d1) g2 hp;have ha2:∀i∈ids,lk L2 i=lk L i:=fun i hi=>ha i (List.mem_cons_of_mem _ hi);have f3:=ztw (A:=zcf L2 L φ (zrX h w (fps φ ids)) w) (fun _ _=>zcf.app) (zxs M hle depth) hq (M.look ha2) f2;have f4:=f3;rw [← zFN X.G ty q] at f4;unfold ztp at hs
 split at hs
 ·rename_i hb
  cases hs;have hset:=RpR.set (c4.le hle) (i:=m.toNat) (by omega) f4;obtain ⟨hlen,⟨e1,_⟩|⟨g,d,cap,cur,e1,h0d,hg,hnc,hcm,hcs,htk⟩⟩:=c3
  ·cases e1
  ·cases e1
   have husl:((vsr.drop (m.toNat*(ets X.G ty).length)).take (ets X.G ty).length).length=(ets X.G ty).length:=by rw [List.length_take,List.length_drop]; omega
   have hcl:cur.toList.length=cur.size:=by simp
   have hN:d*(ets X.G ty).length+xs'.length*(ets X.G ty).length≤cur.toList.length:=by rw [hcl, ← Nat.add_mul]; exact Nat.le_trans (Nat.mul_le_mul_right _ (by omega)) hcs
   rw [husl] at f1;have hsp:=zQB vsr ws (m.toNat*(ets X.G ty).length) (ets X.G ty).length o f1 d2;rw [hsp] at hset
   have hsz2:d*(ets X.G ty).length+m.toNat*(ets X.G ty).length+o+ws.length≤cur.size:=by
    have:cur.toList.length=cur.size:=by simp
    omega
   have hrun:=zAC (X:=X) (dst:=dst) (t:=t) (p:=p) (af:=af) (gd:=gd) (hf.ev h1) g1 (zf4 ht) (by rw [g2.len,hn]) hg hsz2 g2.one;have M1:=M.freeze hU ha2
   have hnin:id∉ids:=fun hi=>by rw [zeS.2 hi] at hid; cases hid
   have hne:id≠nid:=by rintro rfl; rw [hn'] at hν; cases hν
   refine zI4 hrun (kk (up1 ν nid (some (undef,some ⟨ty,_⟩))) _ _ _ undef (M1.turn (i:=id) (b:=b) (.row te ty _ nid) (by rw [znv hnin,c2]; rfl) (zbW hn') rfl rfl rfl (by simp [World.setRow]) (fun j hj=>setRow_other w b j _ hj) ⟨_,q0,_,undef,(zbz ν _ hne).trans hν,rfl,?_,hset,za1 _ _ _⟩) (zbW hn') hle zeq rfl);have hlen2:=hset.len
   have hsn:(cur.toList.take (d*(ets X.G ty).length+m.toNat*(ets X.G ty).length+o)++ws++cur.toList.drop (d*(ets X.G ty).length+m.toNat*(ets X.G ty).length+o+ws.length)).toArray.size=cur.size:=by
    simp only [List.size_toArray,List.length_append,List.length_take,List.length_drop];omega
   refine ⟨hlen2,.inr ⟨b,d,cp,_,by simp,fun hz=>?_,setRow_heap w b cur _ te (0,0) hg,by simpa using hnc,hcm,?_,?_⟩⟩
   ·rw [hsn]; exact h0d hz
   ·rw [hsn]; exact hcs
   ·have h7:=zKL cur.toList ws (m.toNat*(ets X.G ty).length+o) (xs'.length*(ets X.G ty).length) (d*(ets X.G ty).length) (by omega) hN;rw [htk] at h7;simpa [Nat.add_assoc] using h7
 ·cases hs
theorem zQD {i f ft id ko:Nat} {k0:Hp τ→List Nat→Nat→Option ρ} (hfl:zG0 X.P t' i=some (f,ft)) (hx:evC E x=some (.pt id ko)) (hk:∀U l nid,k0 U l nid=K (.c (.pt id (ko+f))) [] U l nid) (e:ptK X L nid id k0=some r):zdu X w0 h0 F ⟨dst,.fieldAddr t' x i,t,p,af,gd⟩ E L nid K r:=by
 obtain ⟨U,nid',h1,h2,h3⟩:=zNx (w0:=w0) (h0:=h0) (F:=F) e;rw [hk] at h1;refine ⟨_,_,_,_,_,h1,h2,(fun _ h=>by cases h),fun L2 ν h φ a w next Q hd M hE ha hn k=>?_⟩;obtain ⟨Ea,hf,hl'⟩:=zd4 a hd;obtain ⟨u,g1,g2⟩:=zB hl' (hE.op (by simp [Op.operands])) hx;obtain ⟨ν', φ',b,q,M',hle,hfr,hν⟩:=h3 L2 ν h φ w M (ha id (by simp)) hn;obtain ⟨u',q',g3,rfl,_⟩:=g2;rw [hν] at g3;cases g3;refine zf7 (u:=ptr b (0+ko+f)) ?_ (k ν' h φ' w _ M' hle (Fz.le.refl _) hfr ⟨some ⟨b,0,none⟩,q,hle _ _ hν,by simp [zu6,Nat.add_assoc],fun _=>⟨b,rfl⟩⟩);simp only [execOp]; rw [hf.ev g1]; simp [zu6,zsM hfl,Result.andThen]
theorem zQE {id k:Nat} {k0:Hp τ→List Nat→Nat→Option ρ} (hx:evC E x=some (.pt id k)) (hk:∀U l nid,k0 U l nid=K (.c (.pt id k)) [] U l nid) (e:ptK X L nid id k0=some r):zdu X w0 h0 F ⟨dst,.nilCheck x,t,p,af,gd⟩ E L nid K r:=by
 obtain ⟨U,nid',h1,h2,h3⟩:=zNx (w0:=w0) (h0:=h0) (F:=F) e;rw [hk] at h1;refine ⟨_,_,_,_,_,h1,h2,(fun _ h=>by cases h),fun L2 ν h φ a w next Q hd M hE ha hn k=>?_⟩;obtain ⟨Ea,hf,hl'⟩:=zd4 a hd;obtain ⟨u,g1,g2⟩:=zB hl' (hE.op (by simp [Op.operands])) hx;obtain ⟨ν', φ',b,q,M',hle,hfr,hν⟩:=h3 L2 ν h φ w M (ha id (by simp)) hn;obtain ⟨u',q',g3,rfl,g4⟩:=g2;rw [hν] at g3;cases g3;exact zf7 (zx4 hf g1) (k ν' h φ' w _ M' hle (Fz.le.refl _) hfr ⟨_,_,hle _ _ hν,rfl,fun _=>⟨b,rfl⟩⟩)
theorem zQF {bo:BinOp} {e' id:Nat} {k0:Bool→Hp τ→List Nat→Nat→Option ρ} (hu:X.P.underlying t'=some (.pointer e')) (hx:evX E x=some (.c (.pt id 0))) (hy:evX E y=some (.c .nl)) (hk:∀z U l nid,k0 z U l nid=match okX (eqO bo z) with
      | some v=>K v [] U l nid
      | none=>none) (e:nlK X L nid id k0=some r):zdu X w0 h0 F ⟨dst,.binOp bo t' x y ty,t,p,af,gd⟩ E L nid K r:=by
  obtain ⟨z,U,nid',h1,h2,h3⟩:=zNw (w0:=w0) (h0:=h0) (F:=F) e;rw [hk] at h1
  split at h1
  · rename_i v hv
    obtain ⟨b,hb,rfl⟩:=zEl hv;refine ⟨_,_,_,_,_,h1,h2,(fun _ h=>by cases h),fun L2 ν h φ a w next Q hd M hE ha hn k=>?_⟩;obtain ⟨Ea,hf,hl'⟩:=zd4 a hd;obtain ⟨u,g1,g2⟩:=znJ hl' (hE.op (by simp [Op.operands])) hx rfl;obtain ⟨uy,g3,g4⟩:=znJ hl' (hE.op (by simp [Op.operands])) hy rfl;obtain rfl:uy=_:=g4;obtain ⟨ν', φ',up,q,M',hle,hfr,hν,hz1,hz0⟩:=h3 L2 ν h φ w M (ha id (by simp)) hn;obtain ⟨u',q',g5,rfl,_⟩:=g2;rw [hν] at g5;cases g5
    have fin:∀{vb:Bool},(execOp a.eval ⟨dst,.binOp bo t' x y ty,t,p,af,gd⟩).run X.P w = .ok (.value (.bool vb)) w→vb=b→(⟨dst,.binOp bo t' x y ty,t,p,af,gd⟩:Oper).wp X.P a w next Q:=by
      intro vb hx e;subst e;exact zf7 hx (k ν' h φ' w _ M' hle (Fz.le.refl _) hfr rfl)
    cases z with
    | true =>
      rw [hz1 rfl] at g1
      cases bo<;>first|(cases hb; done)|skip
      all_goals cases hb
      · exact fin (zDa hu hf g1 g3) rfl
      · exact fin (zDb hu hf g1 g3) rfl
    | false =>
      obtain ⟨bb,rfl⟩:=hz0 rfl
      cases bo<;>first|(cases hb; done)|skip
      all_goals cases hb
      · exact fin (zC8 hu hf g1 g3) rfl
      · exact fin (zC9 hu hf g1 g3) rfl
  · cases h1
theorem zLS {I:Nat} {xs s:List (e.den τ)} {i:Nat} (l:X.P.underlying t'=some (.slice I)) (f:szO X.P I=some (ets X.G e).length) (k:zDl E e xs lo hi=some (i,s)):∃j,i≤j∧j≤xs.length∧s=(xs.take j).drop i ∧
  ∀{a:Act} {g:Env} {N:Nat} {ν h} {w:World} {ad:Option Addr} {n d:Nat},Fits N g a→(∀t,Dk.look g t=a.tmps[t]?)→zew X h ν a (rdO (.slice t' x lo hi none)) E→evl g x=some (.slice ad n d)→n=xs.length→xs.length≤d →
   (execOp a.eval ⟨dst,.slice t' x lo hi none,t,p,af,gd⟩).run X.P w = .ok (.value (.slice (if d=i then ad else ad.map (·.add (i*(ets X.G e).length))) (j-i) (d-i))) w:=by
 unfold zDl at k
 split at k
 ·split at k
  ·rename_i i z
   split at k
   ·rename_i j C
    split at k
    ·rename_i H b
     cases k;unfold zFW at b
     split at b
     ·rename_i F
      cases b
      have A:(i.toNat:Int)=i:=by omega
      have B:(j.toNat:Int)=j:=by omega
      refine ⟨j.toNat,by omega,by omega,rfl,fun {a g N ν h w ad n d} q o m c hn r=>?_⟩;obtain ⟨D,h1,h2⟩:=zB o (m.op (by simp [Op.operands])) z;obtain ⟨v,u,y⟩:=zB o (m.op (by simp [Op.operands])) C;obtain rfl:D=_:=h2;obtain rfl:v=_:=y;refine zx3 l (fun w=>?_) q c h1 u;have:=(zlj (w:=w) (ad:=ad) l (zf4 f) (show i.toNat≤j.toNat by omega) (show j.toNat≤n by omega) (show n≤d by omega)).1
      rwa [A,B] at this
     ·cases b
    ·cases k
   ·cases k
  ·cases k
 ·split at k
  ·rename_i i z
   split at k
   ·rename_i H b
    cases k;unfold zof at b
    split at b
    ·rename_i F
     cases b
     have A:(i.toNat:Int)=i:=by omega
     refine ⟨xs.length,by omega,Nat.le_refl _,by rw [List.take_length],fun {a g N ν h w ad n d} q o m c hn r=>?_⟩;obtain ⟨D,h1,h2⟩:=zB o (m.op (by simp [Op.operands])) z;obtain rfl:D=_:=h2;refine zvF l (fun w=>?_) q c h1;have:=(zlj (w:=w) (ad:=ad) l (zf4 f) (show i.toNat≤xs.length by omega) (show xs.length≤n by omega) (show n≤d by omega)).2.2 hn.symm
     rwa [A] at this
    ·cases b
   ·cases k
  ·cases k
 ·split at k
  ·rename_i j C
   split at k
   ·rename_i H b
    cases k;unfold lTo at b
    split at b
    ·rename_i F
     cases b
     have B:(j.toNat:Int)=j:=by omega
     refine ⟨j.toNat,by omega,by omega,rfl,fun {a g N ν h w ad n d} q o m c hn r=>?_⟩;obtain ⟨v,u,y⟩:=zB o (m.op (by simp [Op.operands])) C;obtain rfl:v=_:=y;refine zzG l (fun w=>?_) q c u;have:=(zlj (w:=w) (ad:=ad) l (zf4 f) (show 0≤j.toNat by omega) (show j.toNat≤n by omega) (show n≤d by omega)).2.1 rfl
     rwa [B] at this
    ·cases b
   ·cases k
  ·cases k
 ·cases k
theorem zxX {te te' id kk i:Nat} {e':Ty} {xs s:List (e'.den τ)} (hu:X.P.underlying t'=some (.slice te)) (hx:evC E x=some (.os id)) (hlk:lk L id = .row te' e' xs kk) (hsz:szO X.P te=some (ets X.G e').length) (hp:zDl E e' xs lo hi=some (i,s))
  (e:K (.c (.os nid)) [] [(nid,.vw id kk e' i s)] [id] (nid+1)=some r):zdu X w0 h0 F ⟨dst,.slice t' x lo hi none,t,p,af,gd⟩ E L nid K r:=by
 obtain ⟨j,h1,h2,hs,hrun⟩:=zLS (X:=X) (x:=x) (dst:=dst) (t:=t) (p:=p) (af:=af) (gd:=gd) hu hsz hp;refine ⟨_,_,_,_,_,e,Nat.le_succ _,(fun _ h=>by cases h),fun L2 ν h φ a w next Q hd M hE ha hfr kc=>?_⟩;have hn:=hfr nid (Nat.le_refl _) (Nat.lt_succ_self _);obtain ⟨Ea,hf,hl'⟩:=zd4 a hd;obtain ⟨vx,g1,g2⟩:=zB hl' (hE.op (by simp [Op.operands])) hx;obtain ⟨ad,n,cp,q,hν,rfl⟩:=g2;have hres:=M.res id;rw [ha id (List.mem_singleton.2 rfl),hlk] at hres;obtain ⟨v',q',vs,u,c1,c2,c3,c4,c5⟩:=hres;rw [hν] at c1;cases c1
 have hnl:n=xs.length∧n≤cp:=by
  exact c3.len
 have hexec:=hrun (w:=w) hf hl' hE g1 hnl.1 (by omega)
 have hsl:s.length=j-i:=by rw [hs,List.length_drop,List.length_take]; omega
 have hadd:=M.add hn (.vw id kk e' i s) (.slice (if cp=i then ad else ad.map (·.add (i*(ets X.G e').length))) (j-i) (cp-i),none) (fp:=[])
  ⟨ad,n,cp,q,none,u,xs,_,_,(zbW hn) _ _ hν,(zbW hn) _ _ c5,by omega,by rw [hs]; congr 1; rw [← hs,hsl]; congr 1; omega,by rw [hsl],by omega,⟨fun hne=>by
   have:0<s.length:=List.length_pos_iff.2 hne
   rw [if_neg (by omega)],by omega,by omega,rfl⟩,rfl⟩ (fun b hb=>by cases hb)
 exact zf7 hexec (kc _ h _ w _ hadd (zbW hn) (Fz.le.refl _) zeq ⟨_,_,_,none,za1 _ _ _,rfl⟩)
theorem zQG {u:Nat} {h:Ty} {c:CV τ} {id k:Nat} {l:List (h.den τ)} {lo g:Option Operand} (n:X.P.underlying t'=some (.slice u)) (o:evC E x=some c) (d:vwO L c=some (id,k,⟨h,l⟩)) (a:szO X.P u=some (ets X.G h).length) (e:vwX E nid K id k h l lo g=some r) :
  zdu X w0 h0 F ⟨dst,.slice t' x lo g none,t,p,af,gd⟩ E L nid K r:=by
 unfold vwO at d
 split at d
 ·split at d
  ·rename_i v A xs w b
   cases d;unfold vwX Rk.hi at e
   split at e
   ·rename_i y z
    split at e
    ·rename_i i m
     split at e
     ·rename_i j q
      obtain ⟨s,f,e⟩:=ob e;exact zxX n o b a (by unfold zDl; dsimp only; rw [m]; dsimp only; rw [q]; dsimp only; rw [f]) e
     ·cases e
    ·cases e
   ·rename_i y
    split at e
    ·rename_i i m
     obtain ⟨s,f,e⟩:=ob e;exact zxX n o b a (by unfold zDl; dsimp only; rw [m]; dsimp only; rw [f]) e
    ·cases e
   ·rename_i z
    split at e
    ·rename_i j q
     obtain ⟨s,f,e⟩:=ob e;exact zxX n o b a (by unfold zDl; dsimp only; rw [q]; dsimp only; rw [f]) e
    ·cases e
   ·cases e
  ·cases d
 ·cases d
theorem zJN (g k j:Nat):(⟨g,k,none⟩:Addr).add j=⟨g,k+j,none⟩:=by unfold Addr.add; split<;>simp_all
theorem zOy {i k lo l s:Nat} {e a:Ty} {ys:List (e.den τ)} {xs:List (a.den τ)} {ad:Option Addr} {n K:Nat} {q:Option ((e:Ty) × List (e.den τ))} {fp f:List Nat} (hν:ν s=some (.slice ad n K,q)) (I:zmR X.P X.G h ν w (.vw i k e lo ys) (ν s) fp) (L:zmR X.P X.G h ν w (.row l a xs k) (ν i) f) :
  e=a∧HEq ((xs.take (lo+ys.length)).drop lo) ys∧lo+ys.length≤xs.length∧n=ys.length∧∃u, ν k=some (u,some ⟨a,xs⟩)∧((ys=[]∧(∃v q vs, ν i=some (v,q)∧f=v.ownBlock.toList∧zg1 X.G w l (ets X.G a).length v xs.length vs∧RpR X.P X.G h a xs vs)) ∨
   ys≠[]∧∃g d cap cur q vs,ad=some ⟨g,d*(ets X.G a).length+lo*(ets X.G a).length,none⟩∧ν i=some (.slice (some ⟨g,d*(ets X.G a).length,none⟩) xs.length cap,q)∧f=[g]∧(X.G.dr l=false→d=0∧cur.size=cap*(ets X.G a).length)∧w.heap[g]? = some (.cells cur l (0,0))∧xs.length≤cap∧cap≤maxLen∧(d+cap)*(ets X.G a).length≤cur.size∧(cur.toList.drop (d*(ets X.G a).length)).take (xs.length*(ets X.G a).length)=vs∧RpR X.P X.G h a xs vs):=by
 obtain ⟨R,W,V,Q,Z,O,N,a2,Y,A,z,D,E,B,T,J,_⟩:=I;obtain ⟨U,S,vs,u,m,y,o,p,c⟩:=L;rw [z] at c
 injection c with c
 injection c with d6 c
 injection c with c
 cases c;rw [hν] at B;cases B;refine ⟨rfl,heq_of_eq E.symm,D,rfl,_,z,?_⟩
 by_cases b:ys=[]
 ·exact .inl ⟨b,_,_,_,m,y,o,p⟩
 ·right
  rw [A] at m;cases m;have j:=J.1 b;have x:0<ys.length:=List.length_pos_iff.2 b;obtain ⟨r,⟨t,H⟩|⟨g,d,cap,cur,t,h0,h1,h2,C,F,M⟩⟩:=o
  ·omega
  ·cases t;simp only [Option.map_some,zJN] at j;exact ⟨b,g,d,_,cur,_,vs,j,A,by rw [y]; rfl,h0,h1,h2,C,F,M,p⟩
theorem zHR {O id i k D lo:Nat} {m:Int} {e J:Ty} {xs:List (e.den τ)} {ys:List (J.den τ)} {d:e.den τ} (B:elO X.P t'=some O) (Z:evC E x=some (.os id)) (U:evC E y=some (.i m)) (H:lk L id = .vw i k e lo xs) (o:lk L i = .row D J ys k) (f:szE X O e=true) (hr:lAt xs m=some d)
  (Q:K (.c (.oe i k (lo+m.toNat:Nat) e d 0)) [] [] [id,i] nid=some r):zdu X w0 h0 F ⟨dst,.indexAddr t' x y,t,p,af,gd⟩ E L nid K r:=by
 obtain ⟨f,_⟩:=zvu f;refine zbp Q fun L2 ν h φ a w hd M N I=>?_;obtain ⟨Ea,S,j⟩:=zd4 a hd;obtain ⟨vx,h1,h2⟩:=zB j (N.op (by simp [Op.operands])) Z;obtain ⟨vy,R,T⟩:=zB j (N.op (by simp [Op.operands])) U;obtain rfl:vy=_:=T;obtain ⟨ad,n,cp,q,hν,rfl⟩:=h2;have b:=M.res id;rw [I id (List.mem_cons_self ..),H] at b;have l:=M.res i;rw [I i (List.mem_cons_of_mem _ (List.mem_cons_self ..)),o] at l;obtain ⟨rfl,A,g3,hn,u,W,h5⟩:=zOy hν b l;have A:=eq_of_heq A;obtain ⟨s,C⟩:=zsK hr;have z:m.toNat<xs.length:=(List.getElem?_eq_some_iff.1 s).1
 rcases h5 with ⟨rfl,_⟩|⟨_,g,V,cap,cur,q2,vs,rfl,Y,_⟩
 ·simp at z
 ·have v:lAt ys ((lo+m.toNat:Nat):Int)=some d:=by
   unfold lAt;rw [if_pos (by omega),Int.toNat_natCast];rw [← A,List.getElem?_drop,List.getElem?_take] at s
   split at s
   ·exact s
   ·cases s
  refine ⟨ptr g (V*(ets X.G e).length+(lo+m.toNat)*(ets X.G e).length),?_,g,_,_,_,_,ys,_,Y,W,v,by rw [Int.toNat_natCast,Nat.add_zero]⟩;refine zmW (fun w=>?_) S h1 R;rw [zop (zki B) (zf4 f) C (by omega),zJN,Nat.add_mul,Nat.add_assoc]
theorem zOz (M:Mem X.P X.G w0 h0 F L2 w ν h φ) {te:TypeId} {e:Ty} {z:e.den τ} (k:zOe X te e=some z):∃v us,(∀w,(zeroValue te).run X.P w = .ok v w)∧v.cells=us.toArray∧RpL X.P X.G h (ets X.G e) (edt X.G e z) us:=by
 unfold zOe at k
 split at k
 ·rename_i zs hz
  split at k
  ·rename_i q hq
   cases k;obtain ⟨it,v,hi,hz0,hc⟩:=zAl hz;refine ⟨v,v.cells.toList,fun w=>by simp [zeroValue,typeInfo,hi,hz0,go_sem,Result.andThen],by simp,?_⟩;rw [zFN];exact ztw (A:=zcf L2 [] φ h w) (fun _ _=>zcf.app) (zxs M (Fz.le.refl _) depth) hq ⟨fun i hi=>(by cases hi),fun b hb=>(by cases hb)⟩ (zzt (X:=X) hc)
  ·cases k
 ·cases k
theorem zDu (us:List Value) (n:Nat) (e:Ty) (z:e.den τ) (a:RpL X.P X.G h (ets X.G e) (edt X.G e z) us):RpR X.P X.G h e (List.replicate n z) (cells (fun _:Unit=>us) (List.replicate n ())):=by
 induction n with
 | zero=>exact .nil e
 | succ n b=>exact .cons e z _ us _ a b
theorem zOA {te id:Nat} (hel:elO X.P t'=some te) (hx:evC E x=some (.os id)) (e:clrX X L nid K te id=some r):zdu X w0 h0 F ⟨dst,.call ⟨.builtin .clear,⟨[x]⟩,⟨[t']⟩⟩,t,p,af,gd⟩ E L nid K r:=by
 unfold clrX at e
 split at e
 ·rename_i i k e1 lo ys hlk
  split at e
  ·rename_i te' e' xs k' hlk2
   have hb:=(zhi e).1
   replace e:=(zhi e).2
   simp only [Bool.and_eq_true,Nat.beq_eq] at hb;obtain ⟨rfl,rfl,hsz⟩:=hb;obtain ⟨hsz,hpos⟩:=zvu hsz
   split at e
   ·rename_i z hz
    refine ⟨_,_,_,_,_,e,Nat.le_succ _,(fun _ h=>by cases h),fun L2 ν h φ a w next Q hd M hE ha hfr kk=>?_⟩;obtain ⟨zv,us,hzv,hzc,hzr⟩:=zOz M hz;have hn':=hfr nid (Nat.le_refl _) (Nat.lt_succ_self _);obtain ⟨Ea,hf,hl'⟩:=zd4 a hd;obtain ⟨vx,h1,h2⟩:=zB hl' (hE.op (by simp [Op.operands,Call.operands])) hx;obtain ⟨ad,n,cp,q,hν,rfl⟩:=h2;have hres:=M.res id;rw [ha id (List.mem_cons_self ..),hlk] at hres;have hr2:=M.res i;rw [ha i (List.mem_cons_of_mem _ (List.mem_cons_self ..)),hlk2] at hr2;obtain ⟨rfl,_,g3,rfl,u,g2,h5⟩:=zOy hν hres hr2
    have hrun2:∀w',(Builtin.clear_ #[t'] t #[.slice ad ys.length cp]).run X.P w = .ok (.tuple #[]) w'→(execOp a.eval ⟨dst,.call ⟨.builtin .clear,⟨[x]⟩,⟨[t']⟩⟩,t,p,af,gd⟩).run X.P w = .ok (.value (.tuple #[])) w':=by
     intro w' hr';simp only [execOp,resolve,invoke,builtin,Sem.run_bind,Sem.run_pure,Result.andThen,List.map_toArray,List.map_cons,List.map_nil,hf.ev h1,hr']
    have hu:=zki hel;have hlz:us.length=(ets X.G e1).length:=hzr.len
    rcases h5 with ⟨rfl,v,q2,vs,c1,c2,c3,c4⟩|⟨hne0,g,d0,cap,cur,q2,vs,rfl,c1,c2,h0d,hg,hnc,hcm,hcs,htk,hrr⟩
    ·have hcl:(Builtin.clear_ #[t'] t #[.slice ad ([]:List (e1.den τ)).length cp]).run X.P w = .ok (.tuple #[]) w:=by
      cases ad<;>simp [Builtin.clear_,Sem.run_bind,run_underlying hu,Result.andThen]
     have hne:i≠nid:=by rintro rfl; rw [hn'] at c1; cases c1
     have el:xs.take lo++(List.replicate ([]:List (e1.den τ)).length z++xs.drop (lo+([]:List (e1.den τ)).length))=xs:=by simp
     rw [el] at kk;refine zf7 (hrun2 _ hcl) (kk (up1 ν nid (some (undef,some ⟨e1,xs⟩))) h φ w _ ?_ (zbW hn') (Fz.le.refl _) zeq ⟨[],rfl,rfl⟩);refine ((M.ext (zbW hn')).upd [i] (fun j hj=>zdR _ _ (by simpa using hj)) (fun j _=>rfl) (Vn.le.refl _) (Fz.le.refl _) rfl rfl rfl (Nat.le_refl _) (fun _ _ _=>rfl) (fun b o h1 h2=>M.on b o h2) (fun b h1 h2=>(h2 h1).elim) ?_ ?_ ?_)
     ·intro j hj;obtain rfl:=List.mem_singleton.1 hj;rw [show [(j,AR.row te e1 xs nid)]++L2=(j,AR.row te e1 xs nid)::L2 from rfl,zbu];exact ⟨v,q2,vs,undef,(zbz ν _ hne).trans c1,c2,c3,c4,za1 _ _ _⟩
     ·intro j hj b hb;exact ⟨(M.out j b hb).1,.inl (zeR.2 ⟨j,hj,hb⟩)⟩
     ·intro j hj j2 hj2 b _ _;rw [List.mem_singleton.1 hj,List.mem_singleton.1 hj2]
    ·have hzl:(cells (fun _:Unit=>us) (List.replicate ys.length ())).length=ys.length*(ets X.G e1).length:=by rw [cells_length (fun _=>hlz),List.length_replicate]
     have hset:=(hrr.take lo).app ((zDu us ys.length e1 z hzr).app (hrr.drop (lo+ys.length)));have hvl:=hrr.len;have hN:(lo+ys.length)*(ets X.G e1).length≤xs.length*(ets X.G e1).length:=Nat.mul_le_mul_right _ g3
     have hN2:d0*(ets X.G e1).length+xs.length*(ets X.G e1).length≤cur.size:=by rw [← Nat.add_mul]; exact Nat.le_trans (Nat.mul_le_mul_right _ (by omega)) hcs
     have hmul:(lo+ys.length)*(ets X.G e1).length=lo*(ets X.G e1).length+ys.length*(ets X.G e1).length:=Nat.add_mul ..;have hone:∀v∈cells (fun _:Unit=>us) (List.replicate ys.length ()),v.oneCell'=true:=fun v hv=>(zDu us ys.length e1 z hzr).one v hv;have hst:=run_storeCells_at X.P g (d0*(ets X.G e1).length+lo*(ets X.G e1).length) te (cells (fun _:Unit=>us) (List.replicate ys.length ())) 0 cur w hg (by rw [hzl]; omega) hone
     have hcl:(Builtin.clear_ #[t'] t #[.slice (some ⟨g,d0*(ets X.G e1).length+lo*(ets X.G e1).length,none⟩) ys.length cp]).run X.P w = .ok (.tuple #[]) (w.setRow g (cur.toList.take (d0*(ets X.G e1).length+lo*(ets X.G e1).length)++cells (fun _:Unit=>us) (List.replicate ys.length ())++cur.toList.drop (d0*(ets X.G e1).length+lo*(ets X.G e1).length+(cells (fun _:Unit=>us) (List.replicate ys.length ())).length)).toArray):=by
      simp only [Nat.add_zero] at hst;obtain ⟨q,hy⟩:∃q,ys.length=q+1:=⟨ys.length-1,by have:=List.length_pos_iff.2 hne0; omega⟩;rw [hy] at hst ⊢;simp [Builtin.clear_,Sem.run_bind,run_underlying hu,Result.andThen,hzv,hzc,zBz (enc:=fun _:Unit=>us) (z:=()) (fun _=>hlz) hpos,hst]
     have hne:i≠nid:=by rintro rfl; rw [hn'] at c1; cases c1
     refine zf7 (hrun2 _ hcl) (kk (up1 ν nid (some (undef,some ⟨e1,_⟩))) h φ _ _ (M.turn (i:=i) (b:=g) (.row te e1 _ nid) c2 (zbW hn') rfl rfl rfl (by simp [World.setRow]) (fun j hj=>setRow_other w g j _ hj) ⟨_,q2,_,undef,(zbz ν _ hne).trans c1,rfl,?_,hset,za1 _ _ _⟩) (zbW hn') (Fz.le.refl _) zeq ⟨[],rfl,rfl⟩)
     have hll:(xs.take lo++(List.replicate ys.length z++xs.drop (lo+ys.length))).length=xs.length:=by simp; omega
     rw [hll];have hlen2:=hset.len;rw [hll] at hlen2
     have hcl2:cur.toList.length=cur.size:=by simp
     have hsn:(cur.toList.take (d0*(ets X.G e1).length+lo*(ets X.G e1).length)++cells (fun _:Unit=>us) (List.replicate ys.length ())++cur.toList.drop (d0*(ets X.G e1).length+lo*(ets X.G e1).length+(cells (fun _:Unit=>us) (List.replicate ys.length ())).length)).toArray.size=cur.size:=by
      simp only [List.size_toArray,List.length_append,List.length_take,List.length_drop,hzl];omega
     refine ⟨hlen2,.inr ⟨g,d0,cap,_,rfl,fun hz=>?_,setRow_heap w g cur _ te (0,0) hg,hnc,hcm,?_,?_⟩⟩
     ·rw [hsn]; exact h0d hz
     ·rw [hsn]; exact hcs
     ·have h7:=zKL cur.toList (cells (fun _:Unit=>us) (List.replicate ys.length ())) (lo*(ets X.G e1).length) (xs.length*(ets X.G e1).length) (d0*(ets X.G e1).length) (by rw [hzl]; omega) (by omega);rw [htk,hzl, ← hmul] at h7;rw [hzl];simpa [List.append_assoc] using h7
   ·cases e
  ·cases e
 ·cases e
theorem zLT {id i g v lo:Nat} {xs:List (e.den τ)} (o:evC E x=some (.os id)) (u:lk L id = .vw i g e lo xs) (l:elO X.P t'=some v) (k:K (.c (.i (xs.length:Int))) [] [] [id] nid=some r) :
  zdu X w0 h0 F ⟨dst,.call ⟨.builtin .len,⟨[x]⟩,⟨[t']⟩⟩,t,p,af,gd⟩ E L nid K r:=by
 refine zbp k fun H ν h φ a w hd M n j=>?_;obtain ⟨G,y,b⟩:=zd4 a hd;obtain ⟨C,h1,h2⟩:=zB b (n.op (by simp [Op.operands,Call.operands])) o;obtain ⟨ad,m,R,q,hν,rfl⟩:=h2;have f:=M.res id;rw [j id (List.mem_singleton.2 rfl),u] at f;obtain ⟨I,T,Q,B,V,z,s,a2,U,S,O,A,D,d,N,J,_⟩:=f;rw [hν] at d;cases d;exact ⟨_,zso (zki l) y h1,rfl⟩
end
end Go.Rk
end
section
namespace Go.Rk
open Go.RowKit Go.Dm Go.Dk
variable {τ:Nat→Type}
variable {t:Ty} {fp:List Nat} {v:Value}
section
variable (P:Program) (G:Sig τ) (h:Fz) (w:World)
def TrX:(t:Ty)→t.den τ→Value→List Nat→Prop
 | .st n,x,v,fp=>∃vs,v = .agg ⟨vs⟩∧TrL P G h w (G.fs n) (G.dtor n x) vs fp
 | .pr _ _,_,_,fp=>fp=[]
 | .sn a e,x,v,fp=>(x=none∧v = .slice none 0 0∧fp=[])∨∃xs,x=some xs∧Tr P G h w (.so a e) xs v fp
 | t,x,v,fp=>Tr P G h w t x v fp
inductive TrXs:(ts:List Ty)→DP τ ts→List Value→List Nat→Prop
 | nil:TrXs [] () [] []
 | cons (t:Ty) (ts:List Ty) (p:DP τ (t::ts)) (v:Value) (vs:List Value) (f f':List Nat) (h1:TrX P G h w t p.hd v f) (h2:TrXs ts p.tl vs f') (hd:∀b∈f,b∉f'):TrXs (t::ts) p (v::vs) (f++f')
end
def zz5:List Value→Value
 | [v]=>v
 | vs => .tuple ⟨vs⟩
structure Left (h:Fz) (w:World) (fp:List Nat) (h':Fz) (w':World) (fp':List Nat):Prop where
 os:w'.os=w.os
 tape:w'.tape=w.tape
 output:w'.output=w.output
 size:w.heap.size≤w'.heap.size
 frame:∀b,b<w.heap.size→b∉fp→w'.heap[b]? = w.heap[b]?
 le:h.le h'
 on:h'.on w'
 new:∀b,h' b≠none→h b≠none∨b∈fp∨w.heap.size≤b
 own:∀b∈fp',h' b=none∧(b∈fp∨w.heap.size≤b)
def cellV (v:Value):Nat→Value
 | 0=>v
 | i+1=>match v with
  | .agg ⟨a⟩=>a.getD i undef
  | _=>undef
def bkV (vs:List Value) (j:Nat):Value:=cellV (vs.getD (j%32) undef) (j/32)
def COk (P:Program) (G:Sig τ) (f:FuncId) (k:Con τ):Prop :=
 zfd P f∧∀(h:Fz) (w:World) (p:DP τ k.ps) (r:DP τ k.rs) (vs:List Value) (fp:List Nat),zsJ P G h→zEj P G→h.on w→TrXs P G h w k.ps p vs fp→(∀b∈fp,h b=none)→k.m p=some r →
  Calls P f vs.toArray w fun e w'=>∃h' rs fp',e = .returned (zz5 (rs.take k.nr))∧Left h w fp h' w' fp'∧TrXs P G h' w' k.rs r rs fp'∧rs.drop k.nr=k.bk.map (bkV vs)
section
variable {P:Program} {G:Sig τ} {w0 w w':World} {h0 h h' H:Fz} {F:List Nat} {L L' L2:Hp τ} {ν ν':Vn τ} {φ φ':Nat→List Nat}
theorem TrX.plain {x:t.den τ} (hp:Tr P G h w t x v fp) (h1:∀n,t ≠ .st n):TrX P G h w t x v fp:=by
 cases t with
 | st n=>exact (h1 n rfl).elim
 | pr a b=>cases hp with|fz _ _ _ _ d=>cases d
 | sn f e=>cases hp with|fz _ _ _ c _=>cases c
 | _=>exact hp
theorem res_st {n:Nat} {c:CV τ}:∀d,res G L d (.st n) c=none
 | 0=>rfl
 | d+1=>by unfold res; dsimp only; unfold lok; rfl
theorem zKl (M:Mem P G w0 h0 F L2 w ν h φ) (d:h.le H) {t:Ty} {A:XV τ} {x:t.den τ} {l m:List Nat} {v:Value} (k:resX G L t A=some (x,l,m)) (b:∀i∈l,lk L2 i=lk L i) (f:zcf L2 L φ H w m) (hn:nod l=true) (a:XOk P G h ν A v):TrX P G H w t x v (fps φ l):=by
 unfold resX at k
 split at k
 ·rename_i n cs
  split at k
  ·rename_i q j o g
   cases k;obtain ⟨vs,rfl,hc⟩:=a;refine ⟨vs,rfl,?_⟩;rw [G.dc];exact zEt M (zEu M d depth) g b f hn hc
  ·cases k
 ·rename_i s e c
  split at k
  ·cases k;exact .inl ⟨rfl,a,rfl⟩
  ·split at k
   ·rename_i r j o p
    cases k;exact .inr ⟨_,rfl,zEu M d _ _ _ _ _ _ _ p b f hn a⟩
   ·cases k
 ·rename_i c
  refine TrX.plain (zEu M d _ _ _ _ _ _ _ k b f hn a) ?_;rintro n rfl;rw [res_st] at k; cases k
 ·split at k
  ·cases k; rfl
  ·cases k
 ·cases k
theorem zz6 (M:Mem P G w0 h0 F L2 w ν h φ) (c:h.le H):∀{ts:List Ty} {As:List (XV τ)} {p:DP τ ts} {l m:List Nat} {vs:List Value},zsR G L ts As=some (p,l,m)→(∀i∈l,lk L2 i=lk L i)→zcf L2 L φ H w m→nod l=true →
  vs.length=As.length→(∀(i:Nat) (A:XV τ) (v:Value),As[i]? = some A→vs[i]? = some v→XOk P G h ν A v)→TrXs P G H w ts p vs (fps φ l)
 | [],[],p,l,m,vs,e,_,_,_,a,_=>by
  cases e;have:vs=[]:=List.eq_nil_of_length_eq_zero a;subst this; exact .nil
 | t :: ts,A::As,p,l,m,vs,e,f,d,hn,a,b=>by
  unfold zsR at e
  split at e
  ·rename_i x y s n
   split at e
   ·rename_i q r u j
    cases e;obtain ⟨o,g,k⟩:=zv9 hn
    cases vs with
    | nil=>simp at a
    | cons v vs =>
     rw [zfB];refine .cons t ts _ v vs _ _ ?_ ?_ (M.fps_dis k)
     ·rw [DP.hd_mk]; exact zKl M c n (fun i hi=>f i (List.mem_append_left _ hi)) d.app.1 o (b 0 A v rfl rfl)
     ·rw [DP.tl_mk]; exact zz6 M c j (fun i hi=>f i (List.mem_append_right _ hi)) d.app.2 g (by simpa using a) (fun i A v h1 h2=>b (i+1) A v h1 h2)
   ·cases e
  ·cases e
 | [],_::_,_,_,_,_,e,_,_,_,_,_=>by cases e
 | _::_,[],_,_,_,_,e,_,_,_,_,_=>by cases e
structure Adds (P:Program) (G:Sig τ) (w0:World) (h0:Fz) (F:List Nat) (L:Hp τ) (w:World) (ν:Vn τ) (h:Fz) (φ:Nat→List Nat) (U:Hp τ) (nid nid':Nat) (fp:List Nat) (ν':Vn τ) (φ':Nat→List Nat):Prop where
 mem:Mem P G w0 h0 F (U++L) w ν' h φ'
 le:ν.le ν'
 fresh:zdF ν ν' nid nid'
 sub:∀j b,b∈φ' j→b∈φ j∨b∈fp
theorem Grew.adds {U:Hp τ} {nid a:Nat} (g:Grew P G w0 h0 F L w ν h φ U nid a fp ν' φ'):Adds P G w0 h0 F L w ν h φ U nid a fp ν' φ' :=
 ⟨g.mem,g.le,g.fresh,fun j b c=>by
  by_cases e:nid≤j∧j<a
  ·exact .inr (g.fp j b e.1 e.2 c)
  ·rw [(g.same j e).2] at c; exact .inl c⟩
theorem zhP.adds {U:Hp τ} {nid a:Nat} {fp fp':List Nat} (g:Adds P G w0 h0 F L w ν h φ U nid a fp ν' φ') (d:zhP w0 h F φ fp') (hd:∀b∈fp',b∉fp):zhP w0 h F φ' fp':=fun b c =>
 ⟨fun i hi=>by
  rcases g.sub i b hi with h1|h1
  ·exact (d b c).1 i h1
  ·exact hd b c h1,(d b c).2⟩
theorem Adds.seq {U l:Hp τ} {a b c:Nat} {fp fp':List Nat} {ν'':Vn τ} {φ'':Nat→List Nat} (g:Adds P G w0 h0 F L w ν h φ l b c fp' ν' φ') (d:Adds P G w0 h0 F (l++L) w ν' h φ' U a b fp ν'' φ'') (h1:a≤b) (h2:b≤c):Adds P G w0 h0 F L w ν h φ (U++l) a c (fp++fp') ν'' φ'' :=
 ⟨by rw [List.append_assoc]; exact d.mem,g.le.trans d.le,fun i o n=>by
  by_cases e:ν' i=none
  ·have:=d.fresh i e n; omega
  ·have:=g.fresh i o e; omega,fun j b m=>by
  rcases d.sub j b m with f|f
  ·rcases g.sub j b f with k|k
   ·exact .inl k
   ·exact .inr (List.mem_append_right _ k)
  ·exact .inr (List.mem_append_left _ f)⟩
theorem zvU {x:t.den τ} {nid nid':Nat} {v:XV τ} {U:Hp τ} (e:zJa G t x nid=(v,U,nid')):nid≤nid':=by
 cases t
 case st n =>
  have e:zI9 G _ x nid=(v,U,nid'):=e;unfold zI9 at e
  split at e
  rename_i h1
  cases e;exact zky (zgE G depth) h1
 case pr a b=>cases e; exact Nat.le_refl _
 case sn te e0=>cases e; exact Nat.le_refl _
 all_goals
  have e:zI8 G _ x nid=(v,U,nid'):=e;unfold zI8 at e
  split at e
  rename_i h1
  cases e;exact zgE G depth _ _ _ _ _ _ h1
theorem zPU {x:t.den τ} {nid nid':Nat} {v:XV τ} {U:Hp τ} (e:zJa G t x nid=(v,U,nid')):∀j∈kys U,nid≤j∧j<nid':=by
 cases t
 case st n =>
  have e:zI9 G _ x nid=(v,U,nid'):=e;unfold zI9 at e
  split at e
  rename_i h1
  cases e;exact zwb (zgE G depth) (zzw G depth) h1
 case pr a b=>cases e; intro j hj; cases hj
 case sn te e0=>cases e; intro j hj; cases hj
 all_goals
  have e:zI8 G _ x nid=(v,U,nid'):=e;unfold zI8 at e
  split at e
  rename_i h1
  cases e;exact zzw G depth _ _ _ _ _ _ h1
theorem zzq (M:Mem P G w0 h0 F L w ν h φ) {t:Ty} {x:t.den τ} {nid nid':Nat} {A:XV τ} {U:Hp τ} {v:Value} {fp:List Nat} (e:zJa G t x nid=(A,U,nid')) (ht:TrX P G h w t x v fp) (hn:∀i,nid≤i→i<nid'→ν i=none) (hf:zhP w0 h F φ fp) :
  ∃ν' φ',Adds P G w0 h0 F L w ν h φ U nid nid' fp ν' φ'∧XOk P G h ν' A v:=by
 have flat:∀{t:Ty} {x:t.den τ} {c:CV τ},zsS G depth t x nid=(c,U,nid')→Tr P G h w t x v fp→∃ν' φ',Adds P G w0 h0 F L w ν h φ U nid nid' fp ν' φ'∧XOk P G h ν' (.c c) v:=by
  intro t x c h1 ht;obtain ⟨ν', φ',g,hc⟩:=zEv depth _ _ _ _ _ _ _ _ _ _ _ h1 ht M hn hf;exact ⟨ν', φ',g.adds,hc⟩
 cases t
 case st n =>
  have e:zI9 G _ x nid=(A,U,nid'):=e;unfold zI9 at e
  split at e
  rename_i cs U1 n1 h1
  cases e;obtain ⟨vs,rfl,hl⟩:=ht;obtain ⟨ν', φ',g,hc⟩:=zzv (zgE G depth) (zEv depth) h1 hl M hn hf;exact ⟨ν', φ',g.adds,vs,rfl,hc⟩
 case pr a b =>
  cases e;exact ⟨ν, φ,(Grew.nil M _ fp).adds,trivial⟩
 case sn te e0 =>
  cases e;exact ⟨ν, φ,(Grew.nil M _ fp).adds,trivial⟩
 all_goals
  have e:zI8 G _ x nid=(A,U,nid'):=e;unfold zI8 at e
  split at e
  rename_i h1
  cases e;exact flat h1 ht
theorem zz7 (M:Mem P G w0 h0 F L w ν h φ) {i n nid c:Nat} {x:τ n} {U:Hp τ} {v:Value} {q:Option ((e:Ty) × List (e.den τ))} {fp:List Nat} (e:zkz G i n x nid=(U,c)) (m:lk L i = .gone) (hi:ν i=some (v,q)) (r:Tr P G h w (.po n) x v fp) (k:zhP w0 h F φ fp)
  (hn:∀i,nid≤i→i<c→ν i=none):∃ν' φ' b,Adds P G w0 h0 F L w ν h φ U nid c fp ν' φ'∧v=ptr b 0:=by
 obtain ⟨_, ν', φ',t,cs,b,h1,h2,g,l,_,o,p⟩:=zGV M e m hi r k hn;refine ⟨ν', φ',b,⟨h1,h2,g,fun j b d=>?_⟩,l⟩
 by_cases f:j=i∨nid≤j∧j<c
 ·exact .inr (p j b f d)
 ·rw [o j (fun a=>f (.inr a)) (fun a=>f (.inl a))] at d;exact .inl d
theorem zGC {i n nid a:Nat} {x:τ n} {U:Hp τ} (e:zkz G i n x nid=(U,a)):nid≤a:=by
 unfold zkz at e
 split at e
 rename_i h1
 cases e;exact zky (zgE G depth) h1
theorem Mem.gone_of (M:Mem P G w0 h0 F L w ν h φ) {i:Nat} (hi:ν i=none):lk L i = .gone:=by
 have a:=M.res i;rw [hi] at a
 cases e:lk L i with
 | gone=>rfl
 | blk t cs=>rw [e] at a; obtain ⟨_,_,_,h,_⟩:=a; cases h
 | row t b xs k=>rw [e] at a; obtain ⟨_,_,_,_,h,_⟩:=a; cases h
 | fz b xs=>rw [e] at a; obtain ⟨_,_,h,_⟩:=a; cases h
 | tree n x=>rw [e] at a; obtain ⟨_,_,h,_⟩:=a; cases h
 | nilp=>rw [e] at a; obtain ⟨_,h,_⟩:=a; cases h
 | clo f bs cs=>rw [e] at a; obtain ⟨_,_,_,h,_⟩:=a; cases h
 | sb c n=>rw [e] at a; obtain ⟨_,_,_,_,h,_⟩:=a; cases h
 | vw c k b lo xs=>rw [e] at a; obtain ⟨_,_,_,_,_,_,_,_,_,_,_,_,_,h,_⟩:=a; cases h
 | mp l=>rw [e] at a; obtain ⟨_,_,h,_⟩:=a; cases h
def zmZ (L:Hp τ) (ν:Vn τ):List (Option (Option Nat))→List Value→Prop
 | some (some i)::rs,v::vs=>lk L i = .gone∧(∃q, ν i=some (v,q))∧some (some i)∉rs∧zmZ L ν rs vs
 | some none::rs,v::vs=>v = .pointer none∧zmZ L ν rs vs
 | none::rs,_::vs=>zmZ L ν rs vs
 | _,_=>True
def outs:List (Option (Option Nat))→List Value→List Value
 | none::rs,v::vs=>v::outs rs vs
 | some _::rs,_::vs=>outs rs vs
 | _,_=>[]
def zGD (P:Program) (G:Sig τ) (h:Fz) (ν:Vn τ):List (XV τ)→List Value→Prop
 | [],vs=>vs=[]
 | x::xs,vs=>∃v us,vs=v::us∧XOk P G h ν x v∧zGD P G h ν xs us
theorem zGD.le (a:h.le h') (hν:ν.le ν'):∀{xs:List (XV τ)} {vs:List Value},zGD P G h ν xs vs→zGD P G h' ν' xs vs
 | [],_,e=>e
 | _::_,_,⟨v,us,e,h1,h2⟩=>⟨v,us,e,h1.le a hν,h2.le a hν⟩
theorem zPV {ρ:Type} {r:ρ} {a:Option (Option Nat)} {x:t.den τ} {nid:Nat} {k:Option (XV τ)→Hp τ→Nat→Option ρ} (e:resH G a t x nid k=some r):∃C U f,k C U f=some r∧nid≤f∧(∀j∈kys U,some (some j)=a∨nid≤j∧j<f) ∧
  ∀(L:Hp τ) (w:World) (ν:Vn τ) (h:Fz) (φ:Nat→List Nat) (v:Value) (fp:List Nat),Mem P G w0 h0 F L w ν h φ→TrX P G h w t x v fp→(∀i,nid≤i→i<f→ν i=none)→zhP w0 h F φ fp→(∀i,a=some (some i)→lk L i = .gone∧∃q, ν i=some (v,q))→(a=some none→v = .pointer none) →
   ∃ν' φ',Adds P G w0 h0 F L w ν h φ U nid f fp ν' φ'∧((a=none∧∃y,C=some y∧XOk P G h ν' y v)∨(a≠none∧C=none)):=by
 unfold resH at e
 split at e
 ·rename_i i n x
  obtain ⟨U,f,h1⟩:∃U f,zkz G i n x nid=(U,f):=⟨_,_,rfl⟩;rw [h1] at e;refine ⟨none,U,f,e,zGC h1,fun j c=>?_,fun L w ν h φ v fp M d hn g l _=>?_⟩
  ·rcases zGW h1 j c with h2|h2
   ·exact .inl (by rw [h2])
   ·exact .inr h2
  ·obtain ⟨z,q,hi⟩:=l i rfl;obtain ⟨ν', φ',b,A,_⟩:=zz7 M h1 z hi d g hn;exact ⟨ν', φ',A,.inr ⟨by simp,rfl⟩⟩
 ·rename_i i n x
  refine ⟨none,_,_,e,Nat.le_refl _,fun j c=>?_,fun L w ν h φ v fp M d hn g l _=>?_⟩
  ·simp [kys] at c;subst c; exact .inl rfl
  ·obtain ⟨z,q,hi⟩:=l i rfl;refine ⟨ν,_,⟨M.put (i:=i) z (.tree n x) (fp:=fp) ⟨v,q,hi,d⟩ g,Vn.le.refl _,zdF.refl _ _ _,fun j b o=>?_⟩,.inr ⟨by simp,rfl⟩⟩
   by_cases c:j=i
   ·subst c; rw [za1] at o; exact .inr o
   ·rw [zbz _ _ c] at o; exact .inl o
 ·rename_i i u s x
  refine ⟨none,_,_,e,Nat.le_succ _,fun j c=>?_,fun L w ν h φ v fp M d hn g l _=>?_⟩
  ·simp [kys] at c;subst c; exact .inl rfl
  ·obtain ⟨z,q,hi⟩:=l i rfl;have m:=hn nid (Nat.le_refl _) (Nat.lt_succ_self _);have p:ν.le (up1 ν nid (some (v,some ⟨s,x⟩))):=zbW m;have d:Tr P G h w (.so u s) x v fp:=d
   cases d with
   | fz _ _ _ I _=>cases I
   | so _ _ _ _ vs J K =>
    refine ⟨up1 ν nid (some (v,some ⟨s,x⟩)),_,⟨(M.ext p).put (i:=i) z (.row u s x nid) ⟨v,q,vs,v,p _ _ hi,rfl,J,K,za1 _ _ _⟩ g,p,fun j E B=>?_,fun j b o=>?_⟩,.inr ⟨by simp,rfl⟩⟩
    ·by_cases c:j=nid
     ·omega
     ·rw [zbz _ _ c] at B;exact (B E).elim
    ·by_cases c:j=i
     ·subst c; rw [za1] at o; exact .inr o
     ·rw [zbz _ _ c] at o; exact .inl o
 ·refine ⟨none,_,_,e,Nat.le_refl _,(fun j c=>by cases c),fun L w ν h φ v fp M d hn g l _=>⟨ν, φ,(Grew.nil M _ _).adds,.inr ⟨by simp,rfl⟩⟩⟩
 ·refine ⟨none,_,_,e,Nat.le_refl _,(fun j c=>by cases c),fun L w ν h φ v fp M d hn g l _=>⟨ν, φ,(Grew.nil M _ _).adds,.inr ⟨by simp,rfl⟩⟩⟩
 ·rename_i n x
  cases x with
  | none =>
   refine ⟨_,_,_,e,Nat.le_refl _,(fun j c=>by cases c),fun L w ν h φ v fp M d hn g l _=>⟨ν, φ,(Grew.nil M _ _).adds,.inl ⟨rfl,_,rfl,?_⟩⟩⟩;exact (Tr.pn_none d).1
  | some y =>
   obtain ⟨U,f,h1⟩:∃U f,zkz G nid n y (nid+1)=(U,f):=⟨_,_,rfl⟩;simp only [optK,h1] at e;have p:=zGC h1;refine ⟨_,_,_,e,by omega,fun j c=>?_,fun L w ν h φ v fp M d hn g l _=>?_⟩
   ·rcases zGW h1 j c with h2|h2
    ·exact .inr (by omega)
    ·exact .inr (by omega)
   ·have m:=hn nid (Nat.le_refl _) (by omega)
    have D:∀i,nid+1≤i→i<f→up1 ν nid (some (v,none)) i=none:=fun i a b=>by rw [zbz _ _ (by omega)]; exact hn i (by omega) b
    obtain ⟨ν', φ',b,A,rfl⟩:=zz7 (M.ext (zbW (x:=some (v,none)) m)) h1 (M.gone_of m) (za1 _ _ _) (Tr.pn_some d) g D;refine ⟨ν', φ',⟨A.mem,(zbW m).trans A.le,fun i E B=>?_,A.sub⟩,.inl ⟨rfl,_,rfl,some ⟨b,0,none⟩,none,A.le _ _ (za1 _ _ _),rfl,fun _=>⟨b,rfl⟩⟩⟩
    by_cases hi:i=nid
    ·omega
    ·have:=A.fresh i (by rw [zbz _ _ hi]; exact E) B; omega
 ·rename_i u s x
  cases x with
  | none =>
   refine ⟨_,_,_,e,Nat.le_refl _,(fun j c=>by cases c),fun L w ν h φ v fp M d hn g l _=>⟨ν, φ,(Grew.nil M _ _).adds,.inl ⟨rfl,_,rfl,?_⟩⟩⟩
   rcases d with ⟨_,h1,_⟩|⟨xs,h1,_⟩
   ·exact h1
   ·cases h1
  | some y =>
   simp only [optK] at e;refine ⟨_,_,_,e,Nat.le_succ _,fun j c=>?_,fun L w ν h φ v fp M d hn g l _=>?_⟩
   ·simp [kys] at c;subst c; exact .inr ⟨Nat.le_refl _,Nat.lt_succ_self _⟩
   ·have d:Tr P G h w (.so u s) y v fp:=by
     rcases d with ⟨h1,_⟩|⟨xs,h1,h2⟩
     ·cases h1
     ·cases h1; exact h2
    obtain ⟨ν', φ',A,H⟩:=zzq (t := .so u s) (nid:=nid) M rfl d hn g;exact ⟨ν', φ',A,.inl ⟨rfl,_,rfl,H⟩⟩
 ·obtain ⟨v,U,f,h1⟩:∃v U f,zJa G t x nid=(v,U,f):=⟨_,_,_,rfl⟩;rw [h1] at e;refine ⟨_,_,_,e,zvU h1,fun j c => .inr (zPU h1 j c),fun L w ν h φ v fp M d hn g l _=>?_⟩;obtain ⟨ν', φ',A,H⟩:=zzq M h1 d hn g;exact ⟨ν', φ',A,.inl ⟨rfl,_,rfl,H⟩⟩
 ·cases e
theorem zPW {ρ:Type} {r:ρ}:∀(ts:List Ty) (rs:List (Option (Option Nat))) (p:DP τ ts) (nid:Nat) (n:List (XV τ)→Hp τ→Nat→Option ρ),resK G rs ts p nid n=some r→∃l U c,n l U c=some r∧nid≤c∧(∀j∈kys U,some (some j)∈rs∨nid≤j∧j<c) ∧
  ∀(L:Hp τ) (w:World) (ν:Vn τ) (h:Fz) (φ:Nat→List Nat) (vals:List Value) (fp:List Nat),Mem P G w0 h0 F L w ν h φ→TrXs P G h w ts p vals fp→(∀i,nid≤i→i<c→ν i=none)→zhP w0 h F φ fp→zmZ L ν rs vals →
   ∃ν' φ',Adds P G w0 h0 F L w ν h φ U nid c fp ν' φ'∧zGD P G h ν' l (outs rs vals):=by
 intro ts
 induction ts with
 | nil =>
  intro rs p nid n e;refine ⟨[],[],nid,?_,Nat.le_refl _,(fun j d=>by cases d),fun L w ν h φ vals fp M C hn s g=>?_⟩
  ·unfold resK hi at e; exact e
  ·cases C;refine ⟨ν, φ,(Grew.nil M _ _).adds,?_⟩
   cases rs with
   | nil=>rfl
   | cons a rs=>cases a<;>rfl
 | cons t ts X =>
  intro rs p nid n e
  cases rs with
  | nil=>cases e
  | cons a0 k =>
   unfold resK at e;obtain ⟨Z,Y,J,S,u,A,z⟩:=zPV (P:=P) (w0:=w0) (h0:=h0) (F:=F) e;obtain ⟨l,U,c,V,T,E,N⟩:=X k p.tl J _ S;refine ⟨_,_,c,V,by omega,fun j d=>?_,fun L w ν h φ vals fp M C hn s g=>?_⟩
   ·simp only [kys,List.map_append] at d
    rcases List.mem_append.1 d with d|d
    ·rcases A j d with h1|h1
     ·exact .inl (h1▸List.mem_cons_self ..)
     ·exact .inr (by omega)
    ·rcases E j d with h1|h1
     ·exact .inl (List.mem_cons_of_mem _ h1)
     ·exact .inr (by omega)
   ·cases C with
    | cons _ _ _ v vs f f' R t2 hd =>
     have B:zmZ L ν k vs:=by
      cases a0 with
      | none=>exact g
      | some I =>
       cases I with
       | none=>exact g.2
       | some i=>exact g.2.2.2
     obtain ⟨ν1, φ1,A1,H⟩:=N L w ν h φ vs f' M t2 (fun i a b=>hn i (by omega) b) (s.sub fun b o=>List.mem_append_right _ o) B
     have hν1:∀i,nid≤i→i<J→ν1 i=none:=by
      intro i a b
      cases e:ν1 i with
      | none=>rfl
      | some y =>
       have:=A1.fresh i (hn i a (by omega)) (by rw [e]; simp);omega
     obtain ⟨ν2, φ2,A2,O⟩:=z (U++L) w ν1 h φ1 v f A1.mem R hν1 (zhP.adds A1 (s.sub fun b o=>List.mem_append_left _ o) hd) (fun i m=>by
      subst m;obtain ⟨K,⟨q,D⟩,Q,_⟩:=g;refine ⟨?_,q,A1.le _ _ D⟩;rw [zda]
      ·exact K
      ·intro hi
       rcases E i hi with h1|h1
       ·exact Q h1
       ·rw [hn i (by omega) h1.2] at D; cases D) (fun m=>by subst m; exact g.1)
     refine ⟨ν2, φ2,Adds.seq A1 A2 u T,?_⟩
     rcases O with ⟨rfl,x,rfl,W⟩|⟨m,rfl⟩
     ·exact ⟨v,_,rfl,W,H.le (Fz.le.refl _) A2.le⟩
     ·cases a0 with
      | none=>exact (m rfl).elim
      | some I=>exact H.le (Fz.le.refl _) A2.le
theorem zPX {x:t.den τ} (a:zhH t=true) (b:Rp P G h t x v):Rp P G h' t x v:=by
 cases b<;>first|(cases a; done)|constructor
theorem zKm:∀{ts:List Ty} {q:DP τ ts} {vs:List Value},RpL P G h ts q vs→ts.all zhH=true→RpL P G h' ts q vs
 | _,_,_,.nil,_ => .nil
 | _,_,_,.cons t ts q v vs h1 h2,a=>by
  simp only [List.all_cons,Bool.and_eq_true] at a;exact .cons t ts q v vs (zPX a.1 h1) (zKm h2 a.2)
theorem zKn:∀{e:Ty} {xs:List (e.den τ)} {vs:List Value},RpR P G h e xs vs→(ets G e).all zhH=true→RpR P G h' e xs vs
 | _,_,_,.nil e,_ => .nil e
 | _,_,_,.cons e x xs vs b h1 h2,a => .cons e x xs vs b (zKm h1 a) (zKn h2 a)
theorem zzr {f:Ty→Bool} (b:∀t x v fp,f t=false→Tr P G h w t x v fp→Tr P G h' w t x v fp):∀{ts:List Ty} {q:DP τ ts} {vs:List Value} {fp:List Nat},TrL P G h w ts q vs fp→ts.any f=false→TrL P G h' w ts q vs fp
 | _,_,_,_,.nil,_ => .nil
 | _,_,_,_,.cons t ts q v vs d c h1 h2 hd,a=>by
  simp only [List.any_cons,Bool.or_eq_false_iff] at a;exact .cons t ts q v vs d c (b _ _ _ _ a.1 h1) (zzr b h2 a.2) hd
theorem zz8:∀(d:Nat) (t:Ty) (x:t.den τ) (v:Value) (fp:List Nat),zmS G d t=false→Tr P G h w t x v fp→Tr P G h' w t x v fp
 | 0,t,x,v,fp,a,_=>by cases a
 | d+1,t,x,v,fp,a,l=>by
  unfold zmS at a
  cases l with
  | fz _ _ _ c j =>
   refine .fz t x v c ?_
   cases j<;>first|(cases a; done)|(cases c; done)|(constructor; done)|exact .fn _ _ ‹_›
  | so m e xs _ vs k j =>
   refine .so m e xs v vs k (zKn j ?_);simpa using a
  | po n y b vs fp f i hn g=>exact .po n y b vs fp f (zzr (zz8 d) i a) hn g
  | pn0 n=>exact .pn0 n
  | pn1 n y _ _ hp =>
   refine .pn1 n y v fp ?_
   cases hp with
   | fz _ _ _ c _=>cases c
   | po _ _ b vs fp f i hn g=>exact .po n y b vs fp f (zzr (zz8 d) i a) hn g
theorem zPY {d:Nat} {x:t.den τ} (hs:zmS G (d+1) t=false) (ht:TrX P G h w t x v fp):TrX P G h' w t x v fp:=by
 cases t
 case st n =>
  obtain ⟨vs,rfl,hl⟩:=ht;unfold zmS at hs;exact ⟨vs,rfl,zzr (zz8 d) hl hs⟩
 case pr a b=>exact ht
 case sn te e =>
  rcases ht with h1|⟨xs,h1,h2⟩
  ·exact .inl h1
  ·exact .inr ⟨xs,h1,zz8 (d+1) (.so te e) _ _ _ hs h2⟩
 all_goals exact zz8 (d+1) _ _ _ _ hs ht
theorem zGE {d:Nat}:∀{ts:List Ty} {q:DP τ ts} {vs:List Value} {fp:List Nat},TrXs P G h w ts q vs fp→ts.any (zmS G (d+1))=false→TrXs P G h' w ts q vs fp
 | _,_,_,_,.nil,_ => .nil
 | _,_,_,_,.cons t ts q v vs c b h1 h2 hd,a=>by
  simp only [List.any_cons,Bool.or_eq_false_iff] at a;exact .cons t ts q v vs c b (zPY a.1 h1) (zGE h2 a.2) hd
theorem zz9 {rs:List (Option (Option Nat))} (c:∀a∈rs,a≠none):∀(n:Nat) (vs:List Value),outs (zAy n rs) vs=vs.take n
 | 0,vs=>by
  have:∀(rs:List (Option (Option Nat))) (vs:List Value),(∀a∈rs,a≠none)→outs rs vs=[]:=by
   intro rs
   induction rs with
   | nil=>intro vs _; rfl
   | cons a rs e =>
    intro vs h
    cases a with
    | none=>exact (h none (List.mem_cons_self ..) rfl).elim
    | some a =>
     cases vs with
     | nil=>rfl
     | cons v vs=>exact e vs fun b d=>h b (List.mem_cons_of_mem _ d)
  rw [List.take_zero]; exact this rs vs c
 | n+1,[]=>rfl
 | n+1,v::vs=>by
  show v::outs (zAy n rs) vs=_;rw [zz9 c n vs,List.take_succ_cons]
theorem zqy {avs:List (XV τ)}:∀{c:List Nat} {rs:List (Option (Option Nat))},roots avs c=some rs→∀a∈rs,a≠none
 | [],rs,e,a,b=>by cases e; cases b
 | j :: c,rs,e,a,b=>by
  unfold roots at e
  split at e
  ·rename_i d h1
   split at e
   ·split at e
    ·cases e
     rcases List.mem_cons.1 b with rfl|b
     ·simp
     ·exact zqy h1 a b
    ·cases e
     rcases List.mem_cons.1 b with rfl|b
     ·simp
     ·exact zqy h1 a b
    ·cases e
     rcases List.mem_cons.1 b with rfl|b
     ·simp
     ·exact zqy h1 a b
    ·cases e
   ·cases e
  ·cases e
theorem zvV {v:XV τ} {u:Value} (a:XOk P G h ν v u):∀{i:Nat} {c:CV τ},zOb v i=some c→zc9 P G h ν c (cellV u i)
 | 0,c,e=>by
  cases v with
  | c b=>have e:some b=some c:=e; cases e; exact a
  | _=>cases e
 | i+1,c,e=>by
  cases v with
  | g cs =>
   have e:ziw cs i=some c:=e;obtain ⟨vs,rfl,hc⟩:=a;rw [zgC] at e;obtain ⟨w,h1,h2⟩:=CVs.get (X:=⟨P,G,[],[],0,fun _ => .bool false⟩) hc e;show zc9 P G h ν c (vs.getD i undef);rw [List.getD_eq_getElem?_getD,h1]; exact h2
  | _=>cases e
theorem zAa:∀{rs:List (Option (Option Nat))} {i:Nat},some (some i)∈rs→i∈zwe rs
 | a::rs,i,h=>by
  rcases List.mem_cons.1 h with e|h
  ·subst e; exact List.mem_cons_self ..
  ·have:=zAa h
   cases a with
   | none=>exact this
   | some a =>
    cases a with
    | none=>exact this
    | some j=>exact List.mem_cons_of_mem _ this
theorem zvW {avs:List (XV τ)} {vs:List Value} (d:vs.length=avs.length) (c:∀(i:Nat) (A:XV τ) (v:Value),avs[i]? = some A→vs[i]? = some v→XOk P G h ν A v) :
  ∀{f:List Nat} {rs:List (Option (Option Nat))},roots avs f=some rs→nod (zwe rs)=true→(∀i∈zwe rs,lk L i = .gone)→zmZ L ν rs (f.map (bkV vs))
 | [],rs,e,_,_=>by cases e; trivial
 | j :: f,rs,e,hn,a=>by
  unfold roots at e
  split at e
  ·rename_i p h1
   split at e
   ·rename_i A m
    rw [zgC] at m
    have g:j%32<vs.length:=by rw [d]; exact (List.getElem?_eq_some_iff.1 m).1
    have n:vs[j%32]? = some (vs.getD (j%32) undef):=by rw [List.getD_eq_getElem?_getD,List.getElem?_eq_getElem g]; rfl
    have l:=c _ _ _ m n
    split at e
    ·rename_i id b
     cases e;simp only [zwe,nod,Bool.and_eq_true,Bool.not_eq_true'] at hn;obtain ⟨u,q,hν,k,_⟩:=zvV l b;refine ⟨a id (List.mem_cons_self ..),⟨q,?_⟩,fun o=>?_,zvW d c h1 hn.2 fun i hi=>a i (List.mem_cons_of_mem _ hi)⟩
     ·show ν id=some (bkV vs j,q);unfold bkV;rw [k,hν]; cases u<;>rfl
     ·rw [zeS.2 (zAa o)] at hn; cases hn.1
    ·rename_i id b
     cases e;simp only [zwe,nod,Bool.and_eq_true,Bool.not_eq_true'] at hn;obtain ⟨r,s,t,q,hν,k⟩:=zvV l b;refine ⟨a id (List.mem_cons_self ..),⟨q,?_⟩,fun o=>?_,zvW d c h1 hn.2 fun i hi=>a i (List.mem_cons_of_mem _ hi)⟩
     ·show ν id=some (bkV vs j,q);unfold bkV;rw [k,hν]
     ·rw [zeS.2 (zAa o)] at hn; cases hn.1
    ·rename_i b
     cases e;exact ⟨zvV l b,zvW d c h1 hn a⟩
    ·cases e
   ·cases e
  ·cases e
theorem zDe {rs:List (Option (Option Nat))}:∀{n:Nat} {vs:List Value},zmZ L ν rs (vs.drop n)→zmZ L ν (zAy n rs) vs
 | 0,vs,h=>by rw [List.drop_zero] at h; exact h
 | n+1,[],h=>trivial
 | n+1,v::vs,h=>zDe (n:=n) (vs:=vs) (by simpa using h)
theorem zKo {l:List (XV τ)} {v:XV τ} {vs:List Value} (e:zCB l=some v) (h1:zGD P G h ν l vs):XOk P G h ν v (zz5 vs):=by
 have f:∀{l:List (XV τ)} {ts:List (Bool × List (CV τ))} {vs:List Value},zCB.go l=some ts→zGD P G h ν l vs→TVs P G h ν ts vs:=by
  intro l
  induction l with
  | nil=>intro ts vs e h1; cases e; exact h1
  | cons x l i =>
   intro ts vs e h1;obtain ⟨v,us,rfl,h2,d⟩:=h1;unfold zCB.go at e
   split at e
   ·cases ‹_::_=[]›
   ·rename_i heq
    cases heq
    split at e
    ·rename_i n a
     cases e;exact ⟨v,us,rfl,h2,i a d⟩
    ·cases e
   ·rename_i heq
    cases heq
    split at e
    ·rename_i n a
     cases e;obtain ⟨j,rfl,k⟩:=h2;exact ⟨j,us,rfl,k,i a d⟩
    ·cases e
   ·cases e
 unfold zCB at e
 split at e
 ·cases e;obtain ⟨u,us,rfl,h2,d⟩:=h1;cases d;exact h2
 ·cases e; cases h1;exact ⟨[],rfl,rfl⟩
 ·rename_i c b
  split at e
  ·rename_i ts g
   cases e;have:=f g h1
   have o:zz5 vs = .tuple ⟨vs⟩:=by
    cases l with
    | nil=>exact (b rfl).elim
    | cons x l =>
     cases l with
     | nil=>exact (c _ rfl).elim
     | cons y l =>
      obtain ⟨v,us,rfl,_,p,m,rfl,_⟩:=h1;rfl
   rw [o];exact ⟨vs,rfl,this⟩
  ·cases e
theorem zpL (l:List Nat):kys (zou (τ:=τ) l)=l:=by
 induction l with
 | nil=>rfl
 | cons i l a=>exact congrArg (i :: ·) a
theorem zAb (l:List Nat) (Z:Hp τ) {i:Nat} (hi:i∈l):lk (zou l++Z) i = .gone:=by
 induction l with
 | nil=>cases hi
 | cons j l a =>
  by_cases e:i=j
  ·subst e; exact zbu ..
  ·have:lk (zou (j::l)++Z) i=lk (zou l++Z) i:=zdR _ _ e;rw [this];exact a ((List.mem_cons.1 hi).resolve_left e)
end
end Go.Rk
end
