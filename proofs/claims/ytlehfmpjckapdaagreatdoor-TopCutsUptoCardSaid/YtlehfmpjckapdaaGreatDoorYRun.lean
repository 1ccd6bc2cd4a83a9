/- What a walk by evaluation owns, and what it knows of memory. Over any program. Walks by evaluation: what a function's co -/
import Derived.Test.YtlehfmpjckapdaaGreatDoorYTy
set_option linter.unusedVariables false
set_option linter.unusedSimpArgs false
section
namespace Go.Rk
open Go.RowKit Go.Dm Go.Dk
variable {τ:Nat→Type}
variable {vs:List Value} {v:Value}
def frz:Ty→Bool
 | .so _ _=>false
 | .sn _ _=>false
 | .po _=>false
 | .pn _=>false
 | _=>true
def zhj (G:Sig τ) (w:World) (a sz:Nat) (v:Value) (n:Nat) (xs:List Value):Prop :=
 xs.length=n*sz∧((v = .slice none 0 0∧n=0)∨∃g d cap cur,v = .slice (some ⟨g,d*sz,none⟩) n cap∧(G.dr a=false→d=0∧cur.size=cap*sz)∧w.heap[g]? = some (.cells cur a (0,0))∧n≤cap∧cap≤maxLen∧(d+cap)*sz≤cur.size∧(cur.toList.drop (d*sz)).take (n*sz)=xs)
def MvOk (ts:List Ty) (vs:List Value):Prop:=∀(i:Nat) (f:Nat),ts[i]? = some (.mv f)→∃u,vs[0]? = some u∧vs[i]? = some (.func (.func f) #[u] #[])
section
variable (P:Program) (G:Sig τ) (h:Fz) (w:World)
mutual
inductive Tr:(t:Ty)→t.den τ→Value→List Nat→Prop
 | fz (t:Ty) (x:t.den τ) (v:Value) (hz:frz t=true) (hr:Rp P G h t x v):Tr t x v []
 | so (te:TypeId) (e:Ty) (xs:List (e.den τ)) (v:Value) (vs:List Value) (ho:zhj G w te (ets G e).length v xs.length vs) (hr:RpR P G h e xs vs):Tr (.so te e) xs v v.ownBlock.toList
 | po (n:Nat) (x:τ n) (b:Nat) (vs:List Value) (fp:List Nat) (hb:w.heap[b]? = some (.cells vs.toArray (G.ti n) (0,0))) (hl:TrL (G.fs n) (G.dtor n x) vs fp) (hn:b∉fp) (hm:MvOk (G.fs n) vs):Tr (.po n) x (ptr b 0) (b::fp)
 | pn0 (n:Nat):Tr (.pn n) none (.pointer none) []
 | pn1 (n:Nat) (x:τ n) (v:Value) (fp:List Nat) (hp:Tr (.po n) x v fp):Tr (.pn n) (some x) v fp
inductive TrL:(ts:List Ty)→DP τ ts→List Value→List Nat→Prop
 | nil:TrL [] () [] []
 | cons (t:Ty) (ts:List Ty) (p:DP τ (t::ts)) (v:Value) (vs:List Value) (f f':List Nat) (h1:Tr t p.hd v f) (h2:TrL ts p.tl vs f') (hd:∀b∈f,b∉f'):TrL (t::ts) p (v::vs) (f++f')
end
end
section
variable {P:Program} {G:Sig τ} {h h':Fz} {w w':World}
theorem zhj.of_row {b sz n:Nat} (h:w.ownsRow 0 b sz v n vs):zhj G w b sz v n vs:=by
 obtain ⟨h1,⟨rfl,h2⟩|⟨g,cap,cur,rfl,_,h2,e,d,a,c⟩⟩:=h
 ·exact ⟨h1,.inl ⟨rfl,h2⟩⟩
 ·exact ⟨h1,.inr ⟨g,0,cap,cur,by rw [Nat.zero_mul],fun _=>⟨rfl,a⟩,h2,e,d,by rw [Nat.zero_add,a]; exact Nat.le_refl _,by rw [Nat.zero_mul,List.drop_zero]; exact c⟩⟩
theorem zhj.row {a sz n:Nat} (h:zhj G w a sz v n vs) (hd:G.dr a=false):w.ownsRow 0 a sz v n vs:=by
 obtain ⟨h1,⟨rfl,h2⟩|⟨g,d,cap,cur,rfl,h0,h2,c,f,i,b⟩⟩:=h
 ·exact ⟨h1,.inl ⟨rfl,h2⟩⟩
 ·obtain ⟨rfl,e⟩:=h0 hd;rw [Nat.zero_mul,List.drop_zero] at b;exact ⟨h1,.inr ⟨g,cap,cur,by rw [Nat.zero_mul],Nat.zero_le _,h2,c,f,e,b⟩⟩
theorem zhj.lt {c n sz:Nat} (h:zhj G w c sz v n vs) {b:Nat} (a:v.ownBlock=some b):b<w.heap.size:=by
 obtain ⟨_,⟨rfl,_⟩|⟨g,d,cap,cur,rfl,_,h2,_⟩⟩:=h
 ·cases a
 ·obtain rfl:g=b:=by simpa [Value.ownBlock] using a
  exact (Array.getElem?_eq_some_iff.1 h2).1
theorem zhj.of {a n sz:Nat} (h:zhj G w a sz v n vs) (c:∀b,v.ownBlock=some b→w'.heap[b]? = w.heap[b]?):zhj G w' a sz v n vs:=by
 obtain ⟨h1,⟨rfl,h2⟩|⟨g,d,cap,cur,rfl,h0,h2,e⟩⟩:=h
 ·exact ⟨h1,.inl ⟨rfl,h2⟩⟩
 ·exact ⟨h1,.inr ⟨g,d,cap,cur,rfl,h0,(c g (by simp [Value.ownBlock])).trans h2,e⟩⟩
theorem zhj.nil (a sz:Nat):zhj G w a sz (.slice none 0 0) 0 []:=⟨by simp,.inl ⟨rfl,rfl⟩⟩
theorem zhj.sees {l n sz c:Nat} {a:Option Addr} {xs:List Value} (h:zhj G w l sz (.slice a n c) n xs):zvU w a xs:=by
 obtain ⟨h1,h|⟨g,d,cap,cur,b,_,e,_,_,m,j⟩⟩:=h
 ·obtain ⟨f,k⟩:=h;simp at f;obtain ⟨rfl,_,_⟩:=f;subst k;simpa [zvU] using h1
 ·simp at b;obtain ⟨rfl,rfl⟩:=b;refine ⟨rfl,(Array.getElem?_eq_some_iff.1 e).1,fun i v b=>?_⟩;simp only [World.cell?,e];rw [← j,List.getElem?_take] at b
  split at b
  ·rw [List.getElem?_drop] at b; simpa using b
  ·cases b
theorem zhj.len {b n m sz c:Nat} {a:Option Addr} {xs:List Value} (h:zhj G w b sz (.slice a n c) m xs):n=m∧n≤c:=by
 obtain ⟨_,⟨e,f⟩|⟨g,d,cap,cur,e,_,_,hc,_⟩⟩:=h
 ·cases e; exact ⟨f.symm,Nat.le_refl _⟩
 ·cases e; exact ⟨rfl,hc⟩
theorem zOB {e n sz:Nat} (h:zhj G w e sz v n vs) {b:Nat} (a:b∈v.ownBlock.toList):b<w.heap.size:=h.lt (by simpa using a)
mutual
theorem Tr.of (d:h.le h'):∀{t:Ty} {x:t.den τ} {v:Value} {fp:List Nat},Tr P G h w t x v fp→(∀b∈fp,w'.heap[b]? = w.heap[b]?)→Tr P G h' w' t x v fp
 | _,_,_,_,.fz t x v k f,_ => .fz t x v k (f.le d)
 | _,_,_,_,.so g e xs v vs j f,a => .so g e xs v vs (j.of fun b e=>a b (by simp [e])) (f.le d)
 | _,_,_,_,.po n x b vs fp h1 h2 hn i,a => .po n x b vs fp ((a b (List.mem_cons_self ..)).trans h1) (h2.of d fun c hc=>a c (List.mem_cons_of_mem _ hc)) hn i
 | _,_,_,_,.pn0 n,_ => .pn0 n
 | _,_,_,_,.pn1 n x v fp hp,a => .pn1 n x v fp (hp.of d a)
theorem TrL.of (d:h.le h'):∀{ts:List Ty} {p:DP τ ts} {vs:List Value} {fp:List Nat},TrL P G h w ts p vs fp→(∀b∈fp,w'.heap[b]? = w.heap[b]?)→TrL P G h' w' ts p vs fp
 | _,_,_,_,.nil,_ => .nil
 | _,_,_,_,.cons t ts p v vs f f' h1 h2 hd,c => .cons t ts p v vs f f' (h1.of d fun b a=>c b (List.mem_append_left _ a)) (h2.of d fun b a=>c b (List.mem_append_right _ a)) hd
end
mutual
theorem Tr.lt:∀{t:Ty} {x:t.den τ} {v:Value} {fp:List Nat},Tr P G h w t x v fp→∀b∈fp,b<w.heap.size
 | _,_,_,_,.fz t x v i f,b,a=>by cases a
 | _,_,_,_,.so g e xs v vs d f,b,a=>zOB d a
 | _,_,_,_,.po n x c vs fp h1 h2 hn _,b,a=>by
  rcases List.mem_cons.1 a with rfl|a
  ·exact (Array.getElem?_eq_some_iff.1 h1).1
  ·exact h2.lt b a
 | _,_,_,_,.pn0 n,b,a=>by cases a
 | _,_,_,_,.pn1 n x v fp hp,b,a=>hp.lt b a
theorem TrL.lt:∀{ts:List Ty} {p:DP τ ts} {vs:List Value} {fp:List Nat},TrL P G h w ts p vs fp→∀b∈fp,b<w.heap.size
 | _,_,_,_,.nil,b,a=>by cases a
 | _,_,_,_,.cons t ts p v vs f f' h1 h2 hd,b,a=>by
  rcases List.mem_append.1 a with a|a
  ·exact h1.lt b a
  ·exact h2.lt b a
end
end
abbrev Vn (τ:Nat→Type):=Nat→Option (Value × Option ((e:Ty) × List (e.den τ)))
def Vn.le (ν ν':Vn τ):Prop:=∀i x, ν i=some x→ν' i=some x
def zvn (v:Value) (o:Nat):Value:=match v with
 | .pointer (some a) => .pointer (some ⟨a.block,a.off+o,a.spot⟩)
 | v=>v
section
variable (P:Program) (G:Sig τ) (h:Fz) (ν:Vn τ)
def zdg:CV τ→Value→Prop
 | .b x,v=>v = .bool x
 | .k x,v=>v = .bool x
 | .i x,v=>v = .int .i64 x
 | .u8 x,v=>v = .int .u8 x.toNat
 | .u16 x,v=>v = .int .u16 x.toNat
 | .s x,v=>v=str x
 | .sl e xs,v=>Rp P G h (.sl e) xs v
 | .n0,v=>v = .slice none 0 0
 | .nl,v=>v = .pointer none
 | .os i,v=>∃a n c q, ν i=some (.slice a n c,q)∧v = .slice a n c
 | .pt i o,v=>∃u q, ν i=some (.pointer u,q)∧v=zvn (.pointer u) o∧(o≠0→∃b,u=some ⟨b,0,none⟩)
 | .ea t z o,v=>∃b k vs,v=ptr b (k+o)∧zqs h (some ⟨b,k,none⟩) vs∧RpL P G h (ets G t) (edt G t z) vs
 | .ep n x,v=>Rp P G h (.pn n) x v
 | .oe i k m t z o,v=>∃b d n c q xs u, ν i=some (.slice (some ⟨b,d,none⟩) n c,q)∧ν k=some (u,some ⟨t,xs⟩)∧lAt xs m=some z∧v=ptr b (d+m.toNat*(ets G t).length+o)
 | .fn f,v=>v = .func (.func f) #[] #[]
 | .fm m,v=>Rp P G h .fn m v
 | .cl f t x,v=>Rp P G h (.cl f t) x v
 | .cf i,v=>∃f us vs q, ν i=some (.func (.func f) ⟨us⟩ ⟨vs⟩,q)∧v = .func (.func f) ⟨us⟩ ⟨vs⟩
 | .nf,v=>v = .nilFunc
 | .mf f,v=>Rp P G h (.mv f) () v
 | .mv f i,v=>∃u q, ν i=some (.pointer u,q)∧v = .func (.func f) #[.pointer u] #[]
 | .mp i,v=>∃b q, ν i=some (.map (some b),q)∧v = .map (some b)
 | .m0,v=>v = .map none
 | .bad,_=>False
def CVs:List (CV τ)→List Value→Prop
 | [],vs=>vs=[]
 | c::cs,vs=>∃v us,vs=v::us∧zdg P G h ν c v∧CVs cs us
def TVs:List (Bool × List (CV τ))→List Value→Prop
 | [],vs=>vs=[]
 | (false,[c])::cs,vs=>∃v us,vs=v::us∧zdg P G h ν c v∧TVs cs us
 | (true,l)::cs,vs=>∃a us,vs = .agg ⟨a⟩::us∧CVs P G h ν l a∧TVs cs us
 | _,_=>False
def XOk:XV τ→Value→Prop
 | .c c,v=>zdg P G h ν c v
 | .g l,v=>∃vs,v = .agg ⟨vs⟩∧CVs P G h ν l vs
 | .t l,v=>∃vs,v = .tuple ⟨vs⟩∧TVs P G h ν l vs
 | .un,v=>v=undef
 | .gv _ _,_=>True
def znb (w:World):AR τ→Option (Value × Option ((e:Ty) × List (e.den τ)))→List Nat→Prop
 | .gone,_,fp=>fp=[]
 | .blk t cs,x,fp=>∃b q vs,x=some (ptr b 0,q)∧fp=[b]∧w.heap[b]? = some (.cells vs.toArray t (0,0))∧CVs P G h ν cs vs
 | .row m e xs k,x,fp=>∃v q vs u,x=some (v,q)∧fp=v.ownBlock.toList∧zhj G w m (ets G e).length v xs.length vs∧RpR P G h e xs vs∧ν k=some (u,some ⟨e,xs⟩)
 | .fz e xs,x,fp=>∃v q,x=some (v,q)∧fp=[]∧Rp P G h (.sl e) xs v
 | .tree n t,x,fp=>∃v q,x=some (v,q)∧Tr P G h w (.pn n) t v fp
 | .nilp,x,fp=>∃q,x=some (.pointer none,q)∧fp=[]
 | .clo f bs cs,x,fp=>∃us vs q,x=some (.func (.func f) ⟨us⟩ ⟨vs⟩,q)∧fp=[]∧CVs P G h ν bs us∧CVs P G h ν cs vs
 | .mp l,x,fp=>∃b q,x=some (.map (some b),q)∧fp=[b]∧w.heap[b]? = some (zsy l)
 | .sb i n,x,fp=>∃b q d, ν i=some (ptr b 0,d)∧x=some (.slice (some ⟨b,0,none⟩) n n,q)∧fp=[]
 | .vw i k e lo xs,x,fp=>∃a n c q d u ys g j, ν i=some (.slice a n c,q)∧ν k=some (u,some ⟨e,ys⟩)∧lo+xs.length≤ys.length∧xs=(ys.take (lo+xs.length)).drop lo∧x=some (.slice g xs.length j,d)∧xs.length≤j∧((xs≠[]→g=a.map (·.add (lo*(ets G e).length)))∧(lo≤c∧j+lo=c∧g=if c=lo then a else a.map (·.add (lo*(ets G e).length))))∧fp=[]
end
section
variable {P:Program} {G:Sig τ} {h h':Fz} {ν ν':Vn τ} {w w':World}
theorem zdg.le (g:h.le h') (hν:ν.le ν'):∀{c:CV τ} {v:Value},zdg P G h ν c v→zdg P G h' ν' c v
 | .b _,_,e=>e
 | .k _,_,e=>e
 | .i _,_,e=>e
 | .u8 _,_,e=>e
 | .u16 _,_,e=>e
 | .s _,_,e=>e
 | .sl _ _,_,e=>Rp.le g e
 | .n0,_,e=>e
 | .nl,_,e=>e
 | .os _,_,⟨a,n,c,q,e,r⟩=>⟨a,n,c,q,hν _ _ e,r⟩
 | .pt _ _,_,⟨u,q,e,r⟩=>⟨u,q,hν _ _ e,r⟩
 | .ea _ _ _,_,⟨b,k,vs,e,j,l⟩=>⟨b,k,vs,e,j.le g,l.le g⟩
 | .ep _ _,_,e=>Rp.le g e
 | .oe _ _ _ _ _ _,_,⟨b,d,n,c,q,xs,u,h1,h2,r⟩=>⟨b,d,n,c,q,xs,u,hν _ _ h1,hν _ _ h2,r⟩
 | .fn _,_,e=>e
 | .fm _,_,e=>Rp.le g e
 | .cl _ _ _,_,e=>Rp.le g e
 | .cf _,_,⟨f,us,vs,q,e,r⟩=>⟨f,us,vs,q,hν _ _ e,r⟩
 | .nf,_,e=>e
 | .mf _,_,e=>Rp.le g e
 | .mv _ _,_,⟨u,q,e,r⟩=>⟨u,q,hν _ _ e,r⟩
 | .mp _,_,⟨b,q,e,r⟩=>⟨b,q,hν _ _ e,r⟩
 | .m0,_,e=>e
 | .bad,_,e=>e.elim
theorem CVs.le (a:h.le h') (hν:ν.le ν'):∀{cs:List (CV τ)} {vs:List Value},CVs P G h ν cs vs→CVs P G h' ν' cs vs
 | [],_,e=>e
 | _::_,_,⟨v,us,e,h1,h2⟩=>⟨v,us,e,h1.le a hν,h2.le a hν⟩
theorem TVs.le (a:h.le h') (hν:ν.le ν'):∀{cs:List (Bool × List (CV τ))} {vs:List Value},TVs P G h ν cs vs→TVs P G h' ν' cs vs
 | [],_,e=>e
 | (false,[_])::_,_,⟨v,us,e,h1,h2⟩=>⟨v,us,e,h1.le a hν,TVs.le a hν h2⟩
 | (true,_)::_,_,⟨v,us,e,h1,h2⟩=>⟨v,us,e,h1.le a hν,TVs.le a hν h2⟩
 | (false,[])::_,_,e=>e.elim
 | (false,_::_::_)::_,_,e=>e.elim
theorem XOk.le (a:h.le h') (hν:ν.le ν'):∀{x:XV τ} {v:Value},XOk P G h ν x v→XOk P G h' ν' x v
 | .c _,_,e=>zdg.le a hν e
 | .g _,_,⟨vs,e,r⟩=>⟨vs,e,r.le a hν⟩
 | .t _,_,⟨vs,e,r⟩=>⟨vs,e,r.le a hν⟩
 | .un,_,e=>e
 | .gv _ _,_,_=>trivial
theorem znb.of (f:h.le h') (hν:ν.le ν'):∀{r:AR τ} {i:Nat} {fp:List Nat},znb P G h ν w r (ν i) fp→(∀b∈fp,w'.heap[b]? = w.heap[b]?)→znb P G h' ν' w' r (ν' i) fp
 | .gone,_,_,e,_=>e
 | .blk _ _,_,_,⟨b,q,vs,e,rfl,h1,h2⟩,d=>⟨b,q,vs,hν _ _ e,rfl,(d b (List.mem_singleton.2 rfl)).trans h1,h2.le f hν⟩
 | .row _ _ _ _,_,_,⟨v,q,vs,u,e,rfl,h1,h2,j⟩,d=>⟨v,q,vs,u,hν _ _ e,rfl,h1.of fun b e=>d b (by simp [e]),h2.le f,hν _ _ j⟩
 | .fz _ _,_,_,⟨v,q,e,rfl,h1⟩,_=>⟨v,q,hν _ _ e,rfl,h1.le f⟩
 | .tree _ _,_,_,⟨v,q,e,h1⟩,d=>⟨v,q,hν _ _ e,h1.of f d⟩
 | .nilp,_,_,⟨q,e,rfl⟩,_=>⟨q,hν _ _ e,rfl⟩
 | .clo _ _ _,_,_,⟨us,vs,q,e,rfl,h1,h2⟩,_=>⟨us,vs,q,hν _ _ e,rfl,h1.le f hν,h2.le f hν⟩
 | .mp _,_,_,⟨b,q,e,rfl,h1⟩,d=>⟨b,q,hν _ _ e,rfl,(d b (List.mem_singleton.2 rfl)).trans h1⟩
 | .sb _ _,_,_,⟨b,q,g,h1,h2,rfl⟩,_=>⟨b,q,g,hν _ _ h1,hν _ _ h2,rfl⟩
 | .vw _ _ _ _ _,_,_,⟨a,n,c,q,g,u,ys,m,s,h1,h2,j,p,k,l,o,rfl⟩,_=>⟨a,n,c,q,g,u,ys,m,s,hν _ _ h1,hν _ _ h2,j,p,hν _ _ k,l,o,rfl⟩
theorem znb.lt:∀{r:AR τ} {x:Option (Value × Option ((e:Ty) × List (e.den τ)))} {fp:List Nat},znb P G h ν w r x fp→∀b∈fp,b<w.heap.size
 | .gone,_,_,e,b,a=>by subst e; cases a
 | .blk _ _,_,_,⟨b,q,vs,e,rfl,h1,h2⟩,c,hc=>by cases List.mem_singleton.1 hc; exact (Array.getElem?_eq_some_iff.1 h1).1
 | .row _ _ _ _,_,_,⟨v,q,vs,u,e,rfl,h1,h2,d⟩,c,hc=>zOB h1 hc
 | .fz _ _,_,_,⟨v,q,e,rfl,h1⟩,c,hc=>by cases hc
 | .tree _ _,_,_,⟨v,q,e,h1⟩,c,hc=>h1.lt c hc
 | .nilp,_,_,⟨q,e,rfl⟩,c,hc=>by cases hc
 | .mp _,_,_,⟨b,q,e,rfl,h1⟩,c,hc=>by cases List.mem_singleton.1 hc; exact (Array.getElem?_eq_some_iff.1 h1).1
end
abbrev Hp (τ:Nat→Type):=List (Nat × AR τ)
noncomputable def lk (L:Hp τ) (t:Nat):AR τ:=List.rec (motive:=fun _=>AR τ) .gone (fun p _ a=>Prod.rec (motive:=fun _=>AR τ) (fun k v=>Bool.rec (motive:=fun _=>AR τ) a v (Nat.beq k t)) p) L
theorem zvo (t:Nat):lk ([]:Hp τ) t = .gone:=rfl
theorem znK (k:Nat) (v:AR τ) (L:Hp τ) (t:Nat):lk ((k,v)::L) t=bif Nat.beq k t then v else lk L t:=by
 show Bool.rec (motive:=fun _=>AR τ) (lk L t) v (Nat.beq k t)=_;cases Nat.beq k t<;>rfl
def kys (U:Hp τ):List Nat:=U.map (·.1)
theorem zhs:∀{U:Hp τ} (L:Hp τ) {i:Nat},i∈kys U→lk (U++L) i=lk U i
 | [],_,i,hi=>by cases hi
 | (k,v)::U,L,i,hi=>by
  simp only [List.cons_append,zvo,znK]
  by_cases e:Nat.beq k i=true
  ·simp [e]
  ·have a:¬ k=i:=fun b=>e (by simp [b]);simp only [Bool.not_eq_true] at e;rw [e]
   exact zhs L (by
    rcases List.mem_cons.1 hi with h|h
    ·exact absurd h.symm a
    ·exact h)
theorem zdh:∀{U:Hp τ} (L:Hp τ) {i:Nat},i∉kys U→lk (U++L) i=lk L i
 | [],_,i,_=>rfl
 | (k,v)::U,L,i,hi=>by
  have h1:¬ k=i:=fun e=>hi (by simp [kys,e]);have h2:i∉kys U:=fun e=>hi (List.mem_cons_of_mem _ e);have e:Nat.beq k i=false:=zcL.2 h1;simp only [List.cons_append,zvo,znK,e,cond_false];exact zdh L h2
def zth (P:Program) (G:Sig τ) (h:Fz):Prop:=(∀p∈G.gl, ∃vs,zqs h (some ⟨p.1,0,none⟩) vs∧RpL P G h (ets G p.2.1) (edt G p.2.1 p.2.2) vs)∧G.ax h
theorem zth.le {P:Program} {G:Sig τ} {h h':Fz} (c:h.le h') (g:zth P G h):zth P G h':=⟨fun p hp=>let ⟨vs,a,b⟩:=g.1 p hp; ⟨vs,a.le c,b.le c⟩,G.axm c g.2⟩
def zFx (P:Program) (G:Sig τ):Prop:=∀p∈G.fp,zJt P p.2 p.1
structure Mem (P:Program) (G:Sig τ) (w0:World) (h0:Fz) (F:List Nat) (L:Hp τ) (w:World) (ν:Vn τ) (h:Fz) (φ:Nat→List Nat):Prop where
 os:w.os=w0.os
 tape:w.tape=w0.tape
 output:w.output=w0.output
 size:w0.heap.size≤w.heap.size
 frame:∀b,b<w0.heap.size→b∉F→w.heap[b]? = w0.heap[b]?
 le:h0.le h
 on:h.on w
 new:∀b,h b≠none→h0 b≠none∨b∈F∨w0.heap.size≤b
 res:∀i,znb P G h ν w (lk L i) (ν i) (φ i)
 dis:∀i j b,b∈φ i→b∈φ j→i=j
 out:∀i b,b∈φ i→h b=none∧(b∈F∨w0.heap.size≤b)
 gl:zth P G h
 fp:zFx P G
def fps (φ:Nat→List Nat) (I:List Nat):List Nat:=I.flatMap φ
theorem zeZ {φ:Nat→List Nat} {I:List Nat} {b:Nat}:b∈fps φ I↔∃i∈I,b∈φ i:=by simp [fps]
section
variable {P:Program} {G:Sig τ} {w0 w w':World} {h0 h h':Fz} {F:List Nat} {L L':Hp τ} {ν ν':Vn τ} {φ φ':Nat→List Nat}
theorem Mem.lt (M:Mem P G w0 h0 F L w ν h φ) {i b:Nat} (a:b∈φ i):b<w.heap.size:=(M.res i).lt b a
theorem Mem.in_lt (M:Mem P G w0 h0 F L w ν h φ) {b:Nat} (a:h b≠none):b<w.heap.size:=by
 cases e:h b with
 | none=>exact absurd e a
 | some o=>exact (Array.getElem?_eq_some_iff.1 (M.on b o e)).1
theorem Mem.upd (M:Mem P G w0 h0 F L w ν h φ) (I:List Nat) (A:∀i,i∉I→lk L' i=lk L i) (hφ:∀i,i∉I→φ' i=φ i) (hν:ν.le ν') (t:h.le h')
  (u:w'.os=w.os) (m:w'.tape=w.tape) (r:w'.output=w.output) (v:w.heap.size≤w'.heap.size) (d:∀b,b<w.heap.size→b∉fps φ I→w'.heap[b]? = w.heap[b]?)
  (z:∀b o,h b=none→h' b=some o→w'.heap[b]? = some o) (k:∀b,h b=none→h' b≠none→b∈fps φ I∨w.heap.size≤b)
  (s:∀i∈I,znb P G h' ν' w' (lk L' i) (ν' i) (φ' i)) (n:∀i∈I, ∀b∈φ' i,h' b=none∧(b∈fps φ I∨w.heap.size≤b))
  (q:∀i∈I, ∀j∈I, ∀b,b∈φ' i→b∈φ' j→i=j):Mem P G w0 h0 F L' w' ν' h' φ':=by
 have y:∀b,b∈fps φ I∨w.heap.size≤b→b∈F∨w0.heap.size≤b:=by
  intro b a
  rcases a with a|a
  ·obtain ⟨j,_,c⟩:=zeZ.1 a;exact (M.out j b c).2
  ·exact .inr (Nat.le_trans M.size a)
 have p:∀i,i∉I→∀b∈φ i,b∉fps φ I:=by
  intro i hi b a hc;obtain ⟨j,c,x⟩:=zeZ.1 hc;exact hi (M.dis i j b a x▸c)
 have f:∀i,i∉I→∀j∈I, ∀b,b∈φ' i→b∈φ' j→False:=by
  intro i hi j c b h1 h2;rw [hφ i hi] at h1
  rcases (n j c b h2).2 with g|g
  ·exact p i hi b h1 g
  ·have:=M.lt h1;omega
 refine ⟨u.trans M.os,m.trans M.tape,r.trans M.output,Nat.le_trans M.size v,?_,fun b o e=>t _ _ (M.le _ _ e),?_,?_,?_,?_,?_,M.gl.le t,M.fp⟩
 ·intro b h1 h2;refine (d b (Nat.lt_of_lt_of_le h1 M.size) fun hc=>?_).trans (M.frame b h1 h2)
  rcases y b (.inl hc) with g|g
  ·exact h2 g
  ·omega
 ·intro b o e
  cases l:h b with
  | none=>exact z b o l e
  | some o' =>
   have:=t _ _ l;rw [e] at this;cases this;refine (d b (M.in_lt (by rw [l]; simp)) fun hc=>?_).trans (M.on _ _ l);obtain ⟨j,_,c⟩:=zeZ.1 hc;have:=(M.out j b c).1;rw [l] at this;cases this
 ·intro b a
  cases l:h b with
  | some o'=>exact M.new b (by rw [l]; simp)
  | none=>exact .inr (y b (k b l a))
 ·intro i
  by_cases hi:i∈I
  ·exact s i hi
  ·rw [A i hi,hφ i hi];exact (M.res i).of t hν fun b a=>d b (M.lt a) (p i hi b a)
 ·intro i j b h1 h2
  by_cases hi:i∈I
  ·by_cases c:j∈I
   ·exact q i hi j c b h1 h2
   ·exact (f j c i hi b h2 h1).elim
  ·by_cases c:j∈I
   ·exact (f i hi j c b h1 h2).elim
   ·rw [hφ i hi] at h1;rw [hφ j c] at h2;exact M.dis i j b h1 h2
 ·intro i b a
  by_cases hi:i∈I
  ·exact ⟨(n i hi b a).1,y b (n i hi b a).2⟩
  ·rw [hφ i hi] at a;refine ⟨?_,(M.out i b a).2⟩
   cases e:h' b with
   | none=>rfl
   | some o =>
    exfalso
    rcases k b (M.out i b a).1 (by rw [e]; simp) with g|g
    ·exact p i hi b a g
    ·have:=M.lt a;omega
end
end Go.Rk
end
section
namespace Go.Rk
open Go.RowKit Go.Dm Go.Dk
def y0:Unit:=()
def y1:=y0
def y2:=y1
def y3:=y2
def y4:=y3
def y5:=y4
def y6:=y5
def y7:=y6
def y8:=y7
def y9:=y8
def y10:=y9
def y11:=y10
def y12:=y11
def y13:=y12
def y14:=y13
def y15:=y14
def y16:=y15
def y17:=y16
def y18:=y17
def y19:=y18
def y20:=y19
def y21:=y20
def y22:=y21
def y23:=y22
def y24:=y23
def y25:=y24
def y26:=y25
def y27:=y26
def y28:=y27
def y29:=y28
def y30:=y29
def y31:=y30
def y32:=y31
def y33:=y32
def y34:=y33
def y35:=y34
def y36:=y35
def y37:=y36
def y38:=y37
def y39:=y38
def y40:=y39
def y41:=y40
def y42:=y41
def y43:=y42
def y44:=y43
def y45:=y44
def y46:=y45
def y47:=y46
def y48:=y47
def y49:=y48
def y50:=y49
def y51:=y50
def y52:=y51
def y53:=y52
def y54:=y53
def y55:=y54
def y56:=y55
def y57:=y56
def y58:=y57
def y59:=y58
def y60:=y59
def y61:=y60
def y62:=y61
def y63:=y62
def y64:=y63
def y65:=y64
def y66:=y65
def y67:=y66
def y68:=y67
def y69:=y68
def y70:=y69
def y71:=y70
def y72:=y71
def y73:=y72
def y74:=y73
def y75:=y74
def y76:=y75
def y77:=y76
def y78:=y77
def y79:=y78
def y80:=y79
def y81:=y80
def y82:=y81
def y83:=y82
def y84:=y83
def y85:=y84
def y86:=y85
def y87:=y86
def y88:=y87
def y89:=y88
def y90:=y89
def y91:=y90
def y92:=y91
def y93:=y92
def y94:=y93
def y95:=y94
def y96:=y95
def y97:=y96
def y98:=y97
def y99:=y98
def y100:=y99
def y101:=y100
def y102:=y101
def y103:=y102
def y104:=y103
def y105:=y104
def y106:=y105
def y107:=y106
def y108:=y107
def y109:=y108
def y110:=y109
def y111:=y110
def y112:=y111
def y113:=y112
def y114:=y113
def y115:=y114
def y116:=y115
def y117:=y116
def y118:=y117
def y119:=y118
def y120:=y119
def y121:=y120
def y122:=y121
def y123:=y122
def y124:=y123
def y125:=y124
def y126:=y125
def y127:=y126
def y128:=y127
def y129:=y128
def y130:=y129
def y131:=y130
def y132:=y131
def y133:=y132
def y134:=y133
def y135:=y134
def y136:=y135
def y137:=y136
def y138:=y137
def y139:=y138
def y140:=y139
def y141:=y140
def y142:=y141
def y143:=y142
def y144:=y143
def y145:=y144
def y146:=y145
def y147:=y146
def y148:=y147
def y149:=y148
def y150:=y149
abbrev bc {α:Sort _} (b:Bool) (x y:α):α:=match b with|true=>x|false=>y
def hi {α:Sort _} (x:α):α:=(fun _=>x) y150
structure Con (τ:Nat→Type) where
 ps:List Ty
 rs:List Ty
 nr:Nat
 bk:List Nat
 m:DP τ ps→Option (DP τ rs)
abbrev zy7 (τ:Nat→Type):=List (FuncId × Con τ)
structure Cx (τ:Nat→Type) where
 P:Program
 G:Sig τ
 ty:List (TypeId × Ty)
 cs:zy7 τ
 n:Nat
 fx:Nat→Value
def Cx.w {τ:Nat→Type} (X:Cx τ) (fx:Nat→Value):Cx τ:=⟨X.P,X.G,X.ty,X.cs,X.n,fx⟩
variable {τ:Nat→Type} {ρ:Type}
abbrev zad (τ:Nat→Type):=List (Nat × XV τ)
noncomputable section
def asc {α:Type} (l:List (Nat × α)) (t:Nat):Option α:=List.rec (motive:=fun _=>Option α) none (fun p _ a=>Prod.rec (motive:=fun _=>Option α) (fun k v=>Bool.rec (motive:=fun _=>Option α) a (some v) (Nat.beq k t)) p) l
theorem zdO {α:Type} (t:Nat):asc ([]:List (Nat × α)) t=none:=rfl
theorem zcp {α:Type} (k:Nat) (v:α) (l:List (Nat × α)) (t:Nat):asc ((k,v)::l) t=bif Nat.beq k t then some v else asc l t:=by
 show Bool.rec (motive:=fun _=>Option α) (asc l t) (some v) (Nat.beq k t)=_;cases Nat.beq k t<;>rfl
def anyR {α:Type} (l:List α) (f:α→Bool):Bool:=List.rec (motive:=fun _=>Bool) false (fun x _ a=>Bool.rec (motive:=fun _=>Bool) a true (f x)) l
theorem zKy {α:Type} (l:List α) (f:α→Bool):anyR l f=l.any f:=by
 induction l with
 | nil=>rfl
 | cons x l a =>
  show Bool.rec (motive:=fun _=>Bool) (anyR l f) true (f x)=(f x||l.any f);rw [a];cases f x<;>rfl
def zCL {α:Type} (l:List α) (f:α→Bool):Bool:=List.rec (motive:=fun _=>Bool) true (fun x _ a=>Bool.rec (motive:=fun _=>Bool) false a (f x)) l
theorem zzl {α:Type} (l:List α) (f:α→Bool):zCL l f=l.all f:=by
 induction l with
 | nil=>rfl
 | cons x l a =>
  show Bool.rec (motive:=fun _=>Bool) false (zCL l f) (f x)=(f x&&l.all f);rw [a];cases f x<;>rfl
def mem (l:List Nat) (i:Nat):Bool:=List.rec (motive:=fun _=>Bool) false (fun x _ a=>Bool.rec (motive:=fun _=>Bool) a true (Nat.beq i x)) l
theorem ztR (l:List Nat) (i:Nat):mem l i=l.any (Nat.beq i):=zKy l (Nat.beq i)
theorem mem_cons (l:List Nat) (i j:Nat):mem (j::l) i=(Nat.beq i j||mem l i):=by rw [ztR,ztR]; rfl
def nod:List Nat→Bool
 | []=>true
 | i::l => !mem l i&&nod l
def zy8 (l m:List Nat):Bool:=zCL l fun i => !mem m i
theorem zBd (l m:List Nat):zy8 l m=l.all fun i => !mem m i:=zzl _ _
def cvV:Value→Option (CV τ)
 | .bool b=>some (.k b)
 | .int .i64 n=>some (.i n)
 | .int .u8 (.ofNat n)=>bif Nat.blt n 256 then some (.u8 (UInt8.ofNat n)) else none
 | .int .u16 (.ofNat n)=>bif Nat.blt n 65536 then some (.u16 (UInt16.ofNat n)) else none
 | .string ⟨⟨l⟩⟩=>some (.s l)
 | .slice none 0 0=>some .n0
 | .pointer none=>some .nl
 | .nilFunc=>some .nf
 | .map none=>some .m0
 | _=>none
def cvVs:List Value→Option (List (CV τ))
 | []=>some []
 | v::vs=>match cvV v with
  | some c=>match cvVs vs with
   | some cs=>some (c::cs)
   | none=>none
  | none=>none
def gh:Nat:=9000
def gb:Nat:=40000
def glE (l:List (Nat × (t:Ty) × t.den τ)):zad τ:=l.map fun p=>(gb+p.1,.c (.ea p.2.1 p.2.2 0))
def evX (E:zad τ):Operand→Option (XV τ)
 | .tmp t=>bif Nat.blt t gh then asc E t else none
 | .const v=>match cvV v with
  | some c=>some (.c c)
  | none=>none
 | .func f=>some (.c (.fn f))
 | .global g=>asc E (gb+g)
def evC (E:zad τ) (x:Operand):Option (CV τ):=match evX E x with
 | some (.c c)=>some c
 | _=>none
def zOK:CV τ→Option Bool
 | .b x=>some x
 | .k x=>some x
 | _=>none
def zvp (E:zad τ):List Operand→Option (List (XV τ))
 | []=>some []
 | x::xs=>match evX E x with
  | some v=>match zvp E xs with
   | some vs=>some (v::vs)
   | none=>none
  | none=>none
def ziW {α:Type}:List α→Nat→Option α
 | [],_=>none
 | x::_,0=>some x
 | _::l,n+1=>ziW l n
def cutL {α:Type} (l:List α):Nat→Nat→Option (List α)
 | _,0=>some []
 | o,n+1=>match ziW l o with
  | some v=>match cutL l (o+1) n with
   | some r=>some (v::r)
   | none=>none
  | none=>none
abbrev Rs (α:Type):=Option (α × List Nat × List Nat)
def zJx (f:(t:Ty)→CV τ→Rs (t.den τ)):(ts:List Ty)→List (CV τ)→Rs (DP τ ts)
 | [],[]=>some ((),[],[])
 | t::ts,c::cs=>match f t c with
  | some (x,l,m)=>match zJx f ts cs with
   | some (p,a,b)=>some (.mk x p,l++a,m++b)
   | none=>none
  | none=>none
 | _,_=>none
def zxS (f:(t:Ty)→CV τ→Option (t.den τ × List Nat)):(ts:List Ty)→List (CV τ)→Option (DP τ ts × List Nat)
 | [],[]=>some ((),[])
 | t::ts,c::cs=>match f t c with
  | some (x,m)=>match zxS f ts cs with
   | some (p,a)=>some (.mk x p,m++a)
   | none=>none
  | none=>none
 | _,_=>none
def zFz (L:Hp τ) (e:Ty):CV τ→Option (List (e.den τ) × List Nat)
 | .sl _ xs=>match zna (t':=e) xs with
  | some x=>some (x,[])
  | none=>none
 | .n0=>some ([],[])
 | .os id=>match lk L id with
  | .row _ _ xs _=>match zna (t':=e) xs with
   | some x=>some (x,[id])
   | none=>none
  | .fz _ xs=>match zna (t':=e) xs with
   | some x=>some (x,[id])
   | none=>none
  | .vw i k _ _ xs=>match lk L i with
   | .row _ _ _ a=>bif Nat.beq k a then (match zna (t':=e) xs with
    | some x=>some (x,[id,i])
    | none=>none) else none
   | _=>none
  | _=>none
 | _=>none
def eaO (n o:Nat):(t:Ty)→t.den τ→Option (τ n)
 | .st _,z=>bif Nat.beq o 0 then zOy z else none
 | _,_=>none
def lokP (f:(t:Ty)→CV τ→Option (t.den τ × List Nat)) (G:Sig τ) (L:Hp τ) (n:Nat):CV τ→Option (τ n × List Nat)
 | .ea t z o=>match eaO n o t z with
  | some x=>some (x,[])
  | none=>match cutL (zxR G t z) o (G.fs n).length with
   | some cs=>match zxS f (G.fs n) cs with
    | some (p,m)=>some (G.ctor n p,m)
    | none=>none
   | none=>none
 | .pt id o=>match lk L id with
  | .blk _ cs=>match cutL cs o (G.fs n).length with
   | some cs=>match zxS f (G.fs n) cs with
    | some (p,m)=>some (G.ctor n p,id::m)
    | none=>none
   | none=>none
  | _=>none
 | _=>none
def lokT (L:Hp τ) (n:Nat):CV τ→Option (Option (τ n) × List Nat)
 | .pt id 0=>match lk L id with
  | .tree _ y=>match zHI (m:=n) y with
   | some x=>some (x,[id])
   | none=>none
  | .nilp=>some (none,[id])
  | _=>none
 | _=>none
def lok (G:Sig τ) (L:Hp τ):Nat→(t:Ty)→CV τ→Option (t.den τ × List Nat)
 | 0,_,_=>none
 | d + 1,t,c=>match t with
  | .bool=>match c with
   | .b x=>some (x,[])
   | .k x=>some (x,[])
   | _=>none
  | .int=>match c with
   | .i x=>some (x,[])
   | _=>none
  | .u8=>match c with
   | .u8 x=>some (x,[])
   | _=>none
  | .u16=>match c with
   | .u16 x=>some (x,[])
   | _=>none
  | .str=>match c with
   | .s x=>some (x,[])
   | _=>none
  | .fn=>match c with
   | .fm x=>some (x,[])
   | .fn f=>match asc G.fp f with
    | some m=>some (m,[])
    | none=>none
   | _=>none
  | .nil=>match c with
   | .nl=>some ((),[])
   | _=>none
  | .fc f=>match c with
   | .fn g=>bif Nat.beq g f then some ((),[]) else none
   | _=>none
  | .mv f=>match c with
   | .mf g=>bif Nat.beq g f then some ((),[]) else none
   | .mv g _=>bif Nat.beq g f then some ((),[]) else none
   | _=>none
  | .cl f t'=>match c with
   | .cl g _ y=>bif Nat.beq g f then (match zBa (t':=t') y with
    | some x=>some (x,[])
    | none=>none) else none
   | .cf id=>match lk L id with
    | .clo g [] [a]=>bif Nat.beq g f then (match lok G L d t' a with
     | some (x,m)=>some (x,id::m)
     | none=>none) else none
    | _=>none
   | _=>none
  | .sl e=>zFz L e c
  | .so _ e=>zFz L e c
  | .pt n=>lokP (lok G L d) G L n c
  | .po n=>lokP (lok G L d) G L n c
  | .pn n=>match c with
   | .nl=>some (none,[])
   | .ep _ x=>match zHI (m:=n) x with
    | some x=>some (x,[])
    | none=>none
   | c=>match lokT L n c with
    | some r=>some r
    | none=>match lokP (lok G L d) G L n c with
     | some (x,m)=>some (some x,m)
     | none=>none
  | _=>none
def okM (i:Nat):List Ty→List (CV τ)→Bool
 | t::ts,c::cs=>(match t with
  | .mv f=>(match c with
   | .mv g j=>Nat.beq g f&&Nat.beq i j
   | _=>false)
  | _=>true)&&okM i ts cs
 | _,_=>true
def noM:List Ty→Bool
 | []=>true
 | t::ts=>(match t with
  | .mv _=>false
  | _=>true)&&noM ts
def okN (ts:List Ty) (cs:List (CV τ)):Bool:=match cs with
 | .pt i .zero::_=>okM i ts cs
 | _=>noM ts
def fixM (i:Nat):List Ty→List (CV τ)→List (CV τ)
 | t::ts,c::cs=>(match t with
  | .mv f => .mv f i
  | _=>c)::fixM i ts cs
 | _,cs=>cs
def zJy (ts:List Ty) (cs:List (CV τ)):List (CV τ):=match cs with
 | .pt i .zero::_=>bif noM ts then cs else fixM i ts cs
 | cs=>cs
def resP (f:(t:Ty)→CV τ→Rs (t.den τ)) (G:Sig τ) (L:Hp τ) (n id:Nat):Rs (τ n):=match lk L id with
 | .blk t cs=>bif Nat.beq t (G.ti n)&&okN (G.fs n) cs then (match zJx f (G.fs n) cs with
  | some (p,l,m)=>some (G.ctor n p,id::l,m)
  | none=>none) else none
 | _=>none
def res (G:Sig τ) (L:Hp τ):Nat→(t:Ty)→CV τ→Rs (t.den τ)
 | 0,_,_=>none
 | d + 1,t,c=>match t with
  | .so b e=>match c with
   | .n0=>some ([],[],[])
   | .os id=>match lk L id with
    | .row a _ xs _=>bif Nat.beq b a then (match zna (t':=e) xs with
     | some x=>some (x,[id],[])
     | none=>none) else none
    | .vw i f _ lo xs=>match lk L i with
     | .row a _ _ g=>bif Nat.beq b a&&(Nat.beq f g&&(Nat.beq lo 0||G.dr b)) then (match zna (t':=e) xs with
      | some x=>some (x,[id,i],[])
      | none=>none) else none
     | _=>none
    | _=>none
   | _=>none
  | .po n=>match c with
   | .pt id 0=>resP (res G L d) G L n id
   | _=>none
  | .pn n=>match c with
   | .nl=>some (none,[],[])
   | .pt id 0=>match lk L id with
    | .tree _ x=>match zHI (m:=n) x with
     | some x=>some (x,[id],[])
     | none=>none
    | .nilp=>some (none,[id],[])
    | _=>match resP (res G L d) G L n id with
     | some (x,l,m)=>some (some x,l,m)
     | none=>none
   | _=>none
  | t=>match lok G L (d+1) t c with
   | some (x,m)=>some (x,[],m)
   | none=>none
def depth:Nat:=8
def resX (G:Sig τ) (L:Hp τ):(t:Ty)→XV τ→Rs (t.den τ)
 | .st n,.g cs=>match zJx (res G L depth) (G.fs n) cs with
  | some (p,l,m)=>some (G.ctor n p,l,m)
  | none=>none
 | .sn d e,.c c=>match c with
  | .n0=>some (none,[],[])
  | c=>match res G L depth (.so d e) c with
   | some (x,l,m)=>some (some x,l,m)
   | none=>none
 | t,.c c=>res G L depth t c
 | .pr a b,.gv _ x=>match zBa (t' := .pr a b) x with
  | some x=>some (x,[],[])
  | none=>none
 | _,_=>none
def zti (G:Sig τ) (L:Hp τ):(ts:List Ty)→List (XV τ)→Rs (DP τ ts)
 | [],[]=>some ((),[],[])
 | t::ts,c::cs=>match resX G L t c with
  | some (x,l,m)=>match zti G L ts cs with
   | some (p,a,b)=>some (.mk x p,l++a,m++b)
   | none=>none
  | none=>none
 | _,_=>none
def zCM (f:(t:Ty)→t.den τ→Nat→CV τ × Hp τ × Nat):(ts:List Ty)→DP τ ts→Nat→List (CV τ) × Hp τ × Nat
 | [],_,nid=>([],[],nid)
 | t::ts,p,nid=>match f t p.hd nid with
  | (c,U,nid)=>match zCM f ts p.tl nid with
   | (cs,a,nid)=>(c::cs,U++a,nid)
def ztj (G:Sig τ):Nat→(t:Ty)→t.den τ→Nat→CV τ × Hp τ × Nat
 | d+1,.po n,x,nid=>match zCM (ztj G d) (G.fs n) (G.dtor n x) (nid+1) with
  | (cs,U,a)=>(.pt nid 0,(nid,.blk (G.ti n) (zJy (G.fs n) cs))::U,a)
 | 0,.po n,x,nid=>(.pt nid 0,[(nid,.tree n (some x))],nid+1)
 | _,.so b e,x,nid=>(.os nid,[(nid,.row b e x nid)],nid+1)
 | _,.pn n,x,nid=>(.pt nid 0,[(nid,.tree n x)],nid+1)
 | _,t,x,nid=>(t.av x,[],nid)
def zli (G:Sig τ) (i n:Nat) (x:τ n) (nid:Nat):Hp τ × Nat:=match zCM (ztj G depth) (G.fs n) (G.dtor n x) nid with
 | (cs,U,a)=>((i,.blk (G.ti n) (zJy (G.fs n) cs))::U,a)
def zJz (G:Sig τ) (t:Ty) (x:t.den τ) (nid:Nat):XV τ × Hp τ × Nat:=match ztj G depth t x nid with
 | (c,U,nid)=>(.c c,U,nid)
def zJA (G:Sig τ) (n:Nat) (x:τ n) (nid:Nat):XV τ × Hp τ × Nat:=match zCM (ztj G depth) (G.fs n) (G.dtor n x) nid with
 | (cs,U,nid)=>(.g cs,U,nid)
def zJB (G:Sig τ):(t:Ty)→t.den τ→Nat→XV τ × Hp τ × Nat
 | .st n,x,nid=>zJA G n x nid
 | .pr a b,x,nid=>(.gv (.pr a b) x,[],nid)
 | .sn c e,x,nid=>(.gv (.sn c e) x,[],nid)
 | t,x,nid=>zJz G t x nid
def freeze (L:Hp τ):List Nat→Option (Hp τ)
 | []=>some []
 | i::a=>match freeze L a with
  | some U=>match lk L i with
   | .row _ e xs _=>some ((i,.fz e xs)::U)
   | .fz e xs=>some ((i,.fz e xs)::U)
   | .vw j k e _ xs=>match lk L j with
    | .row _ _ _ b=>bif mem a j&&Nat.beq k b then some ((i,.fz e xs)::U) else none
    | _=>none
   | _=>none
  | none=>none
def zwT {α:Type}:List α→Nat→List α→Option (List α)
 | cs,0,vs=>go cs vs
 | c::cs,o+1,vs=>match zwT cs o vs with
  | some r=>some (c::r)
  | none=>none
 | [],_+1,_=>none
where go:List α→List α→Option (List α)
 | cs,[]=>some cs
 | _::cs,v::vs=>match go cs vs with
  | some r=>some (v::r)
  | none=>none
 | [],_::_=>none
def isA (P:Program) (t:TypeId):Option Bool:=match P.underlying t with
 | some (.struct _)=>some true
 | some (.array _ _)=>some true
 | some _=>some false
 | none=>none
def szO (P:Program) (t:TypeId):Option Nat:=match P.info? t with
 | some i=>some i.size
 | none=>none
def elO (P:Program) (t:TypeId):Option TypeId:=match P.underlying t with
 | some (.slice e)=>some e
 | _=>none
def zHP (P:Program) (t:TypeId) (i:Nat):Option (Nat × TypeId):=match P.underlying t with
 | some (.struct ⟨fs⟩)=>match ziW fs i with
  | some f=>match szO P f.type with
   | some (_+1)=>some (f.offset,f.type)
   | _=>none
  | none=>none
 | _=>none
def zBe (P:Program) (t:TypeId):Option (List (CV τ)):=match P.info? t with
 | some i=>match i.zero with
  | some v=>cvVs v.cells.toList
  | none=>none
 | none=>none
def ztk:XV τ→Option (List (CV τ))
 | .c c=>some [c]
 | .g l=>some l
 | _=>none
def cmpI (o:BinOp) (m n:Int):Option Bool:=match o with
 | .eql=>some (m==n)
 | .neq=>some (!(m==n))
 | .lss=>some (decide (m<n))
 | .leq=>some (decide (m≤n))
 | .gtr=>some (decide (n<m))
 | .geq=>some (decide (n≤m))
 | _=>none
def cmpB (o:BinOp) (m n:UInt8):Option Bool:=match o with
 | .eql=>some (m==n)
 | .neq=>some (!(m==n))
 | .lss=>some (decide (m<n))
 | .leq=>some (decide (m≤n))
 | .gtr=>some (decide (n<m))
 | .geq=>some (decide (n≤m))
 | _=>none
def cmpS (o:BinOp) (l m:Str):Option Bool:=match o with
 | .eql=>some (l==m)
 | .neq=>some (!(l==m))
 | .lss=>some (zjo l m)
 | .leq=>some (zjo l m||l==m)
 | .gtr=>some (!(zjo l m||l==m))
 | .geq=>some (!(zjo l m))
 | _=>none
def eqO (o:BinOp) (b:Bool):Option Bool:=match o with
 | .eql=>some b
 | .neq=>some (!b)
 | _=>none
def adC:CV τ→Bool
 | .ea _ _ _=>true
 | .oe _ _ _ _ _ _=>true
 | _=>false
def obX:Option Bool→Option (XV τ)
 | some x=>some (.c (.b x))
 | none=>none
def okX:Option Bool→Option (XV τ)
 | some x=>some (.c (.k x))
 | none=>none
def zhI:Ty→Bool
 | .bool=>true
 | .int=>true
 | .u8=>true
 | .u16=>true
 | .str=>true
 | _=>false
def binX (X:Cx τ) (o:BinOp) (t:TypeId):XV τ→XV τ→Option (XV τ)
 | .c (.i m),.c (.i n)=>obX (cmpI o m n)
 | .c (.u8 m),.c (.u8 n)=>match o with
  | .add=>some (.c (.u8 (m+n)))
  | .sub=>some (.c (.u8 (m-n)))
  | _=>obX (cmpB o m n)
 | .c (.u16 m),.c (.u16 n)=>match o with
  | .eql=>some (.c (.b (m==n)))
  | .neq=>some (.c (.b (!(m==n))))
  | _=>none
 | .c (.s l),.c (.s m)=>obX (cmpS o l m)
 | .c .nl,.c .nl=>match X.P.underlying t with
  | some (.pointer _)=>okX (eqO o true)
  | _=>none
 | .c c,.c .nl=>match X.P.underlying t with
  | some (.pointer _)=>bif adC c then okX (eqO o false) else none
  | _=>none
 | .c c,.c d=>match zOK c with
  | some x=>match zOK d with
   | some y=>match X.P.underlying t with
    | some .bool=>obX (eqO o (x==y))
    | _=>none
   | none=>none
  | none=>none
 | .g l,.g m=>match asc X.ty t with
  | some (.st n)=>bif (X.G.fs n).all zhI then match zxS (lok X.G [] depth) (X.G.fs n) l with
   | some (p,[])=>match zxS (lok X.G [] depth) (X.G.fs n) m with
    | some (q,[])=>obX (eqO o (X.G.eq n (X.G.ctor n p) (X.G.ctor n q)))
    | _=>none
   | _=>none
   else none
  | _=>none
 | _,_=>none
def zON (P:Program) (s d:TypeId):CV τ→Option (XV τ)
 | .u8 x=>match P.underlying d with
  | some (.int .i64)=>match P.underlying s with
   | some (.int .u8)=>some (.c (.i (x.toNat:Int)))
   | _=>none
  | _=>none
 | .u16 x=>match P.underlying d with
  | some (.int .i64)=>match P.underlying s with
   | some (.int .u16)=>some (.c (.i (x.toNat:Int)))
   | _=>none
  | _=>none
 | .i x=>match P.underlying d with
  | some (.int .u8)=>match P.underlying s with
   | some (.int .i64)=>some (.c (.u8 (zJ4 x)))
   | _=>none
  | _=>none
 | .s l=>match P.underlying d with
  | some .string=>match P.underlying s with
   | some .string=>some (.c (.s l))
   | _=>none
  | _=>none
 | .sl .u8 l=>match P.underlying d with
  | some .string=>match P.underlying s with
   | some (.slice e)=>match P.underlying e with
    | some (.int .u8)=>some (.c (.s l))
    | _=>none
   | _=>none
  | _=>none
 | _=>none
def zzm (P:Program):List Field→Option (List (Nat × Nat))
 | []=>some []
 | f::fs=>match szO P f.type with
  | some s=>match zzm P fs with
   | some r=>some ((f.offset,s)::r)
   | none=>none
  | none=>none
def zJC (P:Program) (t:TypeId):Option (Nat→Option (Nat × Nat)):=match P.underlying t with
 | some (.array _ e)=>match szO P e with
  | some s=>some fun i=>some (i*s,s)
  | none=>none
 | some (.struct ⟨fs⟩)=>match zzm P fs with
  | some l=>some (ziW l)
  | none=>none
 | _=>none
def zBf (a:Nat→Option (Nat × Nat)) (E:zad τ):List (Nat × Operand)→List (CV τ)→Option (List (CV τ))
 | [],cs=>some cs
 | (i,x)::ps,cs=>match a i with
  | some (o,s)=>match evX E x with
   | some v=>match ztk v with
    | some vs=>bif Nat.beq vs.length s then (match zwT cs o vs with
      | some cs=>zBf a E ps cs
      | none=>none) else none
    | none=>none
   | none=>none
  | none=>none
def opP (X:Cx τ) (E:zad τ):Op→Option (XV τ)
 | .move x=>evX E x
 | .assign x=>evX E x
 | .pick c x y=>match evC E c with
  | some (.k true)=>evX E x
  | some (.k false)=>evX E y
  | _=>none
 | .unOp .not _ x=>match evC E x with
  | some (.b z)=>some (.c (.b (!z)))
  | some (.k z)=>some (.c (.k (!z)))
  | _=>none
 | .extract x i=>match evX E x with
  | some (.t l)=>match ziW l i with
   | some (false,[c])=>some (.c c)
   | some (true,cs)=>some (.g cs)
   | _=>none
  | _=>none
 | .nilCheck x=>match evC E x with
  | some c=>bif adC c then some (.c c) else none
  | none=>none
 | .fieldAddr t x i=>match zHP X.P t i with
  | some (f,_)=>match evC E x with
   | some (.ea t z o)=>some (.c (.ea t z (o+f)))
   | some (.oe id k m t z o)=>some (.c (.oe id k m t z (o+f)))
   | _=>none
  | none=>none
 | .field t x i=>match zHP X.P t i with
  | some (f,ft)=>match evX E x with
   | some (.g cs)=>match isA X.P ft with
    | some true=>match szO X.P ft with
     | some s=>match cutL cs f s with
      | some l=>some (.g l)
      | none=>none
     | none=>none
    | some false=>match ziW cs f with
     | some c=>some (.c c)
     | none=>none
    | none=>none
   | _=>none
  | none=>none
 | .binOp o t x y _=>match evX E x with
  | some a=>match evX E y with
   | some b=>binX X o t a b
   | none=>none
  | none=>none
 | .convert s d x=>match evC E x with
  | some c=>zON X.P s d c
  | none=>none
 | .build t ⟨ps⟩=>match zBe X.P t with
  | some z=>match zJC X.P t with
   | some e=>match zBf e E ps z with
    | some cs=>some (.g cs)
    | none=>none
   | none=>none
  | none=>none
 | .call ⟨.builtin .len,⟨[x]⟩,⟨[t]⟩⟩=>match evC E x with
  | some (.s l)=>match X.P.underlying t with
   | some .string=>some (.c (.i (l.length:Int)))
   | _=>none
  | some (.sl _ l)=>match X.P.underlying t with
   | some (.slice _)=>some (.c (.i (l.length:Int)))
   | _=>none
  | some .n0=>match X.P.underlying t with
   | some (.slice _)=>some (.c (.i 0))
   | _=>none
  | _=>none
 | .call ⟨.builtin .min,⟨[x,y]⟩,⟨[_,_]⟩⟩=>match evC E x with
  | some (.i m)=>match evC E y with
   | some (.i n)=>some (.c (.i (min m n)))
   | _=>none
  | _=>none
 | .call ⟨.builtin .max,⟨[x,y]⟩,⟨[_,_]⟩⟩=>match evC E x with
  | some (.i m)=>match evC E y with
   | some (.i n)=>some (.c (.i (max m n)))
   | _=>none
  | _=>none
 | _=>none
abbrev Nx (τ:Nat→Type) (ρ:Type):=XV τ→List (XV τ)→Hp τ→List Nat→Nat→Option ρ
def fitO (P:Program) (n m:Nat) (e:TypeId):Bool:=match P.info? e with
 | some i=>zf n m i.bytes
 | none=>false
def bytO (P:Program) (e:TypeId):Bool:=match P.info? e with
 | some i=>match i.zero with
  | some (.int .u8 (.ofNat 0))=>Nat.beq i.size 1&&Nat.beq i.bytes 1
  | _=>false
 | none=>false
def rowO (L:Hp τ) (e:Ty):CV τ→Option (List (e.den τ) × List Nat)
 | .sl _ xs=>match zna (t':=e) xs with
  | some x=>some (x,[])
  | none=>none
 | .n0=>some ([],[])
 | .os id=>match lk L id with
  | .row _ _ xs _=>match zna (t':=e) xs with
   | some x=>some (x,[id])
   | none=>none
  | .fz _ xs=>match zna (t':=e) xs with
   | some x=>some (x,[id])
   | none=>none
  | .vw i k _ _ xs=>match lk L i with
   | .row _ _ _ a=>bif Nat.beq k a then (match zna (t':=e) xs with
    | some x=>some (x,[id,i])
    | none=>none) else none
   | _=>none
  | _=>none
 | _=>none
def zJD (L:Hp τ):CV τ→Option ((e:Ty) × List (e.den τ) × Hp τ × List Nat)
 | .sl e xs=>some ⟨e,xs,[],[]⟩
 | .os id=>match lk L id with
  | .row _ e xs _=>some ⟨e,xs,[(id,.fz e xs)],[id]⟩
  | .fz e xs=>some ⟨e,xs,[],[id]⟩
  | _=>none
 | _=>none
def opI (nid:Nat) (K:Nx τ ρ) (o:BinOp) (a b:XV τ):Option ρ:=hi <| match o,a,b with
 | .add,.c (.i m),.c (.i n)=>(zi m n).bind fun r=>K (.c (.i r)) [] [] [] nid
 | .sub,.c (.i m),.c (.i n)=>(zbt m n).bind fun r=>K (.c (.i r)) [] [] [] nid
 | .mul,.c (.i m),.c (.i n)=>(zIw m n).bind fun r=>K (.c (.i r)) [] [] [] nid
 | .quo,.c (.i m),.c (.i n)=>(zD2 m n).bind fun r=>K (.c (.i r)) [] [] [] nid
 | .rem,.c (.i m),.c (.i n)=>(zGy m n).bind fun r=>K (.c (.i r)) [] [] [] nid
 | .add,.c (.s l),.c (.s m)=>(zci l m).bind fun r=>K (.c (.s r)) [] [] [] nid
 | _,_,_=>none
def rowA (L:Hp τ) (b:TypeId) (e:Ty):CV τ→Option (List (e.den τ) × Hp τ × List Nat)
 | .n0=>some ([],[],[])
 | .os id=>match lk L id with
  | .row a _ xs _=>bif Nat.beq b a then (match zna (t':=e) xs with
   | some xs=>some (xs,[(id,.gone)],[id])
   | none=>none) else none
  | _=>none
 | _=>none
def zHQ (P:Program) (t:TypeId):Option (List (CV τ))→Option (XV τ)
 | some l=>match isA P t with
  | some true=>some (.g l)
  | some false=>match l with
   | [c]=>some (.c c)
   | _=>none
  | none=>none
 | none=>none
def lokX (G:Sig τ) (L:Hp τ):(t:Ty)→XV τ→Option (t.den τ × List Nat)
 | .st n,.g cs=>match zxS (lok G L depth) (G.fs n) cs with
  | some (p,m)=>some (G.ctor n p,m)
  | none=>none
 | t,.c c=>lok G L depth t c
 | _,_=>none
def zHR (X:Cx τ) (L:Hp τ) (E:zad τ) (e:Ty):Nat→List (Nat × Operand)→Option (List (e.den τ) × List Nat)
 | _,[]=>some ([],[])
 | k,(i,x)::ps=>bif Nat.beq i k then (match evX E x with
  | some v=>match lokX X.G L e v with
   | some (x,m)=>match zHR X L E e (k+1) ps with
    | some (xs,a)=>some (x::xs,m++a)
    | none=>none
   | none=>none
  | none=>none) else none
def znc (G:Sig τ):Nat→Ty→Bool
 | d+1,t=>match t with
  | .bool=>false
  | .int=>false
  | .u8=>false
  | .u16=>false
  | .str=>false
  | .nil=>false
  | .fc _=>false
  | .mv _=>false
  | .fn=>false
  | .so _ e => !((ets G e).all zhI)
  | .sn _ e => !((ets G e).all zhI)
  | .st n=>(G.fs n).any (znc G d)
  | .po n=>(G.fs n).any (znc G d)
  | .pn n=>(G.fs n).any (znc G d)
  | _=>true
 | _,_=>true
abbrev optK {α:Type} {β:Sort _} (o:Option α) (b:β) (a:α→β):β:=match o with|none=>b|some x=>a x
def resH (G:Sig τ):Option (Option Nat)→(t:Ty)→t.den τ→Nat→(Option (XV τ)→Hp τ→Nat→Option ρ)→Option ρ
 | some (some i),.po n,x,nid,k=>match zli G i n x nid with
  | (U,nid)=>k none U nid
 | some (some i),.pn n,x,nid,k=>k none [(i,.tree n x)] nid
 | some (some i),.so b e,x,nid,k=>k none [(i,.row b e x nid)] (nid+1)
 | some none,.pn _,_,nid,k=>k none [] nid
 | some none,.nil,_,nid,k=>k none [] nid
 | none,.pn n,x,nid,k=>optK (α:=τ n) x (k (some (.c .nl)) [] nid) fun x=>match zli G nid n x (nid+1) with
  | (U,a)=>k (some (.c (.pt nid 0))) U a
 | none,.sn b e,x,nid,k=>optK (α:=List (e.den τ)) x (k (some (.c .n0)) [] nid) fun x=>k (some (.c (.os nid))) [(nid,.row b e x nid)] (nid+1)
 | none,t,x,nid,k=>match zJB G t x nid with
  | (v,U,nid)=>k (some v) U nid
 | _,_,_,_,_=>hi none
def consO (v:Option (XV τ)) (l:List (XV τ)):List (XV τ):=match v with
 | some v=>v::l
 | none=>l
def resK (G:Sig τ):List (Option (Option Nat))→(ts:List Ty)→DP τ ts→Nat→(List (XV τ)→Hp τ→Nat→Option ρ)→Option ρ
 | _,[],_,nid,K=>hi <| K [] [] nid
 | a::rs,t::ts,p,nid,K=>resH G a t p.hd nid fun v U nid=>resK G rs ts p.tl nid fun l b nid=>K (consO v l) (U++b) nid
 | [],_::_,_,_,_=>none
def zCN:List (XV τ)→Option (XV τ)
 | [v]=>some v
 | []=>some (.t [])
 | vs=>match go vs with
  | some l=>some (.t l)
  | none=>none
where go:List (XV τ)→Option (List (Bool × List (CV τ)))
 | []=>some []
 | .c c::vs=>match go vs with
  | some l=>some ((false,[c])::l)
  | none=>none
 | .g cs::vs=>match go vs with
  | some l=>some ((true,cs)::l)
  | none=>none
 | _::_=>none
def zOO (v:XV τ):Nat→Option (CV τ)
 | 0=>match v with
  | .c c=>some c
  | _=>none
 | i+1=>match v with
  | .g cs=>ziW cs i
  | _=>none
def roots (avs:List (XV τ)):List Nat→Option (List (Option (Option Nat)))
 | []=>some []
 | j::a=>match roots avs a with
  | some rs=>match ziW avs (j%32) with
   | some v=>match zOO v (j/32) with
    | some (.pt id 0)=>some (some (some id)::rs)
    | some (.os id)=>some (some (some id)::rs)
    | some .nl=>some (some none::rs)
    | _=>none
   | none=>none
  | none=>none
def zBg:Nat→List (Option (Option Nat))→List (Option (Option Nat))
 | 0,rs=>rs
 | n+1,rs=>none::zBg n rs
def zwU:List (Option (Option Nat))→List Nat
 | []=>[]
 | some (some i)::rs=>i::zwU rs
 | _::rs=>zwU rs
def zpd (l:List Nat):Hp τ:=l.map fun i=>(i,.gone)
def zos (X:Cx τ) (L:Hp τ) (nid:Nat) (K:Nx τ ρ) (f:FuncId) (avs:List (XV τ)):zy7 τ→Option ρ
 | []=>hi none
 | (g,k)::cs=>bc (Nat.beq g f) (match zti X.G L k.ps avs with
 | some (p,l,m)=>bc (nod l&&zy8 l m)
   (match (bif k.rs.any (znc X.G depth) then freeze L m else some []) with
   | some Z=>match roots avs k.bk with
    | some rs=>bc (nod (zwU rs)&&(zwU rs).all (mem l)) ((k.m p).bind fun r=>resK X.G (zBg k.nr rs) k.rs r nid fun vs U a=>match zCN vs with
     | some v=>K v [.gv (prT k.rs) (DP.pr k.rs r)] (U++(zpd l++Z)) (l++m) a
     | none=>none) none
    | none=>none
   | none=>none)
   (zos X L nid K f avs cs)
 | none=>zos X L nid K f avs cs) (zos X L nid K f avs cs)
def ptK (X:Cx τ) (L:Hp τ) (nid i:Nat) (k:Hp τ→List Nat→Nat→Option ρ):Option ρ:=match lk L i with
 | .blk _ _=>k [] [i] nid
 | .tree n y=>(show Option (τ n) from y).bind fun y=>match zli X.G i n y nid with
  | (U,nid)=>k U [i] nid
 | _=>hi none
def nlK (X:Cx τ) (L:Hp τ) (nid i:Nat) (k:Bool→Hp τ→List Nat→Nat→Option ρ):Option ρ:=match lk L i with
 | .blk _ _=>k false [] [i] nid
 | .tree n y=>optK (α:=τ n) y (k true [(i,.nilp)] [i] nid) fun y=>match zli X.G i n y nid with
  | (U,nid)=>k false U [i] nid
 | .nilp=>k true [] [i] nid
 | _=>hi none
def zOP (X:Cx τ) (L:Hp τ) (nid:Nat) (K:Nx τ ρ) (t:TypeId):CV τ→Option ρ
 | .pt id o=>match lk L id with
  | .blk _ cs=>match szO X.P t with
   | some n=>match zHQ X.P t (cutL cs o n) with
    | some (.c (.pt j .zero))=>bc (Nat.beq j id) none (nlK X L nid j fun b U l nid=>bc b (K (.c .nl) [] U (id::l) nid) (K (.c (.pt j 0)) [] U (id::l) nid))
    | some v=>K v [] [] [id] nid
    | none=>none
   | none=>none
  | _=>none
 | .ea ty z o=>match szO X.P t with
  | some n=>match zHQ X.P t (cutL (zxR X.G ty z) o n) with
   | some (.c (.ep n x))=>optK (α:=τ n) x (K (.c .nl) [] [] [] nid) fun x=>K (.c (.ea (.st n) x 0)) [] [] [] nid
   | some v=>K v [] [] [] nid
   | none=>none
  | none=>none
 | .oe id k _ ty z o=>match lk L id with
  | .row _ _ _ a=>bc (Nat.beq k a) (match szO X.P t with
   | some n=>match zHQ X.P t (cutL (zxR X.G ty z) o n) with
    | some v=>K v [] [] [id] nid
    | none=>none
   | none=>none) none
  | _=>none
 | _=>hi none
def zOQ (X:Cx τ) (L:Hp τ) (nid:Nat) (K:Nx τ ρ) (t:TypeId) (vs:List (CV τ)):CV τ→Option ρ
 | .pt id o=>match lk L id with
  | .blk bt cs=>match zwT cs o vs with
   | some cs=>K .un [] [(id,.blk bt cs)] [id] nid
   | none=>none
  | _=>none
 | .oe id k m ty z o=>match lk L id with
  | .row b e xs a=>bc (Nat.beq k a) (match zwT (zxR X.G ty z) o vs with
   | some cs=>match zxS (lok X.G L depth) (ets X.G ty) cs with
    | some (p,ids)=>match zBa (t':=e) (ect X.G ty p) with
     | some z=>match freeze L ids with
      | some U=>bc (mem ids id) none ((zxe xs m z).bind fun l=>K .un [] ((id,.row b e l nid)::U) (id::ids) (nid+1))
      | none=>none
     | none=>none
    | _=>none
   | none=>none) none
  | _=>none
 | _=>hi none
def zC7 (E:zad τ) (e:Ty) (xs:List (e.den τ)):Option Operand→Option Operand→Option (Nat × List (e.den τ))
 | some y,some z=>match evC E y with
  | some (.i i)=>match evC E z with
   | some (.i j)=>match zD3 xs i j with
    | some s=>some (i.toNat,s)
    | none=>none
   | _=>none
  | _=>none
 | some y,none=>match evC E y with
  | some (.i i)=>match zoc xs i with
   | some s=>some (i.toNat,s)
   | none=>none
  | _=>none
 | none,some z=>match evC E z with
  | some (.i j)=>match lTo xs j with
   | some s=>some (0,s)
   | none=>none
  | _=>none
 | none,none=>none
def vwO (L:Hp τ):CV τ→Option (Nat × Nat × (e:Ty) × List (e.den τ))
 | .os id=>match lk L id with
  | .row _ e xs k=>some (id,k,⟨e,xs⟩)
  | _=>none
 | _=>none
def vwX (E:zad τ) (nid:Nat) (K:Nx τ ρ) (id k:Nat) (e:Ty) (l:List (e.den τ)) (lo a:Option Operand):Option ρ:=hi <| match lo,a with
 | some y,some z=>match evC E y with
  | some (.i i)=>match evC E z with
   | some (.i j)=>(zD3 l i j).bind fun s=>K (.c (.os nid)) [] [(nid,.vw id k e i.toNat s)] [id] (nid+1)
   | _=>none
  | _=>none
 | some y,none=>match evC E y with
  | some (.i i)=>(zoc l i).bind fun s=>K (.c (.os nid)) [] [(nid,.vw id k e i.toNat s)] [id] (nid+1)
  | _=>none
 | none,some z=>match evC E z with
  | some (.i j)=>(lTo l j).bind fun s=>K (.c (.os nid)) [] [(nid,.vw id k e 0 s)] [id] (nid+1)
  | _=>none
 | none,none=>none
def szE (X:Cx τ) (a:TypeId) (e:Ty):Bool:=match szO X.P a with
 | some n=>Nat.beq n (ets X.G e).length&&Nat.blt 0 n
 | none=>false
def zOR (X:Cx τ) (a:TypeId) (e:Ty):Option (e.den τ):=match zBe X.P a with
 | some b=>match zxS (lok X.G [] depth) (ets X.G e) b with
  | some (p,[])=>some (ect X.G e p)
  | _=>none
 | none=>none
def clrX (X:Cx τ) (L:Hp τ) (nid:Nat) (K:Nx τ ρ) (a:TypeId) (id:Nat):Option ρ:=match lk L id with
 | .vw i k e lo ys=>match lk L i with
  | .row c b xs d=>bc (Nat.beq a c&&(Nat.beq k d&&szE X a b)) (match zOR X a b with
   | some z=>K (.t []) [] [(i,.row a b (xs.take lo++(List.replicate ys.length z++xs.drop (lo+ys.length))) nid)] [id,i] (nid+1)
   | none=>none) none
  | _=>none
 | _=>none
def arO (P:Program) (t:TypeId):Option (Nat × Nat):=match P.underlying t with
 | some (.array n e)=>bif Nat.ble n 8 then match szO P e with
  | some s=>some (n,s)
  | none=>none
  else none
 | _=>none
def isN (m:Int) (k:Nat):Bool:=m==(k:Int)
def arK (m:Int):Nat→Nat→(Nat→Option ρ)→Option ρ
 | 0,_,_=>hi none
 | n+1,k,K=>hi (if isN m k=true then K k else arK m n (k+1) K)
def rowZ (L:Hp τ):CV τ→Option ((e:Ty) × List (e.den τ) × List Nat)
 | .sl e xs=>some ⟨e,xs,[]⟩
 | .os id=>match lk L id with
  | .row _ e xs _=>some ⟨e,xs,[id]⟩
  | .fz e xs=>some ⟨e,xs,[id]⟩
  | .vw i k e _ xs=>match lk L i with
   | .row _ _ _ a=>bif Nat.beq k a then some ⟨e,xs,[id,i]⟩ else none
   | _=>none
  | _=>none
 | _=>none
def nilZ (G:Sig τ) (L:Hp τ) (c:CV τ):Option (Bool × List Nat):=match c with
 | .n0=>some (true,[])
 | c=>match rowZ L c with
  | some ⟨e,_::_,ids⟩=>match ets G e with
   | _::_=>some (false,ids)
   | []=>none
  | _=>none
def nnl {α:Type}:List α→Option Bool
 | []=>none
 | _::_=>some false
def rwO (L:Hp τ) (id:Nat):Option ((e:Ty) × List (e.den τ)):=match lk L id with
 | .row _ e xs _=>some ⟨e,xs⟩
 | .fz e xs=>some ⟨e,xs⟩
 | _=>none
def mpO (P:Program) (t:TypeId):Option TypeId:=match P.underlying t with
 | some (.map b a)=>match P.underlying b with
  | some (.int .i64)=>some a
  | _=>none
 | _=>none
def strZ (P:Program) (t:TypeId):Bool:=match P.info? t with
 | some i=>match i.zero with
  | some (.string ⟨⟨[]⟩⟩)=>true
  | _=>false
 | none=>false
def opX (X:Cx τ) (E:zad τ) (L:Hp τ) (nid:Nat) (K:Nx τ ρ) (o:Op):Option ρ:=match opP X E o with
 | some v=>K v [] [] [] nid
 | none => match o with
  | .binOp o t x y _=>match evX E x with
   | some a=>match evX E y with
    | some b=>match b with
     | .c .nl=>match a with
      | .c (.pt i .zero)=>match X.P.underlying t with
       | some (.pointer _)=>nlK X L nid i fun z U l nid=>match okX (eqO o z) with
        | some v=>K v [] U l nid
        | none=>none
       | _=>none
      | _=>opI nid K o a b
     | .c .n0=>match a with
      | .c .n0=>match X.P.underlying t with
       | some (.slice _)=>match okX (eqO o true) with
        | some v=>K v [] [] [] nid
        | none=>none
       | _=>none
      | .c (.os id)=>match X.P.underlying t with
       | some (.slice _)=>match rwO L id with
        | some ⟨e,xs⟩=>match ets X.G e with
         | _::_=>(nnl xs).bind fun _=>match okX (eqO o false) with
          | some v=>K v [] [] [id] nid
          | none=>none
         | []=>none
        | none=>none
       | _=>none
      | _=>opI nid K o a b
     | _=>opI nid K o a b
    | none=>none
   | none=>none
  | .nilCheck x=>match evC E x with
   | some (.pt i o)=>ptK X L nid i fun U l nid=>K (.c (.pt i o)) [] U l nid
   | _=>none
  | .fieldAddr t x i=>match zHP X.P t i with
   | some (f,_)=>match evC E x with
    | some (.pt id o)=>ptK X L nid id fun U l nid=>K (.c (.pt id (o+f))) [] U l nid
    | _=>none
   | none=>none
  | .index t x y=>match X.P.underlying t with
   | some .string=>match evC E x with
    | some (.s l)=>match evC E y with
     | some (.i i)=>(sAt l i).bind fun r=>K (.c (.u8 r)) [] [] [] nid
     | _=>none
    | _=>none
   | _=>none
  | .slice t x lo hi none=>match X.P.underlying t with
   | some .string=>match evC E x with
    | some (.s l)=>match lo,hi with
     | some y,some z=>match evC E y with
      | some (.i i)=>match evC E z with
       | some (.i j)=>(zlF l i j).bind fun r=>K (.c (.s r)) [] [] [] nid
       | _=>none
      | _=>none
     | some y,none=>match evC E y with
      | some (.i i)=>(zar l i).bind fun r=>K (.c (.s r)) [] [] [] nid
      | _=>none
     | none,some z=>match evC E z with
      | some (.i j)=>(sTo l j).bind fun r=>K (.c (.s r)) [] [] [] nid
      | _=>none
     | none,none=>K (.c (.s l)) [] [] [] nid
    | _=>none
   | some (.slice g)=>match evC E x with
    | some c=>match vwO L c with
     | some (id,k,⟨e,l⟩)=>bc (szE X g e) (vwX E nid K id k e l lo hi) none
     | none=>match zJD L c with
     | some ⟨e,l,U,ids⟩=>bc (szE X g e) (match lo,hi with
      | some y,some z=>match evC E y with
       | some (.i i)=>match evC E z with
        | some (.i j)=>(zD3 l i j).bind fun r=>K (.c (.sl e r)) [] U ids nid
        | _=>none
       | _=>none
      | some y,none=>match evC E y with
       | some (.i i)=>(zoc l i).bind fun r=>K (.c (.sl e r)) [] U ids nid
       | _=>none
      | none,some z=>match evC E z with
       | some (.i j)=>(lTo l j).bind fun r=>K (.c (.sl e r)) [] U ids nid
       | _=>none
      | none,none=>none) none
     | none=>none
    | none=>none
   | _=>none
  | .convert s d x=>match evC E x with
   | some (.i n)=>match X.P.underlying s with
    | some (.int .i64)=>match X.P.underlying d with
     | some (.int .i64)=>(zJ3 n).bind fun r=>K (.c (.i r)) [] [] [] nid
     | _=>none
    | _=>none
   | some (.s l)=>match X.P.underlying s with
    | some .string=>match X.P.underlying d with
     | some (.slice e)=>match X.P.underlying e with
      | some (.int .u8)=>K (.c (.sl .u8 l)) [] [] [] nid
      | _=>none
     | _=>none
    | _=>none
   | some c=>match X.P.underlying d with
    | some .string=>match X.P.underlying s with
     | some (.slice e)=>match X.P.underlying e with
      | some (.int .u8)=>match rowO L .u8 c with
       | some (l,ids)=>K (.c (.s l)) [] [] ids nid
       | none=>none
      | _=>none
     | _=>none
    | _=>none
   | none=>none
  | .alloc t=>match zBe X.P t with
   | some cs=>K (.c (.pt nid 0)) [] [(nid,.blk t cs)] [] (nid+1)
   | none=>none
  | .box t x=>match evX E x with
   | some v=>match ztk v with
    | some cs=>K (.c (.pt nid 0)) [] [(nid,.blk t cs)] [] (nid+1)
    | none=>none
   | none=>none
  | .load t x=>match evC E x with
   | some c=>zOP X L nid K t c
   | none=>none
  | .store t x y=>match evX E y with
   | some v=>match ztk v with
    | some vs=>match szO X.P t with
     | some n=>bc (Nat.beq vs.length n) (match evC E x with
      | some c=>zOQ X L nid K t vs c
      | none=>none) none
     | none=>none
    | none=>none
   | none=>none
  | .indexAddr t x y=>match arO X.P t with
   | some (n,s)=>match evC E y with
    | some (.i m)=>match evC E x with
     | some (.pt id .zero)=>match lk L id with
      | .blk _ _=>arK m n 0 fun j=>K (.c (.pt id (j*s))) [] [] [id] nid
      | _=>none
     | _=>none
    | _=>none
   | none=>match elO X.P t with
   | some g=>match evC E y with
    | some (.i m)=>match evC E x with
     | some (.sl e xs)=>bc (szE X g e) ((lAt xs m).bind fun z=>K (.c (.ea e z 0)) [] [] [] nid) none
     | some (.os id)=>match lk L id with
      | .row _ e xs k=>bc (szE X g e) ((lAt xs m).bind fun z=>K (.c (.oe id k m e z 0)) [] [] [id] nid) none
      | .fz e xs=>bc (szE X g e) ((lAt xs m).bind fun z=>K (.c (.ea e z 0)) [] [] [id] nid) none
      | .vw i k e lo xs=>match lk L i with
       | .row _ _ _ p=>bc (Nat.beq k p&&szE X g e) ((lAt xs m).bind fun z=>K (.c (.oe i k (lo+m.toNat:Nat) e z 0)) [] [] [id,i] nid) none
       | _=>none
      | _=>none
     | _=>none
    | _=>none
   | none=>none
  | .buildSlice t n ⟨ps⟩=>match elO X.P t with
   | some g=>match asc X.ty g with
    | some e=>match zHR X L E e 0 ps with
     | some (xs,ids)=>bc (Nat.beq xs.length n&&Nat.ble (n*(ets X.G e).length) 65536) (match freeze L ids with
      | some U=>K (.c (.os nid)) [] ((nid,.row g e xs nid)::U) ids (nid+1)
      | none=>none) none
     | _=>none
    | none=>none
   | none=>none
  | .call ⟨.builtin .len,⟨[x]⟩,⟨[t]⟩⟩=>match evC E x with
   | some (.os id)=>match elO X.P t with
    | some _=>match lk L id with
     | .row _ _ xs _=>K (.c (.i (xs.length:Int))) [] [] [id] nid
     | .fz _ xs=>K (.c (.i (xs.length:Int))) [] [] [id] nid
     | .vw _ _ _ _ xs=>K (.c (.i (xs.length:Int))) [] [] [id] nid
     | _=>none
    | none=>none
   | _=>none
  | .call ⟨.builtin .append,⟨[x,y]⟩,⟨[t,u]⟩⟩=>match elO X.P t with
   | some g=>match asc X.ty g with
    | some e=>match evC E x with
     | some a=>match rowA L g e a with
      | some (xs,U,ids)=>match evC E y with
       | some (.s l)=>match X.P.underlying u with
        | some .string=>match zna (t := .u8) (t':=e) l with
         | some l=>bc (bytO X.P g && !X.G.dr g) (if zf xs.length l.length 1 then K (.c (.os nid)) [] ((nid,.row g e (xs++l) nid)::U) ids (nid+1) else none) none
         | none=>none
        | _=>none
       | some .n0=>bc (Nat.beq t u) (K (.c (.os nid)) [] ((nid,.row g e xs nid)::U) ids (nid+1)) none
       | some b=>match rowO L e b with
        | some (ys,h)=>bc (zy8 ids h&&Nat.beq t u) (if fitO X.P xs.length ys.length g then K (.c (.os nid)) [] ((nid,.row g e (xs++ys) nid)::U) (ids++h) (nid+1) else none) none
        | none=>none
       | none=>none
      | none=>none
     | none=>none
    | none=>none
   | none=>none
  | .call ⟨.builtin .clear,⟨[x]⟩,⟨[t]⟩⟩=>match elO X.P t with
   | some g=>match evC E x with
    | some (.os id)=>clrX X L nid K g id
    | _=>none
   | none=>none
  | .call ⟨.value f,⟨args⟩,_⟩=>match evC E f with
   | some (.fn f)=>match zvp E args with
    | some avs=>zos X L nid K f avs X.cs
    | none=>none
   | some (.cl f t x)=>match zvp E args with
    | some avs=>zos X L nid K f (avs++[.c (t.av x)]) X.cs
    | none=>none
   | some (.mv f i)=>match zvp E args with
    | some avs=>zos X L nid K f (.c (.pt i 0)::avs) X.cs
    | none=>none
   | some (.fm m)=>match args with
    | [x]=>match evC E x with
     | some (.u8 c)=>(m c).bind fun r=>K (.c (.b r)) [] [] [] nid
     | _=>none
    | _=>none
   | _=>none
  | .makeFunc (.func f) ⟨[]⟩ ⟨[x]⟩=>match evC E x with
   | some c=>K (.c (.cf nid)) [] [(nid,.clo f [] [c])] [] (nid+1)
   | none=>none
  | .makeFunc (.func f) ⟨[x]⟩ ⟨[]⟩=>match evC E x with
   | some (.pt i .zero)=>K (.c (.mv f i)) [] [] [] nid
   | _=>none
  | .makeMap _ none=>K (.c (.mp nid)) [] [(nid,.mp [])] [] (nid+1)
  | .insert t x y z=>match mpO X.P t with
   | some _=>match evC E x with
    | some (.mp id)=>match lk L id with
     | .mp l=>match evC E y with
      | some (.i k)=>match evC E z with
       | some (.s v)=>match l.find? fun q=>q.1==k with
        | none=>K .un [] [(id,.mp (l++[(k,v)]))] [id] nid
        | some _=>none
       | _=>none
      | _=>none
     | _=>none
    | _=>none
   | none=>none
  | .lookup t x y true=>match mpO X.P t with
   | some w=>bc (strZ X.P w) (match evC E x with
    | some (.mp id)=>match lk L id with
     | .mp l=>match evC E y with
      | some (.i k)=>K (.t [(false,[.s (zq2 l k).1]),(false,[.b (zq2 l k).2])]) [] [] [id] nid
      | _=>none
     | _=>none
    | _=>none) none
   | none=>none
  | _=>none
def unT (E:zad τ):Option Nat→zad τ
 | some d=>(d,.un)::E
 | none=>E
def putT (v:XV τ) (E:zad τ):Option Nat→zad τ
 | some d=>(d,v)::E
 | none=>E
def zwV (g:List (XV τ)) (l:List Oper) (d:Option Nat) (E:zad τ):zad τ:=match g with
 | [x]=>match d with
  | some d=>(20000+d,x)::E
  | none=>(30000+l.length%10000,x)::E
 | _=>E
def dstO (all:List Oper) (j:Nat):Option Nat:=match ziW all j with
 | some o=>o.dst
 | none=>none
def zxT (all:List Oper) (E:zad τ) (g:Option (Nat × Bool)) (run pass:zad τ→Option ρ):Option ρ:=hi <| match g with
 | none=>run E
 | some (j,w)=>match dstO all j with
  | some s=>bc (Nat.blt s gh) (match asc E s with
   | some .un=>pass E
   | some (.c (.k b))=>bc (b==w) (run E) (pass E)
   | some (.c (.b b))=>if b=true
    then bc w (run ((s,.c (.k true))::E)) (pass ((s,.c (.k true))::E))
    else bc w (pass ((s,.c (.k false))::E)) (run ((s,.c (.k false))::E))
   | _=>none) none
  | none=>none
def zC8 (l:List Oper) (d:Option Nat) (v:XV τ) (g:List (XV τ)) (E:zad τ):zad τ:=putT v (zwV g l d E) d
def dOk (n:Nat):Option Nat→Bool
 | some d=>Nat.blt d n
 | none=>true
abbrev OpF (τ:Nat→Type) (ρ:Type):=zad τ→Hp τ→Nat→Nx τ ρ→Op→Option ρ
def opsX (op:OpF τ ρ) (X:Cx τ) (all:List Oper):List Oper→zad τ→Hp τ→Nat→(zad τ→Hp τ→Nat→Option ρ)→Option ρ
 | [],E,L,nid,K=>K E L nid
 | o::l,E,L,nid,K=>bc (dOk X.n o.dst) (zxT all E o.guard
   (fun E=>op E L nid (fun v g U _ nid=>opsX op X all l (zC8 l o.dst v g E) (U++L) nid K) o.op)
   fun E=>opsX op X all l (unT E o.dst) L nid K) none
structure Dr where
 i:Nat
 d:Option Nat
 r:List Nat
 t:List Nat
 u:List Nat
def zxU:Operand→List Nat
 | .tmp t=>bif Nat.blt t gh then [t] else []
 | .global g=>[gb+g]
 | _=>[]
def rdO (o:Op):List Nat:=o.operands.toList.flatMap zxU
def gdR (all:List Oper):Option (Nat × Bool)→List Nat
 | some (j,_)=>match dstO all j with
  | some s=>bif Nat.blt s gh then [s] else []
  | none=>[]
 | none=>[]
def zeN (all:List Oper) (o:Oper):List Nat:=rdO o.op++gdR all o.guard
def zBh (P:List (List Nat)) (o:Oper):List Nat:=(o.after.toList.filter (Region.binds .any)).flatMap fun e=>e.on::(match ziW P e.on with
 | some l=>l
 | none=>[])
def zir:List (List Nat)→List Oper→List (List Nat)
 | P,[]=>P
 | P,o::l=>zir (P++[zBh P o]) l
def tied (P:List (List Nat)) (i j:Nat):Bool:=(match ziW P i with
 | some l=>mem l j
 | none=>false)||(match ziW P j with
 | some l=>mem l i
 | none=>false)
def meets (l m:List Nat):Bool:=match m with
 | []=>false
 | m=>anyR l fun i=>mem m i
def ztl (a b:Dr):Bool:=meets b.u a.t||(match b.d with
 | some d=>mem a.r d||(match a.d with
  | some e=>Nat.beq d e
  | none=>false)
 | none=>false)
def zvq (all:List Oper) (R:List Dr):Bool:=(fun P=>(zCL R fun a=>zCL R fun b=>Nat.beq a.i b.i||(match b.u with
 | [] => !(ztl a b)||tied P a.i b.i
 | _=>tied P a.i b.i || !(ztl a b)))&&(zCL R fun a=>match ziW P a.i with
 | some l=>l.all fun j=>Nat.blt j a.i
 | none=>false)) (zir [] all)
def zBi (op:OpF τ ρ) (X:Cx τ) (all:List Oper):Nat→List Oper→List Dr→zad τ→Hp τ→Nat→(zad τ→Hp τ→Nat→Option ρ)→Option ρ
 | _,[],R,E,L,nid,K=>hi <| bc (zvq all R) (K E L nid) none
 | i,o::l,R,E,L,nid,K=>bc (dOk X.n o.dst) (zxT all E o.guard
   (fun E=>op E L nid (fun v g U a nid=>zBi op X all (i+1) l (⟨i,o.dst,zeN all o,a++kys U,kys U⟩::R) (zC8 l o.dst v g E) (U++L) nid K) o.op)
   fun E=>zBi op X all (i+1) l (⟨i,o.dst,zeN all o,[],[]⟩::R) (unT E o.dst) L nid K) none
inductive Ex where
 | no
 | ex (id:Nat)
 | rt
abbrev Kx (τ:Nat→Type) (ρ:Type):=Ex→zad τ→Hp τ→Nat→Option ρ
abbrev Pl:=List (Nat × Ty)
abbrev Pl.ts (l:Pl):List Ty:=l.map (·.2)
inductive Hn (τ:Nat→Type) (ρ:Type) where
 | e
 | q (a b:Hn τ ρ)
 | n (k:Nat) (a:Hn τ ρ)
 | j (c:Pl) (al:List (Nat × Nat)) (f:DP τ c.ts→Option ρ) (a b:Hn τ ρ)
 | w (c:Pl) (al:List (Nat × Nat)) (f:Nat→DP τ c.ts→Option ρ) (a:Nat→Hn τ ρ)
def Hn.fst:Hn τ ρ→Hn τ ρ
 | .q a _=>a
 | _ => .e
def Hn.snd:Hn τ ρ→Hn τ ρ
 | .q _ b=>b
 | .n 1 a=>a
 | .n (k+2) a => .n (k+1) a
 | _ => .e
def Hn.sn2:Hn τ ρ→Hn τ ρ
 | .q _ b=>b
 | _ => .e
def leaf (G:Sig τ) (E:zad τ) (L:Hp τ):(l:Pl)→Rs (DP τ l.ts)
 | []=>some ((),[],[])
 | (t,ty)::l=>match asc E t with
  | some v=>match resX G L ty v with
   | some (x,a,m)=>match leaf G E L l with
    | some (p,b,c)=>some (.mk x p,a++b,m++c)
    | none=>none
   | none=>none
  | none=>none
def zyc:Option (XV τ)→Option (XV τ)→Bool
 | some (.c (.pt i 0)),some (.c (.pt j 0))=>Nat.beq i j
 | some (.c (.os i)),some (.c (.os j))=>Nat.beq i j
 | _,_=>false
def alV (E:zad τ) (L:Hp τ) (t:Nat):Option (XV τ):=match t/100000 with
 | 0=>asc E t
 | o+1=>match asc E (t%100000) with
  | some (.c (.pt i 0))=>match lk L i with
   | .blk _ cs=>match ziW cs o with
    | some c=>some (.c c)
    | none=>none
   | _=>none
  | _=>none
def alike (E:zad τ) (L:Hp τ) (al:List (Nat × Nat)):Bool:=al.all fun p=>Nat.blt (p.2%100000) 20000&&zyc (asc E p.1) (alV E L p.2)
def alias (E:zad τ) (L:Hp τ):List (Nat × Nat)→zad τ
 | []=>E
 | (s,t)::al=>match alV E L t with
  | some v=>(s,v)::alias E L al
  | none=>alias E L al
def zHS (G:Sig τ) (l:Pl) (al:List (Nat × Nat)) (f:DP τ l.ts→Option ρ) (E:zad τ) (L:Hp τ):Option ρ:=hi <| match leaf G E L l with
 | some (p,a,m)=>bc (nod a&&zy8 a m&&alike E L al) (f p) none
 | none=>none
def zC9 (G:Sig τ):(l:Pl)→DP τ l.ts→Nat→zad τ × Hp τ × Nat
 | [],_,nid=>([],[],nid)
 | (t,ty)::l,p,nid=>match zJB G ty p.hd nid with
  | (v,U,nid)=>match zC9 G l p.tl nid with
   | (E,L,nid)=>((t,v)::E,U++L,nid)
def zDa {σ:Type} (G:Sig τ) (l:Pl) (al:List (Nat × Nat)) (p:DP τ l.ts) (K:zad τ→Hp τ→Nat→σ):σ:=hi <| match zC9 G l p 0 with
 | (E,L,nid)=>K (alias E L al++glE G.gl) L nid
def lpU (run:Hn τ ρ→zad τ→Hp τ→Nat→Kx τ ρ→Option ρ):Hn τ ρ→zad τ→Hp τ→Nat→Kx τ ρ→Option ρ
 | .q a b,E,L,nid,K=>run a E L nid fun e E L nid=>match e with
  | .no=>lpU run b E L nid K
  | e=>K e E L nid
 | _,_,_,_,_=>hi none
def exX (op:OpF τ ρ) (X:Cx τ):Code→Hn τ ρ→zad τ→Hp τ→Nat→Kx τ ρ→Option ρ
 | .skip,_,E,L,nid,K=>K .no E L nid
 | .region _ ⟨l⟩ d,_,E,L,nid,K=>bc d (zBi op X l 0 l [] E L nid (K .no)) (opsX op X l l E L nid (K .no))
 | .seq x y,h,E,L,nid,K=>match h with
  | .j l al f a _=>exX op X x a E L nid fun e E L nid=>match e with
   | .no=>zHS X.G l al f E L
   | e=>K e E L nid
  | h=>exX op X x h.fst E L nid fun e E L nid=>match e with
   | .no=>exX op X y h.snd E L nid K
   | e=>K e E L nid
 | .cond c x y,h,E,L,nid,K=>match evC E c with
  | some (.k b)=>bc b (exX op X x h.fst E L nid K) (exX op X y h.sn2 E L nid K)
  | some (.b b)=>match c with
   | .tmp s=>if b=true then exX op X x h.fst ((s,.c (.k true))::E) L nid K else exX op X y h.sn2 ((s,.c (.k false))::E) L nid K
   | _=>none
  | _=>none
 | .block id c,h,E,L,nid,K=>exX op X c h E L nid fun e E L nid=>match e with
  | .ex i=>bc (Nat.beq i id) (K .no E L nid) (K (.ex i) E L nid)
  | e=>K e E L nid
 | .loop c,h,E,L,nid,K=>match h with
  | .w l al f _=>zHS X.G l al (f fuel) E L
  | h=>lpU (fun h E L nid K=>exX op X c h E L nid K) h E L nid K
 | .exit id,_,E,L,nid,K=>K (.ex id) E L nid
 | .ret,_,E,L,nid,K=>K .rt E L nid
 | _,_,_,_,_,_=>none
def Hn.ty:Hn τ ρ→Type
 | .e=>Unit
 | .q a b=>a.ty × b.ty
 | .n _ a=>a.ty
 | .j c _ _ a b=>(DP τ c.ts→Option ρ) × a.ty × b.ty
 | .w c _ _ a=>(Nat→DP τ c.ts→Option ρ) × (DP τ c.ts→Option ρ) × (∀n,(a n).ty)
def Hn.giv:(h:Hn τ ρ)→h.ty
 | .e=>()
 | .q a b=>(a.giv,b.giv)
 | .n _ a=>a.giv
 | .j _ _ f a b=>(f,a.giv,b.giv)
 | .w _ _ f a=>(fun n t=>f (n+1) t,fun t=>f 0 t,fun n=>(a n).giv)
def zKz (op:OpF τ ρ) (X:Cx τ) (y:Code) (h:Hn τ ρ) (K:Kx τ ρ):Kx τ ρ:=fun e E L nid=>hi <| match e with
 | .no=>exX op X y h E L nid K
 | e=>K e E L nid
def zHT (X:Cx τ) (l:Pl) (al:List (Nat × Nat)) (f:DP τ l.ts→Option ρ) (K:Kx τ ρ):Kx τ ρ:=fun e E L nid=>hi <| match e with
 | .no=>zHS X.G l al f E L
 | e=>K e E L nid
def blkK (id:Nat) (K:Kx τ ρ):Kx τ ρ:=fun e E L nid=>hi <| match e with
 | .ex i=>bc (Nat.beq i id) (K .no E L nid) (K (.ex i) E L nid)
 | e=>K e E L nid
def lpK (run:Hn τ ρ→zad τ→Hp τ→Nat→Kx τ ρ→Option ρ) (b:Hn τ ρ) (K:Kx τ ρ):Kx τ ρ:=fun e E L nid=>hi <| match e with
 | .no=>lpU run b E L nid K
 | e=>K e E L nid
def lpR (run:Hn τ ρ→zad τ→Hp τ→Nat→Kx τ ρ→Option ρ) (c:(h:Hn τ ρ)→Kx τ ρ→h.ty):(h:Hn τ ρ)→Kx τ ρ→h.ty
 | .q a b,K=>(c a (lpK run b K),lpR run c b K)
 | h,_=>h.giv
def zis (op:OpF τ ρ) (X:Cx τ):Code→(h:Hn τ ρ)→Kx τ ρ→h.ty
 | .seq x y,.q a b,K=>(zis op X x a (zKz op X y b K),zis op X y b K)
 | .seq x y,.n k a,K=>match k with
  | 0=>a.giv
  | 1=>zis op X y a K
  | k+2=>zis op X y (.n (k+1) a) K
 | .seq x y,.j l al f a b,K=>(fun t=>zDa X.G l al t fun E L nid=>exX op X y b E L nid K,zis op X x a (zHT X l al f K),zis op X y b K)
 | .cond _ x y,.q a b,K=>(zis op X x a K,zis op X y b K)
 | .block id c,h,K=>zis op X c h (blkK id K)
 | .loop c,.w l al f a,K=>(fun n t=>zDa X.G l al t fun E L nid=>exX op X c (a n) E L nid (zHT X l al (f n) K),fun _=>none,fun n=>zis op X c (a n) (zHT X l al (f n) K))
 | .loop c,.q a b,K=>lpR (fun h E L nid K=>exX op X c h E L nid K) (fun h K=>zis op X c h K) (.q a b) K
 | _,h,_=>h.giv
def ztm (X:Cx τ) (E:zad τ) (L:Hp τ):List ResultVar→Option (List (XV τ))
 | []=>some []
 | .tmp t::rs=>bc (Nat.blt t gh) (match asc E t with
  | some v=>match ztm X E L rs with
   | some vs=>some (v::vs)
   | none=>none
  | none=>none) none
 | .cell t ty::rs=>bc (Nat.blt t gh) (match asc E t with
  | some (.c (.pt id 0))=>match lk L id with
   | .blk _ cs=>match szO X.P ty with
    | some n=>match zHQ X.P ty (cutL cs 0 n) with
     | some v=>match ztm X E L rs with
      | some vs=>some (v::vs)
      | none=>none
     | none=>none
    | none=>none
   | _=>none
  | _=>none) none
def zDb (E:zad τ):List Nat→Option (List (XV τ))
 | []=>some []
 | j::a=>bc (Nat.blt j gh) (match asc E (gh+j) with
  | some v=>match zDb E a with
   | some vs=>some (v::vs)
   | none=>none
  | none=>none) none
def retK (X:Cx τ) (k:Con τ) (rv:List ResultVar):Kx τ (DP τ k.rs):=fun e E L _=>hi <| match e with
 | .ex _=>none
 | _=>match ztm X E L rv with
  | some vs=>match zDb E k.bk with
   | some a=>match zti X.G L k.rs (vs++a) with
    | some (p,l,m)=>bc (Nat.beq vs.length k.nr&&(nod l&&zy8 l m)) (some p) none
    | none=>none
   | none=>none
  | none=>none
def gho (E:zad τ):List Nat→zad τ
 | []=>[]
 | j::a=>match asc E (j%32) with
  | some v=>match zOO v (j/32) with
   | some c=>bif Nat.blt j gh then (gh+j,.c c)::gho E a else gho E a
   | none=>gho E a
  | none=>gho E a
def zDc (G:Sig τ):(i:Nat)→(ts:List Ty)→DP τ ts→Nat→zad τ × Hp τ × Nat
 | _,[],_,nid=>([],[],nid)
 | i,t::ts,p,nid=>match zJB G t p.hd nid with
  | (v,U,nid)=>match zDc G (i+1) ts p.tl nid with
   | (E,L,nid)=>((i,v)::E,U++L,nid)
def entX (X:Cx τ) (k:Con τ) (op:OpF τ (DP τ k.rs)) (c:Code) (rv:List ResultVar) (h:Hn τ (DP τ k.rs)) (p:DP τ k.ps):Option (DP τ k.rs):=match zDc X.G 0 k.ps p 0 with
 | (E,L,nid)=>exX op X c h ((gho E k.bk++E)++glE X.G.gl) L nid (retK X k rv)
def zui (X:Cx τ) (k:Con τ) (c:Code) (rv:List ResultVar) (h:Hn τ (DP τ k.rs)) (op:(Nat→Value)→OpF τ (DP τ k.rs):=fun fx=>opX (X.w fx)):Prop:=(fun (_:Nat→Value)=>(k.m,h.giv))=fun fx=>(entX (X.w fx) k (op fx) c rv h,zis (op fx) (X.w fx) c h (retK (X.w fx) k rv))
end
end Go.Rk
end
