/- Walks by evaluation: operations that turn nothing. Over any program. Walks by evaluation: each operation that turns noth -/
import Derived.Test.YtkbigjfhddediaaGreatDoorYRun
import Derived.Test.YtkbigjfhddediaaGreatDoorP0
set_option linter.unusedVariables false
set_option linter.unusedSimpArgs false
section
namespace Go.Rk
open Go.RowKit Go.Dm Go.Dk
variable {τ:Nat→Type}
variable {P:Program}
def zke:XV τ→Bool
 | .gv _ _=>true
 | _=>false
section
variable (X:Cx τ) (h:Fz) (ν:Vn τ) (a:Act)
def zjS (t:Nat) (x:XV τ):Prop:=∃v,XOk X.P X.G h ν x v∧(Nat.blt t gh=true→zke x=false→a.tmps[t]? = some v)∧(gb≤t→v=ptr (t-gb) 0)∧(gh≤t→t<20000→v=X.fx (t-gh))
def zew (r:List Nat) (E:zad τ):Prop:=∀t∈r, ∀x,asc E t=some x→zjS X h ν a t x
end
structure TyOk (X:Cx τ):Prop where
 el:∀p∈X.ty, ∃i z,X.P.info? p.1=some i∧i.zero=some z∧i.size=(ets X.G p.2).length∧z.cells.size=i.size∧0<i.size
 eq:∀t n,asc X.ty t=some (.st n)→(X.G.fs n).all zhH=true→∀(p q:DP τ (X.G.fs n)) (h:Fz) (xs ys:List Value),RpL X.P X.G h (X.G.fs n) p xs→RpL X.P X.G h (X.G.fs n) q ys →
  X.P.eqGuardType X.P.depth t=false∧∀w,(Op.equalIn 10000 t (.agg ⟨xs⟩) (.agg ⟨ys⟩)).run X.P w = .ok (X.G.eq n (X.G.ctor n p) (X.G.ctor n q)) w
theorem zm0 {α:Type}:∀{l:List (Nat × α)} {t:Nat} {v:α},asc l t=some v→(t,v)∈l
 | [],_,_,h=>by cases h
 | (k,u)::l,t,v,h=>by
  simp only [zdG,zcl] at h
  by_cases e:Nat.beq k t=true
  ·simp only [e,cond_true,Option.some.injEq] at h
   have:k=t:=by simpa using e
   subst this; subst h;exact List.mem_cons_self ..
  ·simp only [e] at h;exact List.mem_cons_of_mem _ (zm0 h)
theorem zgC {α:Type}:∀(l:List α) (n:Nat),ziw l n=l[n]?
 | [],_=>by simp [ziw]
 | _::_,0=>by simp [ziw]
 | _::l,n+1=>by simp [ziw,zgC l n]
theorem zd4 (a:Act) (hd:a.defers=[]):∃E,Fits a.tmps.size E a∧∀t,Dk.look E t=a.tmps[t]? := by
 have key:∀(l:List Value) (k t:Nat),Dk.look (params k l) t=if k≤t then l[t-k]? else none:=by
  intro l
  induction l with
  | nil=>intro k t; simp [params,Dk.look]
  | cons v l c =>
   intro k t;simp only [params,Dk.look]
   by_cases e:k=t
   ·subst e; simp
   ·rw [zcx.2 e,cond_false,c]
    by_cases h:k≤t
    ·rw [if_pos (by omega),if_pos h,show t-k=(t-(k+1))+1 by omega,List.getElem?_cons_succ]
    ·rw [if_neg (by omega),if_neg h]
 have b:∀t,Dk.look (params 0 a.tmps.toList) t=a.tmps[t]? := by intro t; rw [key]; simp
 exact ⟨_,⟨hd,rfl,fun t v h=>by rw [← b]; exact h⟩,b⟩
section
variable {X:Cx τ} {h:Fz} {ν:Vn τ} {a:Act} {E:zad τ} {w:World}
theorem zew.op {o:Op} (c:zew X h ν a (rdO o) E) {x:Operand} (b:x∈o.operands.toList):zew X h ν a (zxy x) E :=
 fun t d=>c t (List.mem_flatMap.2 ⟨x,b,d⟩)
theorem zNs {v:Value} {c:CV τ} (e:cvV v=some c):zc9 X.P X.G h ν c v:=by
 unfold cvV at e
 split at e
 ·cases e; rfl
 ·cases e; rfl
 ·rename_i n
  by_cases hn:Nat.blt n 256=true
  ·rw [hn] at e; cases e
   have:n<256:=by simpa using hn
   show _=Value.int .u8 _;simp [UInt8.toNat_ofNat',Nat.mod_eq_of_lt this]
  ·simp only [Bool.not_eq_true] at hn; rw [hn] at e; cases e
 ·rename_i n
  by_cases hn:Nat.blt n 65536=true
  ·rw [hn] at e; cases e
   have:n<65536:=by simpa using hn
   show _=Value.int .u16 _;simp [UInt16.toNat_ofNat',Nat.mod_eq_of_lt this]
  ·simp only [Bool.not_eq_true] at hn; rw [hn] at e; cases e
 ·cases e; rfl
 ·cases e; rfl
 ·cases e; rfl
 ·cases e; rfl
 ·cases e; rfl
 ·cases e
theorem zzt:∀{vs:List Value} {cs:List (CV τ)},cvVs vs=some cs→CVs X.P X.G h ν cs vs
 | [],cs,e=>by cases e; rfl
 | v::vs,cs,e=>by
  unfold cvVs at e
  split at e
  ·rename_i c hc
   split at e
   ·rename_i b a
    cases e;exact ⟨v,vs,rfl,zNs hc,zzt a⟩
   ·cases e
  ·cases e
theorem znJ {i:Env} (j:∀t,Dk.look i t=a.tmps[t]?) {x:Operand} {b:XV τ} (f:zew X h ν a (zxy x) E) (e:evX E x=some b) (k:zke b=false):∃v,evl i x=some v∧XOk X.P X.G h ν b v:=by
 unfold evX at e
 split at e
 ·rename_i t
  by_cases d:Nat.blt t gh=true
  ·rw [d] at e;obtain ⟨v,h1,h2,_⟩:=f t (by simp [zxy,d]) b e;exact ⟨v,(j t).trans (h2 d k),h1⟩
  ·simp only [Bool.not_eq_true] at d; rw [d] at e; cases e
 ·rename_i v
  split at e
  ·rename_i c hc
   cases e;exact ⟨v,rfl,zNs hc⟩
  ·cases e
 ·cases e;exact ⟨_,rfl,rfl⟩
 ·rename_i g
  obtain ⟨v,h1,_,h2,_⟩:=f (gb+g) (List.mem_singleton.2 rfl) b e;rw [h2 (Nat.le_add_right ..),Nat.add_sub_cancel_left] at h1;exact ⟨_,rfl,h1⟩
theorem zrK (hd:a.defers=[]) {x:Operand} {b:XV τ} (d:zew X h ν a (zxy x) E) (e:evX E x=some b):XOk X.P X.G h ν b (a.eval x):=by
 cases hg:zke b with
 | true =>
  cases b with
  | gv t y=>trivial
  | _=>cases hg
 | false =>
  obtain ⟨g,f,c⟩:=zd4 a hd;obtain ⟨v,h1,h2⟩:=znJ c d e hg;rw [f.ev h1];exact h2
theorem zB {b:Env} (d:∀t,Dk.look b t=a.tmps[t]?) {x:Operand} {c:CV τ} (f:zew X h ν a (zxy x) E) (e:evC E x=some c):∃v,evl b x=some v∧zc9 X.P X.G h ν c v:=by
 unfold evC at e
 split at e
 ·rename_i g hc
  cases e;exact znJ d f hc rfl
 ·cases e
theorem CVs.len:∀{cs:List (CV τ)} {vs:List Value},CVs X.P X.G h ν cs vs→vs.length=cs.length
 | [],vs,e=>by cases e; rfl
 | _::_,_,⟨v,us,rfl,_,h2⟩=>by simp [CVs.len h2]
theorem CVs.get:∀{cs:List (CV τ)} {vs:List Value} {i:Nat} {c:CV τ},CVs X.P X.G h ν cs vs→cs[i]? = some c→∃v,vs[i]? = some v∧zc9 X.P X.G h ν c v
 | [],_,_,_,_,hc=>by simp at hc
 | _::_,_,0,_,⟨v,us,rfl,h1,_⟩,hc=>by simp at hc; subst hc; exact ⟨v,by simp,h1⟩
 | _::_,_,i+1,_,⟨v,us,rfl,_,h2⟩,hc=>by
  simp at hc;obtain ⟨u,a,b⟩:=CVs.get h2 hc;exact ⟨u,by simpa using a,b⟩
theorem TVs.get:∀{cs:List (Bool × List (CV τ))} {vs:List Value} {i:Nat} {b:Bool} {l:List (CV τ)},TVs X.P X.G h ν cs vs→cs[i]? = some (b,l) →
  ∃v,vs[i]? = some v∧((b=true∧∃a,v = .agg ⟨a⟩∧CVs X.P X.G h ν l a)∨(b=false∧∃c,l=[c]∧zc9 X.P X.G h ν c v))
 | [],_,_,_,_,_,hc=>by simp at hc
 | (false,[c])::_,_,0,_,_,⟨v,us,rfl,h1,_⟩,hc=>by simp at hc; obtain ⟨rfl,rfl⟩:=hc; exact ⟨v,by simp,.inr ⟨rfl,c,rfl,h1⟩⟩
 | (true,l)::_,_,0,_,_,⟨a,us,rfl,h1,_⟩,hc=>by simp at hc; obtain ⟨rfl,rfl⟩:=hc; exact ⟨.agg ⟨a⟩,by simp,.inl ⟨rfl,a,rfl,h1⟩⟩
 | (false,[_])::_,_,i+1,_,_,⟨v,us,rfl,_,h2⟩,hc=>by
  simp at hc;obtain ⟨u,d,f⟩:=TVs.get h2 hc;exact ⟨u,by simpa using d,f⟩
 | (true,_)::_,_,i+1,_,_,⟨a,us,rfl,_,h2⟩,hc=>by
  simp at hc;obtain ⟨u,d,f⟩:=TVs.get h2 hc;exact ⟨u,by simpa using d,f⟩
 | (false,[])::_,_,_,_,_,e,_=>e.elim
 | (false,_::_::_)::_,_,_,_,_,e,_=>e.elim
theorem CVs.cut:∀{n o:Nat} {cs l:List (CV τ)} {vs:List Value},CVs X.P X.G h ν cs vs→cutL cs o n=some l→CVs X.P X.G h ν l ((vs.drop o).take n)∧o+n≤vs.length+(if n=0 then o else 0)
 | 0,o,cs,l,vs,b,e=>by cases e; exact ⟨by simp [CVs],by simp⟩
 | n + 1,o,cs,l,vs,b,e=>by
  unfold cutL at e
  split at e
  ·rename_i c hc
   split at e
   ·rename_i r f
    cases e;rw [zgC] at hc;obtain ⟨v,h1,h2⟩:=b.get hc;obtain ⟨d,g⟩:=CVs.cut b f;have a:o<vs.length:=(List.getElem?_eq_some_iff.1 h1).1;refine ⟨⟨v,_,?_,h2,d⟩,?_⟩
    ·rw [List.drop_eq_getElem_cons a,List.take_succ_cons,(List.getElem?_eq_some_iff.1 h1).2]
    ·split at g
     ·omega
     ·rw [if_neg (by omega)]; omega
   ·cases e
  ·cases e
theorem zf4 {t:TypeId} {n:Nat} (e:szO P t=some n):znB P t=some n:=by
 unfold szO at e;unfold znB
 split at e
 ·rename_i i hi; rw [hi]; exact e
 ·cases e
theorem zKp {t i f ft:Nat} (e:zG0 P t i=some (f,ft)):∃fs a,P.underlying t=some (.struct fs)∧fs[i]? = some a∧a.offset=f∧a.type=ft∧∃n,znB P ft=some (n+1):=by
 unfold zG0 at e
 split at e
 ·rename_i fs b
  split at e
  ·rename_i a hn
   split at e
   ·rename_i n c
    cases e;rw [zgC] at hn;exact ⟨⟨fs⟩,a,b,by simpa using hn,rfl,rfl,n,zf4 c⟩
   ·cases e
  ·cases e
 ·cases e
theorem zzu:∀{o:Nat} {cs b a:List (CV τ)} {us vs:List Value},CVs X.P X.G h ν cs us→CVs X.P X.G h ν b vs→zwd cs o b=some a →
  o+vs.length≤us.length∧CVs X.P X.G h ν a (us.take o++vs++us.drop (o+vs.length))
 | 0,cs,b,a,us,vs,hc,d,e=>by
  unfold zwd at e;have:=go hc d e;simpa using this
 | o+1,c::cs,b,a,_,vs,⟨u,us,rfl,h1,h2⟩,d,e=>by
  unfold zwd at e
  split at e
  ·rename_i r g
   cases e;obtain ⟨i,f⟩:=zzu h2 d g;refine ⟨by simp; omega,u,_,?_,h1,f⟩;rw [show o+1+vs.length=(o+vs.length)+1 by omega];simp
  ·cases e
 | o+1,[],b,a,us,vs,hc,d,e=>by simp [zwd] at e
where
 go:∀{cs b a:List (CV τ)} {us vs:List Value},CVs X.P X.G h ν cs us→CVs X.P X.G h ν b vs→zwd.go cs b=some a→vs.length≤us.length∧CVs X.P X.G h ν a (vs++us.drop vs.length)
 | cs,[],a,us,vs,hc,d,e=>by
  obtain rfl:vs=[]:=d;simp [zwd.go] at e;subst e;exact ⟨by simp,by simpa using hc⟩
 | c::cs,w::b,a,_,_,⟨u,us,rfl,h1,h2⟩,⟨v,vs,rfl,i,f⟩,e=>by
  simp only [zwd.go] at e
  split at e
  ·rename_i r g
   cases e;obtain ⟨k,j⟩:=go h2 f g;exact ⟨by simp; omega,v,_,by simp,i,j⟩
  ·cases e
 | [],w::b,a,us,vs,hc,d,e=>by simp [zwd.go] at e
theorem zxk {t:TypeId} {b:Bool} (e:isA P t=some b):zF5 P t=some b:=by
 unfold isA at e;unfold zF5
 split at e<;>first|(cases e; done)|(rename_i a; rw [a]; simpa using e)
end
end Go.Rk
end
section
namespace Go.Rk
open Go.RowKit Go.Dm Go.Dk
variable {τ:Nat→Type}
variable {v:Value}
section
variable {X:Cx τ} {h:Fz} {ν:Vn τ} {a:Act} {E:zad τ} {Ea:Env} {N:Nat} {w:World} {x y:Operand} {dst:Option Nat} {t t' ty:Nat} {p:String} {af:Array Edge} {gd:Option (Nat × Bool)}
theorem lok0:∀{d:Nat} {t:Ty} {c:CV τ} {x:t.den τ} {v:Value} {m:List Nat},zhH t=true→lok X.G [] d t c=some (x,m)→zc9 X.P X.G h ν c v→Rp X.P X.G h t x v:=by
 intro d t c x v m a e b
 cases d with
 | zero=>cases e
 | succ d =>
  unfold lok at e
  cases t<;>first|(cases a; done)|(dsimp only at e; split at e<;>first|(cases e; done)|(cases e; cases b; constructor))
theorem zNA {d:Nat}:∀{ts:List Ty} {cs:List (CV τ)} {q:DP τ ts} {vs:List Value} {m:List Nat},ts.all zhH=true→zxw (lok X.G [] d) ts cs=some (q,m)→CVs X.P X.G h ν cs vs→RpL X.P X.G h ts q vs
 | [],[],q,vs,_,_,e,f=>by cases e; cases f; exact .nil
 | t::ts,c::cs,q,_,_,a,e,⟨v,us,rfl,h1,h2⟩=>by
  simp only [List.all_cons,Bool.and_eq_true] at a;unfold zxw at e
  split at e
  ·rename_i x m g
   split at e
   ·rename_i i j b
    cases e;refine .cons t ts _ v us ?_ ?_
    ·rw [DP.hd_mk]; exact lok0 a.1 g h1
    ·rw [DP.tl_mk]; exact zNA a.2 b h2
   ·cases e
  ·cases e
 | [],_::_,_,_,_,_,e,_=>by cases e
 | _::_,[],_,_,_,_,e,_=>by cases e
theorem zAj {o:Option Bool} {v:XV τ} (e:obX o=some v):∃b,o=some b∧v = .c (.b b):=by
 cases o with
 | none=>cases e
 | some b=>cases e; exact ⟨b,rfl,rfl⟩
theorem zEl {o:Option Bool} {v:XV τ} (e:okX o=some v):∃b,o=some b∧v = .c (.k b):=by
 cases o with
 | none=>cases e
 | some b=>cases e; exact ⟨b,rfl,rfl⟩
theorem zNB {c:CV τ} (e:adC c=true) (hc:zc9 X.P X.G h ν c v):∃ad,v = .pointer (some ad):=by
 cases c with
 | ea t z o=>obtain ⟨b,k,vs,rfl,_⟩:=hc; exact ⟨_,rfl⟩
 | oe i k m t z o=>obtain ⟨b,d,n,c,q,xs,u,_,_,_,rfl⟩:=hc; exact ⟨_,rfl⟩
 | _=>cases e
theorem zGL {c:CV τ} {b:Bool} (e:zN7 c=some b) (hc:zc9 X.P X.G h ν c v):v = .bool b:=by
 cases c with
 | b x=>cases e; exact hc
 | k x=>cases e; exact hc
 | _=>cases e
theorem zP8 (F:TyOk X) (f:Fits N Ea a) {o:BinOp} {A B v:XV τ} {l k:Value} (d:evl Ea x=some l) (c:evl Ea y=some k) (g:XOk X.P X.G h ν A l) (j:XOk X.P X.G h ν B k)
  (e:binX X o t' A B=some v):∃u,(∀w,(execOp a.eval ⟨dst,.binOp o t' x y ty,t,p,af,gd⟩).run X.P w = .ok (.value u) w)∧XOk X.P X.G h ν v u:=by
 unfold binX at e
 split at e
 ·obtain rfl:l=_:=g;obtain rfl:k=_:=j;obtain ⟨b,h1,rfl⟩:=zAj e
  cases o<;>first|(cases h1; done)|skip
  all_goals cases h1
  ·exact ⟨_,fun w=>ex_eql f d c,rfl⟩
  ·exact ⟨_,fun w=>zMC f d c,rfl⟩
  ·exact ⟨_,fun w=>ex_lss f d c,rfl⟩
  ·exact ⟨_,fun w=>ex_leq f d c,rfl⟩
  ·exact ⟨_,fun w=>ex_gtr f d c,rfl⟩
  ·exact ⟨_,fun w=>ex_geq f d c,rfl⟩
 ·obtain rfl:l=_:=g;obtain rfl:k=_:=j
  split at e
  ·cases e; exact ⟨_,fun w=>zMJ f d c,rfl⟩
  ·cases e; exact ⟨_,fun w=>zMK f d c,rfl⟩
  ·obtain ⟨b,h1,rfl⟩:=zAj e
   cases o<;>first|(cases h1; done)|skip
   all_goals cases h1
   ·exact ⟨_,fun w=>zMD f d c,rfl⟩
   ·exact ⟨_,fun w=>zME f d c,rfl⟩
   ·exact ⟨_,fun w=>zMF f d c,rfl⟩
   ·exact ⟨_,fun w=>zMG f d c,rfl⟩
   ·exact ⟨_,fun w=>zMH f d c,rfl⟩
   ·exact ⟨_,fun w=>zMI f d c,rfl⟩
 ·obtain rfl:l=_:=g;obtain rfl:k=_:=j
  split at e
  ·cases e; exact ⟨_,fun w=>zM2 f d c,rfl⟩
  ·cases e
   rename_i m n _
   refine ⟨_,fun w=>zMC f d c,?_⟩;show Value.bool _ = .bool _
   have:((m.toNat:Int)==(n.toNat:Int))=(m==n):=by
    rw [Bool.eq_iff_iff];simp only [beq_iff_eq];exact ⟨fun e=>UInt16.toNat_inj.1 (by omega),fun e=>by rw [e]⟩
   rw [this]
  ·cases e
 ·obtain rfl:l=_:=g;obtain rfl:k=_:=j;obtain ⟨b,h1,rfl⟩:=zAj e
  cases o<;>first|(cases h1; done)|skip
  all_goals cases h1
  ·exact ⟨_,fun w=>zMN f d c,rfl⟩
  ·exact ⟨_,fun w=>zMO f d c,rfl⟩
  ·exact ⟨_,fun w=>zMR f d c,rfl⟩
  ·exact ⟨_,fun w=>zMS f d c,rfl⟩
  ·exact ⟨_,fun w=>zMT f d c,rfl⟩
  ·exact ⟨_,fun w=>zMU f d c,rfl⟩
 ·obtain rfl:l=_:=g;obtain rfl:k=_:=j
  split at e
  ·rename_i i
   obtain ⟨b,h1,rfl⟩:=zEl e
   cases o<;>first|(cases h1; done)|skip
   all_goals cases h1
   ·exact ⟨_,fun w=>zDa i f d c,rfl⟩
   ·exact ⟨_,fun w=>zDb i f d c,rfl⟩
  ·cases e
 ·obtain rfl:k=_:=j
  split at e
  ·rename_i i
   cases s:adC (τ:=τ) ‹_› with
   | false=>rw [s] at e; cases e
   | true =>
    rw [s] at e;obtain ⟨ad,rfl⟩:=zNB s g;obtain ⟨b,h1,rfl⟩:=zEl e
    cases o<;>first|(cases h1; done)|skip
    all_goals cases h1
    ·exact ⟨_,fun w=>zC8 i f d c,rfl⟩
    ·exact ⟨_,fun w=>zC9 i f d c,rfl⟩
  ·cases e
 ·split at e
  ·rename_i z
   split at e
   ·rename_i D
    split at e
    ·rename_i i
     obtain rfl:=zGL z g;obtain rfl:=zGL D j;obtain ⟨b,h1,rfl⟩:=zAj e
     cases o<;>first|(cases h1; done)|skip
     all_goals cases h1
     ·exact ⟨_,fun w=>zML i f d c,rfl⟩
     ·exact ⟨_,fun w=>zMM i f d c,rfl⟩
    ·cases e
   ·cases e
  ·cases e
 ·split at e
  ·rename_i n hn
   cases r:(X.G.fs n).all zhH with
   | false=>rw [r] at e; cases e
   | true =>
    rw [r] at e;dsimp only [cond_true] at e
    split at e
    ·rename_i q H
     split at e
     ·rename_i I C
      obtain ⟨xs,rfl,s⟩:=g;obtain ⟨ys,rfl,z⟩:=j;obtain ⟨h1,h2⟩:=F.eq t' n hn r q I h xs ys (zNA r H s) (zNA r C z);obtain ⟨b,E,rfl⟩:=zAj e
      cases o<;>first|(cases E; done)|skip
      all_goals cases E
      ·exact ⟨_,fun w=>zMP h1 h2 f d c,rfl⟩
      ·exact ⟨_,fun w=>zMQ h1 h2 f d c,rfl⟩
     ·cases e
    ·cases e
  ·cases e
 ·cases e
theorem zP9 {o:BinOp} {A B v:XV τ} (e:binX X o t A B=some v):zke A=false∧zke B=false:=by
 unfold binX at e
 split at e<;>first|exact ⟨rfl,rfl⟩|cases e
theorem zNC (m:Fits N Ea a) {c:CV τ} {v:XV τ} {g:Value} (j:evl Ea x=some g) (i:zc9 X.P X.G h ν c g) {s:Nat} (A:h.on w)
  (e:zOa X.P s t' c=some v):∃u,(execOp a.eval ⟨dst,.convert s t' x,t,p,af,gd⟩).run X.P w = .ok (.value u) w∧XOk X.P X.G h ν v u:=by
 unfold zOa at e
 split at e
 ·obtain rfl:g=_:=i
  split at e
  ·rename_i hd
   split at e
   ·rename_i d
    cases e;exact ⟨_,zw8 hd d (zM0 _) m j,rfl⟩
   ·cases e
  ·cases e
 ·obtain rfl:g=_:=i
  split at e
  ·rename_i hd
   split at e
   ·rename_i d
    cases e;exact ⟨_,zw8 hd d (zPI _) m j,rfl⟩
   ·cases e
  ·cases e
 ·obtain rfl:g=_:=i
  split at e
  ·rename_i hd
   split at e
   ·rename_i d
    cases e;exact ⟨_,zLc hd d m j,rfl⟩
   ·cases e
  ·cases e
 ·obtain rfl:g=_:=i
  split at e
  ·rename_i hd
   split at e
   ·rename_i d
    cases e;exact ⟨_,zLd hd d m j,rfl⟩
   ·cases e
  ·cases e
 ·split at e
  ·rename_i hd
   split at e
   ·rename_i D d
    split at e
    ·rename_i r
     cases e;obtain ⟨ad,k,vs,n,f,hc⟩:=slU8 i;subst n;exact ⟨_,zBy (en:=fun b=>[zct b]) (fun _=>rfl) hd d r (f.sees A) m j,rfl⟩
    ·cases e
   ·cases e
  ·cases e
 ·cases e
where
 slU8 {l:List UInt8} {v:Value} (z:Rp X.P X.G h (.sl .u8) l v):∃ad k vs,v = .slice ad l.length k∧zqo h ad (cells (fun b=>[zct b]) l)∧vs=():=by
  cases z with
  | sl e xs ad c vs hc d o =>
   refine ⟨ad,c,(),rfl,?_,rfl⟩
   suffices vs=cells (fun b=>[zct b]) l by rw [← this]; exact d
   clear d hc
   induction l generalizing vs with
   | nil=>cases o; rfl
   | cons b l C =>
    cases o with
    | cons _ _ _ us E h1 h2 =>
     have q:=C _ h2
     cases h1 with
     | cons _ _ _ v vs y B =>
      cases B;cases y;subst q;rfl
theorem zc9.one {c:CV τ} (a:zc9 X.P X.G h ν c v):v.oneCell'=true∧v.cells = #[v]:=by
 cases c with
 | sl e xs=>cases a; exact ⟨rfl,rfl⟩
 | os i=>obtain ⟨ad,n,c,q,_,rfl⟩:=a; exact ⟨rfl,rfl⟩
 | pt i o=>obtain ⟨u,q,_,rfl,_⟩:=a; cases u<;>exact ⟨rfl,rfl⟩
 | ea t z o=>obtain ⟨b,k,vs,rfl,_⟩:=a; exact ⟨rfl,rfl⟩
 | oe i k m t z o=>obtain ⟨b,d,n,c,q,xs,j,_,_,_,rfl⟩:=a; exact ⟨rfl,rfl⟩
 | mf f=>cases a; exact ⟨rfl,rfl⟩
 | mv f i=>obtain ⟨u,q,_,rfl⟩:=a; exact ⟨rfl,rfl⟩
 | mp i=>obtain ⟨b,q,_,rfl⟩:=a; exact ⟨rfl,rfl⟩
 | fm m=>cases a; exact ⟨rfl,rfl⟩
 | cf i=>obtain ⟨f,us,vs,q,_,rfl⟩:=a; exact ⟨rfl,rfl⟩
 | ep n x =>
  cases a with
  | pn0=>exact ⟨rfl,rfl⟩
  | pn1 _ x v g=>cases g; exact ⟨rfl,rfl⟩
 | bad=>exact a.elim
 | _=>cases a; exact ⟨rfl,rfl⟩
theorem CVs.one:∀{cs:List (CV τ)} {vs:List Value},CVs X.P X.G h ν cs vs→∀v∈vs,v.oneCell'=true
 | [],vs,e,v,a=>by cases e; cases a
 | c::cs,_,⟨u,us,rfl,h1,h2⟩,v,a=>by
  rcases List.mem_cons.1 a with rfl|a
  ·exact h1.one.1
  ·exact CVs.one h2 v a
theorem ztu {v:XV τ} {cs:List (CV τ)} {u:Value} (e:zsT v=some cs) (a:XOk X.P X.G h ν v u):∃us,u.cells=⟨us⟩∧CVs X.P X.G h ν cs us∧zke v=false:=by
 unfold zsT at e
 split at e
 ·rename_i c
  cases e;have a:zc9 X.P X.G h ν c u:=a;exact ⟨[u],a.one.2,⟨u,[],rfl,a,rfl⟩,rfl⟩
 ·rename_i l
  cases e;obtain ⟨vs,rfl,hc⟩:=a;exact ⟨vs,rfl,hc,rfl⟩
 ·cases e
theorem zsL:∀(vs us:List Value) (o k:Nat),o+k+vs.length≤us.length→((vs.zipIdx k).foldl (fun cs (q:Value × Nat)=>cs.setIfInBounds (o+q.2) q.1) us.toArray)=(us.take (o+k)++vs++us.drop (o+k+vs.length)).toArray
 | [],us,o,k,_=>by simp
 | v::vs,us,o,k,c=>by
  simp only [List.zipIdx_cons,List.foldl_cons,List.length_cons] at c ⊢
  have h1:us.toArray.setIfInBounds (o+k) v=(us.set (o+k) v).toArray:=by simp
  rw [h1,zsL vs (us.set (o+k) v) o (k+1) (by simp; omega)]
  have b:(us.take (o+k)).length=o+k:=by rw [List.length_take]; omega
  have h2:us.set (o+k) v=(us.take (o+k)++[v])++us.drop (o+k+1):=by rw [List.set_eq_take_append_cons_drop,if_pos (by omega)]; simp
  have a:(us.take (o+k)++[v]).length=o+(k+1):=by simp [b]; omega
  rw [h2,List.take_append_of_le_length (by omega),List.take_of_length_le (by omega),List.drop_append,List.drop_eq_nil_of_le (by omega),a,List.drop_drop];simp only [List.append_assoc,List.nil_append,List.cons_append];rw [show o+k+1+(o+(k+1)+vs.length-(o+(k+1)))=o+k+(vs.length+1) by omega]
theorem zDf {k:Nat→Option (Nat × Nat)} (hd:a.defers=[]):∀{ps:List (Nat × Operand)} {cs b:List (CV τ)} {us:List Value},zAx k E ps cs=some b→(∀q∈ps,zew X h ν a (zxy q.2) E)→CVs X.P X.G h ν cs us →
  ∃c,Instr.fill k us.toArray (ps.map fun q=>(q.1,a.eval q.2))=some c.toArray∧CVs X.P X.G h ν b c
 | [],cs,b,us,e,_,hc=>by cases e; exact ⟨us,rfl,hc⟩
 | (i,x)::ps,cs,b,us,e,l,hc=>by
  unfold zAx at e
  split at e
  ·rename_i o s f
   split at e
   ·rename_i v r
    split at e
    ·rename_i vs j
     cases d:Nat.beq vs.length s with
     | false=>rw [d] at e; cases e
     | true =>
      rw [d] at e;dsimp only [cond_true] at e
      split at e
      ·rename_i u hp
       obtain ⟨g,h1,h2,_⟩:=ztu j (zrK hd (l _ (List.mem_cons_self ..)) r);obtain ⟨A,n⟩:=zzu hc h2 hp;obtain ⟨c,w,y⟩:=zDf hd e (fun q p=>l q (List.mem_cons_of_mem _ p)) n;refine ⟨c,?_,y⟩
       have B:vs.length=s:=by simpa using d
       have C:=h2.len;have m:=zsL g us o 0 (by omega);simp only [Nat.add_zero] at m;simp only [List.map_cons,Instr.fill,f,h1];rw [if_neg (by simp; omega)]
       have t:(Array.zipIdx ⟨g⟩).foldl (fun cs (q:Value × Nat)=>cs.setIfInBounds (o+q.2) q.1) us.toArray=(g.zipIdx).foldl (fun cs (q:Value × Nat)=>cs.setIfInBounds (o+q.2) q.1) us.toArray:=by
        rw [← Array.foldl_toList]; simp
       refine Eq.trans (congrArg (fun z=>Instr.fill k z _) (t.trans m)) w
      ·cases e
    ·cases e
   ·cases e
  ·cases e
theorem zAk {P:Program}:∀{fs:List Field} {l:List (Nat × Nat)},zzy P fs=some l→fs.mapM (fun f=>(P.info? f.type).map fun i=>(f.offset,i.size))=some l
 | [],l,e=>by cases e; rfl
 | f :: fs,l,e=>by
  unfold zzy at e
  split at e
  ·rename_i s a
   split at e
   ·rename_i r b
    cases e;have h1:=zf4 a;unfold znB at h1
    cases hi:P.info? f.type with
    | none=>rw [hi] at h1; cases h1
    | some i =>
     rw [hi] at h1;cases h1;simp [List.mapM_cons,hi,zAk b]
   ·cases e
  ·cases e
theorem zAl {P:Program} {t:TypeId} {cs:List (CV τ)} (e:zAw P t=some cs):∃a z,P.info? t=some a∧a.zero=some z∧cvVs z.cells.toList=some cs:=by
 unfold zAw at e
 split at e
 ·rename_i a hi
  split at e
  ·rename_i z b
   exact ⟨a,z,hi,b,e⟩
  ·cases e
 ·cases e
theorem zND (hd:a.defers=[]) {z cs:List (CV τ)} {j:Nat→Option (Nat × Nat)} {ps:List (Nat × Operand)} (y:zAw X.P t'=some z) (hp:zJb X.P t'=some j) (e:zAx j E ps z=some cs)
  (v:∀q∈ps,zew X h ν a (zxy q.2) E):∃u,(∀w,(execOp a.eval ⟨dst,.build t' ⟨ps⟩,t,p,af,gd⟩).run X.P w = .ok (.value u) w)∧XOk X.P X.G h ν (.g cs) u:=by
 obtain ⟨H,z0,hi,d,hc⟩:=zAl y;obtain ⟨us,h1,h2⟩:=zDf hd e v (zzt hc)
 have m:z0.cells.toList.toArray=z0.cells:=by simp
 rw [m] at h1;refine ⟨.agg ⟨us⟩,fun w=>?_,us,rfl,h2⟩
 have k:X.P.built t' ((ps.map fun q=>(q.1,a.eval q.2)).toArray).toList=some us.toArray:=by
  unfold zJb at hp
  split at hp
  ·rename_i n o f
   split at hp
   ·rename_i s r
    cases hp;have c:=zf4 r;unfold znB at c
    cases b:X.P.info? o with
    | none=>rw [b] at c; cases c
    | some F =>
     rw [b] at c;cases c;simpa [Program.built,hi,f,d,b] using h1
   ·cases hp
  ·rename_i fs f
   split at hp
   ·rename_i l D
    cases hp
    have A:(l.toArray[·]?)=ziw l:=funext fun i=>by rw [zgC]; simp
    simp only [Program.built,hi,f,d,zAk D];rw [A];exact h1
   ·cases hp
  ·cases hp
 have:=run_build w t' _ _ k;simp only [execOp]
 have B:(Array.map (fun (q:Nat × Operand)=>(q.1,a.eval q.2)) ⟨ps⟩)=(ps.map fun q=>(q.1,a.eval q.2)).toArray:=by simp
 have C:(Array.map (fun x=>match x with|(i,x)=>(i,a.eval x)) (⟨ps⟩:Array (Nat × Operand)))=(ps.map fun q=>(q.1,a.eval q.2)).toArray:=B
 first
 | (rw [C]; simp only [Sem.run_bind,this,Result.andThen,Sem.run_pure])
 | (simp only [Sem.run_bind,this,Result.andThen,Sem.run_pure])
theorem zsM {P:Program} {i f ft b o:Nat} (e:zG0 P t i=some (f,ft)):(Instr.fieldAt t (ptr b o) i).run P w = .ok (ptr b (o+f)) w:=by
 obtain ⟨fs,c,d,h,rfl,rfl,n,g⟩:=zKp e
 have a:(⟨b,o,none⟩:Addr).add c.offset=⟨b,o+c.offset,none⟩:=by unfold Addr.add; split<;>simp_all
 simp [Instr.fieldAt,run_underlying d,h,Instr.sureAddr,fieldPlace,zeo g,a,Result.andThen]
theorem zNE {i f ft:Nat} {cs:List (CV τ)} {k:Value} {v:XV τ} (o:XOk X.P X.G h ν (.g cs) k) (e:zG0 X.P t i=some (f,ft))
  (a : (match isA X.P ft with
    | some true=>match szO X.P ft with
     | some s=>match cutL cs f s with
      | some l=>some (XV.g l)
      | none=>none
     | none=>none
    | some false=>match ziw cs f with
     | some c=>some (.c c)
     | none=>none
    | none=>none)=some v):∃u,(∀w,(Instr.field t k i).run X.P w = .ok u w)∧XOk X.P X.G h ν v u:=by
 obtain ⟨fs,q,m,j,rfl,rfl,n,r⟩:=zKp e;obtain ⟨us,rfl,hc⟩:=o
 split at a
 ·rename_i d
  split at a
  ·rename_i s b
   split at a
   ·rename_i l p
    cases a;obtain ⟨h1,h2⟩:=hc.cut p;refine ⟨.agg ⟨_⟩,fun w=>?_,_,rfl,h1⟩;simp [Instr.field,run_underlying m,j,asAgg,part,ztr (zxk d),zeo (zf4 b),Result.andThen,List.extract_eq_take_drop]
   ·cases a
  ·cases a
 ·rename_i d
  split at a
  ·rename_i c hn
   cases a;rw [zgC] at hn;obtain ⟨u,h1,h2⟩:=hc.get hn;refine ⟨u,fun w=>?_,h2⟩;simp [Instr.field,run_underlying m,j,asAgg,part,ztr (zxk d),h1,Result.andThen]
  ·cases a
 ·cases a
theorem zKs {c:CV τ} {j:Value} (r:adC c=true) (hc:zc9 X.P X.G h ν c j) {f:Nat}:(∃b o,j=ptr b o)∧(∀b o,j=ptr b o→∀a,(match c with
      | .ea t z o=>some (.ea t z (o+f))
      | .oe id k m t z o=>some (.oe id k m t z (o+f))
      | _=>none)=some a→zc9 X.P X.G h ν a (ptr b (o+f))):=by
  cases c with
  | ea t z o =>
    obtain ⟨b,k,vs,rfl,h1,h2⟩:=hc;refine ⟨⟨b,k+o,rfl⟩,fun p o' e a g=>?_⟩;cases e; cases g;exact ⟨b,k,vs,by rw [Nat.add_assoc],h1,h2⟩
  | oe i k m t z o =>
    obtain ⟨b,d,n,c,q,xs,u,h1,h2,l,rfl⟩:=hc;refine ⟨⟨b,_,rfl⟩,fun p o' e a g=>?_⟩;cases e; cases g;exact ⟨b,d,n,c,q,xs,u,h1,h2,l,by rw [Nat.add_assoc]⟩
  | _=>cases r
theorem opP_ok (K:TyOk X) {o:Oper} (hd:a.defers=[]) (R:h.on w) (d:zew X h ν a (rdO o.op) E) {v:XV τ} (e:opP X E o.op=some v) :
  ∃u,(execOp a.eval o).run X.P w = .ok (.value u) w∧XOk X.P X.G h ν v u:=by
 obtain ⟨W,i,g⟩:=zd4 a hd;obtain ⟨dst,op,t,p,af,gd⟩:=o;dsimp only at e d;unfold opP at e
 split at e
 ·exact ⟨_,by simp [execOp],zrK hd (d.op (by simp [Op.operands])) e⟩
 ·exact ⟨_,by simp [execOp],zrK hd (d.op (by simp [Op.operands])) e⟩
 ·split at e
  ·rename_i hc
   obtain ⟨u,h1,h2⟩:=zB g (d.op (by simp [Op.operands])) hc;refine ⟨_,?_,zrK hd (d.op (by simp [Op.operands])) e⟩;simp only [execOp]; rw [i.ev h1,show u=_ from h2]; simp [asBool]
  ·rename_i hc
   obtain ⟨u,h1,h2⟩:=zB g (d.op (by simp [Op.operands])) hc;refine ⟨_,?_,zrK hd (d.op (by simp [Op.operands])) e⟩;simp only [execOp]; rw [i.ev h1,show u=_ from h2]; simp [asBool]
  ·cases e
 ·split at e
  ·rename_i hc
   obtain ⟨u,h1,h2⟩:=zB g (d.op (by simp [Op.operands])) hc;obtain rfl:u=_:=h2;cases e;exact ⟨_,zMB i h1,rfl⟩
  ·rename_i hc
   obtain ⟨u,h1,h2⟩:=zB g (d.op (by simp [Op.operands])) hc;obtain rfl:u=_:=h2;cases e;exact ⟨_,zMB i h1,rfl⟩
  ·cases e
 ·split at e
  ·rename_i l I
   obtain ⟨u,h1,h2⟩:=znJ g (d.op (by simp [Op.operands])) I rfl;obtain ⟨vs,rfl,j⟩:=h2
   split at e
   ·rename_i c hc
    cases e;rw [zgC] at hc;obtain ⟨v,m,⟨x,_⟩|⟨_,V,L,x⟩⟩:=j.get hc
    ·cases x
    ·cases L;exact ⟨v,zzH i h1 (by simpa using m),x⟩
   ·rename_i cs hc
    cases e;rw [zgC] at hc;obtain ⟨v,m,⟨_,M,rfl,x⟩|⟨x,_⟩⟩:=j.get hc
    ·exact ⟨_,zzH i h1 (by simpa using m),M,rfl,x⟩
    ·cases x
   ·cases e
  ·cases e
 ·split at e
  ·rename_i c hc
   cases J:adC c with
   | false=>rw [J] at e; cases e
   | true =>
    rw [J] at e;cases e;obtain ⟨u,h1,h2⟩:=zB g (d.op (by simp [Op.operands])) hc;obtain ⟨ad,rfl⟩:=zNB J h2;exact ⟨_,zx4 i h1,h2⟩
  ·cases e
 ·split at e
  ·rename_i f ft s
   split at e
   ·rename_i t z o hc
    cases e;obtain ⟨u,h1,h2⟩:=zB g (d.op (by simp [Op.operands])) hc;obtain ⟨⟨b,k,rfl⟩,j⟩:=zKs (f:=f) rfl h2;refine ⟨ptr b (k+f),?_,j _ _ rfl _ rfl⟩;simp only [execOp]; rw [i.ev h1]; simp [zsM s,Result.andThen]
   ·rename_i hc
    cases e;obtain ⟨u,h1,h2⟩:=zB g (d.op (by simp [Op.operands])) hc;obtain ⟨⟨b,k,rfl⟩,j⟩:=zKs (f:=f) rfl h2;refine ⟨ptr b (k+f),?_,j _ _ rfl _ rfl⟩;simp only [execOp]; rw [i.ev h1]; simp [zsM s,Result.andThen]
   ·cases e
  ·cases e
 ·split at e
  ·rename_i f ft s
   split at e
   ·rename_i cs I
    obtain ⟨u,h1,h2⟩:=znJ g (d.op (by simp [Op.operands])) I rfl;obtain ⟨r,j,m⟩:=zNE h2 s e;exact ⟨r,zL8 i h1 (j w),m⟩
   ·cases e
  ·cases e
 ·split at e
  ·rename_i A N
   split at e
   ·rename_i B Q
    obtain ⟨H,F⟩:=zP9 e;obtain ⟨n,h1,h2⟩:=znJ g (d.op (by simp [Op.operands])) N H;obtain ⟨D,j,m⟩:=znJ g (d.op (by simp [Op.operands])) Q F;obtain ⟨u,x,T⟩:=zP8 K i h1 j h2 m e;exact ⟨u,x w,T⟩
   ·cases e
  ·cases e
 ·split at e
  ·rename_i c hc
   obtain ⟨n,h1,h2⟩:=zB g (d.op (by simp [Op.operands])) hc;exact zNC i h1 h2 R e
  ·cases e
 ·split at e
  ·rename_i z S
   split at e
   ·rename_i U hp
    split at e
    ·rename_i cs hc
     cases e;obtain ⟨u,h1,h2⟩:=zND (dst:=dst) (t:=t) (p:=p) (af:=af) (gd:=gd) hd S hp hc fun q O=>d.op (by simp only [Op.operands,List.toList_toArray,List.mem_map]; exact ⟨q,O,rfl⟩);exact ⟨u,h1 w,h2⟩
    ·cases e
   ·cases e
  ·cases e
 ·split at e
  ·rename_i hc
   obtain ⟨n,h1,h2⟩:=zB g (d.op (by simp [Op.operands,Call.operands])) hc;obtain rfl:n=_:=h2
   split at e
   ·rename_i C
    cases e;exact ⟨_,zMX C i h1,rfl⟩
   ·cases e
  ·rename_i hc
   obtain ⟨n,h1,h2⟩:=zB g (d.op (by simp [Op.operands,Call.operands])) hc
   split at e
   ·rename_i C
    cases e;cases h2;exact ⟨_,zso C i h1,rfl⟩
   ·cases e
  ·rename_i hc
   obtain ⟨n,h1,h2⟩:=zB g (d.op (by simp [Op.operands,Call.operands])) hc;obtain rfl:n=_:=h2
   split at e
   ·rename_i C
    cases e;exact ⟨_,zso C i h1,rfl⟩
   ·cases e
  ·cases e
 ·split at e
  ·rename_i hc
   obtain ⟨n,h1,h2⟩:=zB g (d.op (by simp [Op.operands,Call.operands])) hc;obtain rfl:n=_:=h2
   split at e
   ·rename_i y
    obtain ⟨D,j,m⟩:=zB g (d.op (by simp [Op.operands,Call.operands])) y;obtain rfl:D=_:=m;cases e;exact ⟨_,ex_min i h1 j,rfl⟩
   ·cases e
  ·cases e
 ·split at e
  ·rename_i hc
   obtain ⟨n,h1,h2⟩:=zB g (d.op (by simp [Op.operands,Call.operands])) hc;obtain rfl:n=_:=h2
   split at e
   ·rename_i y
    obtain ⟨D,j,m⟩:=zB g (d.op (by simp [Op.operands,Call.operands])) y;obtain rfl:D=_:=m;cases e;exact ⟨_,ex_max i h1 j,rfl⟩
   ·cases e
  ·cases e
 ·cases e
end
end Go.Rk
end
section
namespace Go.Rk
open Go.RowKit Go.Dm Go.Dk
variable {τ:Nat→Type}
variable {vs:List Value} {ad:Option Addr} {v:Value} {bs:List Nat} {e:Ty}
open Classical in
noncomputable def zrX (h:Fz) (w:World) (bs:List Nat):Fz:=fun b=>if b∈bs then w.heap[b]? else h b
section
variable {P:Program} {G:Sig τ} {w0 w w':World} {h0 h h' H:Fz} {F:List Nat} {L L' L2:Hp τ} {ν ν':Vn τ} {φ φ':Nat→List Nat}
theorem Fz.le.refl (h:Fz):h.le h:=fun _ _ e=>e
theorem Fz.le.trans {h h' c:Fz} (a:h.le h') (b:h'.le c):h.le c:=fun _ _ e=>b _ _ (a _ _ e)
theorem Vn.le.refl (ν:Vn τ):ν.le ν:=fun _ _ e=>e
theorem Vn.le.trans {ν ν' ν'':Vn τ} (a:ν.le ν') (b:ν'.le ν''):ν.le ν'':=fun _ _ e=>b _ _ (a _ _ e)
theorem zqJ {b:Nat} (a:b∈bs):zrX h w bs b=w.heap[b]? := by simp [zrX,a]
theorem zkx {b:Nat} (a:b∉bs):zrX h w bs b=h b:=by simp [zrX,a]
theorem zv8 (c:h.on w):(zrX h w bs).on w:=by
 intro b o e
 by_cases a:b∈bs
 ·rwa [zqJ a] at e
 ·rw [zkx a] at e; exact c _ _ e
theorem Mem.lend_le (M:Mem P G w0 h0 F L w ν h φ) (ids:List Nat):h.le (zrX h w (fps φ ids)):=by
 intro b o e
 by_cases a:b∈fps φ ids
 ·obtain ⟨i,_,hi⟩:=zeR.1 a;rw [(M.out i b hi).1] at e; cases e
 ·rw [zkx a]; exact e
theorem zfB (φ:Nat→List Nat) (l m:List Nat):fps φ (l++m)=fps φ l++fps φ m:=by simp [fps]
theorem zdt (φ:Nat→List Nat) (i:Nat) (m:List Nat):fps φ (i::m)=φ i++fps φ m:=by simp [fps]
theorem zxr {c:TypeId} {xs:List (e.den τ)} (n:h.le H) (l:zg1 G w c (ets G e).length v xs.length vs) (o:RpR P G h e xs vs) (i:∀b∈v.ownBlock.toList,H b=w.heap[b]?):Rp P G H (.sl e) xs v:=by
 obtain ⟨f,⟨rfl,hn⟩|⟨g,d,cap,cur,rfl,_,j,hc,_,p,m⟩⟩:=l
 ·rw [hn] at f;have:vs=[]:=List.eq_nil_of_length_eq_zero (by simpa using f);have hxs:xs=[]:=List.eq_nil_of_length_eq_zero hn;subst this; subst hxs;exact .sl e [] none 0 [] (Nat.le_refl _) (.inl rfl) (.nil _)
 ·refine .sl e xs _ cap vs hc (.inr ⟨g,_,cur,c,(0,0),rfl,?_,?_⟩) (o.le n)
  ·rw [i g (by simp [Value.ownBlock])]; exact j
  ·intro k v a;rw [← m,List.getElem?_take] at a
   split at a
   ·rw [List.getElem?_drop] at a; simpa using a
   ·cases a
theorem RpL.len:∀{ts:List Ty} {q:DP τ ts} {vs:List Value},RpL P G h ts q vs→vs.length=ts.length
 | _,_,_,.nil=>rfl
 | _,_,_,.cons _ _ _ _ _ _ h2=>by simp [RpL.len h2]
theorem RpR.len:∀{e:Ty} {xs:List (e.den τ)} {vs:List Value},RpR P G h e xs vs→vs.length=xs.length*(ets G e).length
 | _,_,_,.nil _=>by simp
 | _,_,_,.cons e x xs vs a h1 h2=>by simp [RpR.len h2,h1.len,Nat.add_mul]; omega
theorem RpR.drop:∀{e:Ty} {xs:List (e.den τ)} {vs:List Value},RpR P G h e xs vs→∀(i:Nat),RpR P G h e (xs.drop i) (vs.drop (i*(ets G e).length))
 | _,_,_,.nil e,i=>by simp; exact .nil e
 | _,_,_,.cons e x xs vs a h1 h2,0=>by simp; exact .cons e x xs vs a h1 h2
 | _,_,_,.cons e x xs vs a h1 h2,i+1=>by
  have c:=h1.len;have b:vs.drop (i*(ets G e).length+(ets G e).length)=[]:=List.drop_eq_nil_of_le (by omega);rw [List.drop_succ_cons,Nat.add_mul,Nat.one_mul,List.drop_append,b,List.nil_append,c,Nat.add_sub_cancel];exact h2.drop i
theorem RpR.take:∀{e:Ty} {xs:List (e.den τ)} {vs:List Value},RpR P G h e xs vs→∀(i:Nat),RpR P G h e (xs.take i) (vs.take (i*(ets G e).length))
 | _,_,_,.nil e,i=>by simp; exact .nil e
 | _,_,_,.cons e x xs vs c h1 h2,0=>by simp; exact .nil e
 | _,_,_,.cons e x xs vs c h1 h2,i+1=>by
  have b:=h1.len;have a:vs.take (i*(ets G e).length+(ets G e).length)=vs:=List.take_of_length_le (by omega);rw [List.take_succ_cons,Nat.add_mul,Nat.one_mul,List.take_append,a,b,Nat.add_sub_cancel];exact .cons e x _ vs _ h1 (h2.take i)
theorem zqo.part {vs us:List Value} {k:Nat} (g:zqo h ad vs) (f:∀j v,us[j]? = some v→vs[k+j]? = some v):zqo h (ad.map (·.add k)) us:=by
 rcases g with rfl|⟨b,o,c,e,z,rfl,h1,h2⟩
 ·left
  apply List.eq_nil_iff_forall_not_mem.2
  intro v i;obtain ⟨j,d⟩:=List.mem_iff_getElem?.1 i;have:=f j v d;simp at this
 ·have a:(⟨b,o,none⟩:Addr).add k=⟨b,o+k,none⟩:=by unfold Addr.add; split<;>simp_all
  refine .inr ⟨b,o+k,c,e,z,by simp [a],h1,fun j v d=>?_⟩;rw [Nat.add_assoc]; exact h2 _ _ (f j v d)
theorem zNX {xs:List (e.den τ)} {n c i j:Nat} (o:Rp P G h (.sl e) xs (.slice ad n c)) (m:i≤j) (p:j≤xs.length):n=xs.length∧xs.length≤c ∧
  Rp P G h (.sl e) ((xs.take j).drop i) (.slice (if c=i then ad else ad.map (·.add (i*(ets G e).length))) (j-i) (c-i)):=by
 cases o with
 | sl _ _ _ _ vs hc l f =>
  refine ⟨rfl,hc,?_⟩
  have a:((xs.take j).drop i).length=j-i:=by rw [List.length_drop,List.length_take]; omega
  rw [← a]
  have b:∀k v,((vs.take (j*(ets G e).length)).drop (i*(ets G e).length))[k]? = some v→vs[i*(ets G e).length+k]? = some v:=by
   intro k v g;rw [List.getElem?_drop,List.getElem?_take] at g
   split at g
   ·exact g
   ·cases g
  refine .sl e _ _ _ ((vs.take (j*(ets G e).length)).drop (i*(ets G e).length)) (by rw [a]; omega) ?_ ((f.take j).drop i)
  by_cases d:c=i
  ·rw [if_pos d]
   left
   have h1:=((f.take j).drop i).len;rw [a,show j-i=0 by omega,Nat.zero_mul] at h1;exact List.eq_nil_of_length_eq_zero h1
  ·rw [if_neg d]; exact l.part b
theorem vw_rp {xs ys:List (e.den τ)} {a d:Option Addr} {n c f lo:Nat} (m:Rp P G H (.sl e) ys (.slice a n c)) (h1:lo+xs.length≤ys.length) (h2:xs=(ys.take (lo+xs.length)).drop lo) (k:xs.length≤f) (l:xs≠[]→d=a.map (·.add (lo*(ets G e).length))):Rp P G H (.sl e) xs (.slice d xs.length f):=by
 by_cases h:xs=[]
 ·subst h; exact .sl e [] d f [] k (.inl rfl) (.nil _)
 ·obtain ⟨_,hc,b⟩:=zNX m (i:=lo) (j:=lo+xs.length) (by omega) h1;have o:0<xs.length:=List.length_pos_iff.2 h;rw [← h2,if_neg (by omega), ← l h] at b;rw [show lo+xs.length-lo=xs.length by omega] at b
  cases b with
  | sl _ _ _ _ vs _ b g=>exact .sl e xs d f vs k b g
theorem ze3.part {vs us:List Value} {k:Nat} (f:ze3 w ad vs) (g:∀(j:Nat) v,us[j]? = some v→vs[k+j]? = some v):ze3 w (ad.map (·.add k)) us:=by
 by_cases c:us=[]
 ·subst c
  cases ad with
  | none=>rfl
  | some x=>exact .inl rfl
 ·have a:vs≠[]:=by
   rintro rfl
   apply c
   apply List.eq_nil_iff_forall_not_mem.2
   intro v a;obtain ⟨j,h⟩:=List.mem_iff_getElem?.1 a;have:=g j v h;simp at this
  cases ad with
  | none=>exact (a f).elim
  | some x =>
   obtain ⟨h1,h2,e⟩:=f.hard a;obtain ⟨b,o,l⟩:=x;simp only at h1 h2 e;subst h1
   have d:(⟨b,o,none⟩:Addr).add k=⟨b,o+k,none⟩:=by unfold Addr.add; split<;>simp_all
   simp only [Option.map_some,d];refine .inr ⟨rfl,h2,fun i v a=>?_⟩;have:=e _ _ (g i v a);simpa [Nat.add_assoc] using this
mutual
theorem Tr.rp (f:h.le H):∀{t:Ty} {x:t.den τ} {v:Value} {fp:List Nat},Tr P G h w t x v fp→(∀b∈fp,H b=w.heap[b]?)→Rp P G H t x v
 | _,_,_,_,.fz t x v l d,_=>d.le f
 | _,_,_,_,.so j e xs v vs i d,a => .so j e xs v (zxr f i d a)
 | _,_,_,_,.po n x b vs fp h1 h2 hn _,a => .po n x _ (.pt n x b 0 vs (.inr ⟨b,0,vs.toArray,G.ti n,(0,0),rfl,(a b (List.mem_cons_self ..)).trans h1,fun k v g=>by simpa using g⟩) (h2.rp f fun c hc=>a c (List.mem_cons_of_mem _ hc)))
 | _,_,_,_,.pn0 n,_ => .pn0 n
 | _,_,_,_,.pn1 n x v fp hp,a => .pn1 n x v (match hp.rp f a with | .po _ _ _ d=>d)
theorem TrL.rp (d:h.le H):∀{ts:List Ty} {p:DP τ ts} {vs:List Value} {fp:List Nat},TrL P G h w ts p vs fp→(∀b∈fp,H b=w.heap[b]?)→RpL P G H ts p vs
 | _,_,_,_,.nil,_ => .nil
 | _,_,_,_,.cons t ts p v vs f f' h1 h2 hd,c => .cons t ts p v vs (h1.rp d fun b a=>c b (List.mem_append_left _ a)) (h2.rp d fun b a=>c b (List.mem_append_right _ a))
end
theorem zEr (M:Mem P G w0 h0 F L2 w ν h φ) (x:h.le H) {e:Ty} {c:CV τ} {xs:List (e.den τ)} {m:List Nat} {v:Value} (k:zEB L e c=some (xs,m)) (t:∀i∈m,lk L2 i=lk L i) (B:∀b∈fps φ m,H b=w.heap[b]?)
  (A:zc9 P G h ν c v):Rp P G H (.sl e) xs v:=by
 unfold zEB at k
 split at k
 ·split at k
  ·rename_i l
   obtain ⟨rfl,rfl⟩:=zhj l;cases k;exact Rp.le x A
  ·cases k
 ·cases k; cases A;exact .sl e [] none 0 [] (Nat.le_refl _) (.inl rfl) (.nil _)
 ·rename_i id
  obtain ⟨ad,n,Z,q,hν,rfl⟩:=A
  split at k
  ·rename_i O C r y a
   split at k
   ·rename_i l
    obtain ⟨rfl,rfl⟩:=zhj l;cases k;have f:=M.res id;rw [t id (List.mem_singleton.2 rfl),a] at f;obtain ⟨I,E,vs,u,h1,h2,o,z,_⟩:=f;rw [hν] at h1;cases h1;exact zxr x o z fun b j=>B b (by rw [zdt,h2]; exact List.mem_append_left _ j)
   ·cases k
  ·rename_i C r a
   split at k
   ·rename_i l
    obtain ⟨rfl,rfl⟩:=zhj l;cases k;have f:=M.res id;rw [t id (List.mem_singleton.2 rfl),a] at f;obtain ⟨I,E,h1,_,o⟩:=f;rw [hν] at h1;cases h1;exact o.le x
   ·cases k
  ·rename_i i y C lo r a
   split at k
   ·rename_i O Y ys D s
    cases g:Nat.beq y D with
    | false=>rw [g] at k; cases k
    | true =>
     rw [g] at k
     have:y=D:=by simpa using g
     subst this;dsimp only [cond_true] at k
     split at k
     ·rename_i l
      obtain ⟨rfl,rfl⟩:=zhj l;cases k;have f:=M.res id;rw [t id (List.mem_cons_self ..),a] at f;obtain ⟨X,n1,c1,V,q2,W,U,a2,c2,T,S,K,N,J,R,Q,_⟩:=f;have p:=M.res i;rw [t i (List.mem_cons_of_mem _ (List.mem_cons_self ..)),s] at p;obtain ⟨I,E,vs,u,h1,h2,o,z,d⟩:=p;rw [T] at h1;cases h1;rw [S] at d
      injection d with d
      injection d with _ d
      injection d with d
      cases d;rw [hν] at J;cases J;exact vw_rp (zxr x o z fun b j=>B b (by rw [zdt,zdt,h2]; exact List.mem_append_right _ (List.mem_append_left _ j))) K N R Q.1
     ·cases k
   ·cases k
  ·cases k
 ·cases k
theorem ztw {f:(t:Ty)→CV τ→Option (t.den τ × List Nat)} {A:List Nat→Prop} (a:∀l m,A (l++m)→A l∧A m)
  (d:∀t c x m v,f t c=some (x,m)→A m→zc9 P G h ν c v→Rp P G H t x v):∀{ts:List Ty} {cs:List (CV τ)} {q:DP τ ts} {vs:List Value} {m:List Nat},zxw f ts cs=some (q,m)→A m→CVs P G h ν cs vs→RpL P G H ts q vs
 | [],[],q,vs,_,e,_,i=>by cases e; cases i; exact .nil
 | t::ts,c::cs,q,_,_,e,b,⟨v,us,rfl,h1,h2⟩=>by
  unfold zxw at e
  split at e
  ·rename_i x m j
   split at e
   ·rename_i k n g
    cases e;refine .cons t ts _ v us ?_ ?_
    ·rw [DP.hd_mk]; exact d _ _ _ _ _ j (a _ _ b).1 h1
    ·rw [DP.tl_mk]; exact ztw a d g (a _ _ b).2 h2
   ·cases e
  ·cases e
 | [],_::_,_,_,_,e,_,_=>by cases e
 | _::_,[],_,_,_,e,_,_=>by cases e
theorem zKw {t:Ty} {x:t.den τ} (d:Rp P G h t x v):zc9 P G h ν (t.av x) v:=by
 cases d with
 | sl e xs a c vs hc g d=>exact .sl e xs a c vs hc g d
 | so j e xs v d=>exact d
 | pt n x b k vs g d=>exact ⟨b,k,vs,rfl,g,d⟩
 | po n x v d=>cases d with|pt n x b k vs g d=>exact ⟨b,k,vs,rfl,g,d⟩
 | pn0 n=>exact .pn0 n
 | pn1 n x v d=>exact .pn1 n x v d
 | fn m f i=>exact .fn m f i
 | cl f t x u d=>exact .cl f t x u d
 | mv f u=>exact .mv f u
 | _=>rfl
theorem zAr:∀{ts:List Ty} {q:DP τ ts} {vs:List Value},RpL P G h ts q vs→CVs P G h ν (avs ts q) vs
 | _,_,_,.nil=>rfl
 | _,_,_,.cons t ts q v vs h1 h2=>⟨v,vs,rfl,zKw h1,zAr h2⟩
def zcf (a L:Hp τ) (φ:Nat→List Nat) (H:Fz) (w:World) (m:List Nat):Prop:=(∀i∈m,lk a i=lk L i)∧∀b∈fps φ m,H b=w.heap[b]?
theorem zcf.app {l m:List Nat} (a:zcf L2 L φ H w (l++m)):zcf L2 L φ H w l∧zcf L2 L φ H w m :=
  ⟨⟨fun i hi=>a.1 i (List.mem_append_left _ hi),fun b c=>a.2 b (by rw [zfB]; exact List.mem_append_left _ c)⟩,
   ⟨fun i hi=>a.1 i (List.mem_append_right _ hi),fun b c=>a.2 b (by rw [zfB]; exact List.mem_append_right _ c)⟩⟩
theorem zEs (M:Mem P G w0 h0 F L2 w ν h φ) (C:h.le H) {f:(t:Ty)→CV τ→Option (t.den τ × List Nat)} (I:∀t c x m v,f t c=some (x,m)→zcf L2 L φ H w m→zc9 P G h ν c v→Rp P G H t x v)
  {n:Nat} {c:CV τ} {x:τ n} {m:List Nat} {v:Value} (k:lokP f G L n c=some (x,m)) (j:zcf L2 L φ H w m) (E:zc9 P G h ν c v):Rp P G H (.pt n) x v:=by
 unfold lokP at k
 split at k
 ·rename_i t z o
  obtain ⟨b,q,vs,rfl,h1,h2⟩:=E
  split at k
  ·rename_i T g
   cases k;unfold eaO at g
   split at g
   ·rename_i R z
    cases ho:Nat.beq o 0
    ·rw [ho] at g; cases g
    ·rw [ho] at g
     replace ho:=Nat.eq_of_beq_eq_true ho
     subst ho;obtain ⟨rfl,rfl⟩:=zOS g;exact .pt _ _ b _ vs (h1.le C) (h2.le C)
   ·cases g
  ·split at k
   ·rename_i cs d
    split at k
    ·rename_i p O y
     cases k;have hc:=(CVs.cut (X:=⟨P,G,[],[],0,fun _ => .bool false⟩) (zAr (ν:=ν) h2) d).1;refine .pt n _ b (q+o) ((vs.drop o).take (G.fs n).length) ?_ ?_
     ·rcases h1 with rfl|⟨Q,o',c,e,N,r,s,i⟩
      ·exact .inl (by simp)
      ·cases r;refine .inr ⟨b,q+o,c,e,N,rfl,C _ _ s,fun k v a=>?_⟩;rw [List.getElem?_take] at a
       split at a
       ·rw [List.getElem?_drop] at a;rw [Nat.add_assoc];exact i _ _ a
       ·cases a
     ·rw [G.dc]; exact ztw (A:=zcf L2 L φ H w) (fun _ _=>zcf.app) I y j hc
    ·cases k
   ·cases k
 ·rename_i id o
  split at k
  ·rename_i t cs D
   split at k
   ·rename_i K d
    split at k
    ·rename_i p O y
     cases k;have B:=zcf.app (l:=[id]) j;have J:=M.res id;rw [j.1 id (List.mem_cons_self ..),D] at J;obtain ⟨b,q,vs,h1,h2,r,s⟩:=J;obtain ⟨u,S,i,rfl,_⟩:=E;rw [h1] at i;cases i;have hc:=(CVs.cut (X:=⟨P,G,[],[],0,fun _ => .bool false⟩) s d).1;refine .pt n _ b (0+o) ((vs.drop o).take (G.fs n).length) (.inr ⟨b,0+o,vs.toArray,t,(0,0),rfl,?_,fun k v a=>?_⟩) ?_
     ·rw [j.2 b (by rw [zdt,h2]; simp)]; exact r
     ·rw [List.getElem?_take] at a
      split at a
      ·rw [List.getElem?_drop] at a;simpa using a
      ·cases a
     ·rw [G.dc]; exact ztw (A:=zcf L2 L φ H w) (fun _ _=>zcf.app) I y B.2 hc
    ·cases k
   ·cases k
  ·cases k
 ·cases k
theorem zQk (M:Mem P G w0 h0 F L2 w ν h φ) (o:h.le H) {n:Nat} {c:CV τ} {x:Option (τ n)} {m:List Nat} {v:Value} (k:lokT L n c=some (x,m)) (f:zcf L2 L φ H w m) (j:zc9 P G h ν c v):Rp P G H (.pn n) x v:=by
 unfold lokT at k
 split at k
 ·rename_i id
  obtain ⟨u,r,e,rfl,_⟩:=j
  have i:zu6 (.pointer u) 0 = .pointer u:=by cases u<;>rfl
  rw [i]
  split at k
  ·rename_i p y a
   split at k
   ·rename_i l
    obtain ⟨rfl,rfl⟩:=zBs l;cases k;have d:=M.res id;rw [f.1 id (List.mem_singleton.2 rfl),a] at d;obtain ⟨s,q,h1,h2⟩:=d;rw [h1] at e; cases e;exact h2.rp o fun b g=>f.2 b (by rw [zdt]; exact List.mem_append_left _ g)
   ·cases k
  ·rename_i a
   cases k;have d:=M.res id;rw [f.1 id (List.mem_singleton.2 rfl),a] at d;obtain ⟨q,h1,h2⟩:=d;rw [h1] at e; cases e;exact .pn0 n
  ·cases k
 ·cases k
theorem zxs (M:Mem P G w0 h0 F L2 w ν h φ) (hH:h.le H):∀(d:Nat) (t:Ty) (c:CV τ) (x:t.den τ) (m:List Nat) (v:Value),lok G L d t c=some (x,m)→zcf L2 L φ H w m→zc9 P G h ν c v→Rp P G H t x v
 | 0,t,c,x,m,v,k,_,_=>by cases k
 | d + 1,t,c,x,m,v,k,ha,hv=>by
  have ih:=zxs M hH d;unfold lok at k;cases t<;>dsimp only at k
  case sl e=>exact zEr M hH k ha.1 ha.2 hv
  case so te e=>exact .so te e x v (zEr M hH k ha.1 ha.2 hv)
  case pt n=>exact zEs M hH ih k ha hv
  case po n=>exact .po n x v (zEs M hH ih k ha hv)
  case pn n =>
   split at k
   ·cases k; cases hv; exact .pn0 n
   ·split at k
    ·rename_i hx
     obtain ⟨rfl,rfl⟩:=zBs hx;cases k;exact Rp.le hH hv
    ·cases k
   ·split at k
    ·rename_i hy
     cases k;exact zQk M hH hy ha hv
    ·split at k
     ·rename_i y m' hy
      cases k;exact .pn1 n y v (zEs M hH ih hy ha hv)
     ·cases k
  case fn =>
   split at k
   ·cases k; exact Rp.le hH hv
   ·split at k
    ·rename_i f m hm
     cases k; cases hv;exact .fn _ _ (M.fp _ (zm0 hm))
    ·cases k
   ·cases k
  case fc f =>
   split at k
   ·rename_i g
    cases hb:Nat.beq g f with
    | false=>rw [hb] at k; cases k
    | true =>
     rw [hb] at k;cases k
     have:g=f:=by simpa using hb
     subst this;cases hv;exact .fc g
   ·cases k
  case mv f =>
   split at k
   ·rename_i g
    cases hb:Nat.beq g f with
    | false=>rw [hb] at k; cases k
    | true =>
     rw [hb] at k;cases k
     have:g=f:=by simpa using hb
     subst this;exact Rp.le hH hv
   ·rename_i g i
    cases hb:Nat.beq g f with
    | false=>rw [hb] at k; cases k
    | true =>
     rw [hb] at k;cases k
     have:g=f:=by simpa using hb
     subst this;obtain ⟨u,q,_,rfl⟩:=hv;exact .mv _ _
   ·cases k
  case cl f t' =>
   split at k
   ·rename_i g t2 y
    cases hb:Nat.beq g f with
    | false=>rw [hb] at k; cases k
    | true =>
     rw [hb] at k;dsimp only [cond_true] at k
     have:g=f:=by simpa using hb
     subst this
     split at k
     ·rename_i hx
      obtain ⟨rfl,rfl⟩:=zOR hx;cases k;exact Rp.le hH hv
     ·cases k
   ·rename_i id
    split at k
    ·rename_i g c' hl
     cases hb:Nat.beq g f with
     | false=>rw [hb] at k; cases k
     | true =>
      rw [hb] at k;dsimp only [cond_true] at k
      have:g=f:=by simpa using hb
      subst this
      split at k
      ·rename_i x' m' hx
       cases k;obtain ⟨f',us,vs,q,hν,rfl⟩:=hv;have hr:=M.res id;rw [ha.1 id (List.mem_cons_self ..),hl] at hr;obtain ⟨us',vs',q',h1,_,h2,h3⟩:=hr;rw [hν] at h1;cases h1;obtain rfl:us=[]:=h2;obtain ⟨v',_,rfl,h4,rfl⟩:=h3;exact .cl _ _ _ _ (ih _ _ _ _ _ hx (zcf.app (l:=[id]) ha).2 h4)
      ·cases k
    ·cases k
   ·cases k
  all_goals first|(cases k; done)|(split at k<;>first|(cases k; done)|(cases k; cases hv; constructor))
theorem zeS {l:List Nat} {i:Nat}:mem l i=true↔i∈l:=by simp [ztx,List.any_eq_true]
theorem zv9:∀{l m:List Nat},nod (l++m)=true→nod l=true∧nod m=true∧∀i∈l,i∉m
 | [],m,h=>⟨rfl,h,fun i hi=>by cases hi⟩
 | a::l,m,h=>by
  simp only [List.cons_append,nod,Bool.and_eq_true,Bool.not_eq_true'] at h;obtain ⟨h1,h2⟩:=h;obtain ⟨b,d,c⟩:=zv9 h2
  have hn:a∉l++m:=fun e=>by rw [zeS.2 e] at h1; cases h1
  refine ⟨?_,d,fun i hi=>?_⟩
  ·simp only [nod,Bool.and_eq_true,Bool.not_eq_true'];exact ⟨Bool.eq_false_iff.2 fun e=>hn (List.mem_append_left _ (zeS.1 e)),b⟩
  ·rcases List.mem_cons.1 hi with rfl|hi
   ·exact fun e=>hn (List.mem_append_right _ e)
   ·exact c i hi
theorem zxt {l m:List Nat} (h:zy0 l m=true):∀i∈l,i∉m:=by
 intro i hi e;have:=List.all_eq_true.1 (zAv l m▸h) i hi;rw [zeS.2 e] at this;cases this
theorem Mem.fps_dis (M:Mem P G w0 h0 F L2 w ν h φ) {l m:List Nat} (h:∀i∈l,i∉m):∀b∈fps φ l,b∉fps φ m:=by
 intro b h1 h2;obtain ⟨i,hi,c⟩:=zeR.1 h1;obtain ⟨j,d,a⟩:=zeR.1 h2;exact h i hi (M.dis i j b c a▸d)
theorem zEt (M:Mem P G w0 h0 F L2 w ν h φ) {f:(t:Ty)→CV τ→Rs (t.den τ)}
  (d:∀t c x l m v,f t c=some (x,l,m)→(∀i∈l,lk L2 i=lk L i)→zcf L2 L φ H w m→nod l=true→zc9 P G h ν c v→Tr P G H w t x v (fps φ l)) :
  ∀{ts:List Ty} {cs:List (CV τ)} {q:DP τ ts} {vs:List Value} {l m:List Nat},zI6 f ts cs=some (q,l,m)→(∀i∈l,lk L2 i=lk L i)→zcf L2 L φ H w m→nod l=true→CVs P G h ν cs vs→TrL P G H w ts q vs (fps φ l)
 | [],[],q,vs,_,_,e,_,_,_,k=>by cases e; cases k; exact .nil
 | t::ts,c::cs,q,_,_,_,e,b,a,hn,⟨v,us,rfl,h1,h2⟩=>by
  unfold zI6 at e
  split at e
  ·rename_i x l m o
   split at e
   ·rename_i s r u j
    cases e;obtain ⟨p,g,n⟩:=zv9 hn;rw [zfB];refine .cons t ts _ v us _ _ ?_ ?_ (M.fps_dis n)
    ·rw [DP.hd_mk]; exact d _ _ _ _ _ _ o (fun i hi=>b i (List.mem_append_left _ hi)) a.app.1 p h1
    ·rw [DP.tl_mk]; exact zEt M d j (fun i hi=>b i (List.mem_append_right _ hi)) a.app.2 g h2
   ·cases e
  ·cases e
 | [],_::_,_,_,_,_,e,_,_,_,_=>by cases e
 | _::_,[],_,_,_,_,e,_,_,_,_=>by cases e
theorem zNY:∀{ts:List Ty},noM ts=true→∀{vs:List Value},MvOk ts vs
 | [],_,vs,i,f,h=>by simp at h
 | t::ts,a,vs,i,f,h=>by
  simp only [noM,Bool.and_eq_true] at a
  cases i with
  | zero =>
   simp only [List.getElem?_cons_zero,Option.some.injEq] at h;subst h;exact absurd a.1 (by simp)
  | succ i =>
   have b:=zNY a.2 (vs:=[]) i f (by simpa using h);obtain ⟨u,c,_⟩:=b;simp at c
theorem zNZ {i:Nat} {u:Option Addr} {q:Option ((e:Ty) × List (e.den τ))} (hν:ν i=some (.pointer u,q)):∀{ts:List Ty} {cs:List (CV τ)} {vs:List Value},okM i ts cs=true→CVs P G h ν cs vs→ts.length≤cs.length→∀(k:Nat) (f:Nat),ts[k]? = some (.mv f)→vs[k]? = some (.func (.func f) #[.pointer u] #[])
 | [],_,_,_,_,_,k,f,e=>by simp at e
 | _::_,[],_,_,_,b,_,_,_=>by simp at b
 | t::ts,c::cs,_,a,⟨v,us,rfl,h1,h2⟩,b,k,f,e=>by
  simp only [okM,Bool.and_eq_true] at a
  cases k with
  | succ k=>simpa using zNZ hν a.2 h2 (by simpa using b) k f (by simpa using e)
  | zero =>
   simp only [List.getElem?_cons_zero,Option.some.injEq] at e;subst e
   replace a:=a.1
   dsimp only at a
   split at a
   ·rename_i g j
    simp only [Bool.and_eq_true,Nat.beq_eq] at a;obtain ⟨rfl,rfl⟩:=a;obtain ⟨l,m,d,rfl⟩:=h1;rw [hν] at d;cases d;rfl
   ·cases a
theorem zGQ {f:(t:Ty)→CV τ→Rs (t.den τ)}:∀{ts:List Ty} {cs:List (CV τ)} {r:DP τ ts × List Nat × List Nat},zI6 f ts cs=some r→ts.length=cs.length
 | [],[],_,_=>rfl
 | t::ts,c::cs,r,e=>by
  unfold zI6 at e
  split at e
  ·split at e
   ·rename_i a; simp [zGQ a]
   ·cases e
  ·cases e
 | [],_::_,_,e=>by cases e
 | _::_,[],_,e=>by cases e
theorem okN_ok {ts:List Ty} {cs:List (CV τ)} (h1:okN ts cs=true) (h2:CVs P G h ν cs vs) (d:ts.length≤cs.length):MvOk ts vs:=by
 unfold okN at h1
 split at h1
 ·rename_i i cs
  obtain ⟨v,us,rfl,⟨u,q,a,rfl,b⟩,g⟩:=h2;have c:=zNZ a h1 (show CVs P G h ν (.pt i 0::cs) _ from ⟨_,us,rfl,⟨u,q,a,rfl,b⟩,g⟩) d;intro k f e;refine ⟨.pointer u,?_,c k f e⟩;cases u<;>rfl
 ·exact zNY h1
theorem zKx {i:Nat} {u:Option Addr} {q:Option ((e:Ty) × List (e.den τ))} (hν:ν i=some (.pointer u,q)):∀{ts:List Ty} {cs:List (CV τ)} {vs:List Value},CVs P G h ν cs vs→(∀(k:Nat) (f:Nat),ts[k]? = some (.mv f)→vs[k]? = some (.func (.func f) #[.pointer u] #[]))→CVs P G h ν (fixM i ts cs) vs
 | [],cs,vs,h1,_=>h1
 | _::_,[],vs,h1,_=>h1
 | t::ts,c::cs,_,⟨v,us,rfl,h1,h2⟩,hm=>by
  refine ⟨v,us,rfl,?_,zKx hν h2 fun k f e=>by simpa using hm (k+1) f (by simpa using e)⟩;cases t
  case mv f =>
   have:=hm 0 f rfl;simp only [List.getElem?_cons_zero,Option.some.injEq] at this;exact ⟨u,q,hν,this⟩
  all_goals exact h1
theorem zKy {ts:List Ty} {cs:List (CV τ)} (h1:CVs P G h ν cs vs) (c:MvOk ts vs):CVs P G h ν (zI7 ts cs) vs:=by
 unfold zI7
 split
 ·rename_i i cs
  cases noM ts with
  | true=>exact h1
  | false =>
   have h0:=h1;obtain ⟨v,us,rfl,⟨u,q,b,rfl,l⟩,j⟩:=h0;refine zKx b h1 fun k f e=>?_;obtain ⟨g,a,d⟩:=c k f e;simp only [List.getElem?_cons_zero,Option.some.injEq] at a;rw [d, ← a];cases u<;>rfl
 ·exact h1
theorem zKz (M:Mem P G w0 h0 F L2 w ν h φ) {f:(t:Ty)→CV τ→Rs (t.den τ)}
  (I:∀t c x l m v,f t c=some (x,l,m)→(∀i∈l,lk L2 i=lk L i)→zcf L2 L φ H w m→nod l=true→zc9 P G h ν c v→Tr P G H w t x v (fps φ l))
  {n id:Nat} {x:τ n} {l m:List Nat} {v:Value} (k:resP f G L n id=some (x,l,m)) (r:∀i∈l,lk L2 i=lk L i) (D:zcf L2 L φ H w m) (hn:nod l=true) (B:zc9 P G h ν (.pt id 0) v):Tr P G H w (.po n) x v (fps φ l):=by
 unfold resP at k
 split at k
 ·rename_i t cs e
  cases a:(Nat.beq t (G.ti n)&&okN (G.fs n) cs) with
  | false=>rw [a] at k; cases k
  | true =>
   rw [a] at k;dsimp only [cond_true] at k;simp only [Bool.and_eq_true,Nat.beq_eq] at a;obtain ⟨a,d⟩:=a
   split at k
   ·rename_i p A K j
    cases k;have E:t=G.ti n:=a;have s:=M.res id;rw [r id (List.mem_cons_self ..),e] at s;obtain ⟨b,q,vs,h1,h2,y,g⟩:=s;obtain ⟨u,J,o,rfl,_⟩:=B;rw [h1] at o;cases o;obtain ⟨N,z,C⟩:=zv9 (l:=[id]) hn;have hd:=M.fps_dis (l:=[id]) (m:=A) C;rw [zdt,h2];refine .po n _ b vs _ (E▸y) ?_ (fun hc=>hd b (by rw [zdt,h2]; simp) hc) (okN_ok d g (Nat.le_of_eq (zGQ j)));rw [G.dc];exact zEt M I j (fun i hi=>r i (List.mem_cons_of_mem _ hi)) D z g
   ·cases k
 ·cases k
theorem zN0 {t sz n m lo k c j:Nat} {a s:Option Addr} (h:zg1 G w t sz (.slice a n c) m vs) (B:lo+k≤m) (hd:lo=0∨G.dr t=true) (hc:j+lo=c) (p:s=if c=lo then a else a.map (·.add (lo*sz))) :
  zg1 G w t sz (.slice s k j) k ((vs.take ((lo+k)*sz)).drop (lo*sz))∧(Value.slice s k j).ownBlock=(Value.slice a n c).ownBlock:=by
 obtain ⟨h1,h2⟩:=h;have u:(lo+k)*sz≤m*sz:=Nat.mul_le_mul_right _ B;have r:(lo+k)*sz=lo*sz+k*sz:=Nat.add_mul ..
 have b:((vs.take ((lo+k)*sz)).drop (lo*sz)).length=k*sz:=by rw [List.length_drop,List.length_take]; omega
 rcases h2 with ⟨e,C⟩|⟨g,d,cap,cur,e,x,y,D,E,z,A⟩
 ·cases e
  have f:k=0:=by omega
  have o:j=0:=by omega
  subst f; subst o
  have:s=none:=by rw [p]; split<;>rfl
  subst this;exact ⟨⟨b,.inl ⟨rfl,rfl⟩⟩,rfl⟩
 ·cases e
  by_cases i:c=lo
  ·rw [if_pos i] at p;subst p
   have f:k=0:=by omega
   have o:j=0:=by omega
   subst f; subst o;refine ⟨⟨b,.inr ⟨g,d,0,cur,rfl,fun l=>?_,y,Nat.le_refl _,Nat.zero_le _,?_,?_⟩⟩,rfl⟩
   ·rcases hd with h0|h0
    ·obtain ⟨rfl,v⟩:=x l;exact ⟨rfl,by rw [v,i,h0]⟩
    ·rw [h0] at l; cases l
   ·exact Nat.le_trans (Nat.mul_le_mul_right _ (by omega)) z
   ·rw [Nat.zero_mul,List.take_zero];exact (List.eq_nil_of_length_eq_zero (by rw [b,Nat.zero_mul])).symm
  ·rw [if_neg i] at p
   have q:(⟨g,d*sz,none⟩:Addr).add (lo*sz)=⟨g,(d+lo)*sz,none⟩:=by rw [Nat.add_mul]; unfold Addr.add; split<;>simp_all
   simp only [Option.map_some,q] at p;subst p;refine ⟨⟨b,.inr ⟨g,d+lo,j,cur,rfl,fun l=>?_,y,by omega,by omega,?_,?_⟩⟩,rfl⟩
   ·rcases hd with h0|h0
    ·obtain ⟨rfl,v⟩:=x l;subst h0;exact ⟨rfl,by rw [v, ← hc,Nat.add_zero]⟩
    ·rw [h0] at l; cases l
   ·rw [show d+lo+j=d+c by omega]; exact z
   ·rw [← A,List.take_take,Nat.min_eq_left u,List.drop_take,List.drop_drop,r,Nat.add_sub_cancel_left,Nat.add_mul]
theorem zEu (M:Mem P G w0 h0 F L2 w ν h φ) (hH:h.le H):∀(d:Nat) (t:Ty) (c:CV τ) (x:t.den τ) (l m:List Nat) (v:Value),res G L d t c=some (x,l,m)→(∀i∈l,lk L2 i=lk L i)→zcf L2 L φ H w m→nod l=true→zc9 P G h ν c v→Tr P G H w t x v (fps φ l)
 | 0,t,c,x,l,m,v,k,_,_,_,_=>by cases k
 | d + 1,t,c,x,l,m,v,k,ha,hm,hn,hv=>by
  have ih:=zEu M hH d
  have hlok:frz t=true→(match lok G L (d+1) t c with
   | some (x,m)=>some (x,[],m)
   | none=>none)=some (x,l,m)→Tr P G H w t x v (fps φ l):=by
   intro hz k
   split at k
   ·rename_i x' m' hx
    cases k;exact .fz t x v hz (zxs M hH _ _ _ _ _ _ hx hm hv)
   ·cases k
  unfold res at k;cases t<;>dsimp only at k
  case so te e =>
   split at k
   ·cases k; cases hv;exact .so te e [] _ [] ⟨by simp,.inl ⟨rfl,rfl⟩⟩ (.nil _)
   ·rename_i id
    split at k
    ·rename_i te' e' xs kk hlk
     cases hb:Nat.beq te te' with
     | false=>rw [hb] at k; cases k
     | true =>
      rw [hb] at k;dsimp only [cond_true] at k
      split at k
      ·rename_i hx
       obtain ⟨rfl,rfl⟩:=zhj hx;cases k
       have ht:te=te':=by simpa using hb
       subst ht;have hr:=M.res id;rw [ha id (List.mem_singleton.2 rfl),hlk] at hr;obtain ⟨v',q',vs,u,h1,h2,h3,h4,_⟩:=hr;obtain ⟨ad,n,cp,q,hν,rfl⟩:=hv;rw [hν] at h1;cases h1;rw [zdt,h2,show fps φ []=[] from rfl,List.append_nil];exact .so te _ _ _ vs h3 (h4.le hH)
      ·cases k
    ·rename_i i kk e0 lo xs hlk
     split at k
     ·rename_i te' e' ys k2 hlk2
      cases hb:(Nat.beq te te'&&(Nat.beq kk k2&&(Nat.beq lo 0||G.dr te))) with
      | false=>rw [hb] at k; cases k
      | true =>
       rw [hb] at k;dsimp only [cond_true] at k;simp only [Bool.and_eq_true,Bool.or_eq_true,Nat.beq_eq] at hb;obtain ⟨rfl,rfl,hdr⟩:=hb
       split at k
       ·rename_i hx
        obtain ⟨rfl,rfl⟩:=zhj hx;cases k;have hr:=M.res id;rw [ha id (List.mem_cons_self ..),hlk] at hr;obtain ⟨a1,n1,c1,q1,q2,u1,ys1,a2,c2,g1,g2,g3,g4,g5,g6,g7,g8⟩:=hr;have hr2:=M.res i;rw [ha i (List.mem_cons_of_mem _ (List.mem_cons_self ..)),hlk2] at hr2;obtain ⟨v',q',vs,u,h1,h2,h3,h4,h5⟩:=hr2;rw [g1] at h1;cases h1;rw [g2] at h5
        injection h5 with h5
        injection h5 with _ h5
        injection h5 with h5
        cases h5;obtain ⟨ad,n,cp,q,hν,rfl⟩:=hv;rw [hν] at g5;cases g5;obtain ⟨_,_,g9,g10⟩:=g7;rw [zdt,g8,zdt,h2,show fps φ []=[] from rfl,List.append_nil,List.nil_append];obtain ⟨hcut,hob⟩:=zN0 (k:=xs.length) h3 g3 hdr g9 g10;have h6:=(h4.take (lo+xs.length)).drop lo;rw [← g4] at h6;rw [← hob];exact .so te _ _ _ _ hcut (h6.le hH)
       ·cases k
     ·cases k
    ·cases k
   ·cases k
  case po n =>
   cases c<;>first|(cases k; done)|skip
   rename_i id o
   cases o with
   | zero=>exact zKz M ih k ha hm hn hv
   | succ o=>cases k
  case pn n =>
   split at k
   ·cases k; cases hv; exact .pn0 n
   ·rename_i id
    split at k
    ·rename_i n' y hlk
     split at k
     ·rename_i hx
      obtain ⟨rfl,rfl⟩:=zBs hx;cases k;have hr:=M.res id;rw [ha id (List.mem_singleton.2 rfl),hlk] at hr;obtain ⟨v',q',h1,h2⟩:=hr;obtain ⟨u,q,hν,rfl,_⟩:=hv;rw [hν] at h1;cases h1;rw [zdt,show fps φ []=[] from rfl,List.append_nil];cases u<;>exact h2.of hH fun _ _=>rfl
     ·cases k
    ·rename_i hlk
     cases k;have hr:=M.res id;rw [ha id (List.mem_singleton.2 rfl),hlk] at hr;obtain ⟨q',h1,h2⟩:=hr;obtain ⟨u,q,hν,rfl,_⟩:=hv;rw [hν] at h1;cases h1;rw [zdt,h2];exact .pn0 n
    ·split at k
     ·rename_i y l' m' hy
      cases k;exact .pn1 n y v _ (zKz M ih hy ha hm hn hv)
     ·cases k
   ·cases k
  case sn te e =>
   have h1:lok G L (d+1) (.sn te e) c=none:=by unfold lok; rfl
   rw [h1] at k;cases k
  all_goals exact hlok rfl k
def up1 {α:Type} (f:Nat→α) (i:Nat) (x:α):Nat→α:=fun j=>if j=i then x else f j
theorem za1 {α:Type} (f:Nat→α) (i:Nat) (x:α):up1 f i x i=x:=by simp [up1]
theorem zbz {α:Type} (f:Nat→α) {i j:Nat} (x:α) (h:j≠i):up1 f i x j=f j:=by simp [up1,h]
theorem zbW {ν:Vn τ} {i:Nat} {x:Option (Value × Option ((e:Ty) × List (e.den τ)))} (h:ν i=none):ν.le (up1 ν i x):=by
 intro j y e;rw [zbz]
 ·exact e
 ·rintro rfl; rw [h] at e; cases e
def zhP (w0:World) (h:Fz) (F:List Nat) (φ:Nat→List Nat) (fp:List Nat):Prop:=∀b∈fp,(∀i,b∉φ i)∧h b=none∧(b∈F∨w0.heap.size≤b)
theorem Mem.add (M:Mem P G w0 h0 F L w ν h φ) {nid:Nat} (hn:ν nid=none) (r:AR τ) (x:Value × Option ((e:Ty) × List (e.den τ))) {fp:List Nat} (k:zmR P G h (up1 ν nid (some x)) w r (some x) fp) (g:zhP w0 h F φ fp) :
  Mem P G w0 h0 F ((nid,r)::L) w (up1 ν nid (some x)) h (up1 φ nid fp):=by
 refine ⟨M.os,M.tape,M.output,M.size,M.frame,M.le,M.on,M.new,?_,?_,?_,M.gl,M.fp⟩
 ·intro i
  by_cases e:nid=i
  ·subst e;rw [za1,za1]
   have:lk ((nid,r)::L) nid=r:=by simp [zu7,zm6]
   rw [this]; exact k
  ·have:lk ((nid,r)::L) i=lk L i:=by simp [zu7,zm6,zcx.2 e]
   have f:=(M.res i).of (w':=w) (Fz.le.refl _) (zbW (x:=some x) hn) fun _ _=>rfl;rw [this,zbz φ fp (Ne.symm e)];exact f
 ·intro i j b h1 h2
  by_cases d:i=nid
  ·by_cases a:j=nid
   ·rw [d,a]
   ·subst d;rw [za1] at h1;rw [zbz _ _ a] at h2;exact ((g b h1).1 j h2).elim
  ·rw [zbz _ _ d] at h1
   by_cases a:j=nid
   ·subst a;rw [za1] at h2;exact ((g b h2).1 i h1).elim
   ·rw [zbz _ _ a] at h2;exact M.dis i j b h1 h2
 ·intro i b c
  by_cases e:i=nid
  ·subst e;rw [za1] at c;exact (g b c).2
  ·rw [zbz _ _ e] at c;exact M.out i b c
structure Grew (P:Program) (G:Sig τ) (w0:World) (h0:Fz) (F:List Nat) (L:Hp τ) (w:World) (ν:Vn τ) (h:Fz) (φ:Nat→List Nat) (U:Hp τ) (nid nid':Nat) (fp:List Nat) (ν':Vn τ) (φ':Nat→List Nat):Prop where
 up:nid≤nid'
 mem:Mem P G w0 h0 F (U++L) w ν' h φ'
 le:ν.le ν'
 same:∀i, ¬(nid≤i∧i<nid')→ν' i=ν i∧φ' i=φ i
 fp:∀i b,nid≤i→i<nid'→b∈φ' i→b∈fp
theorem Grew.nil (M:Mem P G w0 h0 F L w ν h φ) (nid:Nat) (fp:List Nat):Grew P G w0 h0 F L w ν h φ [] nid nid fp ν φ :=
 ⟨Nat.le_refl _,M,Vn.le.refl _,fun _ _=>⟨rfl,rfl⟩,fun i b h1 h2=>by omega⟩
theorem Grew.one (M:Mem P G w0 h0 F L w ν h φ) {nid:Nat} (hn:ν nid=none) (r:AR τ) (x:Value × Option ((e:Ty) × List (e.den τ))) {fp:List Nat} (d:zmR P G h (up1 ν nid (some x)) w r (some x) fp) (c:zhP w0 h F φ fp) :
  Grew P G w0 h0 F L w ν h φ [(nid,r)] nid (nid+1) fp (up1 ν nid (some x)) (up1 φ nid fp) :=
 ⟨by omega,M.add hn r x d c,zbW hn,fun i hi=>⟨zbz _ _ (by rintro rfl; exact hi ⟨by omega,by omega⟩),zbz _ _ (by rintro rfl; exact hi ⟨by omega,by omega⟩)⟩,fun i b h1 h2 a=>by
  have:i=nid:=by omega
  subst this
  rwa [za1] at a⟩
theorem zhP.grew {U:Hp τ} {nid a:Nat} {fp fp':List Nat} (g:Grew P G w0 h0 F L w ν h φ U nid a fp ν' φ') (d:zhP w0 h F φ fp') (hd:∀b∈fp',b∉fp):zhP w0 h F φ' fp':=by
 intro b c;refine ⟨fun i hi=>?_,(d b c).2⟩
 by_cases e:nid≤i∧i<a
 ·exact hd b c (g.fp i b e.1 e.2 hi)
 ·rw [(g.same i e).2] at hi;exact (d b c).1 i hi
theorem zhP.sub {fp fp':List Nat} (d:zhP w0 h F φ fp) (c:∀b∈fp',b∈fp):zhP w0 h F φ fp':=fun b a=>d b (c b a)
def ExpOk (P:Program) (G:Sig τ) (w0:World) (h0:Fz) (F:List Nat) (w:World) (h:Fz) (f:(t:Ty)→t.den τ→Nat→CV τ × Hp τ × Nat):Prop :=
 ∀(t:Ty) (x:t.den τ) (nid:Nat) (c:CV τ) (U:Hp τ) (a:Nat) (v:Value) (fp:List Nat) (L:Hp τ) (ν:Vn τ) (φ:Nat→List Nat),f t x nid=(c,U,a)→Tr P G h w t x v fp→Mem P G w0 h0 F L w ν h φ →
  (∀i,nid≤i→i<a→ν i=none)→zhP w0 h F φ fp→∃ν' φ',Grew P G w0 h0 F L w ν h φ U nid a fp ν' φ'∧zc9 P G h ν' c v
theorem zky {f:(t:Ty)→t.den τ→Nat→CV τ × Hp τ × Nat} (b:∀t x nid c U a,f t x nid=(c,U,a)→nid≤a):∀{ts:List Ty} {q:DP τ ts} {nid:Nat} {cs:List (CV τ)} {U:Hp τ} {a:Nat},zCA f ts q nid=(cs,U,a)→nid≤a
 | [],q,nid,cs,U,a,e=>by cases e; exact Nat.le_refl _
 | t::ts,q,nid,cs,U,a,e=>by
  unfold zCA at e
  split at e
  rename_i c i j h1
  split at e
  rename_i d g h h2
  cases e;exact Nat.le_trans (b _ _ _ _ _ _ h1) (zky b h2)
theorem zgE (G:Sig τ):∀(d:Nat) (t:Ty) (x:t.den τ) (nid:Nat) (c:CV τ) (U:Hp τ) (nid':Nat),zsS G d t x nid=(c,U,nid')→nid≤nid':=by
 intro d
 induction d with
 | zero=>intro t x nid c U nid' e; cases t<;>simp only [zsS,Prod.mk.injEq] at e<;>omega
 | succ d ih =>
  intro t x nid c U nid' e;cases t
  case po n =>
   unfold zsS at e
   split at e
   rename_i cs U1 n1 h1
   cases e;exact Nat.le_trans (Nat.le_succ _) (zky ih h1)
  all_goals (simp only [zsS,Prod.mk.injEq] at e; omega)
theorem zzv {f:(t:Ty)→t.den τ→Nat→CV τ × Hp τ × Nat} (j:∀t x nid c U d,f t x nid=(c,U,d)→nid≤d) (o:ExpOk P G w0 h0 F w h f) :
  ∀{ts:List Ty} {q:DP τ ts} {nid:Nat} {cs:List (CV τ)} {U:Hp τ} {d:Nat} {vs:List Value} {fp:List Nat} {L:Hp τ} {ν:Vn τ} {φ:Nat→List Nat},zCA f ts q nid=(cs,U,d)→TrL P G h w ts q vs fp→Mem P G w0 h0 F L w ν h φ →
   (∀i,nid≤i→i<d→ν i=none)→zhP w0 h F φ fp→∃ν' φ',Grew P G w0 h0 F L w ν h φ U nid d fp ν' φ'∧CVs P G h ν' cs vs
 | [],q,nid,cs,U,d,vs,fp,L, ν, φ,e,n,M,hn,k=>by
  cases e; cases n;exact ⟨ν, φ,Grew.nil M _ _,rfl⟩
 | t::ts,q,nid,cs,U,d,vs,fp,L, ν, φ,e,n,M,hn,k=>by
  unfold zCA at e
  split at e
  rename_i c I B h1
  split at e
  rename_i z E H h2
  cases e
  cases n with
  | cons _ _ _ v us K J y t2 hd =>
   have N:=j _ _ _ _ _ _ h1;have D:=zky j h2;obtain ⟨ν1, φ1,m,A⟩:=zzv j o h2 t2 M (fun i a b=>hn i (by omega) b) (k.sub fun b g=>List.mem_append_right _ g);obtain ⟨ν2, φ2,l,C⟩:=o _ _ _ _ _ _ _ _ _ _ _ h1 y m.mem (fun i a b=>by rw [(m.same i (by omega)).1]; exact hn i a (by omega))
    (zhP.grew m (k.sub fun b g=>List.mem_append_left _ g) hd)
   refine ⟨ν2, φ2,⟨by omega,by rw [List.append_assoc]; exact l.mem,m.le.trans l.le,fun i hi=>?_,fun i b a p g=>?_⟩,v,us,rfl,C,A.le (Fz.le.refl _) l.le⟩
   ·obtain ⟨u,a2⟩:=m.same i (by omega);obtain ⟨r,s⟩:=l.same i (by omega);exact ⟨r.trans u,s.trans a2⟩
   ·by_cases hi:i<B
    ·exact List.mem_append_left _ (l.fp i b a hi g)
    ·rw [(l.same i (by omega)).2] at g;exact List.mem_append_right _ (m.fp i b (by omega) p g)
theorem so_res {f:TypeId} {xs:List (e.den τ)} {fp:List Nat} (j:Tr P G h w (.so f e) xs v fp):fp=v.ownBlock.toList∧(∃a n c,v = .slice a n c)∧∃vs,zg1 G w f (ets G e).length v xs.length vs∧RpR P G h e xs vs:=by
 cases j with
 | fz _ _ _ i _=>cases i
 | so _ _ _ _ vs b k =>
  refine ⟨rfl,?_,vs,b,k⟩;obtain ⟨_,⟨rfl,_⟩|⟨g,d,cap,cur,rfl,_⟩⟩:=b
  ·exact ⟨_,_,_,rfl⟩
  ·exact ⟨_,_,_,rfl⟩
theorem zN1 {n:Nat} {x:Option (τ n)} {fp:List Nat} (c:Tr P G h w (.pn n) x v fp):∃u,v = .pointer u:=by
 cases c with
 | fz _ _ _ a _=>cases a
 | pn0 _=>exact ⟨_,rfl⟩
 | pn1 _ _ _ _ hp =>
  cases hp with
  | fz _ _ _ a _=>cases a
  | po _ _ b vs fp d e hn _=>exact ⟨_,rfl⟩
theorem zEv (d:Nat):ExpOk P G w0 h0 F w h (zsS G d):=by
 induction d with
 | zero =>
  intro t x nid c U nid' v fp L ν φ e ht M hn hfr;exact base t x nid c U nid' v fp L ν φ (by cases t<;>exact e) ht M hn hfr
 | succ d ih =>
  intro t x nid c U nid' v fp L ν φ e ht M hn hfr
  by_cases hp:∃n,t = .po n
  ·obtain ⟨n,rfl⟩:=hp;unfold zsS at e
   split at e
   rename_i cs U1 n1 h1
   cases e;have l1:=zky (zgE G d) h1
   cases ht with
   | fz _ _ _ hz _=>cases hz
   | po _ _ b vs fp hb hl hnb hmv =>
    obtain ⟨ν1, φ1,g1,c1⟩:=zzv (zgE G d) ih h1 hl M (fun i a b=>hn i (by omega) b) (hfr.sub fun b hb=>List.mem_cons_of_mem _ hb)
    have hν1:ν1 nid=none:=by rw [(g1.same nid (by omega)).1]; exact hn nid (Nat.le_refl _) (by omega)
    have hf1:=zhP.grew g1 (hfr.sub (fp':=[b]) fun b' hb'=>by rw [List.mem_singleton.1 hb']; exact List.mem_cons_self ..) fun b' hb'=>by rw [List.mem_singleton.1 hb']; exact hnb
    have M2:=g1.mem.add hν1 (.blk (G.ti n) (zI7 (G.fs n) cs)) (ptr b 0,none) (fp:=[b]) ⟨b,none,vs,rfl,rfl,hb,(zKy c1 hmv).le (Fz.le.refl _) (zbW hν1)⟩ hf1;refine ⟨_,_,⟨by omega,M2,g1.le.trans (zbW hν1),fun i hi=>?_,fun i b' a a' hb'=>?_⟩,⟨some ⟨b,0,none⟩,none,za1 _ _ _,rfl,fun e=>(e rfl).elim⟩⟩
    ·have hne:i≠nid:=by rintro rfl; exact hi ⟨Nat.le_refl _,by omega⟩
     rw [zbz _ _ hne,zbz _ _ hne];exact g1.same i (by omega)
    ·by_cases e:i=nid
     ·subst e;rw [za1] at hb';rw [List.mem_singleton.1 hb']; exact List.mem_cons_self ..
     ·rw [zbz _ _ e] at hb';exact List.mem_cons_of_mem _ (g1.fp i b' (by omega) a' hb')
  ·exact base t x nid c U nid' v fp L ν φ (by cases t<;>first|exact e|exact absurd ⟨_,rfl⟩ hp) ht M hn hfr
where
 base (t:Ty) (x:t.den τ) (nid:Nat) (c:CV τ) (U:Hp τ) (nid':Nat) (v:Value) (fp:List Nat) (L:Hp τ) (ν:Vn τ) (φ:Nat→List Nat) (e:zsS G 0 t x nid=(c,U,nid')) (ht:Tr P G h w t x v fp) (M:Mem P G w0 h0 F L w ν h φ)
  (hn:∀i,nid≤i→i<nid'→ν i=none) (hfr:zhP w0 h F φ fp):∃ν' φ',Grew P G w0 h0 F L w ν h φ U nid nid' fp ν' φ'∧zc9 P G h ν' c v:=by
  have flat:frz t=true→zsS G 0 t x nid=(t.av x,[],nid)→∃ν' φ',Grew P G w0 h0 F L w ν h φ U nid nid' fp ν' φ'∧zc9 P G h ν' c v:=by
   intro hz e2;rw [e] at e2;cases e2
   cases ht with
   | fz _ _ _ _ hr=>exact ⟨ν, φ,Grew.nil M _ _,zKw hr⟩
   | _=>cases hz
  cases t
  case so te e' =>
   cases e;obtain ⟨rfl,⟨a,n,c,rfl⟩,vs,ho,hr⟩:=so_res ht;have hn':=hn nid (Nat.le_refl _) (Nat.lt_succ_self _);exact ⟨_,_,Grew.one M hn' (.row te e' x nid) (.slice a n c,some ⟨e',x⟩) ⟨_,_,vs,_,rfl,rfl,ho,hr,za1 _ _ _⟩ hfr,a,n,c,_,za1 _ _ _,rfl⟩
  case po n =>
   cases e;have hn':=hn nid (Nat.le_refl _) (Nat.lt_succ_self _);have ht':=Tr.pn1 n x v fp ht;obtain ⟨u,rfl⟩:=zN1 ht';exact ⟨_,_,Grew.one M hn' (.tree n (some x)) (.pointer u,none) ⟨_,_,rfl,ht'⟩ hfr,u,none,za1 _ _ _,by cases u<;>rfl,fun e=>(e rfl).elim⟩
  case pn n =>
   cases e;have hn':=hn nid (Nat.le_refl _) (Nat.lt_succ_self _);obtain ⟨u,rfl⟩:=zN1 ht;exact ⟨_,_,Grew.one M hn' (.tree n x) (.pointer u,none) ⟨_,_,rfl,ht⟩ hfr,u,none,za1 _ _ _,by cases u<;>rfl,fun e=>(e rfl).elim⟩
  case sn te e0=>cases ht with|fz _ _ _ hz _=>cases hz
  all_goals exact flat rfl rfl
end
end Go.Rk
end
section
namespace Go.Rk
open Go.RowKit Go.Dm Go.Dk
variable {τ:Nat→Type}
variable {fp:List Nat}
section
variable {P:Program} {G:Sig τ} {w0 w w':World} {h0 h h' H:Fz} {F:List Nat} {L L' L2:Hp τ} {ν ν':Vn τ} {φ φ':Nat→List Nat}
theorem Mem.congr (M:Mem P G w0 h0 F L w ν h φ) (a:∀i,lk L' i=lk L i):Mem P G w0 h0 F L' w ν h φ :=
 ⟨M.os,M.tape,M.output,M.size,M.frame,M.le,M.on,M.new,fun i=>by rw [a]; exact M.res i,M.dis,M.out,M.gl,M.fp⟩
theorem Mem.ext (M:Mem P G w0 h0 F L w ν h φ) (hν:ν.le ν'):Mem P G w0 h0 F L w ν' h φ :=
 ⟨M.os,M.tape,M.output,M.size,M.frame,M.le,M.on,M.new,fun i=>(M.res i).of (Fz.le.refl _) hν fun _ _=>rfl,M.dis,M.out,M.gl,M.fp⟩
theorem zbu (i:Nat) (r:AR τ) (L:Hp τ):lk ((i,r)::L) i=r:=by simp [zu7,zm6]
theorem zdR {i j:Nat} (r:AR τ) (L:Hp τ) (h:j≠i):lk ((i,r)::L) j=lk L j:=by simp [zu7,zm6,zcx.2 (Ne.symm h)]
theorem Mem.put (M:Mem P G w0 h0 F L w ν h φ) {i:Nat} (l:lk L i = .gone) (r:AR τ) {fp:List Nat} (g:zmR P G h ν w r (ν i) fp) (f:zhP w0 h F φ fp):Mem P G w0 h0 F ((i,r)::L) w ν h (up1 φ i fp):=by
 refine ⟨M.os,M.tape,M.output,M.size,M.frame,M.le,M.on,M.new,?_,?_,?_,M.gl,M.fp⟩
 ·intro j
  by_cases e:j=i
  ·subst e; rw [zbu,za1]; exact g
  ·rw [zdR r L e,zbz φ fp e]; exact M.res j
 ·intro j k b h1 h2
  by_cases d:j=i
  ·by_cases a:k=i
   ·rw [d,a]
   ·subst d;rw [za1] at h1; rw [zbz φ fp a] at h2;exact ((f b h1).1 k h2).elim
  ·rw [zbz φ fp d] at h1
   by_cases a:k=i
   ·subst a;rw [za1] at h2;exact ((f b h2).1 j h1).elim
   ·rw [zbz φ fp a] at h2; exact M.dis j k b h1 h2
 ·intro j b c
  by_cases e:j=i
  ·subst e; rw [za1] at c; exact (f b c).2
  ·rw [zbz φ fp e] at c; exact M.out j b c
theorem Mem.drop (M:Mem P G w0 h0 F L w ν h φ) (i:Nat):Mem P G w0 h0 F ((i,.gone)::L) w ν h (up1 φ i [])∧zhP w0 h F (up1 φ i []) (φ i):=by
 refine ⟨⟨M.os,M.tape,M.output,M.size,M.frame,M.le,M.on,M.new,?_,?_,?_,M.gl,M.fp⟩,?_⟩
 ·intro j
  by_cases e:j=i
  ·subst e; rw [zbu,za1]; rfl
  ·rw [zdR _ L e,zbz φ [] e]; exact M.res j
 ·intro j k b h1 h2
  by_cases f:j=i
  ·subst f; rw [za1] at h1; cases h1
  ·by_cases d:k=i
   ·subst d; rw [za1] at h2; cases h2
   ·rw [zbz φ [] f] at h1; rw [zbz φ [] d] at h2; exact M.dis j k b h1 h2
 ·intro j b a
  by_cases e:j=i
  ·subst e; rw [za1] at a; cases a
  ·rw [zbz φ [] e] at a; exact M.out j b a
 ·intro b a;refine ⟨fun j c=>?_,M.out i b a⟩
  by_cases e:j=i
  ·subst e; rw [za1] at c; cases c
  ·rw [zbz φ [] e] at c; exact e (M.dis j i b c a)
def zdF (ν ν':Vn τ) (nid a:Nat):Prop:=∀i, ν i=none→ν' i≠none→nid≤i∧i<a
theorem zdF.refl (ν:Vn τ) (nid a:Nat):zdF ν ν nid a:=fun i h1 h2=>(h2 h1).elim
theorem Grew.fresh {U:Hp τ} {nid a:Nat} (g:Grew P G w0 h0 F L w ν h φ U nid a fp ν' φ'):zdF ν ν' nid a:=by
 intro i h1 h2
 by_cases e:nid≤i∧i<a
 ·exact e
 ·rw [(g.same i e).1] at h2; exact (h2 h1).elim
theorem zwb {f:(t:Ty)→t.den τ→Nat→CV τ × Hp τ × Nat} (b:∀t x nid c U a,f t x nid=(c,U,a)→nid≤a) (d:∀t x nid c U a,f t x nid=(c,U,a)→∀i∈kys U,nid≤i∧i<a) :
  ∀{ts:List Ty} {q:DP τ ts} {nid:Nat} {cs:List (CV τ)} {U:Hp τ} {a:Nat},zCA f ts q nid=(cs,U,a)→∀i∈kys U,nid≤i∧i<a
 | [],q,nid,cs,U,a,e,i,hi=>by cases e; cases hi
 | t::ts,q,nid,cs,U,a,e,i,hi=>by
  unfold zCA at e
  split at e
  rename_i c l m h1
  split at e
  rename_i g j k h2
  cases e;have n:=b _ _ _ _ _ _ h1;have h:=zky b h2;simp only [kys,List.map_append] at hi
  rcases List.mem_append.1 hi with hi|hi
  ·have:=d _ _ _ _ _ _ h1 i hi; omega
  ·have:=zwb b d h2 i hi; omega
theorem zzw (G:Sig τ):∀(d:Nat) (t:Ty) (x:t.den τ) (nid:Nat) (c:CV τ) (U:Hp τ) (nid':Nat),zsS G d t x nid=(c,U,nid')→∀i∈kys U,nid≤i∧i<nid':=by
 intro d
 induction d with
 | zero=>intro t x nid c U nid' e; cases t<;>simp only [zsS,Prod.mk.injEq] at e<;>obtain ⟨_,rfl,rfl⟩:=e<;>simp [kys]
 | succ d ih =>
  intro t x nid c U nid' e;cases t
  case po n =>
   unfold zsS at e
   split at e
   rename_i cs U1 n1 h1
   cases e;have l1:=zky (zgE G d) h1;intro i hi
   rcases List.mem_cons.1 hi with rfl|hi
   ·omega
   ·have:=zwb (zgE G d) ih h1 i hi; omega
  all_goals (simp only [zsS,Prod.mk.injEq] at e; obtain ⟨_,rfl,rfl⟩:=e; simp [kys])
theorem zGV (M:Mem P G w0 h0 F L w ν h φ) {i n nid c:Nat} {x:τ n} {U:Hp τ} {v:Value} {q:Option ((e:Ty) × List (e.den τ))} {fp:List Nat} (e:zkz G i n x nid=(U,c)) (C:lk L i = .gone) (hi:ν i=some (v,q)) (J:Tr P G h w (.po n) x v fp) (y:zhP w0 h F φ fp)
  (hn:∀i,nid≤i→i<c→ν i=none):nid≤c∧∃ν' φ' t cs b,Mem P G w0 h0 F (U++L) w ν' h φ'∧ν.le ν'∧zdF ν ν' nid c∧v=ptr b 0∧lk U i = .blk t cs∧(∀j, ¬(nid≤j∧j<c)→j≠i→φ' j=φ j)∧∀j b,(j=i∨nid≤j∧j<c)→b∈φ' j→b∈fp:=by
 unfold zkz at e
 split at e
 rename_i cs z K h1
 cases e;have H:=zky (zgE G depth) h1
 cases J with
 | fz _ _ _ E _=>cases E
 | po _ _ b vs fp k I u m =>
  obtain ⟨ν1, φ1,g,D⟩:=zzv (zgE G depth) (zEv depth) h1 I M hn (y.sub fun b k=>List.mem_cons_of_mem _ k)
  have r:¬(nid≤i∧i<c):=fun a=>by rw [hn i a.1 a.2] at hi; cases hi
  have l:i∉kys z:=fun A=>r (zwb (zgE G depth) (zzw G depth) h1 i A)
  have s:=zhP.grew g (y.sub (fp':=[b]) fun o d=>by rw [List.mem_singleton.1 d]; exact List.mem_cons_self ..) fun o d=>by rw [List.mem_singleton.1 d]; exact u
  have B:=g.mem.put (i:=i) (by rw [zda L l]; exact C) (.blk (G.ti n) (zI7 (G.fs n) cs)) (fp:=[b]) ⟨b,q,vs,(g.le _ _ hi),rfl,k,zKy D m⟩ s;refine ⟨H, ν1,_,G.ti n,zI7 (G.fs n) cs,b,B,g.le,g.fresh,rfl,zbu ..,fun j f p=>?_,fun j o f d=>?_⟩
  ·rw [zbz _ _ p]; exact (g.same j f).2
  ·by_cases e:j=i
   ·subst e; rw [za1] at d; rw [List.mem_singleton.1 d]; exact List.mem_cons_self ..
   ·rw [zbz _ _ e] at d;exact List.mem_cons_of_mem _ (g.fp j o (by rcases f with f|f; exact absurd f e; exact f.1) (by rcases f with f|f; exact absurd f e; exact f.2) d)
theorem zGW {i n nid a:Nat} {x:τ n} {U:Hp τ} (e:zkz G i n x nid=(U,a)):∀j∈kys U,j=i∨nid≤j∧j<a:=by
 unfold zkz at e
 split at e
 rename_i cs c d h1
 cases e;intro j b
 rcases List.mem_cons.1 b with rfl|b
 ·exact .inl rfl
 ·exact .inr (zwb (zgE G depth) (zzw G depth) h1 j b)
theorem Tr.pn_some {n:Nat} {x:τ n} {v:Value} (h:Tr P G H w (.pn n) (some x) v fp):Tr P G H w (.po n) x v fp:=by
 cases h with
 | fz _ _ _ a _=>cases a
 | pn1 _ _ _ _ hp=>exact hp
theorem Tr.pn_none {n:Nat} {v:Value} (h:Tr P G H w (.pn n) none v fp):v = .pointer none∧fp=[]:=by
 cases h with
 | fz _ _ _ a _=>cases a
 | pn0 _=>exact ⟨rfl,rfl⟩
theorem zKC (M:Mem P G w0 h0 F L2 w ν h φ) {i n nid a:Nat} {x:τ n} {U:Hp τ} (e:zkz G i n x nid=(U,a)) (m:lk L2 i = .tree n (some x)) (hn:∀i,nid≤i→i<a→ν i=none) :
  nid≤a∧∃ν' φ' b q,Mem P G w0 h0 F (U++L2) w ν' h φ'∧ν.le ν'∧zdF ν ν' nid a∧ν i=some (ptr b 0,q):=by
 have f:=M.res i;rw [m] at f;obtain ⟨v,q,d,o⟩:=f;obtain ⟨l,k⟩:=M.drop i;obtain ⟨h1, ν', φ',t,cs,b,M2,h2,g,rfl,p,_⟩:=zGV l e (zbu ..) d (Tr.pn_some o) k hn;refine ⟨h1, ν', φ',b,q,M2.congr fun j=>?_,h2,g,d⟩
 by_cases c:j∈kys U
 ·rw [zhl _ c,zhl _ c]
 ·rw [zda _ c,zda _ c,zdR];rintro rfl
  apply c
  unfold zkz at e
  split at e
  cases e;exact List.mem_cons_self ..
end
section
variable {ρ:Type} (X:Cx τ) (w0:World) (h0:Fz) (F:List Nat)
def Ok1 (o:Oper) (E:zad τ) (L:Hp τ) (nid:Nat) (v:XV τ) (U:Hp τ) (tch:List Nat) (nid':Nat):Prop :=
 ∀(L2:Hp τ) (ν:Vn τ) (h:Fz) (φ:Nat→List Nat) (a:Act) (w:World) (next:Act→World→Prop) (Q:Exit→Act→World→Prop),a.defers=[]→Mem X.P X.G w0 h0 F L2 w ν h φ→zew X h ν a (rdO o.op) E →
  (∀i∈tch,lk L2 i=lk L i)→(∀i,nid≤i→i<nid'→ν i=none) →
  (∀ν' h' φ' w' u,Mem X.P X.G w0 h0 F (U++L2) w' ν' h' φ'→ν.le ν'→h.le h'→zdF ν ν' nid nid'→XOk X.P X.G h' ν' v u→next (a.put o.dst u) w')→o.wp X.P a w next Q
def zdu (o:Oper) (E:zad τ) (L:Hp τ) (nid:Nat) (K:Nx τ ρ) (r:ρ):Prop :=
 ∃v g U b a,K v g U b a=some r∧nid≤a∧(∀x∈g,zke x=true)∧Ok1 X w0 h0 F o E L nid v U b a
def zwc (op:OpF τ ρ):Prop:=∀(r:ρ) (o:Oper) (E:zad τ) (L:Hp τ) (nid:Nat) (K:Nx τ ρ),op E L nid K o.op=some r→zdu X w0 h0 F o E L nid K r
end
section
variable {ρ:Type} {X:Cx τ} {w0 w w':World} {h0:Fz} {F:List Nat} {o:Oper} {E:zad τ} {L:Hp τ} {nid nid':Nat} {K:Nx τ ρ} {r:ρ} {v:XV τ} {U:Hp τ} {tch:List Nat} {g:List (XV τ)}
theorem zf7 {a:Act} {u:Value} {next:Act→World→Prop} {Q:Exit→Act→World→Prop} (hx:(execOp a.eval o).run X.P w = .ok (.value u) w') (k:next (a.put o.dst u) w'):o.wp X.P a w next Q:=by
 unfold Oper.wp; rw [hx]; exact k
theorem zI4 {a:Act} {next:Act→World→Prop} {Q:Exit→Act→World→Prop} (hx:(execOp a.eval o).run X.P w = .ok .skip w') (k:next (a.put o.dst undef) w'):o.wp X.P a w next Q:=by
 unfold Oper.wp; rw [hx]; exact k
theorem zbp (e:K v [] [] tch nid=some r) (hx:∀(L2:Hp τ) ν h φ (a:Act) (w:World),a.defers=[]→Mem X.P X.G w0 h0 F L2 w ν h φ→zew X h ν a (rdO o.op) E→(∀i∈tch,lk L2 i=lk L i)→∃u,(execOp a.eval o).run X.P w = .ok (.value u) w∧XOk X.P X.G h ν v u) :
  zdu X w0 h0 F o E L nid K r :=
 ⟨v,[],[],tch,nid,e,Nat.le_refl _,(fun _ h=>by cases h),fun L2 ν h φ a w next Q hd M hE ha hn k=>by
  obtain ⟨u,h1,h2⟩:=hx L2 ν h φ a w hd M hE ha
  exact zf7 h1 (k ν h φ w u M (Vn.le.refl _) (Fz.le.refl _) (zdF.refl _ _ _) h2)⟩
theorem zI5 {b:BinOp} {t' ty t:Nat} {x y:Operand} {A B:XV τ} (l:evX E x=some A) (m:evX E y=some B) {dst:Option Nat} {p:String} {af:Array Edge} {gd:Option (Nat × Bool)}
    (e:opI nid K b A B=some r):zdu X w0 h0 F ⟨dst,.binOp b t' x y ty,t,p,af,gd⟩ E L nid K r:=by
  unfold opI hi at e
  split at e
  all_goals first
  | (cases e; done)
  | (obtain ⟨z,d,e⟩:=ob e
     refine zbp e fun n ν h φ a w hd M g o=>?_;obtain ⟨q,f,i⟩:=zd4 a hd;obtain ⟨u,h1,h2⟩:=znJ i (g.op (by simp [Op.operands])) l rfl;obtain ⟨j,c,k⟩:=znJ i (g.op (by simp [Op.operands])) m rfl;obtain rfl:u=_:=h2;obtain rfl:j=_:=k
     first
     | exact ⟨_,ex_add f h1 c d,rfl⟩
     | exact ⟨_,ex_sub f h1 c d,rfl⟩
     | exact ⟨_,ex_mul f h1 c d,rfl⟩
     | exact ⟨_,ex_quo f h1 c d,rfl⟩
     | exact ⟨_,ex_rem f h1 c d,rfl⟩
     | exact ⟨_,ex_cat f h1 c d,rfl⟩)
end
end Go.Rk
end
section
namespace Go.Rk
open Go.RowKit Go.Dm Go.Dk
variable {τ:Nat→Type}
section
variable {ρ:Type} {X:Cx τ} {w0 w w':World} {h0 h H:Fz} {F:List Nat} {o:Oper} {E:zad τ} {L L2:Hp τ} {ν ν':Vn τ} {φ φ':Nat→List Nat} {nid nid':Nat} {K:Nx τ ρ} {r:ρ} {v:XV τ} {U:Hp τ} {tch:List Nat} {g:List (XV τ)}
theorem zNw {i:Nat} {k:Bool→Hp τ→List Nat→Nat→Option ρ} (e:nlK X L nid i k=some r):∃b U a,k b U [i] a=some r∧nid≤a ∧
  ∀(c:Hp τ) ν h φ (w:World),Mem X.P X.G w0 h0 F c w ν h φ→lk c i=lk L i→(∀i,nid≤i→i<a→ν i=none) →
   ∃ν' φ' u q,Mem X.P X.G w0 h0 F (U++c) w ν' h φ'∧ν.le ν'∧zdF ν ν' nid a∧ν i=some (.pointer u,q)∧(b=true→u=none)∧(b=false→∃x,u=some ⟨x,0,none⟩):=by
 unfold nlK at e
 split at e
 ·rename_i t cs g
  refine ⟨false,[],nid,e,Nat.le_refl _,fun c ν h φ w M f _=>?_⟩;have d:=M.res i;rw [f,g] at d;obtain ⟨b,q,vs,h1,_⟩:=d;exact ⟨ν, φ,_,q,M,Vn.le.refl _,zdF.refl _ _ _,h1,(by simp),fun _=>⟨b,rfl⟩⟩
 ·rename_i n y g
  cases y with
  | none =>
   refine ⟨true,_,nid,e,Nat.le_refl _,fun c ν h φ w M f _=>?_⟩;have d:=M.res i;rw [f,g] at d;obtain ⟨v,q,h1,h2⟩:=d;obtain ⟨rfl,o⟩:=Tr.pn_none h2;obtain ⟨M1,A⟩:=M.drop i;have M2:=M1.put (i:=i) (zbu ..) .nilp (fp:=[]) ⟨q,h1,rfl⟩ (fun b p=>by cases p);refine ⟨ν,_,none,q,M2.congr fun j=>?_,Vn.le.refl _,zdF.refl _ _ _,h1,fun _=>rfl,by simp⟩
   by_cases l:j=i
   ·subst l; exact (zbu ..).trans (zbu ..).symm
   ·show lk ((i,.nilp)::c) j=_;rw [zdR _ _ l,zdR _ _ l,zdR _ _ l]
  | some y =>
   obtain ⟨U,m,h1⟩:∃U m,zkz X.G i n y nid=(U,m):=⟨_,_,rfl⟩;simp only [optK,h1] at e;refine ⟨false,U,m,e,?_,fun c ν h φ w M f hn=>?_⟩
   ·unfold zkz at h1
    split at h1
    rename_i h2
    cases h1;exact zky (zgE X.G depth) h2
   ·obtain ⟨_, ν', φ',b,q,h2,o,s,z⟩:=zKC M h1 (f.trans g) hn;exact ⟨ν', φ',_,q,h2,o,s,z,by simp,fun _=>⟨b,rfl⟩⟩
 ·rename_i g
  refine ⟨true,[],nid,e,Nat.le_refl _,fun c ν h φ w M f _=>?_⟩;have d:=M.res i;rw [f,g] at d;obtain ⟨q,h1,_⟩:=d;exact ⟨ν, φ,none,q,M,Vn.le.refl _,zdF.refl _ _ _,h1,fun _=>rfl,by simp⟩
 ·cases e
theorem zNx {i:Nat} {k:Hp τ→List Nat→Nat→Option ρ} (e:ptK X L nid i k=some r):∃U a,k U [i] a=some r∧nid≤a ∧
  ∀(c:Hp τ) ν h φ (w:World),Mem X.P X.G w0 h0 F c w ν h φ→lk c i=lk L i→(∀i,nid≤i→i<a→ν i=none) →
   ∃ν' φ' b q,Mem X.P X.G w0 h0 F (U++c) w ν' h φ'∧ν.le ν'∧zdF ν ν' nid a∧ν i=some (ptr b 0,q):=by
 unfold ptK at e
 split at e
 ·rename_i t cs f
  refine ⟨[],nid,e,Nat.le_refl _,fun c ν h φ w M g _=>?_⟩;have j:=M.res i;rw [g,f] at j;obtain ⟨b,q,vs,h1,_⟩:=j;exact ⟨ν, φ,b,q,M,Vn.le.refl _,zdF.refl _ _ _,h1⟩
 ·rename_i n y f
  cases y with
  | none=>cases e
  | some y =>
   obtain ⟨U,d,h1⟩:∃U d,zkz X.G i n y nid=(U,d):=⟨_,_,rfl⟩;simp only [Option.bind_some,h1] at e;refine ⟨U,d,e,?_,fun c ν h φ w M g hn=>?_⟩
   ·unfold zkz at h1
    split at h1
    rename_i h2
    cases h1;exact zky (zgE X.G depth) h2
   ·obtain ⟨_, ν', φ',b,q,h2,l,m,o⟩:=zKC M h1 (g.trans f) hn;exact ⟨ν', φ',b,q,h2,l,m,o⟩
 ·cases e
theorem zAh {α:Type}:∀{n o:Nat} {cs l:List α},cutL cs o n=some l→l.length=n
 | 0,o,cs,l,e=>by cases e; rfl
 | n+1,o,cs,l,e=>by
  unfold cutL at e
  split at e
  ·split at e
   ·rename_i h
    cases e;simp [zAh h]
   ·cases e
  ·cases e
theorem zKr {a:Act} {q:Env} {N:Nat} {x:Operand} {t' t b ob k n:Nat} {dst:Option Nat} {p:String} {af:Array Edge} {gd:Option (Nat × Bool)} (i:Fits N q a) (m:evl q x=some (ptr b (ob+k))) {cs:List (CV τ)} {vs:List Value}
  (j:ze3 w (some ⟨b,ob,none⟩) vs) (hc:CVs X.P X.G h ν cs vs) (hn:szO X.P t'=some n) (e:zG1 X.P t' (cutL cs k n)=some v):∃u,(execOp a.eval ⟨dst,.load t' x,t,p,af,gd⟩).run X.P w = .ok (.value u) w∧XOk X.P X.G h ν v u:=by
 unfold zG1 at e
 split at e
 ·rename_i l o
  obtain ⟨h1,h2⟩:=hc.cut o;have d:=zAh o
  split at e
  ·rename_i g
   cases e;have f:=h1.len;exact ⟨_,zMu (zxk g) (zf4 hn) j rfl (by rw [f,d]) i m,_,rfl,h1⟩
  ·rename_i g
   split at e
   ·rename_i c
    cases e;obtain ⟨u,us,f,r,s⟩:=h1;refine ⟨u,zMt (zxk g) j ?_ i m,r⟩
    have:((vs.drop k).take n)[0]? = some u:=by rw [f]; rfl
    rw [List.getElem?_take] at this
    split at this
    ·simpa using this
    ·cases this
   ·cases e
  ·cases e
 ·cases e
theorem RpR.get {P:Program} {G:Sig τ}:∀{e:Ty} {xs:List (e.den τ)} {vs:List Value},RpR P G h e xs vs→∀{i:Nat} {z:e.den τ},xs[i]? = some z →
  RpL P G h (ets G e) (edt G e z) ((vs.drop (i*(ets G e).length)).take (ets G e).length)∧i*(ets G e).length+(ets G e).length≤vs.length
 | _,_,_,.nil _,_,_,a=>by simp at a
 | _,_,_,.cons e x xs vs c h1 h2,0,_,a=>by
  simp at a;subst a;have:=h1.len;refine ⟨?_,by simp [this]⟩;rw [Nat.zero_mul,List.drop_zero,List.take_append_of_le_length (by omega),List.take_of_length_le (by omega)];exact h1
 | _,_,_,.cons e x xs vs c h1 h2,i+1,z,a=>by
  simp at a;obtain ⟨b,d⟩:=RpR.get h2 a;have:=h1.len;refine ⟨?_,by simp [Nat.add_mul,this]; omega⟩;rw [Nat.add_mul,Nat.one_mul,List.drop_append,List.drop_eq_nil_of_le (by omega),List.nil_append,this,Nat.add_sub_cancel];exact b
theorem zsK {α:Type} {xs:List α} {m:Int} {z:α} (e:lAt xs m=some z):xs[m.toNat]? = some z∧0≤m:=by
 unfold lAt at e
 split at e
 ·exact ⟨e, ‹_›⟩
 ·cases e
theorem zP5 (M:Mem X.P X.G w0 h0 F L2 w ν h φ) {i k:Nat} {m:Int} {t e:Ty} {z:t.den τ} {o:Nat} {v:Value} {I:TypeId} {xs:List (e.den τ)} (y:zc9 X.P X.G h ν (.oe i k m t z o) v) (E:lk L2 i = .row I e xs k) :
  ∃b d vs,v=ptr b (d+m.toNat*(ets X.G t).length+o)∧ze3 w (some ⟨b,d+m.toNat*(ets X.G t).length,none⟩) vs∧RpL X.P X.G h (ets X.G t) (edt X.G t z) vs:=by
 obtain ⟨b,d,n,c,q,C,u,h1,h2,s,rfl⟩:=y;have r:=M.res i;rw [E] at r;obtain ⟨L,K,vs,J,l,N,p,H,a⟩:=r;rw [h1] at l;cases l;rw [h2] at a
 injection a with a
 injection a with _ a
 injection a with a
 cases a;obtain ⟨D,h0⟩:=zsK s;obtain ⟨A,B⟩:=H.get D;refine ⟨b,d,_,rfl,?_,A⟩;obtain ⟨rfl,_⟩:=p.len;have x:=p.sees;obtain ⟨_,g,hc⟩:=x;refine .inr ⟨rfl,g,fun j u f=>?_⟩;rw [List.getElem?_take] at f
 split at f
 ·rw [List.getElem?_drop] at f;have:=hc _ _ f;simpa [Nat.add_assoc] using this
 ·cases f
theorem zEk (M:Mem X.P X.G w0 h0 F L2 w ν h φ) {i k:Nat} {t:TypeId} {cs:List (CV τ)} {v:Value} (g:zc9 X.P X.G h ν (.pt i k) v) (l:lk L2 i = .blk t cs) :
  ∃b q vs, ν i=some (ptr b 0,q)∧v=ptr b k∧φ i=[b]∧w.heap[b]? = some (.cells vs.toArray t (0,0))∧CVs X.P X.G h ν cs vs∧ze3 w (some ⟨b,0,none⟩) vs:=by
 have d:=M.res i;rw [l] at d;obtain ⟨b,q,vs,h1,h2,a,e⟩:=d;obtain ⟨u,m,c,rfl,_⟩:=g;rw [h1] at c;cases c;refine ⟨b,q,vs,h1,by simp [zu6],h2,a,e,.inr ⟨rfl,(Array.getElem?_eq_some_iff.1 a).1,fun j v f=>by simp [World.cell?,a,f]⟩⟩
theorem zP6 {n:Nat} {u:Value} (a:zc9 X.P X.G h ν (.ep n none) u):zc9 X.P X.G h ν .nl u:=by cases a; rfl
theorem zP7 {n:Nat} {y:τ n} {u:Value} (c:zc9 X.P X.G h ν (.ep n (some y)) u):zc9 X.P X.G h ν (.ea (.st n) y 0) u:=by
 cases c with
 | pn1 _ _ _ a=>cases a; rename_i b k vs d a; exact ⟨b,k,vs,rfl,d,a⟩
theorem zNy {x:Operand} {t' t:Nat} {dst:Option Nat} {p:String} {af:Array Edge} {gd:Option (Nat × Bool)} {c:CV τ} (hx:evC E x=some c) (e:zOc X L nid K t' c=some r):zdu X w0 h0 F ⟨dst,.load t' x,t,p,af,gd⟩ E L nid K r:=by
 unfold zOc at e
 split at e
 ·rename_i id o
  split at e
  ·rename_i bt cs hl
   split at e
   ·rename_i n hn
    split at e
    ·rename_i j hv
     cases hb:Nat.beq j id with
     | true=>rw [hb] at e; cases e
     | false =>
      rw [hb] at e;obtain ⟨b,U,nid',h1,h2,h3⟩:=zNw (w0:=w0) (h0:=h0) (F:=F) e;refine ⟨if b=true then .c .nl else .c (.pt j 0),[],U,[id,j],nid',?_,h2,fun _ h=>by (cases h),fun L2 ν h φ a w next Q hd M hE ha hfr k=>?_⟩
      ·cases b<;>exact h1
      ·obtain ⟨Ea,hf,hl'⟩:=zd4 a hd;obtain ⟨u,h4,h5⟩:=zB hl' (hE.op (by simp [Op.operands])) hx;obtain ⟨bb,q,vs,hν,rfl,_,hh,hc,hs⟩:=zEk M h5 ((ha id (by simp)).trans hl);obtain ⟨u,h6,h7⟩:=zKr (ob:=0) (dst:=dst) (t:=t) (p:=p) (af:=af) (gd:=gd) hf (by rw [Nat.zero_add]; exact h4) hs hc hn hv;obtain ⟨ν', φ',uj,q',M',hle,hfre,hνj,hb1,hb0⟩:=h3 L2 ν h φ w M (ha j (by simp)) hfr;obtain ⟨uj',q'',h8,h9,_⟩:=h7;rw [hνj] at h8;cases h8;refine zf7 h6 (k ν' h φ' w u M' hle (Fz.le.refl _) hfre ?_)
       cases b with
       | true =>
        rw [hb1 rfl] at h9;subst h9;rfl
       | false=>exact ⟨uj,q',hle _ _ hνj,h9,fun e=>(e rfl).elim⟩
    ·rename_i v _ hv
     refine zbp e fun L2 ν h φ a w hd M hE ha=>?_;obtain ⟨Ea,hf,hl'⟩:=zd4 a hd;obtain ⟨u,h4,h5⟩:=zB hl' (hE.op (by simp [Op.operands])) hx;obtain ⟨bb,q,vs,hν,rfl,_,hh,hc,hs⟩:=zEk M h5 ((ha id (by simp)).trans hl);exact zKr (ob:=0) hf (by rw [Nat.zero_add]; exact h4) hs hc hn hv
    ·cases e
   ·cases e
  ·cases e
 ·rename_i ty z o
  split at e
  ·rename_i n hn
   have key:∀{v},zG1 X.P t' (cutL (zxZ X.G ty z) o n)=some v→∀(L2:Hp τ) ν h φ (a:Act) (w:World),a.defers=[]→Mem X.P X.G w0 h0 F L2 w ν h φ→zew X h ν a (rdO (.load t' x)) E→∃u,(execOp a.eval ⟨dst,.load t' x,t,p,af,gd⟩).run X.P w = .ok (.value u) w∧XOk X.P X.G h ν v u:=by
    intro v hv L2 ν h φ a w hd M hE;obtain ⟨Ea,hf,hl'⟩:=zd4 a hd;obtain ⟨u,h4,h5⟩:=zB hl' (hE.op (by simp [Op.operands])) hx;obtain ⟨b,k,vs,rfl,hs,hr⟩:=h5;exact zKr hf h4 (hs.sees M.on) (zAr hr) hn hv
   split at e
   ·rename_i n' y hv
    have fin:∀{c':CV τ},K (.c c') [] [] [] nid=some r→(∀{ν h u},zc9 X.P X.G h ν (.ep n' y) u→zc9 X.P X.G h ν c' u)→zdu X w0 h0 F ⟨dst,.load t' x,t,p,af,gd⟩ E L nid K r:=by
     intro c' e hcc;refine zbp e fun L2 ν h φ a w hd M hE ha=>?_;obtain ⟨u,h1,h2⟩:=key hv L2 ν h φ a w hd M hE;exact ⟨u,h1,hcc h2⟩
    cases y with
    | none=>exact fin e zP6
    | some y=>exact fin e zP7
   ·rename_i v _ hv
    exact zbp e fun L2 ν h φ a w hd M hE ha=>key hv L2 ν h φ a w hd M hE
   ·cases e
  ·cases e
 ·rename_i id k m ty z o
  split at e
  ·rename_i te e' xs k' hl
   cases hb:Nat.beq k k' with
   | false=>rw [hb] at e; cases e
   | true =>
    rw [hb] at e
    have hkk:k=k':=by simpa using hb
    subst hkk
    split at e
    ·rename_i n hn
     split at e
     ·rename_i v hv
      refine zbp e fun L2 ν h φ a w hd M hE ha=>?_;obtain ⟨Ea,hf,hl'⟩:=zd4 a hd;obtain ⟨u,h4,h5⟩:=zB hl' (hE.op (by simp [Op.operands])) hx;obtain ⟨b,d,vs,rfl,hs,hr⟩:=zP5 M h5 ((ha id (by simp)).trans hl);exact zKr hf h4 hs (zAr hr) hn hv
     ·cases e
    ·cases e
  ·cases e
 ·cases e
end
end Go.Rk
end
section
namespace Go.Rk
open Go.RowKit Go.Dm Go.Dk
variable {τ:Nat→Type}
variable {ids:List Nat}
section
variable {P:Program} {G:Sig τ} {w0 w w':World} {h0 h h' H:Fz} {F:List Nat} {L L' L2:Hp τ} {ν ν':Vn τ} {φ φ':Nat→List Nat}
theorem Mem.grow (M:Mem P G w0 h0 F L w ν h φ) (a:Below w.heap.size w w'):Mem P G w0 h0 F L w' ν h φ :=
 M.upd [] (fun _ _=>rfl) (fun _ _=>rfl) (Vn.le.refl _) (Fz.le.refl _) a.os a.tape a.output a.size (fun b c _=>a.block b c) (fun b o h1 h2=>by rw [h1] at h2; cases h2) (fun b h1 h2=>(h2 h1).elim)
  (fun i hi=>by cases hi) (fun i hi=>by cases hi) (fun i hi=>by cases hi)
theorem Mem.alloc (M:Mem P G w0 h0 F L w ν h φ) {nid:Nat} (hn:ν nid=none) (o:Obj) (r:AR τ) (x:Value × Option ((e:Ty) × List (e.den τ))) (c:zmR P G h (up1 ν nid (some x)) (w.alloc o) r (some x) [w.heap.size]) :
  Mem P G w0 h0 F ((nid,r)::L) (w.alloc o) (up1 ν nid (some x)) h (up1 φ nid [w.heap.size]) :=
 (M.grow (zoo w o)).add hn r x c fun b a=>by
  rw [List.mem_singleton.1 a];refine ⟨fun i hi=>Nat.lt_irrefl _ (M.lt hi),?_,.inr M.size⟩
  cases e:h w.heap.size with
  | none=>rfl
  | some o'=>exact (Nat.lt_irrefl _ (M.in_lt (b:=w.heap.size) (by rw [e]; simp))).elim
theorem zeq {nid:Nat} {x:Value × Option ((e:Ty) × List (e.den τ))}:zdF ν (up1 ν nid (some x)) nid (nid+1):=by
 intro i h1 h2
 by_cases e:i=nid
 ·omega
 ·rw [zbz _ _ e] at h2; exact (h2 h1).elim
theorem zdF.trans {ν'':Vn τ} {a b c:Nat} (h1:zdF ν ν' a b) (h2:zdF ν' ν'' b c) (h:a≤b) (d:b≤c):zdF ν ν'' a c:=by
 intro i g f
 by_cases e:ν' i=none
 ·have:=h2 i e f; omega
 ·have:=h1 i g e; omega
theorem Mem.turn (M:Mem P G w0 h0 F L w ν h φ) {i b:Nat} (r:AR τ) (hφ:φ i=[b]) (hν:ν.le ν') (g:w'.os=w.os) (a:w'.tape=w.tape) (e:w'.output=w.output) (l:w'.heap.size=w.heap.size) (f:∀k,k≠b→w'.heap[k]? = w.heap[k]?)
  (m:zmR P G h ν' w' r (ν' i) [b]):Mem P G w0 h0 F ((i,r)::L) w' ν' h φ:=by
 refine M.upd [i] (fun j c=>zdR _ _ (by simpa using c)) (fun _ _=>rfl) hν (Fz.le.refl _) g a e (by omega) (fun k _ d=>f k ?_) (fun b o h1 h2=>by rw [h1] at h2; cases h2) (fun b h1 h2=>(h2 h1).elim) ?_ ?_ ?_
 ·rintro rfl
  apply d
  rw [zdt,hφ]; simp
 ·intro j c;rw [List.mem_singleton.1 c,zbu,hφ]; exact m
 ·intro j c k d;rw [List.mem_singleton.1 c] at d;refine ⟨(M.out i k d).1,.inl ?_⟩;rw [zdt]; exact List.mem_append_left _ d
 ·intro j c k d b _ _;rw [List.mem_singleton.1 c,List.mem_singleton.1 d]
theorem zEE {i j:Nat} {U:Hp τ} (d:∀i∈ids, ∃e xs,lk U i = .fz e xs∧((∃a k,lk L i = .row a e xs k)∨lk L i = .fz e xs∨∃j k lo a b ys,lk L i = .vw j k e lo xs∧lk L j = .row a b ys k∧j∈ids)) (g:j∈ids) :
  ∃e xs,lk U j = .fz e xs∧((∃a k,lk L j = .row a e xs k)∨lk L j = .fz e xs∨∃c k lo a b ys,lk L j = .vw c k e lo xs∧lk L c = .row a b ys k∧c∈i::ids):=by
 obtain ⟨e,xs,h1,h|h|⟨c,k,lo,a,b,ys,h2,f,l⟩⟩:=d j g
 ·exact ⟨e,xs,h1,.inl h⟩
 ·exact ⟨e,xs,h1,.inr (.inl h)⟩
 ·exact ⟨e,xs,h1,.inr (.inr ⟨c,k,lo,a,b,ys,h2,f,List.mem_cons_of_mem _ l⟩)⟩
theorem zxz:∀{ids:List Nat} {U:Hp τ},freeze L ids=some U→kys U=ids∧∀i∈ids, ∃e xs,lk U i = .fz e xs∧((∃c k,lk L i = .row c e xs k)∨lk L i = .fz e xs∨∃j k lo c b ys,lk L i = .vw j k e lo xs∧lk L j = .row c b ys k∧j∈ids)
 | [],U,e=>by cases e; exact ⟨rfl,fun i hi=>by cases hi⟩
 | i :: ids,U,e=>by
  unfold freeze at e
  split at e
  ·rename_i q h1
   obtain ⟨h2,h⟩:=zxz h1
   split at e
   ·rename_i c b xs k f
    cases e;refine ⟨by simp [kys] at h2 ⊢; exact h2,fun j d=>?_⟩
    by_cases a:j=i
    ·subst a; exact ⟨b,xs,zbu ..,.inl ⟨c,k,f⟩⟩
    ·rw [zdR _ _ a];exact zEE h ((List.mem_cons.1 d).resolve_left a)
   ·rename_i b xs f
    cases e;refine ⟨by simp [kys] at h2 ⊢; exact h2,fun j d=>?_⟩
    by_cases a:j=i
    ·subst a; exact ⟨b,xs,zbu ..,.inr (.inl f)⟩
    ·rw [zdR _ _ a];exact zEE h ((List.mem_cons.1 d).resolve_left a)
   ·rename_i m k b lo xs f
    split at e
    ·rename_i c o ys n l
     cases g:(mem ids m&&Nat.beq k n) with
     | false=>rw [g] at e; cases e
     | true =>
      rw [g] at e;cases e;simp only [Bool.and_eq_true,Nat.beq_eq] at g;obtain ⟨p,rfl⟩:=g;refine ⟨by simp [kys] at h2 ⊢; exact h2,fun j d=>?_⟩
      by_cases a:j=i
      ·subst a; exact ⟨b,xs,zbu ..,.inr (.inr ⟨m,k,lo,c,o,ys,f,l,List.mem_cons_of_mem _ (zeS.1 p)⟩)⟩
      ·rw [zdR _ _ a];exact zEE h ((List.mem_cons.1 d).resolve_left a)
    ·cases e
   ·cases e
  ·cases e
theorem vw_fz {i j k lo D:Nat} {e f:Ty} {xs:List (e.den τ)} {ys:List (f.den τ)} {fp c:List Nat} (p:zmR P G h ν w (.vw j k e lo xs) (ν i) fp) (A:zmR P G h ν w (.row D f ys k) (ν j) c) (x:h.le H) (g:∀b∈c,H b=w.heap[b]?) :
  ∃v q, ν i=some (v,q)∧fp=[]∧Rp P G H (.sl e) xs v:=by
 obtain ⟨I,M,L,E,O,F,C,a2,N,z,y,m,n,B,t,r,s⟩:=p;obtain ⟨K,J,vs,u,h1,h2,l,o,a⟩:=A;rw [z] at h1;cases h1;rw [y] at a
 injection a with a
 injection a with _ a
 injection a with a
 cases a;exact ⟨_,_,B,s,vw_rp (zxr x l o fun b d=>g b (by rw [h2]; exact d)) m n t r.1⟩
open Classical in
noncomputable def zAB (φ:Nat→List Nat) (ids:List Nat):Nat→List Nat:=fun i=>if i∈ids then [] else φ i
theorem zhS {i:Nat} (h:i∈ids):zAB φ ids i=[]:=by simp [zAB,h]
theorem znv {i:Nat} (h:i∉ids):zAB φ ids i=φ i:=by simp [zAB,h]
theorem Mem.freeze (M:Mem P G w0 h0 F L2 w ν h φ) {ids:List Nat} {U:Hp τ} (e:Rk.freeze L ids=some U) (p:∀i∈ids,lk L2 i=lk L i):Mem P G w0 h0 F (U++L2) w ν (zrX h w (fps φ ids)) (zAB φ ids):=by
 obtain ⟨r,s⟩:=zxz e;have c:=M.lend_le ids;refine M.upd ids (fun i hi=>zda _ (by rw [r]; exact hi)) (fun i hi=>znv hi) (Vn.le.refl _) c rfl rfl rfl (Nat.le_refl _) (fun _ _ _=>rfl) ?_ ?_ ?_ ?_ ?_
 ·intro b o _ h2;exact zv8 M.on b o h2
 ·intro b h1 h2
  by_cases a:b∈fps φ ids
  ·exact .inl a
  ·rw [zkx a] at h2; exact (h2 h1).elim
 ·intro i hi;obtain ⟨x,xs,h1,h2⟩:=s i hi;rw [zhl _ (by rw [r]; exact hi),h1,zhS hi];have d:=M.res i;rw [p i hi] at d
  rcases h2 with ⟨t,k,h2⟩|h2|⟨j,k,lo,t,y,ys,h2,g,f⟩
  ·rw [h2] at d;obtain ⟨v,q,vs,u,g,f,m,n,_⟩:=d;exact ⟨v,q,g,rfl,zxr c m n fun b a=>zqJ (zeR.2 ⟨i,hi,by rw [f]; exact a⟩)⟩
  ·rw [h2] at d;obtain ⟨v,q,g,_,f⟩:=d;exact ⟨v,q,g,rfl,f.le c⟩
  ·rw [h2] at d;have l:=M.res j;rw [p j f,g] at l;obtain ⟨v,q,m,_,n⟩:=vw_fz d l c fun b a=>zqJ (zeR.2 ⟨j,f,a⟩);exact ⟨v,q,m,rfl,n⟩
 ·intro i hi b a; rw [zhS hi] at a; cases a
 ·intro i hi j _ b a; rw [zhS hi] at a; cases a
theorem Mem.look (M:Mem P G w0 h0 F L2 w ν h φ) {ids:List Nat} (b:∀i∈ids,lk L2 i=lk L i):zcf L2 L φ (zrX h w (fps φ ids)) w ids:=⟨b,fun _ a=>zqJ a⟩
end
section
variable {ρ:Type} {X:Cx τ} {w0 w w':World} {h0 h H:Fz} {F:List Nat} {o:Oper} {E:zad τ} {L L2:Hp τ} {ν ν':Vn τ} {φ φ':Nat→List Nat} {nid nid':Nat} {K:Nx τ ρ} {r:ρ} {v:XV τ} {U:Hp τ} {tch:List Nat} {g:List (XV τ)}
variable {x y:Operand} {t' t ty:Nat} {dst:Option Nat} {p:String} {af:Array Edge} {gd:Option (Nat × Bool)}
theorem zOk {cs:List (CV τ)} (hz:zAw X.P t'=some cs) (e:K (.c (.pt nid 0)) [] [(nid,.blk t' cs)] [] (nid+1)=some r):zdu X w0 h0 F ⟨dst,.alloc t',t,p,af,gd⟩ E L nid K r:=by
 obtain ⟨it,z,hi,hz0,hc⟩:=zAl hz;refine ⟨_,_,_,_,_,e,Nat.le_succ _,(fun _ h=>by cases h),fun L2 ν h φ a w next Q hd M hE ha hn k=>?_⟩;have hn':=hn nid (Nat.le_refl _) (Nat.lt_succ_self _)
 have hx:(execOp a.eval ⟨dst,.alloc t',t,p,af,gd⟩).run X.P w = .ok (.value (ptr w.heap.size 0)) (w.alloc (.cells z.cells t')):=by
  simp [execOp,Instr.alloc,zeroValue,typeInfo,hi,hz0,newVar,newRow,go_sem,Result.andThen]
 have hzl:z.cells=z.cells.toList.toArray:=by simp
 refine zf7 hx (k _ h _ _ _ (M.alloc hn' _ (.blk t' cs) (ptr w.heap.size 0,none) ⟨_,none,z.cells.toList,rfl,rfl,?_,zzt hc⟩) (zbW hn') (Fz.le.refl _) zeq ⟨_,none,za1 _ _ _,rfl,fun e=>(e rfl).elim⟩);rw [← hzl]; exact zkj _
theorem box_ok {A:XV τ} {cs:List (CV τ)} (hA:evX E x=some A) (hc:zsT A=some cs) (e:K (.c (.pt nid 0)) [] [(nid,.blk t' cs)] [] (nid+1)=some r):zdu X w0 h0 F ⟨dst,.box t' x,t,p,af,gd⟩ E L nid K r:=by
 refine ⟨_,_,_,_,_,e,Nat.le_succ _,(fun _ h=>by cases h),fun L2 ν h φ a w next Q hd M hE ha hn k=>?_⟩;have hn':=hn nid (Nat.le_refl _) (Nat.lt_succ_self _);obtain ⟨us,h1,h2,_⟩:=ztu hc (zrK hd (hE.op (by simp [Op.operands])) hA)
 have hx:(execOp a.eval ⟨dst,.box t' x,t,p,af,gd⟩).run X.P w = .ok (.value (ptr w.heap.size 0)) (w.alloc (.cells us.toArray t')):=by
  simp only [execOp]; unfold Instr.box newVar; rw [h1]; simp [newRow,go_sem]
 exact zf7 hx (k _ h _ _ _ (M.alloc hn' _ (.blk t' cs) (ptr w.heap.size 0,none) ⟨_,none,us,rfl,rfl,zkj _,h2.le (Fz.le.refl _) (zbW hn')⟩) (zbW hn') (Fz.le.refl _) zeq ⟨_,none,za1 _ _ _,rfl,fun e=>(e rfl).elim⟩)
theorem zAC {a:Act} {b o n:Nat} {d:TypeId} {cur:Array Value} {vs:List Value} (f:a.eval x=ptr b o) (e:(a.eval y).cells=⟨vs⟩) (k:znB X.P t'=some n) (hn:vs.length=n) (g:w.heap[b]? = some (.cells cur d (0,0))) (j:o+vs.length≤cur.size) (i:∀v∈vs,v.oneCell'=true) :
  (execOp a.eval ⟨dst,.store t' x y,t,p,af,gd⟩).run X.P w = .ok .skip (w.setRow b (cur.toList.take o++vs++cur.toList.drop (o+vs.length)).toArray):=by
 have c:=run_storeCells_at X.P b o d vs 0 cur w g (by simpa using j) i;simp only [Nat.add_zero] at c;simp only [execOp]; rw [f]
 have h2:(a.eval y).cells.size=n:=by rw [e]; simpa using hn
 have h:(a.eval y).cells.toList=vs:=by rw [e]
 simp [Instr.storeAt,Instr.sureAddr,storeVar,zeo k,h2,h,c,Result.andThen]
theorem zLB {A:XV τ} {vs:List (CV τ)} {n id o bt:Nat} {cs cs':List (CV τ)} (hA:evX E y=some A) (hc:zsT A=some vs) (ht:szO X.P t'=some n) (hn:vs.length=n) (hx:evC E x=some (.pt id o)) (hl:lk L id = .blk bt cs) (hp:zwd cs o vs=some cs')
  (e:K .un [] [(id,.blk bt cs')] [id] nid=some r):zdu X w0 h0 F ⟨dst,.store t' x y,t,p,af,gd⟩ E L nid K r:=by
 refine ⟨_,_,_,_,_,e,Nat.le_refl _,(fun _ h=>by cases h),fun L2 ν h φ a w next Q hd M hE ha hfr k=>?_⟩;obtain ⟨Ea,hf,hl'⟩:=zd4 a hd;obtain ⟨u,h1,h2⟩:=zB hl' (hE.op (by simp [Op.operands])) hx;obtain ⟨b,q,us,hν,rfl,hφ,hh,hcs,_⟩:=zEk M h2 ((ha id (by simp)).trans hl);obtain ⟨ws,h3,h4,_⟩:=ztu hc (zrK hd (hE.op (by simp [Op.operands])) hA);obtain ⟨h5,h6⟩:=zzu hcs h4 hp;have hrun:=zAC (X:=X) (dst:=dst) (t:=t) (p:=p) (af:=af) (gd:=gd) (hf.ev h1) h3 (zf4 ht) (by rw [h4.len,hn]) hh (by simpa using h5) h4.one;refine zI4 hrun (k ν h φ _ undef (M.turn (.blk bt cs') hφ (Vn.le.refl _) rfl rfl rfl (by simp [World.setRow]) (fun j hj=>setRow_other w b j _ hj) ⟨b,q,_,hν,rfl,setRow_heap w b us.toArray _ bt (0,0) hh,?_⟩) (Vn.le.refl _) (Fz.le.refl _) (zdF.refl _ _ _) rfl);simpa using h6
end
end Go.Rk
end
