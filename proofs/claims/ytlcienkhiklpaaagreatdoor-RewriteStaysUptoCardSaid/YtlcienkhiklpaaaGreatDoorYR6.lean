/-
 Walks by evaluation: operations that turn nothing. Over any program.
 Walks by evaluation: each operation that turns nothing yields what its evaluation says. Over any program.
 Walks by evaluation: data taken out of what is owned, and taken apart into it. Over any program.
 Walks by evaluation: each operation does what its evaluation says, whatever stands beside it. Over any program.
 Walks by evaluation: loads, fields, pointers that may be nil. Over any program.
 When the models come to something: printed by a program (wip/gen/yt.py) off the models and a table. No program in sight.
 When the
-/
import Derived.Test.YtlcienkhiklpaaaGreatDoorYRun
import Derived.Test.YtlcienkhiklpaaaGreatDoorP0
import Derived.Test.YtlcienkhiklpaaaGreatDoorTXV
set_option linter.unusedVariables false
set_option linter.unusedSimpArgs false
section
namespace Go.Rk
open Go.RowKit Go.Dm Go.Dk
variable {τ : Nat → Type}

def zga : XV τ → Bool
 | .gv _ _ => true
 | _ => false
section
variable (X : Cx τ) (h : Fz) (ν : Vn τ) (a : Act)
def zfQ (t : Nat) (x : XV τ) : Prop := ∃ v,XOk X.P X.G h ν x v ∧ (Nat.blt t gh = true → zga x = false → a.tmps[t]? = some v) ∧ (gb ≤ t → v = ptr (t - gb) 0) ∧ (gh ≤ t → t < 20000 → v = X.fx (t - gh))
def zcl (r : List Nat) (E : zE τ) : Prop := ∀ t ∈ r, ∀ x,asc E t = some x → zfQ X h ν a t x
end
structure TyOk (X : Cx τ) : Prop where
 el : ∀ p ∈ X.ty, ∃ i z,X.P.info? p.1 = some i ∧ i.zero = some z ∧ i.size = (ets X.G p.2).length ∧ z.cells.size = i.size ∧ 0 < i.size
 eq : ∀ t n,asc X.ty t = some (.st n) → (X.G.fs n).all zel = true → ∀ (p q : DP τ (X.G.fs n)) (h : Fz) (xs ys : List Value),RpL X.P X.G h (X.G.fs n) p xs → RpL X.P X.G h (X.G.fs n) q ys →
  X.P.eqGuardType X.P.depth t = false ∧ ∀ w,(Op.equalIn 10000 t (.agg ⟨xs⟩) (.agg ⟨ys⟩)).run X.P w = .ok (X.G.eq n (X.G.ctor n p) (X.G.ctor n q)) w
theorem zij {α : Type} : ∀ {l : List (Nat × α)} {t : Nat} {v : α},asc l t = some v → (t,v) ∈ l
 | [],_,_,h => by cases h
 | (k,u) :: l,t,v,h => by
  simp only [zbL,zaT] at h
  by_cases e : Nat.beq k t = true
  ·simp only [e,cond_true,Option.some.injEq] at h
   have : k = t := by simpa using e
   subst this; subst h
   exact List.mem_cons_self ..
  ·simp only [e] at h
   exact List.mem_cons_of_mem _ (zij h)
theorem zdz {α : Type} : ∀ (l : List α) (n : Nat),nthL l n = l[n]?
 | [],_ => by simp [nthL]
 | _ :: _,0 => by simp [nthL]
 | _ :: l,n + 1 => by simp [nthL,zdz l n]
theorem zcJ (a : Act) (hd : a.defers = []) : ∃ E,Fits a.tmps.size E a ∧ ∀ t,Dk.look E t = a.tmps[t]? := by
 have key : ∀ (l : List Value) (k t : Nat),Dk.look (params k l) t = if k ≤ t then l[t - k]? else none := by
  intro l
  induction l with
  | nil => intro k t; simp [params,Dk.look]
  | cons v l ih =>
   intro k t
   simp only [params,Dk.look]
   by_cases e : k = t
   ·subst e; simp
   ·rw [zaO.2 e,cond_false,ih]
    by_cases h : k ≤ t
    ·rw [if_pos (by omega),if_pos h,show t - k = (t - (k + 1)) + 1 by omega,List.getElem?_cons_succ]
    ·rw [if_neg (by omega),if_neg h]
 have hl : ∀ t,Dk.look (params 0 a.tmps.toList) t = a.tmps[t]? := by intro t; rw [key]; simp
 exact ⟨_,⟨hd,rfl,fun t v h => by rw [← hl]; exact h⟩,hl⟩

section
variable {X : Cx τ} {h : Fz} {ν : Vn τ} {a : Act} {E : zE τ} {w : World}
theorem zcl.op {o : Op} (hE : zcl X h ν a (rdO o) E) {x : Operand} (hx : x ∈ o.operands.toList) : zcl X h ν a (zpg x) E :=
 fun t ht => hE t (List.mem_flatMap.2 ⟨x,hx,ht⟩)
theorem zCU {v : Value} {c : CV τ} (e : cvV v = some c) : zbi X.P X.G h ν c v := by
 unfold cvV at e
 split at e
 ·cases e; rfl
 ·cases e; rfl
 ·rename_i n
  by_cases hn : Nat.blt n 256 = true
  ·rw [hn] at e; cases e
   have : n < 256 := by simpa using hn
   show _ = Value.int .u8 _
   simp [UInt8.toNat_ofNat',Nat.mod_eq_of_lt this]
  ·simp only [Bool.not_eq_true] at hn; rw [hn] at e; cases e
 ·rename_i n
  by_cases hn : Nat.blt n 65536 = true
  ·rw [hn] at e; cases e
   have : n < 65536 := by simpa using hn
   show _ = Value.int .u16 _
   simp [UInt16.toNat_ofNat',Nat.mod_eq_of_lt this]
  ·simp only [Bool.not_eq_true] at hn; rw [hn] at e; cases e
 ·cases e; rfl
 ·cases e; rfl
 ·cases e; rfl
 ·cases e; rfl
 ·cases e
theorem zqN : ∀ {vs : List Value} {cs : List (CV τ)},cvVs vs = some cs → CVs X.P X.G h ν cs vs
 | [],cs,e => by cases e; rfl
 | v :: vs,cs,e => by
  unfold cvVs at e
  split at e
  ·rename_i c hc
   split at e
   ·rename_i cs' hcs
    cases e
    exact ⟨v,vs,rfl,zCU hc,zqN hcs⟩
   ·cases e
  ·cases e
theorem ziS {Ea : Env} (hl : ∀ t,Dk.look Ea t = a.tmps[t]?) {x : Operand} {xv : XV τ} (hE : zcl X h ν a (zpg x) E) (e : evX E x = some xv) (hg : zga xv = false) : ∃ v,evl Ea x = some v ∧ XOk X.P X.G h ν xv v := by
 unfold evX at e
 split at e
 ·rename_i t
  by_cases ht : Nat.blt t gh = true
  ·rw [ht] at e
   obtain ⟨v,h1,h2,_⟩ := hE t (by simp [zpg,ht]) xv e
   exact ⟨v,(hl t).trans (h2 ht hg),h1⟩
  ·simp only [Bool.not_eq_true] at ht; rw [ht] at e; cases e
 ·rename_i v
  split at e
  ·rename_i c hc
   cases e
   exact ⟨v,rfl,zCU hc⟩
  ·cases e
 ·cases e
  exact ⟨_,rfl,rfl⟩
 ·rename_i g
  obtain ⟨v,h1,_,h2,_⟩ := hE (gb + g) (List.mem_singleton.2 rfl) xv e
  rw [h2 (Nat.le_add_right ..),Nat.add_sub_cancel_left] at h1
  exact ⟨_,rfl,h1⟩
theorem zll (hd : a.defers = []) {x : Operand} {xv : XV τ} (hE : zcl X h ν a (zpg x) E) (e : evX E x = some xv) : XOk X.P X.G h ν xv (a.eval x) := by
 cases hg : zga xv with
 | true =>
  cases xv with
  | gv t y => trivial
  | _ => cases hg
 | false =>
  obtain ⟨Ea,hf,hl⟩ := zcJ a hd
  obtain ⟨v,h1,h2⟩ := ziS hl hE e hg
  rw [hf.ev h1]
  exact h2
theorem zx {Ea : Env} (hl : ∀ t,Dk.look Ea t = a.tmps[t]?) {x : Operand} {c : CV τ} (hE : zcl X h ν a (zpg x) E) (e : evC E x = some c) : ∃ v,evl Ea x = some v ∧ zbi X.P X.G h ν c v := by
 unfold evC at e
 split at e
 ·rename_i c' hc
  cases e
  exact ziS hl hE hc rfl
 ·cases e
theorem CVs.len : ∀ {cs : List (CV τ)} {vs : List Value},CVs X.P X.G h ν cs vs → vs.length = cs.length
 | [],vs,e => by cases e; rfl
 | _ :: _,_,⟨v,us,rfl,_,h2⟩ => by simp [CVs.len h2]
theorem CVs.get : ∀ {cs : List (CV τ)} {vs : List Value} {i : Nat} {c : CV τ},CVs X.P X.G h ν cs vs → cs[i]? = some c → ∃ v,vs[i]? = some v ∧ zbi X.P X.G h ν c v
 | [],_,_,_,_,hc => by simp at hc
 | _ :: _,_,0,_,⟨v,us,rfl,h1,_⟩,hc => by simp at hc; subst hc; exact ⟨v,by simp,h1⟩
 | _ :: _,_,i + 1,_,⟨v,us,rfl,_,h2⟩,hc => by
  simp at hc
  obtain ⟨u,h3,h4⟩ := CVs.get h2 hc
  exact ⟨u,by simpa using h3,h4⟩
theorem TVs.get : ∀ {cs : List (Bool × List (CV τ))} {vs : List Value} {i : Nat} {b : Bool} {l : List (CV τ)},TVs X.P X.G h ν cs vs → cs[i]? = some (b,l) →
  ∃ v,vs[i]? = some v ∧ ((b = true ∧ ∃ ws,v = .agg ⟨ws⟩ ∧ CVs X.P X.G h ν l ws) ∨ (b = false ∧ ∃ c,l = [c] ∧ zbi X.P X.G h ν c v))
 | [],_,_,_,_,_,hc => by simp at hc
 | (false,[c]) :: _,_,0,_,_,⟨v,us,rfl,h1,_⟩,hc => by simp at hc; obtain ⟨rfl,rfl⟩ := hc; exact ⟨v,by simp, .inr ⟨rfl,c,rfl,h1⟩⟩
 | (true,l) :: _,_,0,_,_,⟨ws,us,rfl,h1,_⟩,hc => by simp at hc; obtain ⟨rfl,rfl⟩ := hc; exact ⟨.agg ⟨ws⟩,by simp, .inl ⟨rfl,ws,rfl,h1⟩⟩
 | (false,[_]) :: _,_,i + 1,_,_,⟨v,us,rfl,_,h2⟩,hc => by
  simp at hc
  obtain ⟨u,h3,h4⟩ := TVs.get h2 hc
  exact ⟨u,by simpa using h3,h4⟩
 | (true,_) :: _,_,i + 1,_,_,⟨ws,us,rfl,_,h2⟩,hc => by
  simp at hc
  obtain ⟨u,h3,h4⟩ := TVs.get h2 hc
  exact ⟨u,by simpa using h3,h4⟩
 | (false,[]) :: _,_,_,_,_,e,_ => e.elim
 | (false,_ :: _ :: _) :: _,_,_,_,_,e,_ => e.elim
theorem CVs.cut : ∀ {n o : Nat} {cs l : List (CV τ)} {vs : List Value},CVs X.P X.G h ν cs vs → znz cs o n = some l → CVs X.P X.G h ν l ((vs.drop o).take n) ∧ o + n ≤ vs.length + (if n = 0 then o else 0)
 | 0,o,cs,l,vs,hv,e => by cases e; exact ⟨by simp [CVs],by simp⟩
 | n + 1,o,cs,l,vs,hv,e => by
  unfold znz at e
  split at e
  ·rename_i c hc
   split at e
   ·rename_i r hr
    cases e
    rw [zdz] at hc
    obtain ⟨v,h1,h2⟩ := hv.get hc
    obtain ⟨h3,h4⟩ := CVs.cut hv hr
    have hlt : o < vs.length := (List.getElem?_eq_some_iff.1 h1).1
    refine ⟨⟨v,_,?_,h2,h3⟩,?_⟩
    ·rw [List.drop_eq_getElem_cons hlt,List.take_succ_cons,(List.getElem?_eq_some_iff.1 h1).2]
    ·split at h4
     ·omega
     ·rw [if_neg (by omega)]; omega
   ·cases e
  ·cases e
theorem zdA {P : Program} {t : TypeId} {n : Nat} (e : szO P t = some n) : zhG P t = some n := by
 unfold szO at e
 unfold zhG
 split at e
 ·rename_i i hi; rw [hi]; exact e
 ·cases e
theorem zAr {P : Program} {t i f ft : Nat} (e : zw2 P t i = some (f,ft)) : ∃ fs fd,P.underlying t = some (.struct fs) ∧ fs[i]? = some fd ∧ fd.offset = f ∧ fd.type = ft ∧ ∃ n,zhG P ft = some (n + 1) := by
 unfold zw2 at e
 split at e
 ·rename_i fs hu
  split at e
  ·rename_i fd hn
   split at e
   ·rename_i n hs
    cases e
    rw [zdz] at hn
    exact ⟨⟨fs⟩,fd,hu,by simpa using hn,rfl,rfl,n,zdA hs⟩
   ·cases e
  ·cases e
 ·cases e
theorem zqO : ∀ {o : Nat} {cs ws cs' : List (CV τ)} {us vs : List Value},CVs X.P X.G h ν cs us → CVs X.P X.G h ν ws vs → zoq cs o ws = some cs' →
  o + vs.length ≤ us.length ∧ CVs X.P X.G h ν cs' (us.take o ++ vs ++ us.drop (o + vs.length))
 | 0,cs,ws,cs',us,vs,hc,hw,e => by
  unfold zoq at e
  have := go hc hw e
  simpa using this
 | o + 1,c :: cs,ws,cs',_,vs,⟨u,us,rfl,h1,h2⟩,hw,e => by
  unfold zoq at e
  split at e
  ·rename_i r hr
   cases e
   obtain ⟨h3,h4⟩ := zqO h2 hw hr
   refine ⟨by simp; omega,u,_,?_,h1,h4⟩
   rw [show o + 1 + vs.length = (o + vs.length) + 1 by omega]
   simp
  ·cases e
 | o + 1,[],ws,cs',us,vs,hc,hw,e => by simp [zoq] at e
where
 go : ∀ {cs ws cs' : List (CV τ)} {us vs : List Value},CVs X.P X.G h ν cs us → CVs X.P X.G h ν ws vs → zoq.go cs ws = some cs' → vs.length ≤ us.length ∧ CVs X.P X.G h ν cs' (vs ++ us.drop vs.length)
 | cs,[],cs',us,vs,hc,hw,e => by
  obtain rfl : vs = [] := hw
  simp [zoq.go] at e
  subst e
  exact ⟨by simp,by simpa using hc⟩
 | c :: cs,w :: ws,cs',_,_,⟨u,us,rfl,h1,h2⟩,⟨v,vs,rfl,h3,h4⟩,e => by
  simp only [zoq.go] at e
  split at e
  ·rename_i r hr
   cases e
   obtain ⟨h5,h6⟩ := go h2 h4 hr
   exact ⟨by simp; omega,v,_,by simp,h3,h6⟩
  ·cases e
 | [],w :: ws,cs',us,vs,hc,hw,e => by simp [zoq.go] at e
theorem zpq {P : Program} {t : TypeId} {b : Bool} (e : isA P t = some b) : zun P t = some b := by
 unfold isA at e
 unfold zun
 split at e <;> first | (cases e; done) | (rename_i hu; rw [hu]; simpa using e)
end
end Go.Rk
end
section
namespace Go.Rk
open Go.RowKit Go.Dm Go.Dk
variable {τ : Nat → Type}
section
variable {X : Cx τ} {h : Fz} {ν : Vn τ} {a : Act} {E : zE τ} {Ea : Env} {N : Nat} {w : World} {x y : Operand} {dst : Option Nat} {t t' ty : Nat} {p : String} {af : Array Edge} {gd : Option (Nat × Bool)}
theorem lok0 : ∀ {d : Nat} {t : Ty} {c : CV τ} {x : t.den τ} {v : Value} {m : List Nat},zel t = true → lok X.G [] d t c = some (x,m) → zbi X.P X.G h ν c v → Rp X.P X.G h t x v := by
 intro d t c x v m hs e hv
 cases d with
 | zero => cases e
 | succ d =>
  unfold lok at e
  cases t <;> first | (cases hs; done) | (dsimp only at e; split at e <;> first | (cases e; done) | (cases e; cases hv; constructor))
theorem zBL {d : Nat} : ∀ {ts : List Ty} {cs : List (CV τ)} {q : DP τ ts} {vs : List Value} {m : List Nat},ts.all zel = true → zpe (lok X.G [] d) ts cs = some (q,m) → CVs X.P X.G h ν cs vs → RpL X.P X.G h ts q vs
 | [],[],q,vs,_,_,e,hv => by cases e; cases hv; exact .nil
 | t :: ts,c :: cs,q,_,_,hs,e,⟨v,us,rfl,h1,h2⟩ => by
  simp only [List.all_cons,Bool.and_eq_true] at hs
  unfold zpe at e
  split at e
  ·rename_i x m hx
   split at e
   ·rename_i q' m' hq
    cases e
    refine .cons t ts _ v us ?_ ?_
    ·rw [DP.hd_mk]; exact lok0 hs.1 hx h1
    ·rw [DP.tl_mk]; exact zBL hs.2 hq h2
   ·cases e
  ·cases e
 | [],_ :: _,_,_,_,_,e,_ => by cases e
 | _ :: _,[],_,_,_,_,e,_ => by cases e
theorem zqU {o : Option Bool} {v : XV τ} (e : obX o = some v) : ∃ b,o = some b ∧ v = .c (.b b) := by
 cases o with
 | none => cases e
 | some b => cases e; exact ⟨b,rfl,rfl⟩
theorem zuf {o : Option Bool} {v : XV τ} (e : okX o = some v) : ∃ b,o = some b ∧ v = .c (.k b) := by
 cases o with
 | none => cases e
 | some b => cases e; exact ⟨b,rfl,rfl⟩
theorem zBM {c : CV τ} {v : Value} (e : adC c = true) (hc : zbi X.P X.G h ν c v) : ∃ ad,v = .pointer (some ad) := by
 cases c with
 | ea t z o => obtain ⟨b,k,vs,rfl,_⟩ := hc; exact ⟨_,rfl⟩
 | oe i k m t z o => obtain ⟨b,n,c,q,xs,u,_,_,_,rfl⟩ := hc; exact ⟨_,rfl⟩
 | _ => cases e
theorem zwr {c : CV τ} {b : Bool} {v : Value} (e : zCd c = some b) (hc : zbi X.P X.G h ν c v) : v = .bool b := by
 cases c with
 | b x => cases e; exact hc
 | k x => cases e; exact hc
 | _ => cases e
theorem zEt (hT : TyOk X) (hf : Fits N Ea a) {o : BinOp} {A B v : XV τ} {vx vy : Value} (hx : evl Ea x = some vx) (hy : evl Ea y = some vy) (ca : XOk X.P X.G h ν A vx) (cb : XOk X.P X.G h ν B vy)
  (e : binX X o t' A B = some v) : ∃ u,(∀ w,(execOp a.eval ⟨dst, .binOp o t' x y ty,t,p,af,gd⟩).run X.P w = .ok (.value u) w) ∧ XOk X.P X.G h ν v u := by
 unfold binX at e
 split at e
 ·obtain rfl : vx = _ := ca
  obtain rfl : vy = _ := cb
  obtain ⟨b,h1,rfl⟩ := zqU e
  cases o <;> first | (cases h1; done) | skip
  all_goals cases h1
  ·exact ⟨_,fun w => zDc hf hx hy,rfl⟩
  ·exact ⟨_,fun w => zzs hf hx hy,rfl⟩
  ·exact ⟨_,fun w => zDd hf hx hy,rfl⟩
  ·exact ⟨_,fun w => zDe hf hx hy,rfl⟩
  ·exact ⟨_,fun w => zDf hf hx hy,rfl⟩
  ·exact ⟨_,fun w => zDg hf hx hy,rfl⟩
 ·obtain rfl : vx = _ := ca
  obtain rfl : vy = _ := cb
  split at e
  ·cases e; exact ⟨_,fun w => zDn hf hx hy,rfl⟩
  ·cases e; exact ⟨_,fun w => zDo hf hx hy,rfl⟩
  ·obtain ⟨b,h1,rfl⟩ := zqU e
   cases o <;> first | (cases h1; done) | skip
   all_goals cases h1
   ·exact ⟨_,fun w => zDh hf hx hy,rfl⟩
   ·exact ⟨_,fun w => zDi hf hx hy,rfl⟩
   ·exact ⟨_,fun w => zDj hf hx hy,rfl⟩
   ·exact ⟨_,fun w => zDk hf hx hy,rfl⟩
   ·exact ⟨_,fun w => zDl hf hx hy,rfl⟩
   ·exact ⟨_,fun w => zDm hf hx hy,rfl⟩
 ·obtain rfl : vx = _ := ca
  obtain rfl : vy = _ := cb
  split at e
  ·cases e; exact ⟨_,fun w => zDD hf hx hy,rfl⟩
  ·cases e
   rename_i m n _
   refine ⟨_,fun w => zzs hf hx hy,?_⟩
   show Value.bool _ = .bool _
   have : ((m.toNat : Int) == (n.toNat : Int)) = (m == n) := by
    rw [Bool.eq_iff_iff]
    simp only [beq_iff_eq]
    exact ⟨fun e => UInt16.toNat_inj.1 (by omega),fun e => by rw [e]⟩
   rw [this]
  ·cases e
 ·obtain rfl : vx = _ := ca
  obtain rfl : vy = _ := cb
  obtain ⟨b,h1,rfl⟩ := zqU e
  cases o <;> first | (cases h1; done) | skip
  all_goals cases h1
  ·exact ⟨_,fun w => zya hf hx hy,rfl⟩
  ·exact ⟨_,fun w => zyb hf hx hy,rfl⟩
  ·exact ⟨_,fun w => zDt hf hx hy,rfl⟩
  ·exact ⟨_,fun w => zDu hf hx hy,rfl⟩
  ·exact ⟨_,fun w => zDv hf hx hy,rfl⟩
  ·exact ⟨_,fun w => zDw hf hx hy,rfl⟩
 ·obtain rfl : vx = _ := ca
  obtain rfl : vy = _ := cb
  split at e
  ·rename_i hu
   obtain ⟨b,h1,rfl⟩ := zuf e
   cases o <;> first | (cases h1; done) | skip
   all_goals cases h1
   ·exact ⟨_,fun w => zt9 hu hf hx hy,rfl⟩
   ·exact ⟨_,fun w => zua hu hf hx hy,rfl⟩
  ·cases e
 ·obtain rfl : vy = _ := cb
  split at e
  ·rename_i hu
   cases ha : adC (τ := τ) ‹_› with
   | false => rw [ha] at e; cases e
   | true =>
    rw [ha] at e
    obtain ⟨ad,rfl⟩ := zBM ha ca
    obtain ⟨b,h1,rfl⟩ := zuf e
    cases o <;> first | (cases h1; done) | skip
    all_goals cases h1
    ·exact ⟨_,fun w => zt7 hu hf hx hy,rfl⟩
    ·exact ⟨_,fun w => zt8 hu hf hx hy,rfl⟩
  ·cases e
 ·split at e
  ·rename_i hb
   split at e
   ·rename_i hb'
    split at e
    ·rename_i hu
     obtain rfl := zwr hb ca
     obtain rfl := zwr hb' cb
     obtain ⟨b,h1,rfl⟩ := zqU e
     cases o <;> first | (cases h1; done) | skip
     all_goals cases h1
     ·exact ⟨_,fun w => zDp hu hf hx hy,rfl⟩
     ·exact ⟨_,fun w => zDq hu hf hx hy,rfl⟩
    ·cases e
   ·cases e
  ·cases e
 ·split at e
  ·rename_i n hn
   cases hs : (X.G.fs n).all zel with
   | false => rw [hs] at e; cases e
   | true =>
    rw [hs] at e
    dsimp only [cond_true] at e
    split at e
    ·rename_i q hq
     split at e
     ·rename_i q' hq'
      obtain ⟨xs,rfl,ha⟩ := ca
      obtain ⟨ys,rfl,hb⟩ := cb
      obtain ⟨h1,h2⟩ := hT.eq t' n hn hs q q' h xs ys (zBL hs hq ha) (zBL hs hq' hb)
      obtain ⟨b,h3,rfl⟩ := zqU e
      cases o <;> first | (cases h3; done) | skip
      all_goals cases h3
      ·exact ⟨_,fun w => zDr h1 h2 hf hx hy,rfl⟩
      ·exact ⟨_,fun w => zDs h1 h2 hf hx hy,rfl⟩
     ·cases e
    ·cases e
  ·cases e
 ·cases e
theorem zEu {o : BinOp} {A B v : XV τ} (e : binX X o t A B = some v) : zga A = false ∧ zga B = false := by
 unfold binX at e
 split at e <;> first | exact ⟨rfl,rfl⟩ | cases e
theorem zBN (hf : Fits N Ea a) {c : CV τ} {v : XV τ} {vx : Value} (hx : evl Ea x = some vx) (ca : zbi X.P X.G h ν c vx) {s : Nat} (hw : h.on w)
  (e : zCh X.P s t' c = some v) : ∃ u,(execOp a.eval ⟨dst, .convert s t' x,t,p,af,gd⟩).run X.P w = .ok (.value u) w ∧ XOk X.P X.G h ν v u := by
 unfold zCh at e
 split at e
 ·obtain rfl : vx = _ := ca
  split at e
  ·rename_i hd
   split at e
   ·rename_i hs
    cases e
    exact ⟨_,zpI hd hs (zDB _) hf hx,rfl⟩
   ·cases e
  ·cases e
 ·obtain rfl : vx = _ := ca
  split at e
  ·rename_i hd
   split at e
   ·rename_i hs
    cases e
    exact ⟨_,zpI hd hs (zFi _) hf hx,rfl⟩
   ·cases e
  ·cases e
 ·obtain rfl : vx = _ := ca
  split at e
  ·rename_i hd
   split at e
   ·rename_i hs
    cases e
    exact ⟨_,zBt hd hs hf hx,rfl⟩
   ·cases e
  ·cases e
 ·obtain rfl : vx = _ := ca
  split at e
  ·rename_i hd
   split at e
   ·rename_i hs
    cases e
    exact ⟨_,zBu hd hs hf hx,rfl⟩
   ·cases e
  ·cases e
 ·split at e
  ·rename_i hd
   split at e
   ·rename_i e' hs
    split at e
    ·rename_i he
     cases e
     obtain ⟨ad,k,vs,hvx,hsees,hc⟩ := slU8 ca
     subst hvx
     exact ⟨_,zsr (en := fun b => [zcF b]) (fun _ => rfl) hd hs he (hsees.sees hw) hf hx,rfl⟩
    ·cases e
   ·cases e
  ·cases e
 ·cases e
where
 slU8 {l : List UInt8} {v : Value} (hv : Rp X.P X.G h (.sl .u8) l v) : ∃ ad k vs,v = .slice ad l.length k ∧ zjN h ad (cells (fun b => [zcF b]) l) ∧ vs = () := by
  cases hv with
  | sl e xs ad c vs hc hs hr =>
   refine ⟨ad,c,(),rfl,?_,rfl⟩
   suffices vs = cells (fun b => [zcF b]) l by rw [← this]; exact hs
   clear hs hc
   induction l generalizing vs with
   | nil => cases hr; rfl
   | cons b l ih =>
    cases hr with
    | cons _ _ _ us ws h1 h2 =>
     have h3 := ih _ h2
     cases h1 with
     | cons _ _ _ v vs h4 h5 =>
      cases h5
      cases h4
      subst h3
      rfl
theorem zbi.one {c : CV τ} {v : Value} (hv : zbi X.P X.G h ν c v) : v.oneCell' = true ∧ v.cells = #[v] := by
 cases c with
 | sl e xs => cases hv; exact ⟨rfl,rfl⟩
 | os i => obtain ⟨ad,n,c,q,_,rfl⟩ := hv; exact ⟨rfl,rfl⟩
 | pt i o => obtain ⟨u,q,_,rfl,_⟩ := hv; cases u <;> exact ⟨rfl,rfl⟩
 | ea t z o => obtain ⟨b,k,vs,rfl,_⟩ := hv; exact ⟨rfl,rfl⟩
 | oe i k m t z o => obtain ⟨b,n,c,q,xs,u',_,_,_,rfl⟩ := hv; exact ⟨rfl,rfl⟩
 | fm m => cases hv; exact ⟨rfl,rfl⟩
 | cf i => obtain ⟨f,us,vs,q,_,rfl⟩ := hv; exact ⟨rfl,rfl⟩
 | ep n x =>
  cases hv with
  | pn0 => exact ⟨rfl,rfl⟩
  | pn1 _ x v hr => cases hr; exact ⟨rfl,rfl⟩
 | bad => exact hv.elim
 | _ => cases hv; exact ⟨rfl,rfl⟩
theorem CVs.one : ∀ {cs : List (CV τ)} {vs : List Value},CVs X.P X.G h ν cs vs → ∀ v ∈ vs,v.oneCell' = true
 | [],vs,e,v,hv => by cases e; cases hv
 | c :: cs,_,⟨u,us,rfl,h1,h2⟩,v,hv => by
  rcases List.mem_cons.1 hv with rfl | hv
  ·exact h1.one.1
  ·exact CVs.one h2 v hv
theorem zmu {v : XV τ} {cs : List (CV τ)} {u : Value} (e : zlY v = some cs) (hv : XOk X.P X.G h ν v u) : ∃ us,u.cells = ⟨us⟩ ∧ CVs X.P X.G h ν cs us ∧ zga v = false := by
 unfold zlY at e
 split at e
 ·rename_i c
  cases e
  have hv : zbi X.P X.G h ν c u := hv
  exact ⟨[u],hv.one.2,⟨u,[],rfl,hv,rfl⟩,rfl⟩
 ·rename_i l
  cases e
  obtain ⟨vs,rfl,hc⟩ := hv
  exact ⟨vs,rfl,hc,rfl⟩
 ·cases e
theorem zlA : ∀ (vs us : List Value) (o k : Nat),o + k + vs.length ≤ us.length → ((vs.zipIdx k).foldl (fun cs (q : Value × Nat) => cs.setIfInBounds (o + q.2) q.1) us.toArray) = (us.take (o + k) ++ vs ++ us.drop (o + k + vs.length)).toArray
 | [],us,o,k,_ => by simp
 | v :: vs,us,o,k,hl => by
  simp only [List.zipIdx_cons,List.foldl_cons,List.length_cons] at hl ⊢
  have h1 : us.toArray.setIfInBounds (o + k) v = (us.set (o + k) v).toArray := by simp
  rw [h1,zlA vs (us.set (o + k) v) o (k + 1) (by simp; omega)]
  have hA : (us.take (o + k)).length = o + k := by rw [List.length_take]; omega
  have h2 : us.set (o + k) v = (us.take (o + k) ++ [v]) ++ us.drop (o + k + 1) := by rw [List.set_eq_take_append_cons_drop,if_pos (by omega)]; simp
  have h3 : (us.take (o + k) ++ [v]).length = o + (k + 1) := by simp [hA]; omega
  rw [h2,List.take_append_of_le_length (by omega),List.take_of_length_le (by omega),List.drop_append,List.drop_eq_nil_of_le (by omega),h3,List.drop_drop]
  simp only [List.append_assoc,List.nil_append,List.cons_append]
  rw [show o + k + 1 + (o + (k + 1) + vs.length - (o + (k + 1))) = o + k + (vs.length + 1) by omega]
theorem ztR {pl : Nat → Option (Nat × Nat)} (hd : a.defers = []) : ∀ {ps : List (Nat × Operand)} {cs cs' : List (CV τ)} {us : List Value},zrx pl E ps cs = some cs' → (∀ q ∈ ps,zcl X h ν a (zpg q.2) E) → CVs X.P X.G h ν cs us →
  ∃ us',Instr.fill pl us.toArray (ps.map fun q => (q.1,a.eval q.2)) = some us'.toArray ∧ CVs X.P X.G h ν cs' us'
 | [],cs,cs',us,e,_,hc => by cases e; exact ⟨us,rfl,hc⟩
 | (i,x) :: ps,cs,cs',us,e,hE,hc => by
  unfold zrx at e
  split at e
  ·rename_i o s hpl
   split at e
   ·rename_i v hv
    split at e
    ·rename_i vs hvs
     cases hb : Nat.beq vs.length s with
     | false => rw [hb] at e; cases e
     | true =>
      rw [hb] at e
      dsimp only [cond_true] at e
      split at e
      ·rename_i cs2 hp
       obtain ⟨ws,h1,h2,_⟩ := zmu hvs (zll hd (hE _ (List.mem_cons_self ..)) hv)
       obtain ⟨h3,h4⟩ := zqO hc h2 hp
       obtain ⟨us',h5,h6⟩ := ztR hd e (fun q hq => hE q (List.mem_cons_of_mem _ hq)) h4
       refine ⟨us',?_,h6⟩
       have hs : vs.length = s := by simpa using hb
       have hl := h2.len
       have h7 := zlA ws us o 0 (by omega)
       simp only [Nat.add_zero] at h7
       simp only [List.map_cons,Instr.fill,hpl,h1]
       rw [if_neg (by simp; omega)]
       have h8 : (Array.zipIdx ⟨ws⟩).foldl (fun cs (q : Value × Nat) => cs.setIfInBounds (o + q.2) q.1) us.toArray = (ws.zipIdx).foldl (fun cs (q : Value × Nat) => cs.setIfInBounds (o + q.2) q.1) us.toArray := by
        rw [← Array.foldl_toList]; simp
       refine Eq.trans (congrArg (fun z => Instr.fill pl z _) (h8.trans h7)) h5
      ·cases e
    ·cases e
   ·cases e
  ·cases e
theorem zqV {P : Program} : ∀ {fs : List Field} {l : List (Nat × Nat)},zqK P fs = some l → fs.mapM (fun f => (P.info? f.type).map fun i => (f.offset,i.size)) = some l
 | [],l,e => by cases e; rfl
 | f :: fs,l,e => by
  unfold zqK at e
  split at e
  ·rename_i s hs
   split at e
   ·rename_i r hr
    cases e
    have h1 := zdA hs
    unfold zhG at h1
    cases hi : P.info? f.type with
    | none => rw [hi] at h1; cases h1
    | some i =>
     rw [hi] at h1
     cases h1
     simp [List.mapM_cons,hi,zqV hr]
   ·cases e
  ·cases e
theorem zqW {P : Program} {t : TypeId} {cs : List (CV τ)} (e : zrw P t = some cs) : ∃ it z,P.info? t = some it ∧ it.zero = some z ∧ cvVs z.cells.toList = some cs := by
 unfold zrw at e
 split at e
 ·rename_i it hi
  split at e
  ·rename_i z hz
   exact ⟨it,z,hi,hz,e⟩
  ·cases e
 ·cases e
theorem zBO (hd : a.defers = []) {z cs : List (CV τ)} {pl : Nat → Option (Nat × Nat)} {ps : List (Nat × Operand)} (hz : zrw X.P t' = some z) (hp : zyR X.P t' = some pl) (e : zrx pl E ps z = some cs)
  (hE : ∀ q ∈ ps,zcl X h ν a (zpg q.2) E) : ∃ u,(∀ w,(execOp a.eval ⟨dst, .build t' ⟨ps⟩,t,p,af,gd⟩).run X.P w = .ok (.value u) w) ∧ XOk X.P X.G h ν (.g cs) u := by
 obtain ⟨it,z0,hi,hz0,hc⟩ := zqW hz
 obtain ⟨us,h1,h2⟩ := ztR hd e hE (zqN hc)
 have h3 : z0.cells.toList.toArray = z0.cells := by simp
 rw [h3] at h1
 refine ⟨.agg ⟨us⟩,fun w => ?_,us,rfl,h2⟩
 have hb : X.P.built t' ((ps.map fun q => (q.1,a.eval q.2)).toArray).toList = some us.toArray := by
  unfold zyR at hp
  split at hp
  ·rename_i n e' hu
   split at hp
   ·rename_i s hs
    cases hp
    have h4 := zdA hs
    unfold zhG at h4
    cases hie : X.P.info? e' with
    | none => rw [hie] at h4; cases h4
    | some ie =>
     rw [hie] at h4
     cases h4
     simpa [Program.built,hi,hu,hz0,hie] using h1
   ·cases hp
  ·rename_i fs hu
   split at hp
   ·rename_i l hl
    cases hp
    have h5 : (l.toArray[·]?) = nthL l := funext fun i => by rw [zdz]; simp
    simp only [Program.built,hi,hu,hz0,zqV hl]
    rw [h5]
    exact h1
   ·cases hp
  ·cases hp
 have := run_build w t' _ _ hb
 simp only [execOp]
 have h6 : (Array.map (fun (q : Nat × Operand) => (q.1,a.eval q.2)) ⟨ps⟩) = (ps.map fun q => (q.1,a.eval q.2)).toArray := by simp
 have h7 : (Array.map (fun x => match x with | (i,x) => (i,a.eval x)) (⟨ps⟩ : Array (Nat × Operand))) = (ps.map fun q => (q.1,a.eval q.2)).toArray := h6
 first
 | (rw [h7]; simp only [Sem.run_bind,this,Result.andThen,Sem.run_pure])
 | (simp only [Sem.run_bind,this,Result.andThen,Sem.run_pure])
theorem zlB {P : Program} {i f ft b o : Nat} (e : zw2 P t i = some (f,ft)) : (Instr.fieldAt t (ptr b o) i).run P w = .ok (ptr b (o + f)) w := by
 obtain ⟨fs,fd,hu,hf,rfl,rfl,n,hs⟩ := zAr e
 have hadd : (⟨b,o,none⟩ : Addr).add fd.offset = ⟨b,o + fd.offset,none⟩ := by unfold Addr.add; split <;> simp_all
 simp [Instr.fieldAt,run_underlying hu,hf,Instr.sureAddr,fieldPlace,zcf hs,hadd,Result.andThen]
theorem zBP {i f ft : Nat} {cs : List (CV τ)} {vx : Value} {v : XV τ} (hx : XOk X.P X.G h ν (.g cs) vx) (e : zw2 X.P t i = some (f,ft))
  (hv : (match isA X.P ft with
    | some true => match szO X.P ft with
     | some s => match znz cs f s with
      | some l => some (XV.g l)
      | none => none
     | none => none
    | some false => match nthL cs f with
     | some c => some (.c c)
     | none => none
    | none => none) = some v) : ∃ u,(∀ w,(Instr.field t vx i).run X.P w = .ok u w) ∧ XOk X.P X.G h ν v u := by
 obtain ⟨fs,fd,hu,hf,rfl,rfl,n,hs⟩ := zAr e
 obtain ⟨us,rfl,hc⟩ := hx
 split at hv
 ·rename_i ha
  split at hv
  ·rename_i s hs'
   split at hv
   ·rename_i l hl
    cases hv
    obtain ⟨h1,h2⟩ := hc.cut hl
    refine ⟨.agg ⟨_⟩,fun w => ?_,_,rfl,h1⟩
    simp [Instr.field,run_underlying hu,hf,asAgg,part,zmv (zpq ha),zcf (zdA hs'),Result.andThen,List.extract_eq_take_drop]
   ·cases hv
  ·cases hv
 ·rename_i ha
  split at hv
  ·rename_i c hn
   cases hv
   rw [zdz] at hn
   obtain ⟨u,h1,h2⟩ := hc.get hn
   refine ⟨u,fun w => ?_,h2⟩
   simp [Instr.field,run_underlying hu,hf,asAgg,part,zmv (zpq ha),h1,Result.andThen]
  ·cases hv
 ·cases hv
theorem zzS {c : CV τ} {vx : Value} (ha : adC c = true) (hc : zbi X.P X.G h ν c vx) {f : Nat} : (∃ b o,vx = ptr b o) ∧ (∀ b o,vx = ptr b o → ∀ c',(match c with
      | .ea t z o => some (.ea t z (o + f))
      | .oe id k m t z o => some (.oe id k m t z (o + f))
      | _ => none) = some c' → zbi X.P X.G h ν c' (ptr b (o + f))) := by
  cases c with
  | ea t z o =>
    obtain ⟨b,k,vs,rfl,h1,h2⟩ := hc
    refine ⟨⟨b,k + o,rfl⟩,fun b' o' e c' e' => ?_⟩
    cases e; cases e'
    exact ⟨b,k,vs,by rw [Nat.add_assoc],h1,h2⟩
  | oe i k m t z o =>
    obtain ⟨b,n,c,q,xs,u,h1,h2,h3,rfl⟩ := hc
    refine ⟨⟨b,_,rfl⟩,fun b' o' e c' e' => ?_⟩
    cases e; cases e'
    exact ⟨b,n,c,q,xs,u,h1,h2,h3,by rw [Nat.add_assoc]⟩
  | _ => cases ha
theorem opP_ok (hT : TyOk X) {o : Oper} (hd : a.defers = []) (hw : h.on w) (hE : zcl X h ν a (rdO o.op) E) {v : XV τ} (e : opP X E o.op = some v) :
  ∃ u,(execOp a.eval o).run X.P w = .ok (.value u) w ∧ XOk X.P X.G h ν v u := by
 obtain ⟨Ea,hf,hl⟩ := zcJ a hd
 obtain ⟨dst,op,t,p,af,gd⟩ := o
 dsimp only at e hE
 unfold opP at e
 split at e
 ·exact ⟨_,by simp [execOp],zll hd (hE.op (by simp [Op.operands])) e⟩
 ·exact ⟨_,by simp [execOp],zll hd (hE.op (by simp [Op.operands])) e⟩
 ·split at e
  ·rename_i hc
   obtain ⟨u,h1,h2⟩ := zx hl (hE.op (by simp [Op.operands])) hc
   refine ⟨_,?_,zll hd (hE.op (by simp [Op.operands])) e⟩
   simp only [execOp]; rw [hf.ev h1,show u = _ from h2]; simp [asBool]
  ·rename_i hc
   obtain ⟨u,h1,h2⟩ := zx hl (hE.op (by simp [Op.operands])) hc
   refine ⟨_,?_,zll hd (hE.op (by simp [Op.operands])) e⟩
   simp only [execOp]; rw [hf.ev h1,show u = _ from h2]; simp [asBool]
  ·cases e
 ·split at e
  ·rename_i hc
   obtain ⟨u,h1,h2⟩ := zx hl (hE.op (by simp [Op.operands])) hc
   obtain rfl : u = _ := h2
   cases e
   exact ⟨_,zzr hf h1,rfl⟩
  ·rename_i hc
   obtain ⟨u,h1,h2⟩ := zx hl (hE.op (by simp [Op.operands])) hc
   obtain rfl : u = _ := h2
   cases e
   exact ⟨_,zzr hf h1,rfl⟩
  ·cases e
 ·split at e
  ·rename_i l hx
   obtain ⟨u,h1,h2⟩ := ziS hl (hE.op (by simp [Op.operands])) hx rfl
   obtain ⟨vs,rfl,h3⟩ := h2
   split at e
   ·rename_i c hc
    cases e
    rw [zdz] at hc
    obtain ⟨v,h4,⟨h5,_⟩ | ⟨_,c',e',h5⟩⟩ := h3.get hc
    ·cases h5
    ·cases e'
     exact ⟨v,znO hf h1 (by simpa using h4),h5⟩
   ·rename_i cs hc
    cases e
    rw [zdz] at hc
    obtain ⟨v,h4,⟨_,ws,rfl,h5⟩ | ⟨h5,_⟩⟩ := h3.get hc
    ·exact ⟨_,znO hf h1 (by simpa using h4),ws,rfl,h5⟩
    ·cases h5
   ·cases e
  ·cases e
 ·split at e
  ·rename_i c hc
   cases ha : adC c with
   | false => rw [ha] at e; cases e
   | true =>
    rw [ha] at e
    cases e
    obtain ⟨u,h1,h2⟩ := zx hl (hE.op (by simp [Op.operands])) hc
    obtain ⟨ad,rfl⟩ := zBM ha h2
    exact ⟨_,zmk hf h1,h2⟩
  ·cases e
 ·split at e
  ·rename_i f ft hfl
   split at e
   ·rename_i t z o hc
    cases e
    obtain ⟨u,h1,h2⟩ := zx hl (hE.op (by simp [Op.operands])) hc
    obtain ⟨⟨b,k,rfl⟩,h3⟩ := zzS (f := f) rfl h2
    refine ⟨ptr b (k + f),?_,h3 _ _ rfl _ rfl⟩
    simp only [execOp]; rw [hf.ev h1]; simp [zlB hfl,Result.andThen]
   ·rename_i hc
    cases e
    obtain ⟨u,h1,h2⟩ := zx hl (hE.op (by simp [Op.operands])) hc
    obtain ⟨⟨b,k,rfl⟩,h3⟩ := zzS (f := f) rfl h2
    refine ⟨ptr b (k + f),?_,h3 _ _ rfl _ rfl⟩
    simp only [execOp]; rw [hf.ev h1]; simp [zlB hfl,Result.andThen]
   ·cases e
  ·cases e
 ·split at e
  ·rename_i f ft hfl
   split at e
   ·rename_i cs hx
    obtain ⟨u,h1,h2⟩ := ziS hl (hE.op (by simp [Op.operands])) hx rfl
    obtain ⟨r,h3,h4⟩ := zBP h2 hfl e
    exact ⟨r,zBz hf h1 (h3 w),h4⟩
   ·cases e
  ·cases e
 ·split at e
  ·rename_i A hA
   split at e
   ·rename_i B hB
    obtain ⟨hgA,hgB⟩ := zEu e
    obtain ⟨vx,h1,h2⟩ := ziS hl (hE.op (by simp [Op.operands])) hA hgA
    obtain ⟨vy,h3,h4⟩ := ziS hl (hE.op (by simp [Op.operands])) hB hgB
    obtain ⟨u,h5,h6⟩ := zEt hT hf h1 h3 h2 h4 e
    exact ⟨u,h5 w,h6⟩
   ·cases e
  ·cases e
 ·split at e
  ·rename_i c hc
   obtain ⟨vx,h1,h2⟩ := zx hl (hE.op (by simp [Op.operands])) hc
   exact zBN hf h1 h2 hw e
  ·cases e
 ·split at e
  ·rename_i z hz
   split at e
   ·rename_i pl hp
    split at e
    ·rename_i cs hc
     cases e
     obtain ⟨u,h1,h2⟩ := zBO (dst := dst) (t := t) (p := p) (af := af) (gd := gd) hd hz hp hc fun q hq => hE.op (by simp only [Op.operands,List.toList_toArray,List.mem_map]; exact ⟨q,hq,rfl⟩)
     exact ⟨u,h1 w,h2⟩
    ·cases e
   ·cases e
  ·cases e
 ·split at e
  ·rename_i hc
   obtain ⟨vx,h1,h2⟩ := zx hl (hE.op (by simp [Op.operands,Call.operands])) hc
   obtain rfl : vx = _ := h2
   split at e
   ·rename_i hu
    cases e
    exact ⟨_,zyc hu hf h1,rfl⟩
   ·cases e
  ·rename_i hc
   obtain ⟨vx,h1,h2⟩ := zx hl (hE.op (by simp [Op.operands,Call.operands])) hc
   split at e
   ·rename_i hu
    cases e
    cases h2
    exact ⟨_,zka hu hf h1,rfl⟩
   ·cases e
  ·rename_i hc
   obtain ⟨vx,h1,h2⟩ := zx hl (hE.op (by simp [Op.operands,Call.operands])) hc
   obtain rfl : vx = _ := h2
   split at e
   ·rename_i hu
    cases e
    exact ⟨_,zka hu hf h1,rfl⟩
   ·cases e
  ·cases e
 ·split at e
  ·rename_i hc
   obtain ⟨vx,h1,h2⟩ := zx hl (hE.op (by simp [Op.operands,Call.operands])) hc
   obtain rfl : vx = _ := h2
   split at e
   ·rename_i hc'
    obtain ⟨vy,h3,h4⟩ := zx hl (hE.op (by simp [Op.operands,Call.operands])) hc'
    obtain rfl : vy = _ := h4
    cases e
    exact ⟨_,ex_min hf h1 h3,rfl⟩
   ·cases e
  ·cases e
 ·split at e
  ·rename_i hc
   obtain ⟨vx,h1,h2⟩ := zx hl (hE.op (by simp [Op.operands,Call.operands])) hc
   obtain rfl : vx = _ := h2
   split at e
   ·rename_i hc'
    obtain ⟨vy,h3,h4⟩ := zx hl (hE.op (by simp [Op.operands,Call.operands])) hc'
    obtain rfl : vy = _ := h4
    cases e
    exact ⟨_,ex_max hf h1 h3,rfl⟩
   ·cases e
  ·cases e
 ·cases e
end
end Go.Rk
end
section
namespace Go.Rk
open Go.RowKit Go.Dm Go.Dk
variable {τ : Nat → Type}

open Classical in
noncomputable def lend (h : Fz) (w : World) (bs : List Nat) : Fz := fun b => if b ∈ bs then w.heap[b]? else h b
section
variable {P : Program} {G : Sig τ} {w0 w w' : World} {h0 h h' H : Fz} {F : List Nat} {L L' L2 : Hp τ} {ν ν' : Vn τ} {φ φ' : Nat → List Nat}
theorem Fz.le.refl (h : Fz) : h.le h := fun _ _ e => e
theorem Fz.le.trans {h h' h'' : Fz} (a : h.le h') (b : h'.le h'') : h.le h'' := fun _ _ e => b _ _ (a _ _ e)
theorem Vn.le.refl (ν : Vn τ) : ν.le ν := fun _ _ e => e
theorem Vn.le.trans {ν ν' ν'' : Vn τ} (a : ν.le ν') (b : ν'.le ν'') : ν.le ν'' := fun _ _ e => b _ _ (a _ _ e)
theorem zkx {bs : List Nat} {b : Nat} (hb : b ∈ bs) : lend h w bs b = w.heap[b]? := by simp [lend,hb]
theorem zgj {bs : List Nat} {b : Nat} (hb : b ∉ bs) : lend h w bs b = h b := by simp [lend,hb]
theorem zox {bs : List Nat} (hw : h.on w) : (lend h w bs).on w := by
 intro b o e
 by_cases hb : b ∈ bs
 ·rwa [zkx hb] at e
 ·rw [zgj hb] at e; exact hw _ _ e
theorem Mem.lend_le (M : Mem P G w0 h0 F L w ν h φ) (ids : List Nat) : h.le (lend h w (fps φ ids)) := by
 intro b o e
 by_cases hb : b ∈ fps φ ids
 ·obtain ⟨i,_,hi⟩ := mem_fps.1 hb
  rw [(M.out i b hi).1] at e; cases e
 ·rw [zgj hb]; exact e
theorem zc4 (φ : Nat → List Nat) (l m : List Nat) : fps φ (l ++ m) = fps φ l ++ fps φ m := by simp [fps]
theorem zbC (φ : Nat → List Nat) (i : Nat) (m : List Nat) : fps φ (i :: m) = φ i ++ fps φ m := by simp [fps]

theorem zpk {te : TypeId} {e : Ty} {xs : List (e.den τ)} {v : Value} {vs : List Value} (hH : h.le H) (ho : w.ownsRow 0 te (ets G e).length v xs.length vs) (hr : RpR P G h e xs vs) (hb : ∀ b ∈ v.ownBlock.toList,H b = w.heap[b]?) : Rp P G H (.sl e) xs v := by
 obtain ⟨hl,⟨rfl,hn⟩ | ⟨g,cap,cur,rfl,_,hg,hc,_,hs,ht⟩⟩ := ho
 ·rw [hn] at hl
  have : vs = [] := List.eq_nil_of_length_eq_zero (by simpa using hl)
  have hxs : xs = [] := List.eq_nil_of_length_eq_zero hn
  subst this; subst hxs
  exact .sl e [] none 0 [] (Nat.le_refl _) (.inl rfl) (.nil _)
 ·refine .sl e xs _ cap vs hc (.inr ⟨g,0,cur,te,(0,0),rfl,?_,?_⟩) (hr.le hH)
  ·rw [hb g (by simp [Value.ownBlock])]; exact hg
  ·intro k v hk
   rw [← ht,List.getElem?_take] at hk
   split at hk
   ·simpa using hk
   ·cases hk

theorem RpL.len : ∀ {ts : List Ty} {q : DP τ ts} {vs : List Value},RpL P G h ts q vs → vs.length = ts.length
 | _,_,_, .nil => rfl
 | _,_,_, .cons _ _ _ _ _ _ h2 => by simp [RpL.len h2]
theorem RpR.len : ∀ {e : Ty} {xs : List (e.den τ)} {vs : List Value},RpR P G h e xs vs → vs.length = xs.length * (ets G e).length
 | _,_,_, .nil _ => by simp
 | _,_,_, .cons e x xs vs ws h1 h2 => by simp [RpR.len h2,h1.len,Nat.add_mul]; omega
theorem RpR.drop : ∀ {e : Ty} {xs : List (e.den τ)} {vs : List Value},RpR P G h e xs vs → ∀ (i : Nat),RpR P G h e (xs.drop i) (vs.drop (i * (ets G e).length))
 | _,_,_, .nil e,i => by simp; exact .nil e
 | _,_,_, .cons e x xs vs ws h1 h2,0 => by simp; exact .cons e x xs vs ws h1 h2
 | _,_,_, .cons e x xs vs ws h1 h2,i + 1 => by
  have hl := h1.len
  have e1 : vs.drop (i * (ets G e).length + (ets G e).length) = [] := List.drop_eq_nil_of_le (by omega)
  rw [List.drop_succ_cons,Nat.add_mul,Nat.one_mul,List.drop_append,e1,List.nil_append,hl,Nat.add_sub_cancel]
  exact h2.drop i
theorem RpR.take : ∀ {e : Ty} {xs : List (e.den τ)} {vs : List Value},RpR P G h e xs vs → ∀ (i : Nat),RpR P G h e (xs.take i) (vs.take (i * (ets G e).length))
 | _,_,_, .nil e,i => by simp; exact .nil e
 | _,_,_, .cons e x xs vs ws h1 h2,0 => by simp; exact .nil e
 | _,_,_, .cons e x xs vs ws h1 h2,i + 1 => by
  have hl := h1.len
  have e1 : vs.take (i * (ets G e).length + (ets G e).length) = vs := List.take_of_length_le (by omega)
  rw [List.take_succ_cons,Nat.add_mul,Nat.one_mul,List.take_append,e1,hl,Nat.add_sub_cancel]
  exact .cons e x _ vs _ h1 (h2.take i)
theorem zjN.part {ad : Option Addr} {vs us : List Value} {k : Nat} (hs : zjN h ad vs) (hu : ∀ j v,us[j]? = some v → vs[k + j]? = some v) : zjN h (ad.map (·.add k)) us := by
 rcases hs with rfl | ⟨b,o,c,e,z,rfl,h1,h2⟩
 ·left
  apply List.eq_nil_iff_forall_not_mem.2
  intro v hv
  obtain ⟨j,hj⟩ := List.mem_iff_getElem?.1 hv
  have := hu j v hj
  simp at this
 ·have hadd : (⟨b,o,none⟩ : Addr).add k = ⟨b,o + k,none⟩ := by unfold Addr.add; split <;> simp_all
  refine .inr ⟨b,o + k,c,e,z,by simp [hadd],h1,fun j v hj => ?_⟩
  rw [Nat.add_assoc]; exact h2 _ _ (hu j v hj)
theorem zCy {e : Ty} {xs : List (e.den τ)} {ad : Option Addr} {n c i j : Nat} (hr : Rp P G h (.sl e) xs (.slice ad n c)) (hij : i ≤ j) (hj : j ≤ xs.length) : n = xs.length ∧ xs.length ≤ c ∧
  Rp P G h (.sl e) ((xs.take j).drop i) (.slice (if c = i then ad else ad.map (·.add (i * (ets G e).length))) (j - i) (c - i)) := by
 cases hr with
 | sl _ _ _ _ vs hc hs hrr =>
  refine ⟨rfl,hc,?_⟩
  have hlen : ((xs.take j).drop i).length = j - i := by rw [List.length_drop,List.length_take]; omega
  rw [← hlen]
  have hcell : ∀ k v,((vs.take (j * (ets G e).length)).drop (i * (ets G e).length))[k]? = some v → vs[i * (ets G e).length + k]? = some v := by
   intro k v hk
   rw [List.getElem?_drop,List.getElem?_take] at hk
   split at hk
   ·exact hk
   ·cases hk
  refine .sl e _ _ _ ((vs.take (j * (ets G e).length)).drop (i * (ets G e).length)) (by rw [hlen]; omega) ?_ ((hrr.take j).drop i)
  by_cases hci : c = i
  ·rw [if_pos hci]
   left
   have h1 := ((hrr.take j).drop i).len
   rw [hlen,show j - i = 0 by omega,Nat.zero_mul] at h1
   exact List.eq_nil_of_length_eq_zero h1
  ·rw [if_neg hci]; exact hs.part hcell
theorem vw_rp {e : Ty} {xs ys : List (e.den τ)} {a a' : Option Addr} {n c c' lo : Nat} (hr : Rp P G H (.sl e) ys (.slice a n c)) (h1 : lo + xs.length ≤ ys.length) (h2 : xs = (ys.take (lo + xs.length)).drop lo) (h3 : xs.length ≤ c') (h4 : xs ≠ [] → a' = a.map (·.add (lo * (ets G e).length))) : Rp P G H (.sl e) xs (.slice a' xs.length c') := by
 by_cases hx : xs = []
 ·subst hx; exact .sl e [] a' c' [] h3 (.inl rfl) (.nil _)
 ·obtain ⟨_,hc,hs⟩ := zCy hr (i := lo) (j := lo + xs.length) (by omega) h1
  have hl : 0 < xs.length := List.length_pos_iff.2 hx
  rw [← h2,if_neg (by omega), ← h4 hx] at hs
  rw [show lo + xs.length - lo = xs.length by omega] at hs
  cases hs with
  | sl _ _ _ _ vs _ hs hrr => exact .sl e xs a' c' vs h3 hs hrr
theorem zbX.part {ad : Option Addr} {vs us : List Value} {k : Nat} (hs : zbX w ad vs) (hu : ∀ (j : Nat) v,us[j]? = some v → vs[k + j]? = some v) : zbX w (ad.map (·.add k)) us := by
 by_cases hne : us = []
 ·subst hne
  cases ad with
  | none => rfl
  | some x => exact .inl rfl
 ·have hv : vs ≠ [] := by
   rintro rfl
   apply hne
   apply List.eq_nil_iff_forall_not_mem.2
   intro v hv
   obtain ⟨j,hj⟩ := List.mem_iff_getElem?.1 hv
   have := hu j v hj
   simp at this
  cases ad with
  | none => exact (hv hs).elim
  | some x =>
   obtain ⟨h1,h2,h3⟩ := hs.hard hv
   obtain ⟨b,o,sp⟩ := x
   simp only at h1 h2 h3
   subst h1
   have hadd : (⟨b,o,none⟩ : Addr).add k = ⟨b,o + k,none⟩ := by unfold Addr.add; split <;> simp_all
   simp only [Option.map_some,hadd]
   refine .inr ⟨rfl,h2,fun i v hv => ?_⟩
   have := h3 _ _ (hu i v hv)
   simpa [Nat.add_assoc] using this
mutual
theorem Tr.rp (hH : h.le H) : ∀ {t : Ty} {x : t.den τ} {v : Value} {fp : List Nat},Tr P G h w t x v fp → (∀ b ∈ fp,H b = w.heap[b]?) → Rp P G H t x v
 | _,_,_,_, .fz t x v hz hr,_ => hr.le hH
 | _,_,_,_, .so te e xs v vs ho hr,hb => .so te e xs v (zpk hH ho hr hb)
 | _,_,_,_, .po n x b vs fp h1 h2 hn,hb => .po n x _ (.pt n x b 0 vs (.inr ⟨b,0,vs.toArray,G.ti n,(0,0),rfl,(hb b (List.mem_cons_self ..)).trans h1,fun k v hk => by simpa using hk⟩) (h2.rp hH fun c hc => hb c (List.mem_cons_of_mem _ hc)))
 | _,_,_,_, .pn0 n,_ => .pn0 n
 | _,_,_,_, .pn1 n x v fp hp,hb => .pn1 n x v (match hp.rp hH hb with | .po _ _ _ hr => hr)
theorem TrL.rp (hH : h.le H) : ∀ {ts : List Ty} {p : DP τ ts} {vs : List Value} {fp : List Nat},TrL P G h w ts p vs fp → (∀ b ∈ fp,H b = w.heap[b]?) → RpL P G H ts p vs
 | _,_,_,_, .nil,_ => .nil
 | _,_,_,_, .cons t ts p v vs f f' h1 h2 hd,hb => .cons t ts p v vs (h1.rp hH fun b hf => hb b (List.mem_append_left _ hf)) (h2.rp hH fun b hf => hb b (List.mem_append_right _ hf))
end
theorem zu3 (M : Mem P G w0 h0 F L2 w ν h φ) (hH : h.le H) {e : Ty} {c : CV τ} {xs : List (e.den τ)} {m : List Nat} {v : Value} (k : zu0 L e c = some (xs,m)) (hL : ∀ i ∈ m,lk L2 i = lk L i) (hb : ∀ b ∈ fps φ m,H b = w.heap[b]?)
  (hv : zbi P G h ν c v) : Rp P G H (.sl e) xs v := by
 unfold zu0 at k
 split at k
 ·split at k
  ·rename_i hx
   obtain ⟨rfl,rfl⟩ := zdQ hx
   cases k
   exact Rp.le hH hv
  ·cases k
 ·cases k; cases hv
  exact .sl e [] none 0 [] (Nat.le_refl _) (.inl rfl) (.nil _)
 ·rename_i id
  obtain ⟨ad,n,cp,q,hν,rfl⟩ := hv
  split at k
  ·rename_i te e' xs' kk hlk
   split at k
   ·rename_i hx
    obtain ⟨rfl,rfl⟩ := zdQ hx
    cases k
    have hr := M.res id
    rw [hL id (List.mem_singleton.2 rfl),hlk] at hr
    obtain ⟨v',q',vs,u,h1,h2,h3,h4,_⟩ := hr
    rw [hν] at h1
    cases h1
    exact zpk hH h3 h4 fun b hbb => hb b (by rw [zbC,h2]; exact List.mem_append_left _ hbb)
   ·cases k
  ·rename_i e' xs' hlk
   split at k
   ·rename_i hx
    obtain ⟨rfl,rfl⟩ := zdQ hx
    cases k
    have hr := M.res id
    rw [hL id (List.mem_singleton.2 rfl),hlk] at hr
    obtain ⟨v',q',h1,_,h3⟩ := hr
    rw [hν] at h1
    cases h1
    exact h3.le hH
   ·cases k
  ·rename_i i kk e' lo xs' hlk
   split at k
   ·rename_i te e2 ys k' hlk2
    cases hkk : Nat.beq kk k' with
    | false => rw [hkk] at k; cases k
    | true =>
     rw [hkk] at k
     have : kk = k' := by simpa using hkk
     subst this
     dsimp only [cond_true] at k
     split at k
     ·rename_i hx
      obtain ⟨rfl,rfl⟩ := zdQ hx
      cases k
      have hr := M.res id
      rw [hL id (List.mem_cons_self ..),hlk] at hr
      obtain ⟨a1,n1,c1,q1,q2,u1,ys1,a2,c2,g1,g2,g3,g4,g5,g6,g7,_⟩ := hr
      have hr2 := M.res i
      rw [hL i (List.mem_cons_of_mem _ (List.mem_cons_self ..)),hlk2] at hr2
      obtain ⟨v',q',vs,u,h1,h2,h3,h4,h5⟩ := hr2
      rw [g1] at h1
      cases h1
      rw [g2] at h5
      injection h5 with h5
      injection h5 with _ h5
      injection h5 with h5
      cases h5
      rw [hν] at g5
      cases g5
      exact vw_rp (zpk hH h3 h4 fun b hbb => hb b (by rw [zbC,zbC,h2]; exact List.mem_append_right _ (List.mem_append_left _ hbb))) g3 g4 g6 g7.1
     ·cases k
   ·cases k
  ·cases k
 ·cases k
theorem zmz {f : (t : Ty) → CV τ → Option (t.den τ × List Nat)} {A : List Nat → Prop} (hA : ∀ l m,A (l ++ m) → A l ∧ A m)
  (hf : ∀ t c x m v,f t c = some (x,m) → A m → zbi P G h ν c v → Rp P G H t x v) : ∀ {ts : List Ty} {cs : List (CV τ)} {q : DP τ ts} {vs : List Value} {m : List Nat},zpe f ts cs = some (q,m) → A m → CVs P G h ν cs vs → RpL P G H ts q vs
 | [],[],q,vs,_,e,_,hv => by cases e; cases hv; exact .nil
 | t :: ts,c :: cs,q,_,_,e,ha,⟨v,us,rfl,h1,h2⟩ => by
  unfold zpe at e
  split at e
  ·rename_i x m hx
   split at e
   ·rename_i q' m' hq
    cases e
    refine .cons t ts _ v us ?_ ?_
    ·rw [DP.hd_mk]; exact hf _ _ _ _ _ hx (hA _ _ ha).1 h1
    ·rw [DP.tl_mk]; exact zmz hA hf hq (hA _ _ ha).2 h2
   ·cases e
  ·cases e
 | [],_ :: _,_,_,_,e,_,_ => by cases e
 | _ :: _,[],_,_,_,e,_,_ => by cases e
theorem zAe {t : Ty} {x : t.den τ} {v : Value} (hr : Rp P G h t x v) : zbi P G h ν (t.av x) v := by
 cases hr with
 | sl e xs a c vs hc hs hr => exact .sl e xs a c vs hc hs hr
 | so te e xs v hr => exact hr
 | pt n x b k vs hs hr => exact ⟨b,k,vs,rfl,hs,hr⟩
 | po n x v hr => cases hr with | pt n x b k vs hs hr => exact ⟨b,k,vs,rfl,hs,hr⟩
 | pn0 n => exact .pn0 n
 | pn1 n x v hr => exact .pn1 n x v hr
 | fn m f hf => exact .fn m f hf
 | cl f t x u hr => exact .cl f t x u hr
 | _ => rfl
theorem zrF : ∀ {ts : List Ty} {q : DP τ ts} {vs : List Value},RpL P G h ts q vs → CVs P G h ν (avs ts q) vs
 | _,_,_, .nil => rfl
 | _,_,_, .cons t ts q v vs h1 h2 => ⟨v,vs,rfl,zAe h1,zrF h2⟩
def zaP (L2 L : Hp τ) (φ : Nat → List Nat) (H : Fz) (w : World) (m : List Nat) : Prop := (∀ i ∈ m,lk L2 i = lk L i) ∧ ∀ b ∈ fps φ m,H b = w.heap[b]?
theorem zaP.app {l m : List Nat} (a : zaP L2 L φ H w (l ++ m)) : zaP L2 L φ H w l ∧ zaP L2 L φ H w m :=
  ⟨⟨fun i hi => a.1 i (List.mem_append_left _ hi),fun b hb => a.2 b (by rw [zc4]; exact List.mem_append_left _ hb)⟩,
   ⟨fun i hi => a.1 i (List.mem_append_right _ hi),fun b hb => a.2 b (by rw [zc4]; exact List.mem_append_right _ hb)⟩⟩
theorem zu4 (M : Mem P G w0 h0 F L2 w ν h φ) (hH : h.le H) {f : (t : Ty) → CV τ → Option (t.den τ × List Nat)} (hf : ∀ t c x m v,f t c = some (x,m) → zaP L2 L φ H w m → zbi P G h ν c v → Rp P G H t x v)
  {n : Nat} {c : CV τ} {x : τ n} {m : List Nat} {v : Value} (k : lokP f G L n c = some (x,m)) (ha : zaP L2 L φ H w m) (hv : zbi P G h ν c v) : Rp P G H (.pt n) x v := by
 unfold lokP at k
 split at k
 ·rename_i t z o
  obtain ⟨b,q,vs,rfl,h1,h2⟩ := hv
  split at k
  ·rename_i x' hx
   cases k
   unfold eaO at hx
   split at hx
   ·rename_i n' z
    cases ho : Nat.beq o 0
    ·rw [ho] at hx; cases hx
    ·rw [ho] at hx
     replace ho := Nat.eq_of_beq_eq_true ho
     subst ho
     obtain ⟨rfl,rfl⟩ := zCa hx
     exact .pt _ _ b _ vs (h1.le hH) (h2.le hH)
   ·cases hx
  ·split at k
   ·rename_i cs hcut
    split at k
    ·rename_i p m' hq
     cases k
     have hc := (CVs.cut (X := ⟨P,G,[],[],0,fun _ => .bool false⟩) (zrF (ν := ν) h2) hcut).1
     refine .pt n _ b (q + o) ((vs.drop o).take (G.fs n).length) ?_ ?_
     ·rcases h1 with rfl | ⟨b',o',c,e,z',h3,h4,h5⟩
      ·exact .inl (by simp)
      ·cases h3
       refine .inr ⟨b,q + o,c,e,z',rfl,hH _ _ h4,fun k v hk => ?_⟩
       rw [List.getElem?_take] at hk
       split at hk
       ·rw [List.getElem?_drop] at hk
        rw [Nat.add_assoc]
        exact h5 _ _ hk
       ·cases hk
     ·rw [G.dc]; exact zmz (A := zaP L2 L φ H w) (fun _ _ => zaP.app) hf hq ha hc
    ·cases k
   ·cases k
 ·rename_i id o
  split at k
  ·rename_i t cs hlk
   split at k
   ·rename_i cs' hcut
    split at k
    ·rename_i p m' hq
     cases k
     have ha' := zaP.app (l := [id]) ha
     have hr := M.res id
     rw [ha.1 id (List.mem_cons_self ..),hlk] at hr
     obtain ⟨b,q,vs,h1,h2,h3,h4⟩ := hr
     obtain ⟨u,q',h5,rfl,_⟩ := hv
     rw [h1] at h5
     cases h5
     have hc := (CVs.cut (X := ⟨P,G,[],[],0,fun _ => .bool false⟩) h4 hcut).1
     refine .pt n _ b (0 + o) ((vs.drop o).take (G.fs n).length) (.inr ⟨b,0 + o,vs.toArray,t,(0,0),rfl,?_,fun k v hk => ?_⟩) ?_
     ·rw [ha.2 b (by rw [zbC,h2]; simp)]; exact h3
     ·rw [List.getElem?_take] at hk
      split at hk
      ·rw [List.getElem?_drop] at hk
       simpa using hk
      ·cases hk
     ·rw [G.dc]; exact zmz (A := zaP L2 L φ H w) (fun _ _ => zaP.app) hf hq ha'.2 hc
    ·cases k
   ·cases k
  ·cases k
 ·cases k
theorem zEV (M : Mem P G w0 h0 F L2 w ν h φ) (hH : h.le H) {n : Nat} {c : CV τ} {x : Option (τ n)} {m : List Nat} {v : Value} (k : lokT L n c = some (x,m)) (ha : zaP L2 L φ H w m) (hv : zbi P G h ν c v) : Rp P G H (.pn n) x v := by
 unfold lokT at k
 split at k
 ·rename_i id
  obtain ⟨u,q',h5,rfl,_⟩ := hv
  have e0 : znP (.pointer u) 0 = .pointer u := by cases u <;> rfl
  rw [e0]
  split at k
  ·rename_i n' y hlk
   split at k
   ·rename_i hx
    obtain ⟨rfl,rfl⟩ := zq3 hx
    cases k
    have hr := M.res id
    rw [ha.1 id (List.mem_singleton.2 rfl),hlk] at hr
    obtain ⟨v',q,h1,h2⟩ := hr
    rw [h1] at h5; cases h5
    exact h2.rp hH fun b hb => ha.2 b (by rw [zbC]; exact List.mem_append_left _ hb)
   ·cases k
  ·rename_i hlk
   cases k
   have hr := M.res id
   rw [ha.1 id (List.mem_singleton.2 rfl),hlk] at hr
   obtain ⟨q,h1,h2⟩ := hr
   rw [h1] at h5; cases h5
   exact .pn0 n
  ·cases k
 ·cases k
theorem zpl (M : Mem P G w0 h0 F L2 w ν h φ) (hH : h.le H) : ∀ (d : Nat) (t : Ty) (c : CV τ) (x : t.den τ) (m : List Nat) (v : Value),lok G L d t c = some (x,m) → zaP L2 L φ H w m → zbi P G h ν c v → Rp P G H t x v
 | 0,t,c,x,m,v,k,_,_ => by cases k
 | d + 1,t,c,x,m,v,k,ha,hv => by
  have ih := zpl M hH d
  unfold lok at k
  cases t <;> dsimp only at k
  case sl e => exact zu3 M hH k ha.1 ha.2 hv
  case so te e => exact .so te e x v (zu3 M hH k ha.1 ha.2 hv)
  case pt n => exact zu4 M hH ih k ha hv
  case po n => exact .po n x v (zu4 M hH ih k ha hv)
  case pn n =>
   split at k
   ·cases k; cases hv; exact .pn0 n
   ·split at k
    ·rename_i hx
     obtain ⟨rfl,rfl⟩ := zq3 hx
     cases k
     exact Rp.le hH hv
    ·cases k
   ·split at k
    ·rename_i hy
     cases k
     exact zEV M hH hy ha hv
    ·split at k
     ·rename_i y m' hy
      cases k
      exact .pn1 n y v (zu4 M hH ih hy ha hv)
     ·cases k
  case fn =>
   split at k
   ·cases k; exact Rp.le hH hv
   ·split at k
    ·rename_i f m hm
     cases k; cases hv
     exact .fn _ _ (M.fp _ (zij hm))
    ·cases k
   ·cases k
  case fc f =>
   split at k
   ·rename_i g
    cases hb : Nat.beq g f with
    | false => rw [hb] at k; cases k
    | true =>
     rw [hb] at k
     cases k
     have : g = f := by simpa using hb
     subst this
     cases hv
     exact .fc g
   ·cases k
  case cl f t' =>
   split at k
   ·rename_i g t2 y
    cases hb : Nat.beq g f with
    | false => rw [hb] at k; cases k
    | true =>
     rw [hb] at k
     dsimp only [cond_true] at k
     have : g = f := by simpa using hb
     subst this
     split at k
     ·rename_i hx
      obtain ⟨rfl,rfl⟩ := zB9 hx
      cases k
      exact Rp.le hH hv
     ·cases k
   ·rename_i id
    split at k
    ·rename_i g c' hl
     cases hb : Nat.beq g f with
     | false => rw [hb] at k; cases k
     | true =>
      rw [hb] at k
      dsimp only [cond_true] at k
      have : g = f := by simpa using hb
      subst this
      split at k
      ·rename_i x' m' hx
       cases k
       obtain ⟨f',us,vs,q,hν,rfl⟩ := hv
       have hr := M.res id
       rw [ha.1 id (List.mem_cons_self ..),hl] at hr
       obtain ⟨us',vs',q',h1,_,h2,h3⟩ := hr
       rw [hν] at h1
       cases h1
       obtain rfl : us = [] := h2
       obtain ⟨v',_,rfl,h4,rfl⟩ := h3
       exact .cl _ _ _ _ (ih _ _ _ _ _ hx (zaP.app (l := [id]) ha).2 h4)
      ·cases k
    ·cases k
   ·cases k
  all_goals first | (cases k; done) | (split at k <;> first | (cases k; done) | (cases k; cases hv; constructor))

theorem zcA {l : List Nat} {i : Nat} : mem l i = true ↔ i ∈ l := by simp [zmx,List.any_eq_true]
theorem zoy : ∀ {l m : List Nat},nod (l ++ m) = true → nod l = true ∧ nod m = true ∧ ∀ i ∈ l,i ∉ m
 | [],m,h => ⟨rfl,h,fun i hi => by cases hi⟩
 | a :: l,m,h => by
  simp only [List.cons_append,nod,Bool.and_eq_true,Bool.not_eq_true'] at h
  obtain ⟨h1,h2⟩ := h
  obtain ⟨h3,h4,h5⟩ := zoy h2
  have hn : a ∉ l ++ m := fun e => by rw [zcA.2 e] at h1; cases h1
  refine ⟨?_,h4,fun i hi => ?_⟩
  ·simp only [nod,Bool.and_eq_true,Bool.not_eq_true']
   exact ⟨Bool.eq_false_iff.2 fun e => hn (List.mem_append_left _ (zcA.1 e)),h3⟩
  ·rcases List.mem_cons.1 hi with rfl | hi
   ·exact fun e => hn (List.mem_append_right _ e)
   ·exact h5 i hi
theorem zpm {l m : List Nat} (h : zqt l m = true) : ∀ i ∈ l,i ∉ m := by
 intro i hi e
 have := List.all_eq_true.1 (zrv l m ▸ h) i hi
 rw [zcA.2 e] at this
 cases this
theorem Mem.fps_dis (M : Mem P G w0 h0 F L2 w ν h φ) {l m : List Nat} (h : ∀ i ∈ l,i ∉ m) : ∀ b ∈ fps φ l,b ∉ fps φ m := by
 intro b h1 h2
 obtain ⟨i,hi,hb⟩ := mem_fps.1 h1
 obtain ⟨j,hj,hb'⟩ := mem_fps.1 h2
 exact h i hi (M.dis i j b hb hb' ▸ hj)
theorem zu5 (M : Mem P G w0 h0 F L2 w ν h φ) {f : (t : Ty) → CV τ → Rs (t.den τ)}
  (hf : ∀ t c x l m v,f t c = some (x,l,m) → (∀ i ∈ l,lk L2 i = lk L i) → zaP L2 L φ H w m → nod l = true → zbi P G h ν c v → Tr P G H w t x v (fps φ l)) :
  ∀ {ts : List Ty} {cs : List (CV τ)} {q : DP τ ts} {vs : List Value} {l m : List Nat},resL f ts cs = some (q,l,m) → (∀ i ∈ l,lk L2 i = lk L i) → zaP L2 L φ H w m → nod l = true → CVs P G h ν cs vs → TrL P G H w ts q vs (fps φ l)
 | [],[],q,vs,_,_,e,_,_,_,hv => by cases e; cases hv; exact .nil
 | t :: ts,c :: cs,q,_,_,_,e,ha,hm,hn,⟨v,us,rfl,h1,h2⟩ => by
  unfold resL at e
  split at e
  ·rename_i x l m hx
   split at e
   ·rename_i q' l' m' hq
    cases e
    obtain ⟨n1,n2,n3⟩ := zoy hn
    rw [zc4]
    refine .cons t ts _ v us _ _ ?_ ?_ (M.fps_dis n3)
    ·rw [DP.hd_mk]; exact hf _ _ _ _ _ _ hx (fun i hi => ha i (List.mem_append_left _ hi)) hm.app.1 n1 h1
    ·rw [DP.tl_mk]; exact zu5 M hf hq (fun i hi => ha i (List.mem_append_right _ hi)) hm.app.2 n2 h2
   ·cases e
  ·cases e
 | [],_ :: _,_,_,_,_,e,_,_,_,_ => by cases e
 | _ :: _,[],_,_,_,_,e,_,_,_,_ => by cases e
theorem zAf (M : Mem P G w0 h0 F L2 w ν h φ) {f : (t : Ty) → CV τ → Rs (t.den τ)}
  (hf : ∀ t c x l m v,f t c = some (x,l,m) → (∀ i ∈ l,lk L2 i = lk L i) → zaP L2 L φ H w m → nod l = true → zbi P G h ν c v → Tr P G H w t x v (fps φ l))
  {n id : Nat} {x : τ n} {l m : List Nat} {v : Value} (k : resP f G L n id = some (x,l,m)) (ha : ∀ i ∈ l,lk L2 i = lk L i) (hm : zaP L2 L φ H w m) (hn : nod l = true) (hv : zbi P G h ν (.pt id 0) v) : Tr P G H w (.po n) x v (fps φ l) := by
 unfold resP at k
 split at k
 ·rename_i t cs hlk
  cases hb : Nat.beq t (G.ti n) with
  | false => rw [hb] at k; cases k
  | true =>
   rw [hb] at k
   dsimp only [cond_true] at k
   split at k
   ·rename_i p l' m' hq
    cases k
    have ht : t = G.ti n := by simpa using hb
    have hr := M.res id
    rw [ha id (List.mem_cons_self ..),hlk] at hr
    obtain ⟨b,q,vs,h1,h2,h3,h4⟩ := hr
    obtain ⟨u,q',h5,rfl,_⟩ := hv
    rw [h1] at h5
    cases h5
    obtain ⟨n1,n2,n3⟩ := zoy (l := [id]) hn
    have hd := M.fps_dis (l := [id]) (m := l') n3
    rw [zbC,h2]
    refine .po n _ b vs _ (ht ▸ h3) ?_ fun hc => hd b (by rw [zbC,h2]; simp) hc
    rw [G.dc]
    exact zu5 M hf hq (fun i hi => ha i (List.mem_cons_of_mem _ hi)) hm n2 h4
   ·cases k
 ·cases k
theorem zxh {te sz n m k : Nat} {a : Option Addr} {c : Nat} {vs : List Value} (h : w.ownsRow 0 te sz (.slice a n c) m vs) (hk : k ≤ m) : w.ownsRow 0 te sz (.slice a k c) k (vs.take (k * sz)) := by
 obtain ⟨h1,h2⟩ := h
 have hle : k * sz ≤ m * sz := Nat.mul_le_mul_right _ hk
 refine ⟨by rw [List.length_take]; omega,?_⟩
 rcases h2 with ⟨e,hm⟩ | ⟨g,cap,cur,e,h3,h4,h5,h6,h7,h8⟩
 ·cases e
  have : k = 0 := by omega
  subst this
  exact .inl ⟨rfl,rfl⟩
 ·cases e
  refine .inr ⟨g,c,cur,rfl,h3,h4,by omega,h6,h7,?_⟩
  rw [← h8,List.take_take]
  congr 1
  omega
theorem zu6 (M : Mem P G w0 h0 F L2 w ν h φ) (hH : h.le H) : ∀ (d : Nat) (t : Ty) (c : CV τ) (x : t.den τ) (l m : List Nat) (v : Value),res G L d t c = some (x,l,m) → (∀ i ∈ l,lk L2 i = lk L i) → zaP L2 L φ H w m → nod l = true → zbi P G h ν c v → Tr P G H w t x v (fps φ l)
 | 0,t,c,x,l,m,v,k,_,_,_,_ => by cases k
 | d + 1,t,c,x,l,m,v,k,ha,hm,hn,hv => by
  have ih := zu6 M hH d
  have hlok : frz t = true → (match lok G L (d + 1) t c with
   | some (x,m) => some (x,[],m)
   | none => none) = some (x,l,m) → Tr P G H w t x v (fps φ l) := by
   intro hz k
   split at k
   ·rename_i x' m' hx
    cases k
    exact .fz t x v hz (zpl M hH _ _ _ _ _ _ hx hm hv)
   ·cases k
  unfold res at k
  cases t <;> dsimp only at k
  case so te e =>
   split at k
   ·cases k; cases hv
    exact .so te e [] _ [] ⟨by simp, .inl ⟨rfl,rfl⟩⟩ (.nil _)
   ·rename_i id
    split at k
    ·rename_i te' e' xs kk hlk
     cases hb : Nat.beq te te' with
     | false => rw [hb] at k; cases k
     | true =>
      rw [hb] at k
      dsimp only [cond_true] at k
      split at k
      ·rename_i hx
       obtain ⟨rfl,rfl⟩ := zdQ hx
       cases k
       have ht : te = te' := by simpa using hb
       subst ht
       have hr := M.res id
       rw [ha id (List.mem_singleton.2 rfl),hlk] at hr
       obtain ⟨v',q',vs,u,h1,h2,h3,h4,_⟩ := hr
       obtain ⟨ad,n,cp,q,hν,rfl⟩ := hv
       rw [hν] at h1
       cases h1
       rw [zbC,h2,show fps φ [] = [] from rfl,List.append_nil]
       exact .so te _ _ _ vs h3 (h4.le hH)
      ·cases k
    ·rename_i i kk e0 xs hlk
     split at k
     ·rename_i te' e' ys k2 hlk2
      cases hb : (Nat.beq te te' && Nat.beq kk k2) with
      | false => rw [hb] at k; cases k
      | true =>
       rw [hb] at k
       dsimp only [cond_true] at k
       simp only [Bool.and_eq_true,Nat.beq_eq] at hb
       obtain ⟨rfl,rfl⟩ := hb
       split at k
       ·rename_i hx
        obtain ⟨rfl,rfl⟩ := zdQ hx
        cases k
        have hr := M.res id
        rw [ha id (List.mem_cons_self ..),hlk] at hr
        obtain ⟨a1,n1,c1,q1,q2,u1,ys1,a2,c2,g1,g2,g3,g4,g5,g6,g7,g8⟩ := hr
        have hr2 := M.res i
        rw [ha i (List.mem_cons_of_mem _ (List.mem_cons_self ..)),hlk2] at hr2
        obtain ⟨v',q',vs,u,h1,h2,h3,h4,h5⟩ := hr2
        rw [g1] at h1
        cases h1
        rw [g2] at h5
        injection h5 with h5
        injection h5 with _ h5
        injection h5 with h5
        cases h5
        obtain ⟨ad,n,cp,q,hν,rfl⟩ := hv
        rw [hν] at g5
        cases g5
        obtain ⟨rfl,rfl⟩ := g7.2 rfl
        rw [zbC,g8,zbC,h2,show fps φ [] = [] from rfl,List.append_nil,List.nil_append]
        have hcut := zxh (k := xs.length) h3 (by omega)
        rw [Nat.zero_add,List.drop_zero] at g4
        have h6 := h4.take xs.length
        rw [← g4] at h6
        have hob : (Value.slice a2 n1 c2).ownBlock = (Value.slice a2 xs.length c2).ownBlock := by cases a2 <;> rfl
        rw [hob]
        exact .so te _ _ _ _ hcut (h6.le hH)
       ·cases k
     ·cases k
    ·cases k
   ·cases k
  case po n =>
   cases c <;> first | (cases k; done) | skip
   rename_i id o
   cases o with
   | zero => exact zAf M ih k ha hm hn hv
   | succ o => cases k
  case pn n =>
   split at k
   ·cases k; cases hv; exact .pn0 n
   ·rename_i id
    split at k
    ·rename_i n' y hlk
     split at k
     ·rename_i hx
      obtain ⟨rfl,rfl⟩ := zq3 hx
      cases k
      have hr := M.res id
      rw [ha id (List.mem_singleton.2 rfl),hlk] at hr
      obtain ⟨v',q',h1,h2⟩ := hr
      obtain ⟨u,q,hν,rfl,_⟩ := hv
      rw [hν] at h1
      cases h1
      rw [zbC,show fps φ [] = [] from rfl,List.append_nil]
      cases u <;> exact h2.of hH fun _ _ => rfl
     ·cases k
    ·rename_i hlk
     cases k
     have hr := M.res id
     rw [ha id (List.mem_singleton.2 rfl),hlk] at hr
     obtain ⟨q',h1,h2⟩ := hr
     obtain ⟨u,q,hν,rfl,_⟩ := hv
     rw [hν] at h1
     cases h1
     rw [zbC,h2]
     exact .pn0 n
    ·split at k
     ·rename_i y l' m' hy
      cases k
      exact .pn1 n y v _ (zAf M ih hy ha hm hn hv)
     ·cases k
   ·cases k
  case sn te e =>
   have h1 : lok G L (d + 1) (.sn te e) c = none := by unfold lok; rfl
   rw [h1] at k
   cases k
  all_goals exact hlok rfl k

def up1 {α : Type} (f : Nat → α) (i : Nat) (x : α) : Nat → α := fun j => if j = i then x else f j
theorem zS {α : Type} (f : Nat → α) (i : Nat) (x : α) : up1 f i x i = x := by simp [up1]
theorem zap {α : Type} (f : Nat → α) {i j : Nat} (x : α) (h : j ≠ i) : up1 f i x j = f j := by simp [up1,h]
theorem zaE {ν : Vn τ} {i : Nat} {x : Option (Value × Option ((e : Ty) × List (e.den τ)))} (h : ν i = none) : ν.le (up1 ν i x) := by
 intro j y e
 rw [zap]
 ·exact e
 ·rintro rfl; rw [h] at e; cases e
def Free (w0 : World) (h : Fz) (F : List Nat) (φ : Nat → List Nat) (fp : List Nat) : Prop := ∀ b ∈ fp,(∀ i,b ∉ φ i) ∧ h b = none ∧ (b ∈ F ∨ w0.heap.size ≤ b)
theorem Mem.add (M : Mem P G w0 h0 F L w ν h φ) {nid : Nat} (hn : ν nid = none) (r : AR τ) (x : Value × Option ((e : Ty) × List (e.den τ))) {fp : List Nat} (hr : zif P G h (up1 ν nid (some x)) w r (some x) fp) (hf : Free w0 h F φ fp) :
  Mem P G w0 h0 F ((nid,r) :: L) w (up1 ν nid (some x)) h (up1 φ nid fp) := by
 refine ⟨M.os,M.tape,M.output,M.size,M.frame,M.le,M.on,M.new,?_,?_,?_,M.gl,M.fp⟩
 ·intro i
  by_cases e : nid = i
  ·subst e
   rw [zS,zS]
   have : lk ((nid,r) :: L) nid = r := by simp [znQ,zil]
   rw [this]; exact hr
  ·have : lk ((nid,r) :: L) i = lk L i := by simp [znQ,zil,zaO.2 e]
   have hr2 := (M.res i).of (w' := w) (Fz.le.refl _) (zaE (x := some x) hn) fun _ _ => rfl
   rw [this,zap φ fp (Ne.symm e)]
   exact hr2
 ·intro i j b h1 h2
  by_cases e1 : i = nid
  ·by_cases e2 : j = nid
   ·rw [e1,e2]
   ·subst e1
    rw [zS] at h1
    rw [zap _ _ e2] at h2
    exact ((hf b h1).1 j h2).elim
  ·rw [zap _ _ e1] at h1
   by_cases e2 : j = nid
   ·subst e2
    rw [zS] at h2
    exact ((hf b h2).1 i h1).elim
   ·rw [zap _ _ e2] at h2
    exact M.dis i j b h1 h2
 ·intro i b hb
  by_cases e : i = nid
  ·subst e
   rw [zS] at hb
   exact (hf b hb).2
  ·rw [zap _ _ e] at hb
   exact M.out i b hb
structure Grew (P : Program) (G : Sig τ) (w0 : World) (h0 : Fz) (F : List Nat) (L : Hp τ) (w : World) (ν : Vn τ) (h : Fz) (φ : Nat → List Nat) (U : Hp τ) (nid nid' : Nat) (fp : List Nat) (ν' : Vn τ) (φ' : Nat → List Nat) : Prop where
 up : nid ≤ nid'
 mem : Mem P G w0 h0 F (U ++ L) w ν' h φ'
 le : ν.le ν'
 same : ∀ i, ¬(nid ≤ i ∧ i < nid') → ν' i = ν i ∧ φ' i = φ i
 fp : ∀ i b,nid ≤ i → i < nid' → b ∈ φ' i → b ∈ fp
theorem Grew.nil (M : Mem P G w0 h0 F L w ν h φ) (nid : Nat) (fp : List Nat) : Grew P G w0 h0 F L w ν h φ [] nid nid fp ν φ :=
 ⟨Nat.le_refl _,M,Vn.le.refl _,fun _ _ => ⟨rfl,rfl⟩,fun i b h1 h2 => by omega⟩
theorem Grew.one (M : Mem P G w0 h0 F L w ν h φ) {nid : Nat} (hn : ν nid = none) (r : AR τ) (x : Value × Option ((e : Ty) × List (e.den τ))) {fp : List Nat} (hr : zif P G h (up1 ν nid (some x)) w r (some x) fp) (hf : Free w0 h F φ fp) :
  Grew P G w0 h0 F L w ν h φ [(nid,r)] nid (nid + 1) fp (up1 ν nid (some x)) (up1 φ nid fp) :=
 ⟨by omega,M.add hn r x hr hf,zaE hn,fun i hi => ⟨zap _ _ (by rintro rfl; exact hi ⟨by omega,by omega⟩),zap _ _ (by rintro rfl; exact hi ⟨by omega,by omega⟩)⟩,fun i b h1 h2 hb => by
  have : i = nid := by omega
  subst this
  rwa [zS] at hb⟩
theorem Free.grew {U : Hp τ} {nid nid' : Nat} {fp fp' : List Nat} (g : Grew P G w0 h0 F L w ν h φ U nid nid' fp ν' φ') (hf : Free w0 h F φ fp') (hd : ∀ b ∈ fp',b ∉ fp) : Free w0 h F φ' fp' := by
 intro b hb
 refine ⟨fun i hi => ?_,(hf b hb).2⟩
 by_cases e : nid ≤ i ∧ i < nid'
 ·exact hd b hb (g.fp i b e.1 e.2 hi)
 ·rw [(g.same i e).2] at hi
  exact (hf b hb).1 i hi
theorem Free.sub {fp fp' : List Nat} (hf : Free w0 h F φ fp) (hs : ∀ b ∈ fp',b ∈ fp) : Free w0 h F φ fp' := fun b hb => hf b (hs b hb)
def ExpOk (P : Program) (G : Sig τ) (w0 : World) (h0 : Fz) (F : List Nat) (w : World) (h : Fz) (f : (t : Ty) → t.den τ → Nat → CV τ × Hp τ × Nat) : Prop :=
 ∀ (t : Ty) (x : t.den τ) (nid : Nat) (c : CV τ) (U : Hp τ) (nid' : Nat) (v : Value) (fp : List Nat) (L : Hp τ) (ν : Vn τ) (φ : Nat → List Nat),f t x nid = (c,U,nid') → Tr P G h w t x v fp → Mem P G w0 h0 F L w ν h φ →
  (∀ i,nid ≤ i → i < nid' → ν i = none) → Free w0 h F φ fp → ∃ ν' φ',Grew P G w0 h0 F L w ν h φ U nid nid' fp ν' φ' ∧ zbi P G h ν' c v
theorem zgk {f : (t : Ty) → t.den τ → Nat → CV τ × Hp τ × Nat} (hf : ∀ t x nid c U nid',f t x nid = (c,U,nid') → nid ≤ nid') : ∀ {ts : List Ty} {q : DP τ ts} {nid : Nat} {cs : List (CV τ)} {U : Hp τ} {nid' : Nat},ztj f ts q nid = (cs,U,nid') → nid ≤ nid'
 | [],q,nid,cs,U,nid',e => by cases e; exact Nat.le_refl _
 | t :: ts,q,nid,cs,U,nid',e => by
  unfold ztj at e
  split at e
  rename_i c U1 n1 h1
  split at e
  rename_i cs2 U2 n2 h2
  cases e
  exact Nat.le_trans (hf _ _ _ _ _ _ h1) (zgk hf h2)
theorem zdy (G : Sig τ) : ∀ (d : Nat) (t : Ty) (x : t.den τ) (nid : Nat) (c : CV τ) (U : Hp τ) (nid' : Nat),zlX G d t x nid = (c,U,nid') → nid ≤ nid' := by
 intro d
 induction d with
 | zero => intro t x nid c U nid' e; cases t <;> simp only [zlX,Prod.mk.injEq] at e <;> omega
 | succ d ih =>
  intro t x nid c U nid' e
  cases t
  case po n =>
   unfold zlX at e
   split at e
   rename_i cs U1 n1 h1
   cases e
   exact Nat.le_trans (Nat.le_succ _) (zgk ih h1)
  all_goals (simp only [zlX,Prod.mk.injEq] at e; omega)
theorem zqM {f : (t : Ty) → t.den τ → Nat → CV τ × Hp τ × Nat} (hle : ∀ t x nid c U nid',f t x nid = (c,U,nid') → nid ≤ nid') (hf : ExpOk P G w0 h0 F w h f) :
  ∀ {ts : List Ty} {q : DP τ ts} {nid : Nat} {cs : List (CV τ)} {U : Hp τ} {nid' : Nat} {vs : List Value} {fp : List Nat} {L : Hp τ} {ν : Vn τ} {φ : Nat → List Nat},ztj f ts q nid = (cs,U,nid') → TrL P G h w ts q vs fp → Mem P G w0 h0 F L w ν h φ →
   (∀ i,nid ≤ i → i < nid' → ν i = none) → Free w0 h F φ fp → ∃ ν' φ',Grew P G w0 h0 F L w ν h φ U nid nid' fp ν' φ' ∧ CVs P G h ν' cs vs
 | [],q,nid,cs,U,nid',vs,fp,L, ν, φ,e,ht,M,hn,hfr => by
  cases e; cases ht
  exact ⟨ν, φ,Grew.nil M _ _,rfl⟩
 | t :: ts,q,nid,cs,U,nid',vs,fp,L, ν, φ,e,ht,M,hn,hfr => by
  unfold ztj at e
  split at e
  rename_i c U1 n1 h1
  split at e
  rename_i cs2 U2 n2 h2
  cases e
  cases ht with
  | cons _ _ _ v us f1 f2 t1 t2 hd =>
   have l1 := hle _ _ _ _ _ _ h1
   have l2 := zgk hle h2
   obtain ⟨ν1, φ1,g1,c1⟩ := zqM hle hf h2 t2 M (fun i a b => hn i (by omega) b) (hfr.sub fun b hb => List.mem_append_right _ hb)
   obtain ⟨ν2, φ2,g2,c2⟩ := hf _ _ _ _ _ _ _ _ _ _ _ h1 t1 g1.mem (fun i a b => by rw [(g1.same i (by omega)).1]; exact hn i a (by omega))
    (Free.grew g1 (hfr.sub fun b hb => List.mem_append_left _ hb) hd)
   refine ⟨ν2, φ2,⟨by omega,by rw [List.append_assoc]; exact g2.mem,g1.le.trans g2.le,fun i hi => ?_,fun i b a a' hb => ?_⟩,v,us,rfl,c2,c1.le (Fz.le.refl _) g2.le⟩
   ·obtain ⟨a1,a2⟩ := g1.same i (by omega)
    obtain ⟨b1,b2⟩ := g2.same i (by omega)
    exact ⟨b1.trans a1,b2.trans a2⟩
   ·by_cases hi : i < n1
    ·exact List.mem_append_left _ (g2.fp i b a hi hb)
    ·rw [(g2.same i (by omega)).2] at hb
     exact List.mem_append_right _ (g1.fp i b (by omega) a' hb)
theorem so_res {te : TypeId} {e : Ty} {xs : List (e.den τ)} {v : Value} {fp : List Nat} (ht : Tr P G h w (.so te e) xs v fp) : fp = v.ownBlock.toList ∧ (∃ a n c,v = .slice a n c) ∧ ∃ vs,w.ownsRow 0 te (ets G e).length v xs.length vs ∧ RpR P G h e xs vs := by
 cases ht with
 | fz _ _ _ hz _ => cases hz
 | so _ _ _ _ vs ho hr =>
  refine ⟨rfl,?_,vs,ho,hr⟩
  obtain ⟨_,⟨rfl,_⟩ | ⟨g,cap,cur,rfl,_⟩⟩ := ho
  ·exact ⟨_,_,_,rfl⟩
  ·exact ⟨_,_,_,rfl⟩
theorem zCz {n : Nat} {x : Option (τ n)} {v : Value} {fp : List Nat} (ht : Tr P G h w (.pn n) x v fp) : ∃ u,v = .pointer u := by
 cases ht with
 | fz _ _ _ hz _ => cases hz
 | pn0 _ => exact ⟨_,rfl⟩
 | pn1 _ _ _ _ hp =>
  cases hp with
  | fz _ _ _ hz _ => cases hz
  | po _ _ b vs fp hb hl hn => exact ⟨_,rfl⟩
theorem zu7 (d : Nat) : ExpOk P G w0 h0 F w h (zlX G d) := by
 induction d with
 | zero =>
  intro t x nid c U nid' v fp L ν φ e ht M hn hfr
  exact base t x nid c U nid' v fp L ν φ (by cases t <;> exact e) ht M hn hfr
 | succ d ih =>
  intro t x nid c U nid' v fp L ν φ e ht M hn hfr
  by_cases hp : ∃ n,t = .po n
  ·obtain ⟨n,rfl⟩ := hp
   unfold zlX at e
   split at e
   rename_i cs U1 n1 h1
   cases e
   have l1 := zgk (zdy G d) h1
   cases ht with
   | fz _ _ _ hz _ => cases hz
   | po _ _ b vs fp hb hl hnb =>
    obtain ⟨ν1, φ1,g1,c1⟩ := zqM (zdy G d) ih h1 hl M (fun i a b => hn i (by omega) b) (hfr.sub fun b hb => List.mem_cons_of_mem _ hb)
    have hν1 : ν1 nid = none := by rw [(g1.same nid (by omega)).1]; exact hn nid (Nat.le_refl _) (by omega)
    have hf1 := Free.grew g1 (hfr.sub (fp' := [b]) fun b' hb' => by rw [List.mem_singleton.1 hb']; exact List.mem_cons_self ..) fun b' hb' => by rw [List.mem_singleton.1 hb']; exact hnb
    have M2 := g1.mem.add hν1 (.blk (G.ti n) cs) (ptr b 0,none) (fp := [b]) ⟨b,none,vs,rfl,rfl,hb,c1.le (Fz.le.refl _) (zaE hν1)⟩ hf1
    refine ⟨_,_,⟨by omega,M2,g1.le.trans (zaE hν1),fun i hi => ?_,fun i b' a a' hb' => ?_⟩,⟨some ⟨b,0,none⟩,none,zS _ _ _,rfl,fun e => (e rfl).elim⟩⟩
    ·have hne : i ≠ nid := by rintro rfl; exact hi ⟨Nat.le_refl _,by omega⟩
     rw [zap _ _ hne,zap _ _ hne]
     exact g1.same i (by omega)
    ·by_cases e : i = nid
     ·subst e
      rw [zS] at hb'
      rw [List.mem_singleton.1 hb']; exact List.mem_cons_self ..
     ·rw [zap _ _ e] at hb'
      exact List.mem_cons_of_mem _ (g1.fp i b' (by omega) a' hb')
  ·exact base t x nid c U nid' v fp L ν φ (by cases t <;> first | exact e | exact absurd ⟨_,rfl⟩ hp) ht M hn hfr
where
 base (t : Ty) (x : t.den τ) (nid : Nat) (c : CV τ) (U : Hp τ) (nid' : Nat) (v : Value) (fp : List Nat) (L : Hp τ) (ν : Vn τ) (φ : Nat → List Nat) (e : zlX G 0 t x nid = (c,U,nid')) (ht : Tr P G h w t x v fp) (M : Mem P G w0 h0 F L w ν h φ)
  (hn : ∀ i,nid ≤ i → i < nid' → ν i = none) (hfr : Free w0 h F φ fp) : ∃ ν' φ',Grew P G w0 h0 F L w ν h φ U nid nid' fp ν' φ' ∧ zbi P G h ν' c v := by
  have flat : frz t = true → zlX G 0 t x nid = (t.av x,[],nid) → ∃ ν' φ',Grew P G w0 h0 F L w ν h φ U nid nid' fp ν' φ' ∧ zbi P G h ν' c v := by
   intro hz e2
   rw [e] at e2
   cases e2
   cases ht with
   | fz _ _ _ _ hr => exact ⟨ν, φ,Grew.nil M _ _,zAe hr⟩
   | _ => cases hz
  cases t
  case so te e' =>
   cases e
   obtain ⟨rfl,⟨a,n,c,rfl⟩,vs,ho,hr⟩ := so_res ht
   have hn' := hn nid (Nat.le_refl _) (Nat.lt_succ_self _)
   exact ⟨_,_,Grew.one M hn' (.row te e' x nid) (.slice a n c,some ⟨e',x⟩) ⟨_,_,vs,_,rfl,rfl,ho,hr,zS _ _ _⟩ hfr,a,n,c,_,zS _ _ _,rfl⟩
  case po n =>
   cases e
   have hn' := hn nid (Nat.le_refl _) (Nat.lt_succ_self _)
   have ht' := Tr.pn1 n x v fp ht
   obtain ⟨u,rfl⟩ := zCz ht'
   exact ⟨_,_,Grew.one M hn' (.tree n (some x)) (.pointer u,none) ⟨_,_,rfl,ht'⟩ hfr,u,none,zS _ _ _,by cases u <;> rfl,fun e => (e rfl).elim⟩
  case pn n =>
   cases e
   have hn' := hn nid (Nat.le_refl _) (Nat.lt_succ_self _)
   obtain ⟨u,rfl⟩ := zCz ht
   exact ⟨_,_,Grew.one M hn' (.tree n x) (.pointer u,none) ⟨_,_,rfl,ht⟩ hfr,u,none,zS _ _ _,by cases u <;> rfl,fun e => (e rfl).elim⟩
  case sn te e0 => cases ht with | fz _ _ _ hz _ => cases hz
  all_goals exact flat rfl rfl
end
end Go.Rk
end
section
namespace Go.Rk
open Go.RowKit Go.Dm Go.Dk
variable {τ : Nat → Type}
section
variable {P : Program} {G : Sig τ} {w0 w w' : World} {h0 h h' H : Fz} {F : List Nat} {L L' L2 : Hp τ} {ν ν' : Vn τ} {φ φ' : Nat → List Nat}
theorem Mem.congr (M : Mem P G w0 h0 F L w ν h φ) (hL : ∀ i,lk L' i = lk L i) : Mem P G w0 h0 F L' w ν h φ :=
 ⟨M.os,M.tape,M.output,M.size,M.frame,M.le,M.on,M.new,fun i => by rw [hL]; exact M.res i,M.dis,M.out,M.gl,M.fp⟩
theorem Mem.ext (M : Mem P G w0 h0 F L w ν h φ) (hν : ν.le ν') : Mem P G w0 h0 F L w ν' h φ :=
 ⟨M.os,M.tape,M.output,M.size,M.frame,M.le,M.on,M.new,fun i => (M.res i).of (Fz.le.refl _) hν fun _ _ => rfl,M.dis,M.out,M.gl,M.fp⟩
theorem zah (i : Nat) (r : AR τ) (L : Hp τ) : lk ((i,r) :: L) i = r := by simp [znQ,zil]
theorem zbP {i j : Nat} (r : AR τ) (L : Hp τ) (h : j ≠ i) : lk ((i,r) :: L) j = lk L j := by simp [znQ,zil,zaO.2 (Ne.symm h)]
theorem Mem.put (M : Mem P G w0 h0 F L w ν h φ) {i : Nat} (hg : lk L i = .gone) (r : AR τ) {fp : List Nat} (hr : zif P G h ν w r (ν i) fp) (hf : Free w0 h F φ fp) : Mem P G w0 h0 F ((i,r) :: L) w ν h (up1 φ i fp) := by
 refine ⟨M.os,M.tape,M.output,M.size,M.frame,M.le,M.on,M.new,?_,?_,?_,M.gl,M.fp⟩
 ·intro j
  by_cases e : j = i
  ·subst e; rw [zah,zS]; exact hr
  ·rw [zbP r L e,zap φ fp e]; exact M.res j
 ·intro j k b h1 h2
  by_cases e1 : j = i
  ·by_cases e2 : k = i
   ·rw [e1,e2]
   ·subst e1
    rw [zS] at h1; rw [zap φ fp e2] at h2
    exact ((hf b h1).1 k h2).elim
  ·rw [zap φ fp e1] at h1
   by_cases e2 : k = i
   ·subst e2
    rw [zS] at h2
    exact ((hf b h2).1 j h1).elim
   ·rw [zap φ fp e2] at h2; exact M.dis j k b h1 h2
 ·intro j b hb
  by_cases e : j = i
  ·subst e; rw [zS] at hb; exact (hf b hb).2
  ·rw [zap φ fp e] at hb; exact M.out j b hb
theorem Mem.drop (M : Mem P G w0 h0 F L w ν h φ) (i : Nat) : Mem P G w0 h0 F ((i, .gone) :: L) w ν h (up1 φ i []) ∧ Free w0 h F (up1 φ i []) (φ i) := by
 refine ⟨⟨M.os,M.tape,M.output,M.size,M.frame,M.le,M.on,M.new,?_,?_,?_,M.gl,M.fp⟩,?_⟩
 ·intro j
  by_cases e : j = i
  ·subst e; rw [zah,zS]; rfl
  ·rw [zbP _ L e,zap φ [] e]; exact M.res j
 ·intro j k b h1 h2
  by_cases e1 : j = i
  ·subst e1; rw [zS] at h1; cases h1
  ·by_cases e2 : k = i
   ·subst e2; rw [zS] at h2; cases h2
   ·rw [zap φ [] e1] at h1; rw [zap φ [] e2] at h2; exact M.dis j k b h1 h2
 ·intro j b hb
  by_cases e : j = i
  ·subst e; rw [zS] at hb; cases hb
  ·rw [zap φ [] e] at hb; exact M.out j b hb
 ·intro b hb
  refine ⟨fun j hj => ?_,M.out i b hb⟩
  by_cases e : j = i
  ·subst e; rw [zS] at hj; cases hj
  ·rw [zap φ [] e] at hj; exact e (M.dis j i b hj hb)
def zbY (ν ν' : Vn τ) (nid nid' : Nat) : Prop := ∀ i, ν i = none → ν' i ≠ none → nid ≤ i ∧ i < nid'
theorem zbY.refl (ν : Vn τ) (nid nid' : Nat) : zbY ν ν nid nid' := fun i h1 h2 => (h2 h1).elim
theorem Grew.fresh {U : Hp τ} {nid nid' : Nat} {fp : List Nat} (g : Grew P G w0 h0 F L w ν h φ U nid nid' fp ν' φ') : zbY ν ν' nid nid' := by
 intro i h1 h2
 by_cases e : nid ≤ i ∧ i < nid'
 ·exact e
 ·rw [(g.same i e).1] at h2; exact (h2 h1).elim
theorem zov {f : (t : Ty) → t.den τ → Nat → CV τ × Hp τ × Nat} (hle : ∀ t x nid c U nid',f t x nid = (c,U,nid') → nid ≤ nid') (hf : ∀ t x nid c U nid',f t x nid = (c,U,nid') → ∀ i ∈ kys U,nid ≤ i ∧ i < nid') :
  ∀ {ts : List Ty} {q : DP τ ts} {nid : Nat} {cs : List (CV τ)} {U : Hp τ} {nid' : Nat},ztj f ts q nid = (cs,U,nid') → ∀ i ∈ kys U,nid ≤ i ∧ i < nid'
 | [],q,nid,cs,U,nid',e,i,hi => by cases e; cases hi
 | t :: ts,q,nid,cs,U,nid',e,i,hi => by
  unfold ztj at e
  split at e
  rename_i c U1 n1 h1
  split at e
  rename_i cs2 U2 n2 h2
  cases e
  have l1 := hle _ _ _ _ _ _ h1
  have l2 := zgk hle h2
  simp only [kys,List.map_append] at hi
  rcases List.mem_append.1 hi with hi | hi
  ·have := hf _ _ _ _ _ _ h1 i hi; omega
  ·have := zov hle hf h2 i hi; omega
theorem zqL (G : Sig τ) : ∀ (d : Nat) (t : Ty) (x : t.den τ) (nid : Nat) (c : CV τ) (U : Hp τ) (nid' : Nat),zlX G d t x nid = (c,U,nid') → ∀ i ∈ kys U,nid ≤ i ∧ i < nid' := by
 intro d
 induction d with
 | zero => intro t x nid c U nid' e; cases t <;> simp only [zlX,Prod.mk.injEq] at e <;> obtain ⟨_,rfl,rfl⟩ := e <;> simp [kys]
 | succ d ih =>
  intro t x nid c U nid' e
  cases t
  case po n =>
   unfold zlX at e
   split at e
   rename_i cs U1 n1 h1
   cases e
   have l1 := zgk (zdy G d) h1
   intro i hi
   rcases List.mem_cons.1 hi with rfl | hi
   ·omega
   ·have := zov (zdy G d) ih h1 i hi; omega
  all_goals (simp only [zlX,Prod.mk.injEq] at e; obtain ⟨_,rfl,rfl⟩ := e; simp [kys])
theorem zxa (M : Mem P G w0 h0 F L w ν h φ) {i n nid nid' : Nat} {x : τ n} {U : Hp τ} {v : Value} {q : Option ((e : Ty) × List (e.den τ))} {fp : List Nat} (e : zgi G i n x nid = (U,nid')) (hg : lk L i = .gone) (hi : ν i = some (v,q)) (ht : Tr P G h w (.po n) x v fp) (hf : Free w0 h F φ fp)
  (hn : ∀ i,nid ≤ i → i < nid' → ν i = none) : nid ≤ nid' ∧ ∃ ν' φ' t cs b,Mem P G w0 h0 F (U ++ L) w ν' h φ' ∧ ν.le ν' ∧ zbY ν ν' nid nid' ∧ v = ptr b 0 ∧ lk U i = .blk t cs ∧ (∀ j, ¬(nid ≤ j ∧ j < nid') → j ≠ i → φ' j = φ j) ∧ ∀ j b,(j = i ∨ nid ≤ j ∧ j < nid') → b ∈ φ' j → b ∈ fp := by
 unfold zgi at e
 split at e
 rename_i cs U1 n1 h1
 cases e
 have l1 := zgk (zdy G depth) h1
 cases ht with
 | fz _ _ _ hz _ => cases hz
 | po _ _ b vs fp hb hl hnb =>
  obtain ⟨ν1, φ1,g1,c1⟩ := zqM (zdy G depth) (zu7 depth) h1 hl M hn (hf.sub fun b hb => List.mem_cons_of_mem _ hb)
  have hni : ¬(nid ≤ i ∧ i < nid') := fun a => by rw [hn i a.1 a.2] at hi; cases hi
  have hiU : i ∉ kys U1 := fun hk => hni (zov (zdy G depth) (zqL G depth) h1 i hk)
  have hf1 := Free.grew g1 (hf.sub (fp' := [b]) fun b' hb' => by rw [List.mem_singleton.1 hb']; exact List.mem_cons_self ..) fun b' hb' => by rw [List.mem_singleton.1 hb']; exact hnb
  have M2 := g1.mem.put (i := i) (by rw [zbj L hiU]; exact hg) (.blk (G.ti n) cs) (fp := [b]) ⟨b,q,vs,(g1.le _ _ hi),rfl,hb,c1⟩ hf1
  refine ⟨l1, ν1,_,G.ti n,cs,b,M2,g1.le,g1.fresh,rfl,zah ..,fun j hj hne => ?_,fun j b' hj hb' => ?_⟩
  ·rw [zap _ _ hne]; exact (g1.same j hj).2
  ·by_cases e : j = i
   ·subst e; rw [zS] at hb'; rw [List.mem_singleton.1 hb']; exact List.mem_cons_self ..
   ·rw [zap _ _ e] at hb'
    exact List.mem_cons_of_mem _ (g1.fp j b' (by rcases hj with hj | hj; exact absurd hj e; exact hj.1) (by rcases hj with hj | hj; exact absurd hj e; exact hj.2) hb')
theorem zxb {i n nid nid' : Nat} {x : τ n} {U : Hp τ} (e : zgi G i n x nid = (U,nid')) : ∀ j ∈ kys U,j = i ∨ nid ≤ j ∧ j < nid' := by
 unfold zgi at e
 split at e
 rename_i cs U1 n1 h1
 cases e
 intro j hj
 rcases List.mem_cons.1 hj with rfl | hj
 ·exact .inl rfl
 ·exact .inr (zov (zdy G depth) (zqL G depth) h1 j hj)
theorem Tr.pn_some {n : Nat} {x : τ n} {v : Value} {fp : List Nat} (h : Tr P G H w (.pn n) (some x) v fp) : Tr P G H w (.po n) x v fp := by
 cases h with
 | fz _ _ _ hz _ => cases hz
 | pn1 _ _ _ _ hp => exact hp
theorem Tr.pn_none {n : Nat} {v : Value} {fp : List Nat} (h : Tr P G H w (.pn n) none v fp) : v = .pointer none ∧ fp = [] := by
 cases h with
 | fz _ _ _ hz _ => cases hz
 | pn0 _ => exact ⟨rfl,rfl⟩
theorem zAc (M : Mem P G w0 h0 F L2 w ν h φ) {i n nid nid' : Nat} {x : τ n} {U : Hp τ} (e : zgi G i n x nid = (U,nid')) (hl : lk L2 i = .tree n (some x)) (hn : ∀ i,nid ≤ i → i < nid' → ν i = none) :
  nid ≤ nid' ∧ ∃ ν' φ' b q,Mem P G w0 h0 F (U ++ L2) w ν' h φ' ∧ ν.le ν' ∧ zbY ν ν' nid nid' ∧ ν i = some (ptr b 0,q) := by
 have hr := M.res i
 rw [hl] at hr
 obtain ⟨v,q,hv,ht⟩ := hr
 obtain ⟨M1,hf⟩ := M.drop i
 obtain ⟨h1, ν', φ',t,cs,b,M2,h2,h3,rfl,h5,_⟩ := zxa M1 e (zah ..) hv (Tr.pn_some ht) hf hn
 refine ⟨h1, ν', φ',b,q,M2.congr fun j => ?_,h2,h3,hv⟩
 by_cases hj : j ∈ kys U
 ·rw [zd3 _ hj,zd3 _ hj]
 ·rw [zbj _ hj,zbj _ hj,zbP]
  rintro rfl
  apply hj
  unfold zgi at e
  split at e
  cases e
  exact List.mem_cons_self ..
end

section
variable {ρ : Type} (X : Cx τ) (w0 : World) (h0 : Fz) (F : List Nat)
def Ok1 (o : Oper) (E : zE τ) (L : Hp τ) (nid : Nat) (v : XV τ) (U : Hp τ) (tch : List Nat) (nid' : Nat) : Prop :=
 ∀ (L2 : Hp τ) (ν : Vn τ) (h : Fz) (φ : Nat → List Nat) (a : Act) (w : World) (next : Act → World → Prop) (Q : Exit → Act → World → Prop),a.defers = [] → Mem X.P X.G w0 h0 F L2 w ν h φ → zcl X h ν a (rdO o.op) E →
  (∀ i ∈ tch,lk L2 i = lk L i) → (∀ i,nid ≤ i → i < nid' → ν i = none) →
  (∀ ν' h' φ' w' u,Mem X.P X.G w0 h0 F (U ++ L2) w' ν' h' φ' → ν.le ν' → h.le h' → zbY ν ν' nid nid' → XOk X.P X.G h' ν' v u → next (a.put o.dst u) w') → o.wp X.P a w next Q
def zb2 (o : Oper) (E : zE τ) (L : Hp τ) (nid : Nat) (K : Nx τ ρ) (r : ρ) : Prop :=
 ∃ v g U tch nid',K v g U tch nid' = some r ∧ nid ≤ nid' ∧ (∀ x ∈ g,zga x = true) ∧ Ok1 X w0 h0 F o E L nid v U tch nid'
def zow (op : OpF τ ρ) : Prop := ∀ (r : ρ) (o : Oper) (E : zE τ) (L : Hp τ) (nid : Nat) (K : Nx τ ρ),op E L nid K o.op = some r → zb2 X w0 h0 F o E L nid K r
end
section
variable {ρ : Type} {X : Cx τ} {w0 w w' : World} {h0 : Fz} {F : List Nat} {o : Oper} {E : zE τ} {L : Hp τ} {nid nid' : Nat} {K : Nx τ ρ} {r : ρ} {v : XV τ} {U : Hp τ} {tch : List Nat} {g : List (XV τ)}
theorem zdw {a : Act} {u : Value} {next : Act → World → Prop} {Q : Exit → Act → World → Prop} (hx : (execOp a.eval o).run X.P w = .ok (.value u) w') (k : next (a.put o.dst u) w') : o.wp X.P a w next Q := by
 unfold Oper.wp; rw [hx]; exact k
theorem zCv {a : Act} {next : Act → World → Prop} {Q : Exit → Act → World → Prop} (hx : (execOp a.eval o).run X.P w = .ok .skip w') (k : next (a.put o.dst undef) w') : o.wp X.P a w next Q := by
 unfold Oper.wp; rw [hx]; exact k
theorem zau (e : K v [] [] tch nid = some r) (hx : ∀ (L2 : Hp τ) ν h φ (a : Act) (w : World),a.defers = [] → Mem X.P X.G w0 h0 F L2 w ν h φ → zcl X h ν a (rdO o.op) E → (∀ i ∈ tch,lk L2 i = lk L i) → ∃ u,(execOp a.eval o).run X.P w = .ok (.value u) w ∧ XOk X.P X.G h ν v u) :
  zb2 X w0 h0 F o E L nid K r :=
 ⟨v,[],[],tch,nid,e,Nat.le_refl _,(fun _ h => by cases h),fun L2 ν h φ a w next Q hd M hE ha hn k => by
  obtain ⟨u,h1,h2⟩ := hx L2 ν h φ a w hd M hE ha
  exact zdw h1 (k ν h φ w u M (Vn.le.refl _) (Fz.le.refl _) (zbY.refl _ _ _) h2)⟩
theorem zyT {b : BinOp} {t' ty t : Nat} {x y : Operand} {A B : XV τ} (hA : evX E x = some A) (hB : evX E y = some B) {dst : Option Nat} {p : String} {af : Array Edge} {gd : Option (Nat × Bool)}
    (e : opI nid K b A B = some r) : zb2 X w0 h0 F ⟨dst, .binOp b t' x y ty,t,p,af,gd⟩ E L nid K r := by
  unfold opI hi at e
  split at e
  all_goals first
  | (cases e; done)
  | (obtain ⟨z,hz,e⟩ := ob e
     refine zau e fun L2 ν h φ a w hd M hE ha => ?_
     obtain ⟨Ea,hf,hl⟩ := zcJ a hd
     obtain ⟨u,h1,h2⟩ := ziS hl (hE.op (by simp [Op.operands])) hA rfl
     obtain ⟨u',h3,h4⟩ := ziS hl (hE.op (by simp [Op.operands])) hB rfl
     obtain rfl : u = _ := h2
     obtain rfl : u' = _ := h4
     first
     | exact ⟨_,ex_add hf h1 h3 hz,rfl⟩
     | exact ⟨_,ex_sub hf h1 h3 hz,rfl⟩
     | exact ⟨_,ex_mul hf h1 h3 hz,rfl⟩
     | exact ⟨_,ex_quo hf h1 h3 hz,rfl⟩
     | exact ⟨_,ex_rem hf h1 h3 hz,rfl⟩
     | exact ⟨_,ex_cat hf h1 h3 hz,rfl⟩)
end
end Go.Rk
end
section
namespace Go.Rk
open Go.RowKit Go.Dm Go.Dk
variable {τ : Nat → Type}
section
variable {ρ : Type} {X : Cx τ} {w0 w w' : World} {h0 h H : Fz} {F : List Nat} {o : Oper} {E : zE τ} {L L2 : Hp τ} {ν ν' : Vn τ} {φ φ' : Nat → List Nat} {nid nid' : Nat} {K : Nx τ ρ} {r : ρ} {v : XV τ} {U : Hp τ} {tch : List Nat} {g : List (XV τ)}
theorem zBW {i : Nat} {k : Bool → Hp τ → List Nat → Nat → Option ρ} (e : nlK X L nid i k = some r) : ∃ b U nid',k b U [i] nid' = some r ∧ nid ≤ nid' ∧
  ∀ (L2 : Hp τ) ν h φ (w : World),Mem X.P X.G w0 h0 F L2 w ν h φ → lk L2 i = lk L i → (∀ i,nid ≤ i → i < nid' → ν i = none) →
   ∃ ν' φ' u q,Mem X.P X.G w0 h0 F (U ++ L2) w ν' h φ' ∧ ν.le ν' ∧ zbY ν ν' nid nid' ∧ ν i = some (.pointer u,q) ∧ (b = true → u = none) ∧ (b = false → ∃ bb,u = some ⟨bb,0,none⟩) := by
 unfold nlK at e
 split at e
 ·rename_i t cs hl
  refine ⟨false,[],nid,e,Nat.le_refl _,fun L2 ν h φ w M ha _ => ?_⟩
  have hr := M.res i
  rw [ha,hl] at hr
  obtain ⟨b,q,vs,h1,_⟩ := hr
  exact ⟨ν, φ,_,q,M,Vn.le.refl _,zbY.refl _ _ _,h1,(by simp),fun _ => ⟨b,rfl⟩⟩
 ·rename_i n y hl
  cases y with
  | none =>
   refine ⟨true,_,nid,e,Nat.le_refl _,fun L2 ν h φ w M ha _ => ?_⟩
   have hr := M.res i
   rw [ha,hl] at hr
   obtain ⟨v,q,h1,h2⟩ := hr
   obtain ⟨rfl,h3⟩ := Tr.pn_none h2
   obtain ⟨M1,hf⟩ := M.drop i
   have M2 := M1.put (i := i) (zah ..) .nilp (fp := []) ⟨q,h1,rfl⟩ (fun b hb => by cases hb)
   refine ⟨ν,_,none,q,M2.congr fun j => ?_,Vn.le.refl _,zbY.refl _ _ _,h1,fun _ => rfl,by simp⟩
   by_cases hj : j = i
   ·subst hj; exact (zah ..).trans (zah ..).symm
   ·show lk ((i, .nilp) :: L2) j = _
    rw [zbP _ _ hj,zbP _ _ hj,zbP _ _ hj]
  | some y =>
   obtain ⟨U,n1,h1⟩ : ∃ U n1,zgi X.G i n y nid = (U,n1) := ⟨_,_,rfl⟩
   simp only [optK,h1] at e
   refine ⟨false,U,n1,e,?_,fun L2 ν h φ w M ha hn => ?_⟩
   ·unfold zgi at h1
    split at h1
    rename_i h2
    cases h1
    exact zgk (zdy X.G depth) h2
   ·obtain ⟨_, ν', φ',b,q,h2,h3,h4,h5⟩ := zAc M h1 (ha.trans hl) hn
    exact ⟨ν', φ',_,q,h2,h3,h4,h5,by simp,fun _ => ⟨b,rfl⟩⟩
 ·rename_i hl
  refine ⟨true,[],nid,e,Nat.le_refl _,fun L2 ν h φ w M ha _ => ?_⟩
  have hr := M.res i
  rw [ha,hl] at hr
  obtain ⟨q,h1,_⟩ := hr
  exact ⟨ν, φ,none,q,M,Vn.le.refl _,zbY.refl _ _ _,h1,fun _ => rfl,by simp⟩
 ·cases e
theorem zBX {i : Nat} {k : Hp τ → List Nat → Nat → Option ρ} (e : ptK X L nid i k = some r) : ∃ U nid',k U [i] nid' = some r ∧ nid ≤ nid' ∧
  ∀ (L2 : Hp τ) ν h φ (w : World),Mem X.P X.G w0 h0 F L2 w ν h φ → lk L2 i = lk L i → (∀ i,nid ≤ i → i < nid' → ν i = none) →
   ∃ ν' φ' b q,Mem X.P X.G w0 h0 F (U ++ L2) w ν' h φ' ∧ ν.le ν' ∧ zbY ν ν' nid nid' ∧ ν i = some (ptr b 0,q) := by
 unfold ptK at e
 split at e
 ·rename_i t cs hl
  refine ⟨[],nid,e,Nat.le_refl _,fun L2 ν h φ w M ha _ => ?_⟩
  have hr := M.res i
  rw [ha,hl] at hr
  obtain ⟨b,q,vs,h1,_⟩ := hr
  exact ⟨ν, φ,b,q,M,Vn.le.refl _,zbY.refl _ _ _,h1⟩
 ·rename_i n y hl
  cases y with
  | none => cases e
  | some y =>
   obtain ⟨U,n1,h1⟩ : ∃ U n1,zgi X.G i n y nid = (U,n1) := ⟨_,_,rfl⟩
   simp only [Option.bind_some,h1] at e
   refine ⟨U,n1,e,?_,fun L2 ν h φ w M ha hn => ?_⟩
   ·unfold zgi at h1
    split at h1
    rename_i h2
    cases h1
    exact zgk (zdy X.G depth) h2
   ·obtain ⟨_, ν', φ',b,q,h2,h3,h4,h5⟩ := zAc M h1 (ha.trans hl) hn
    exact ⟨ν', φ',b,q,h2,h3,h4,h5⟩
 ·cases e

theorem zqY {α : Type} : ∀ {n o : Nat} {cs l : List α},znz cs o n = some l → l.length = n
 | 0,o,cs,l,e => by cases e; rfl
 | n + 1,o,cs,l,e => by
  unfold znz at e
  split at e
  ·split at e
   ·rename_i h
    cases e
    simp [zqY h]
   ·cases e
  ·cases e
theorem zzW {a : Act} {Ea : Env} {N : Nat} {x : Operand} {t' t b ob k n : Nat} {dst : Option Nat} {p : String} {af : Array Edge} {gd : Option (Nat × Bool)} (hf : Fits N Ea a) (hx : evl Ea x = some (ptr b (ob + k))) {cs : List (CV τ)} {vs : List Value}
  (hs : zbX w (some ⟨b,ob,none⟩) vs) (hc : CVs X.P X.G h ν cs vs) (hn : szO X.P t' = some n) (e : zw3 X.P t' (znz cs k n) = some v) : ∃ u,(execOp a.eval ⟨dst, .load t' x,t,p,af,gd⟩).run X.P w = .ok (.value u) w ∧ XOk X.P X.G h ν v u := by
 unfold zw3 at e
 split at e
 ·rename_i l hl
  obtain ⟨h1,h2⟩ := hc.cut hl
  have hlen := zqY hl
  split at e
  ·rename_i ha
   cases e
   have h3 := h1.len
   exact ⟨_,zB5 (zpq ha) (zdA hn) hs rfl (by rw [h3,hlen]) hf hx,_,rfl,h1⟩
  ·rename_i ha
   split at e
   ·rename_i c
    cases e
    obtain ⟨u,us,h3,h4,h5⟩ := h1
    refine ⟨u,zB4 (zpq ha) hs ?_ hf hx,h4⟩
    have : ((vs.drop k).take n)[0]? = some u := by rw [h3]; rfl
    rw [List.getElem?_take] at this
    split at this
    ·simpa using this
    ·cases this
   ·cases e
  ·cases e
 ·cases e
theorem RpR.get {P : Program} {G : Sig τ} : ∀ {e : Ty} {xs : List (e.den τ)} {vs : List Value},RpR P G h e xs vs → ∀ {i : Nat} {z : e.den τ},xs[i]? = some z →
  RpL P G h (ets G e) (edt G e z) ((vs.drop (i * (ets G e).length)).take (ets G e).length) ∧ i * (ets G e).length + (ets G e).length ≤ vs.length
 | _,_,_, .nil _,_,_,hz => by simp at hz
 | _,_,_, .cons e x xs vs ws h1 h2,0,_,hz => by
  simp at hz
  subst hz
  have := h1.len
  refine ⟨?_,by simp [this]⟩
  rw [Nat.zero_mul,List.drop_zero,List.take_append_of_le_length (by omega),List.take_of_length_le (by omega)]
  exact h1
 | _,_,_, .cons e x xs vs ws h1 h2,i + 1,z,hz => by
  simp at hz
  obtain ⟨h3,h4⟩ := RpR.get h2 hz
  have := h1.len
  refine ⟨?_,by simp [Nat.add_mul,this]; omega⟩
  rw [Nat.add_mul,Nat.one_mul,List.drop_append,List.drop_eq_nil_of_le (by omega),List.nil_append,this,Nat.add_sub_cancel]
  exact h3
theorem zlF {α : Type} {xs : List α} {m : Int} {z : α} (e : lAt xs m = some z) : xs[m.toNat]? = some z ∧ 0 ≤ m := by
 unfold lAt at e
 split at e
 ·exact ⟨e, ‹_›⟩
 ·cases e
theorem zEB (M : Mem X.P X.G w0 h0 F L2 w ν h φ) {i k : Nat} {m : Int} {t e : Ty} {z : t.den τ} {o : Nat} {v : Value} {te : TypeId} {xs : List (e.den τ)} (hv : zbi X.P X.G h ν (.oe i k m t z o) v) (hl : lk L2 i = .row te e xs k) :
  ∃ b vs,v = ptr b (m.toNat * (ets X.G t).length + o) ∧ zbX w (some ⟨b,m.toNat * (ets X.G t).length,none⟩) vs ∧ RpL X.P X.G h (ets X.G t) (edt X.G t z) vs := by
 obtain ⟨b,n,c,q,xs',u,h1,h2,h3,rfl⟩ := hv
 have hr := M.res i
 rw [hl] at hr
 obtain ⟨v',q',vs,u',h4,h5,h6,h7,h8⟩ := hr
 rw [h1] at h4
 cases h4
 rw [h2] at h8
 injection h8 with h8
 injection h8 with _ h8
 injection h8 with h8
 cases h8
 obtain ⟨hz,h0⟩ := zlF h3
 obtain ⟨h9,h10⟩ := h7.get hz
 refine ⟨b,_,rfl,?_,h9⟩
 have hn : n = xs'.length := by
  obtain ⟨_,⟨e,_⟩ | ⟨g,cap,cur,e,_⟩⟩ := h6
  ·cases e
  ·cases e; rfl
 subst hn
 have hs := zhk h6
 obtain ⟨_,hlt,hc⟩ := hs
 refine .inr ⟨rfl,hlt,fun j u hj => ?_⟩
 rw [List.getElem?_take] at hj
 split at hj
 ·rw [List.getElem?_drop] at hj
  have := hc _ _ hj
  simpa using this
 ·cases hj
theorem zui (M : Mem X.P X.G w0 h0 F L2 w ν h φ) {i k : Nat} {t : TypeId} {cs : List (CV τ)} {v : Value} (hv : zbi X.P X.G h ν (.pt i k) v) (hl : lk L2 i = .blk t cs) :
  ∃ b q vs, ν i = some (ptr b 0,q) ∧ v = ptr b k ∧ φ i = [b] ∧ w.heap[b]? = some (.cells vs.toArray t (0,0)) ∧ CVs X.P X.G h ν cs vs ∧ zbX w (some ⟨b,0,none⟩) vs := by
 have hr := M.res i
 rw [hl] at hr
 obtain ⟨b,q,vs,h1,h2,h3,h4⟩ := hr
 obtain ⟨u,q',h5,rfl,_⟩ := hv
 rw [h1] at h5
 cases h5
 refine ⟨b,q,vs,h1,by simp [znP],h2,h3,h4, .inr ⟨rfl,(Array.getElem?_eq_some_iff.1 h3).1,fun j v hj => by simp [World.cell?,h3,hj]⟩⟩
theorem zEC {n : Nat} {u : Value} (hu : zbi X.P X.G h ν (.ep n none) u) : zbi X.P X.G h ν .nl u := by cases hu; rfl
theorem zED {n : Nat} {y : τ n} {u : Value} (hu : zbi X.P X.G h ν (.ep n (some y)) u) : zbi X.P X.G h ν (.ea (.st n) y 0) u := by
 cases hu with
 | pn1 _ _ _ hr => cases hr; rename_i b k vs hs hr; exact ⟨b,k,vs,rfl,hs,hr⟩
theorem zBY {x : Operand} {t' t : Nat} {dst : Option Nat} {p : String} {af : Array Edge} {gd : Option (Nat × Bool)} {c : CV τ} (hx : evC E x = some c) (e : zCj X L nid K t' c = some r) : zb2 X w0 h0 F ⟨dst, .load t' x,t,p,af,gd⟩ E L nid K r := by
 unfold zCj at e
 split at e
 ·rename_i id o
  split at e
  ·rename_i bt cs hl
   split at e
   ·rename_i n hn
    split at e
    ·rename_i j hv
     cases hb : Nat.beq j id with
     | true => rw [hb] at e; cases e
     | false =>
      rw [hb] at e
      obtain ⟨b,U,nid',h1,h2,h3⟩ := zBW (w0 := w0) (h0 := h0) (F := F) e
      refine ⟨if b = true then .c .nl else .c (.pt j 0),[],U,[id,j],nid',?_,h2,fun _ h => by (cases h),fun L2 ν h φ a w next Q hd M hE ha hfr k => ?_⟩
      ·cases b <;> exact h1
      ·obtain ⟨Ea,hf,hl'⟩ := zcJ a hd
       obtain ⟨u,h4,h5⟩ := zx hl' (hE.op (by simp [Op.operands])) hx
       obtain ⟨bb,q,vs,hν,rfl,_,hh,hc,hs⟩ := zui M h5 ((ha id (by simp)).trans hl)
       obtain ⟨u,h6,h7⟩ := zzW (ob := 0) (dst := dst) (t := t) (p := p) (af := af) (gd := gd) hf (by rw [Nat.zero_add]; exact h4) hs hc hn hv
       obtain ⟨ν', φ',uj,q',M',hle,hfre,hνj,hb1,hb0⟩ := h3 L2 ν h φ w M (ha j (by simp)) hfr
       obtain ⟨uj',q'',h8,h9,_⟩ := h7
       rw [hνj] at h8
       cases h8
       refine zdw h6 (k ν' h φ' w u M' hle (Fz.le.refl _) hfre ?_)
       cases b with
       | true =>
        rw [hb1 rfl] at h9
        subst h9
        rfl
       | false => exact ⟨uj,q',hle _ _ hνj,h9,fun e => (e rfl).elim⟩
    ·rename_i v _ hv
     refine zau e fun L2 ν h φ a w hd M hE ha => ?_
     obtain ⟨Ea,hf,hl'⟩ := zcJ a hd
     obtain ⟨u,h4,h5⟩ := zx hl' (hE.op (by simp [Op.operands])) hx
     obtain ⟨bb,q,vs,hν,rfl,_,hh,hc,hs⟩ := zui M h5 ((ha id (by simp)).trans hl)
     exact zzW (ob := 0) hf (by rw [Nat.zero_add]; exact h4) hs hc hn hv
    ·cases e
   ·cases e
  ·cases e
 ·rename_i ty z o
  split at e
  ·rename_i n hn
   have key : ∀ {v},zw3 X.P t' (znz (zo6 X.G ty z) o n) = some v → ∀ (L2 : Hp τ) ν h φ (a : Act) (w : World),a.defers = [] → Mem X.P X.G w0 h0 F L2 w ν h φ → zcl X h ν a (rdO (.load t' x)) E → ∃ u,(execOp a.eval ⟨dst, .load t' x,t,p,af,gd⟩).run X.P w = .ok (.value u) w ∧ XOk X.P X.G h ν v u := by
    intro v hv L2 ν h φ a w hd M hE
    obtain ⟨Ea,hf,hl'⟩ := zcJ a hd
    obtain ⟨u,h4,h5⟩ := zx hl' (hE.op (by simp [Op.operands])) hx
    obtain ⟨b,k,vs,rfl,hs,hr⟩ := h5
    exact zzW hf h4 (hs.sees M.on) (zrF hr) hn hv
   split at e
   ·rename_i n' y hv
    have fin : ∀ {c' : CV τ},K (.c c') [] [] [] nid = some r → (∀ {ν h u},zbi X.P X.G h ν (.ep n' y) u → zbi X.P X.G h ν c' u) → zb2 X w0 h0 F ⟨dst, .load t' x,t,p,af,gd⟩ E L nid K r := by
     intro c' e hcc
     refine zau e fun L2 ν h φ a w hd M hE ha => ?_
     obtain ⟨u,h1,h2⟩ := key hv L2 ν h φ a w hd M hE
     exact ⟨u,h1,hcc h2⟩
    cases y with
    | none => exact fin e zEC
    | some y => exact fin e zED
   ·rename_i v _ hv
    exact zau e fun L2 ν h φ a w hd M hE ha => key hv L2 ν h φ a w hd M hE
   ·cases e
  ·cases e
 ·rename_i id k m ty z o
  split at e
  ·rename_i te e' xs k' hl
   cases hb : Nat.beq k k' with
   | false => rw [hb] at e; cases e
   | true =>
    rw [hb] at e
    have hkk : k = k' := by simpa using hb
    subst hkk
    split at e
    ·rename_i n hn
     split at e
     ·rename_i v hv
      refine zau e fun L2 ν h φ a w hd M hE ha => ?_
      obtain ⟨Ea,hf,hl'⟩ := zcJ a hd
      obtain ⟨u,h4,h5⟩ := zx hl' (hE.op (by simp [Op.operands])) hx
      obtain ⟨b,vs,rfl,hs,hr⟩ := zEB M h5 ((ha id (by simp)).trans hl)
      exact zzW hf h4 hs (zrF hr) hn hv
     ·cases e
    ·cases e
  ·cases e
 ·cases e
end
end Go.Rk
end
section
set_option linter.unusedVariables false
set_option maxRecDepth 10000
set_option maxHeartbeats 2000000
namespace Go.Dm
instance (n : Nat) (x_n x_base : Int) : T (zcu n x_n x_base) (x_base = 10 ∧ 0 ≤ x_n ∧ x_n ≤ 9223372036854775807 ∧ 20 ≤ n) (fun r => r = Go.Lib.decDigits x_n.toNat ∧ r.length ≤ 20) := ⟨fun ⟨h,h0,h1,hn⟩ => by
 subst h; exact zCQ 20 n x_n hn (by decide) h0 (by omega) h1 (by decide)⟩

instance (x_n : Int) (x_base : Int) : T (zeX x_n x_base) (x_base = 10 ∧ 0 ≤ x_n ∧ x_n ≤ 9223372036854775807) (fun r => r = Go.Lib.decDigits x_n.toNat ∧ r.length ≤ 20) := ⟨fun h => by unfold zeX; exact zyX⟩

instance (x_n : Int) (x_base : Int) : T (zhf x_n x_base) (x_base = 10 ∧ x_n ≤ 9223372036854775807) (fun r => r.length ≤ 20 ∧ if 0 ≤ x_n then r = Go.Lib.decDigits x_n.toNat else r = []) := ⟨fun h => by unfold zhf; exact zyX⟩

instance (s0 : Str) (b1 : UInt8) (n : Nat) (l5 : List Str) (i6 : Int) (i7 : Int) : T (zdn s0 b1 n l5 i6 i7) (0 ≤ i6 ∧ i6 ≤ i7 ∧ i7 ≤ s0.length ∧ s0.length < i7 + n ∧ s0.length < 1000000000 ∧ l5.length ≤ i7) (fun r => r = ptR s0 b1 l5 i6 i7) := by
 induction n generalizing l5 i6 i7 with
 | zero => exact ⟨fun h => goz⟩
 | succ n ih => exact ⟨fun h => by unfold zdn; exact zxm⟩

instance (x_s : Str) (x_c : UInt8) : T (zf3 x_s x_c) (x_s.length < 1000000000) (fun r => r = zk x_c x_s) := ⟨fun h => by unfold zf3; exact zxm⟩

instance (b0 : UInt8) (s1 : Str) (n : Nat) (i5 : Int) : T (zf4 b0 s1 n i5) (0 ≤ i5 ∧ i5 ≤ s1.length ∧ s1.length < i5 + n ∧ s1.length < 1000000000) (fun r => r = (dr s1 i5).contains b0) := by
 induction n generalizing i5 with
 | zero => exact ⟨fun h => goz⟩
 | succ n ih => exact ⟨fun h => by unfold zf4; exact zxm⟩

instance (x_b : UInt8) (x_l : Str) : T (zgC x_b x_l) (x_l.length < 1000000000) (fun r => r = x_l.contains x_b) := ⟨fun h => by unfold zgC; exact zxm⟩

instance (b : UInt8) : T (zf5 b) True (fun r => r = zag b) := bt (by decide +kernel) b

instance (x_s : Str) : T (zfk x_s) (True) (fun r => (r = -1 ∨ r = 0 ∨ r = 1 ∨ r = 2) ∧ (0 ≤ r → x_s.length = 8)) := ⟨fun h => by unfold zfk; exact zxm⟩

instance (b : UInt8) : T (zkh b) True (fun r => r = zla b) := bt (by decide +kernel) b

instance (s0 : Str) (n : Nat) (i3 : Int) : T (zex s0 n i3) (0 ≤ i3 ∧ i3 ≤ s0.length ∧ s0.length < i3 + n ∧ s0.length < 1000000000) (fun r => r = ((dr s0 i3).all zla && decide (0 < s0.length))) := by
 induction n generalizing i3 with
 | zero => exact ⟨fun h => goz⟩
 | succ n ih => exact ⟨fun h => by unfold zex; exact zxm⟩

instance (x_s : Str) : T (zf6 x_s) (x_s.length < 1000000000) (fun r => r = zbc x_s) := ⟨fun h => by unfold zf6; exact zxm⟩

instance (x_b : UInt8) (x_base : Int) : T (zhY x_b x_base) (x_base = 10) (fun r => -1 ≤ r ∧ r ≤ 9 ∧ (0 ≤ r → zag x_b = true ∧ r = (x_b.toNat : Int) - 48) ∧ (zag x_b = true → 0 ≤ r)) := ⟨fun h => by
 subst h
 have := zeG (p := fun b => match zhY b 10 with | some r => decide (-1 ≤ r ∧ r ≤ 9 ∧ (0 ≤ r → zag b = true ∧ r = (b.toNat : Int) - 48) ∧ (zag b = true → 0 ≤ r)) | none => false) (by decide +kernel) x_b
 split at this
 ·rename_i r e; exact ⟨r,e,of_decide_eq_true this⟩
 ·cases this⟩

instance (s0 : Str) (i1 : Int) (n : Nat) (s6 : Str) (i7 : Int) : T (zcv s0 i1 n s6 i7) (0 ≤ i7 ∧ i7 ≤ s0.length ∧ s0.length < i7 + n ∧ s0.length < 1000000000 ∧ i1 = 10 ∧ dgs s6 = true ∧ s6.length ≤ 20 * i7) (fun r => r.2 = true → dgs r.1 = true) := by
 induction n generalizing s6 i7 with
 | zero => exact ⟨fun h => goz⟩
 | succ n ih => exact ⟨fun h => by unfold zcv zgD; exact zyX⟩

instance (x_s : Str) (x_base : Int) : T (zjq x_s x_base) (x_s.length < 1000000000 ∧ x_base = 10) (fun r => r.2 = true → dgs r.1 = true) := ⟨fun h => by unfold zjq; exact zyX⟩

instance (x_a : Str) (x_b : Str) : T (zk2 x_a x_b) (True) (fun r => r = false → ¬ x_a.length < x_b.length ∧ (x_a.length = x_b.length → zg1 x_a x_b = false)) := ⟨fun h => by unfold zk2; exact zxm⟩

instance (i1 : Int) (s8 : Str) (n : Nat) (i10 : Int) (i11 : Int) : T (zfl i1 s8 n i10 i11) (0 ≤ i11 ∧ i11 ≤ s8.length ∧ s8.length < i11 + n ∧ s8.length ≤ 5 ∧ i1 = 10 ∧ dgs s8 = true ∧ 0 ≤ i10 ∧ dvI i10 (dr s8 i11) ≤ 10000000 ∧ dgs (dr s8 i11) = true) (fun r => r = (dvI i10 (dr s8 i11),0)) := by
 induction n generalizing i10 i11 with
 | zero => exact ⟨fun h => goz⟩
 | succ n ih => exact ⟨fun h => by obtain ⟨h1,h2,h3,h4,rfl,h5⟩ := h <;> (unfold zfl; exact zyX)⟩

instance (x_s : Str) (x_base : Int) (x_most : Int) : T (ziY x_s x_base x_most) (x_s.length < 1000000000 ∧ x_base = 10 ∧ (x_most = 255 ∨ x_most = 599 ∨ x_most = 65535)) (fun r => 0 ≤ r.1 ∧ r.1 ≤ x_most) := ⟨fun h => by unfold ziY; exact zyX⟩

instance (x_s : Str) (x_most : Int) : T (zhZ x_s x_most) (x_s.length < 1000000000 ∧ (x_most = 255 ∨ x_most = 599 ∨ x_most = 65535)) (fun r => -1 ≤ r ∧ (0 ≤ r → zfP x_s x_most)) := ⟨fun h => by unfold zhZ; exact zyX⟩

end Go.Dm
end
section
set_option linter.unusedVariables false
set_option maxRecDepth 10000
set_option maxHeartbeats 2000000
namespace Go.Dm
instance (l3 : List Str) (n : Nat) (i4 : Int) : T (zfm l3 n i4) (0 ≤ i4 ∧ i4 ≤ l3.length ∧ l3.length < i4 + n ∧ Sm l3) (fun r => r = true → l3.length = 4 ∧ ∀ x ∈ dr l3 i4,zfP x 255) := by
 induction n generalizing i4 with
 | zero => exact ⟨fun h => goz⟩
 | succ n ih => exact ⟨fun h => by unfold zfm; exact goR⟩

instance (x_s : Str) : T (ziZ x_s) (x_s.length < 900000000) (fun r => r = true → zj0 x_s) := ⟨fun h => by unfold ziZ; exact goR⟩

instance (b : UInt8) : T (zeY b) True (fun r => r = ziF b) := bt (by decide +kernel) b

instance {P : Bool → Prop} (k0 : Int → Int → Option Bool) (l3 : List Str) (i4 : Int) (i5 : Int) (n : Nat) (i6 : Int) : K (zey k0 l3 i4 i5 n i6) P ((Sm l3 ∧ 0 ≤ i5 ∧ i5 < l3.length ∧ 0 ≤ i6 ∧ i6 ≤ (elt l3 i5).length ∧ (elt l3 i5).length < i6 + n ∧ (elt l3 i5).length < 1000000000 ∧ hxs (tk (elt l3 i5) i6) = true ∧ 0 ≤ i4 ∧ i4 ≤ 2 * i5 ∧ P false) ∧ (∀ a b,a = i4 + 1 ∧ b = i5 + 1 ∧ dr l3 i5 = elt l3 i5 :: dr l3 (i5 + 1) ∧ zvb (elt l3 i5) = true → W (k0 a b) P)) := by
 induction n generalizing i6 with
 | zero => exact ⟨fun h => goz⟩
 | succ n ih => exact ⟨fun ⟨h,hk0⟩ => by have hk0 := fun a0 a1 => K.mk (hk0 a0 a1); unfold zey; exact goR⟩

instance (l3 : List Str) (n : Nat) (i4 : Int) (i5 : Int) : T (zbJ l3 n i4 i5) (Sm l3 ∧ l3.length ≤ 900000001 ∧ (∀ x ∈ l3,x.length < 900000000) ∧ 0 ≤ i5 ∧ i5 ≤ l3.length ∧ l3.length < i5 + n ∧ 0 ≤ i4 ∧ i4 ≤ 2 * i5) (fun r => r = true → GT (dr l3 i5) i4) := by
 induction n generalizing i4 i5 with
 | zero => exact ⟨fun h => goz⟩
 | succ n ih => exact ⟨fun h => by unfold zbJ zgE; exact goR⟩

instance (x_s : Str) : T (zh0 x_s) (x_s.length < 900000000) (fun r => r = true → Grp true (zk 58 x_s) 8) := ⟨fun h => by unfold zh0; exact goR⟩

end Go.Dm
end
section
set_option linter.unusedVariables false
set_option maxRecDepth 10000
set_option maxHeartbeats 2000000
namespace Go.Dm
instance {P : Bool → Prop} (k1 : Int → Option Bool) (s0 : Str) (i3 : Int) (i4 : Int) (n : Nat) (s5 : Str) (i6 : Int) : K (zdM k1 s0 i3 i4 n s5 i6) P ((s0.length < 800000000 ∧ 0 ≤ i3 ∧ i3 + 2 ≤ s0.length ∧ 1 ≤ i4 ∧ i4 ≤ 8 ∧ 0 ≤ i6 ∧ i6 ≤ i4 ∧ i4 < i6 + n ∧ s5.length ≤ i3 + 2 * i6 ∧ SZ s0 i3 i6 s5 ∧ (zvg (tk s0 i3) (dr s0 (i3 + 2)) → P true)) ∧ (∀ i,i = i4 + 1 → W (k1 i) P)) := by
 induction n generalizing s5 i6 with
 | zero => exact ⟨fun h => goz⟩
 | succ n ih => exact ⟨fun ⟨h,hk0⟩ => by have hk0 := fun a0 => K.mk (hk0 a0); unfold zdM ziB ziC; exact goR⟩

instance (s0 : Str) (i3 : Int) (n : Nat) (i4 : Int) : T (zc0 s0 i3 n i4) (s0.length < 800000000 ∧ 0 ≤ i3 ∧ i3 + 2 ≤ s0.length ∧ 1 ≤ i4 ∧ i4 ≤ 9 ∧ 9 < i4 + n) (fun r => r = true → zvg (tk s0 i3) (dr s0 (i3 + 2))) := by
 induction n generalizing i4 with
 | zero => exact ⟨fun h => goz⟩
 | succ n ih => exact ⟨fun h => by unfold zc0; exact goR⟩

instance (s0 : Str) (n : Nat) (i3 : Int) : T (zeZ s0 n i3) (s0.length < 800000000 ∧ 0 ≤ i3 ∧ i3 ≤ s0.length ∧ s0.length < i3 + n) (fun r => r = true → ztm s0 i3) := by
 induction n generalizing i3 with
 | zero => exact ⟨fun h => goz⟩
 | succ n ih => exact ⟨fun h => by unfold zeZ; exact goR⟩

instance (x_s : Str) : T (zmP x_s) (x_s.length < 800000000) (fun r => r = true → zvc x_s) := ⟨fun h => by unfold zmP; exact goR⟩

end Go.Dm
end
section
set_option linter.unusedVariables false
set_option maxRecDepth 10000
set_option maxHeartbeats 2000000
namespace Go.Dm
instance (b : UInt8) : T (zcj b) True (fun r => r = zmp b) := bt (by decide +kernel) b

instance (b : UInt8) : T (ziJ b) True (fun r => r = zyn b) := bt (by decide +kernel) b

instance (s0 : Str) (n : Nat) (i3 : Int) : T (zce s0 n i3) (0 ≤ i3 ∧ i3 ≤ s0.length ∧ s0.length < i3 + n ∧ s0.length < 1000000000) (fun r => r = true → zhO (dr s0 i3) = true ∧ 0 < s0.length) := by
 induction n generalizing i3 with
 | zero => exact ⟨fun h => goz⟩
 | succ n ih => exact ⟨fun h => by unfold zce zhB; exact goS⟩

instance (x_s : Str) : T (zk3 x_s) (x_s.length < 1000000000) (fun r => r = true → zhO x_s = true ∧ x_s ≠ []) := ⟨fun h => by unfold zk3; exact goS⟩

instance (x_s : Str) : T (zmm x_s) (x_s.length < 800000000) (fun r => r.Kind ≠ 0 → zic x_s ∧ r.Port = -1) := ⟨fun h => by unfold zmm zf7; exact goS⟩

instance (s0 : Str) (n : Nat) (i5 : Int) : T (zez s0 n i5) (s0.length < 800000000 ∧ -1 ≤ i5 ∧ i5 < s0.length ∧ i5 + 1 < n ∧ 58 ∉ dr s0 (i5 + 1)) (fun r => r.2 = 0 → zjb s0 ∧ 0 ≤ r.1.Port) := by
 induction n generalizing i5 with
 | zero => exact ⟨fun h => goz⟩
 | succ n ih => exact ⟨fun h => by unfold zez; exact goS⟩

instance (x_s : Str) : T (zf8 x_s) (x_s.length < 800000000) (fun r => r.2 = 0 → (zic x_s ∧ r.1.Port = -1) ∨ (zjb x_s ∧ 0 ≤ r.1.Port)) := ⟨fun h => by unfold zf8; exact goS⟩

end Go.Dm
end
section
set_option linter.unusedVariables false
set_option maxRecDepth 10000
set_option maxHeartbeats 2000000
namespace Go.Dm
instance (s0 : Str) (n : Nat) (i3 : Int) : T (zc9 s0 n i3) (0 ≤ i3 ∧ i3 ≤ s0.length ∧ s0.length < i3 + n ∧ s0.length < 1000000000 ∧ 63 ∉ tk s0 i3) (fun r => 0 ≤ r ∧ r ≤ s0.length ∧ 63 ∉ tk s0 r ∧ (r < s0.length → dr s0 r = 63 :: dr s0 (r + 1))) := by
 induction n generalizing i3 with
 | zero => exact ⟨fun h => goz⟩
 | succ n ih => exact ⟨fun h => by unfold zc9 zhC; exact goU⟩

instance (x_s : Str) : T (zk4 x_s) (x_s.length < 1000000000) (fun r => 0 ≤ r ∧ r ≤ x_s.length ∧ 63 ∉ tk x_s r ∧ (r < x_s.length → dr x_s r = 63 :: dr x_s (r + 1))) := ⟨fun h => by unfold zk4; exact goU⟩

instance (b : UInt8) : T (zi0 b) True (fun r => r = zsu b) := bt (by decide +kernel) b

instance  (n : Nat) (x_s : Str) (x_more : Str) : T (zfR n x_s x_more) (x_s.length < n ∧ x_s.length < 1000000000 ∧ x_more.length < 1000000000) (fun r => r = pqM x_more x_s) := by
 induction n generalizing x_s x_more with
 | zero => exact ⟨fun h => goz⟩
 | succ n ih => exact ⟨fun h => by unfold zfR; exact goU⟩

instance (x_s : Str) (x_more : Str) : T (zmn x_s x_more) (x_s.length < 1000000000 ∧ x_more.length < 1000000000) (fun r => r = pqM x_more x_s) := ⟨fun h => by unfold zmn; exact goU⟩

instance (x_s : Str) : T (zk5 x_s) (x_s.length < 1000000000) (fun r => r = true → zrI x_s) := ⟨fun h => by unfold zk5; exact goU⟩

instance (x_s : Str) : T (zh1 x_s) (x_s.length < 1000000000) (fun r => r = true → zgl x_s) := ⟨fun h => by unfold zh1; exact goU⟩

instance (x_t : api_Target) (x_s : Str) : T (zgF x_t x_s) (x_s.length < 1000000000 ∧ x_t.Query.length < 1000000000) (fun r => r.2 = true → zj2 x_s) := ⟨fun h => by unfold zgF zfG zfF; exact goU2⟩

instance {P : Str → Prop} (k0 : Str → Int → Option Str) (s0 : Str) (s3 : Str) (i4 : Int) (n : Nat) (s5 : Str) (i6 : Int) : K (zda k0 s0 s3 i4 n s5 i6) P ((∃ c,s5 = [c] ∧ dr s0 i4 = c :: dr s0 (i4 + 1)) ∧ i6 = 0 ∧ n = fuel ∧ 0 ≤ i4 ∧ i4 < 1000000000 ∧ s3.length < 1000000000 ∧ ∀ t i,t = s3 ++ low s5 ∧ i = i4 + 1 → W (k0 t i) P) := ⟨fun ⟨⟨c,e1,e2⟩,e3,e4,h0,h1,h2,hk⟩ => by
 have hl := zg0 h0 e2
 have e : sAt s0 i4 = some c := by
  obtain ⟨r,e,hr⟩ := (inferInstance : T (sAt s0 i4) _ _).ok ⟨h0,hl⟩
  rw [hr.2.2] at e2
  rw [e,(List.cons.inj e2).1]
 subst e1 e3 e4
 rw [zC0 k0 s0 s3 i4 c e,fl_v]
 have a1 : zcI s3 [zbr c] = some (s3 ++ [zbr c]) := by simp [zcI]; omega
 have a2 : zn i4 1 = some (i4 + 1) := by simp [zn,inI]; omega
 show W ((zcI s3 [zbr c]).bind _) P
 rw [a1]
 show W ((zn i4 1).bind _) P
 rw [a2]
 exact hk _ _ ⟨rfl,rfl⟩⟩

instance (s0 : Str) (n : Nat) (s3 : Str) (i4 : Int) : T (zd9 s0 n s3 i4) (0 ≤ i4 ∧ i4 ≤ s0.length ∧ s0.length < i4 + n ∧ s0.length < 1000000000 ∧ s3.length = i4) (fun r => r = s3 ++ low (dr s0 i4)) := by
 induction n generalizing s3 i4 with
 | zero => exact ⟨fun h => goz⟩
 | succ n ih => exact ⟨fun h => by unfold zd9; exact goF⟩

instance (x_s : Str) : T (zaQ x_s) (x_s.length < 1000000000) (fun r => r = low x_s) := ⟨fun h => by unfold zaQ; exact goF⟩

instance (s1 : Str) (s11 : Str) (n : Nat) (i13 : Int) : T (zbK s1 s11 n i13) (s1.length < 800000000 ∧ 0 ≤ i13 ∧ i13 ≤ s1.length ∧ s1.length < i13 + n ∧ 47 ∉ tk s1 i13 ∧ 63 ∉ tk s1 i13) (fun r => r.2 = 0 → absT s1) := by
 induction n generalizing i13 with
 | zero => exact ⟨fun h => goz⟩
 | succ n ih => exact ⟨fun h => by unfold zbK zeA zgH; exact goU2⟩

instance (s1 : Str) (l49 : List Str) (i50 : Int) (n : Nat) (i51 : Int) : T (zdo s1 l49 i50 n i51) (s1.length < 800000000 ∧ i50 = l49.length ∧ l49.length ≤ 2 ∧ (∀ x ∈ l49,x.length ≤ 5) ∧ (∀ x ∈ l49,x = [104,116,116,112] ∨ x = [104,116,116,112,115]) ∧ 0 ≤ i51 ∧ i51 ≤ i50 ∧ i50 < i51 + n) (fun r => r.2 = 0 → zyV s1) := by
 induction n generalizing i51 with
 | zero => exact ⟨fun h => goz⟩
 | succ n ih => exact ⟨fun h => by unfold zdo; exact goU2⟩

instance (x_a0 : Str) (x_a1 : Str) : T (zjr x_a0 x_a1) (x_a1.length < 800000000) (fun r => r.2 = 0 → zoB x_a0 x_a1) := ⟨fun h => by unfold zjr zgG zgI; exact goU2⟩

end Go.Dm
end
section
set_option linter.unusedVariables false
set_option maxRecDepth 10000
set_option maxHeartbeats 2000000
namespace Go.Dm
instance (b : UInt8) : T (zeB b) True (fun r => r = zyo b) := bt (by decide +kernel) b

instance (i11 : Int) (i12 : Int) (i13 : Int) (s14 : Str) (n : Nat) (i15 : Int) : T (zeC i11 i12 i13 s14 n i15) (0 ≤ i15 ∧ i15 ≤ s14.length ∧ s14.length < i15 + n ∧ s14.length < 1000000000) (fun r => r.2 = 0 → i13 = 0 ∧ 100 ≤ i12 ∧ r.1 = ⟨2,[],[],i12,s14,i11,[]⟩ ∧ vls (dr s14 i15) = true) := by
 induction n generalizing i15 with
 | zero => exact ⟨fun h => goz⟩
 | succ n ih => exact ⟨fun h => by unfold zeC; exact goV⟩

instance (i0 : Int) (s1 : Str) (n : Nat) (i6 : Int) : T (zeD i0 s1 n i6) (s1.length < 700000000 ∧ (i0 = 1 ∨ i0 = 2) ∧ 0 ≤ i6 ∧ i6 ≤ s1.length ∧ s1.length < i6 + n ∧ 10 ∉ tk s1 i6 ∧ 13 ∉ tk s1 i6) (fun r => r.2 = 0 → 10 ∉ s1 ∧ 13 ∉ s1 ∧ (r.1.Minor = 0 ∨ r.1.Minor = 1) ∧ if i0 = 1 then r.1.Target ∈ zk 32 s1 ∧ zbc r.1.Method = true ∧ zoB r.1.Method r.1.Target ∧ r.1.Code = 0 ∧ r.1.Reason = [] else r.1.Method = [] ∧ r.1.Target = [] ∧ 100 ≤ r.1.Code ∧ r.1.Code ≤ 599 ∧ vls r.1.Reason = true) := by
 induction n generalizing i6 with
 | zero => exact ⟨fun h => goz⟩
 | succ n ih => exact ⟨fun h => by unfold zeD; exact goK⟩

instance (x_a0 : Int) (x_a1 : Str) : T (zjs x_a0 x_a1) (x_a1.length < 700000000) (fun r => (r.2 = 0 → x_a0 = 1 ∨ x_a0 = 2) ∧ (r.2 = 0 → 10 ∉ x_a1 ∧ 13 ∉ x_a1 ∧ (r.1.Minor = 0 ∨ r.1.Minor = 1) ∧ if x_a0 = 1 then r.1.Target ∈ zk 32 x_a1 ∧ zbc r.1.Method = true ∧ zoB r.1.Method r.1.Target ∧ r.1.Code = 0 ∧ r.1.Reason = [] else r.1.Method = [] ∧ r.1.Target = [] ∧ 100 ≤ r.1.Code ∧ r.1.Code ≤ 599 ∧ vls r.1.Reason = true)) := ⟨fun h => by unfold zjs zgJ; exact goK⟩

instance (x_a0 : api_Head) : T (zk6 x_a0) (x_a0.Method.length ≤ 100000 ∧ x_a0.Target.length ≤ 100000 ∧ x_a0.Reason.length ≤ 100000 ∧ x_a0.Code ≤ 9223372036854775807 ∧ x_a0.Minor ≤ 9223372036854775807) (fun r => r.2 = 0 → slP x_a0) := ⟨fun h => by unfold zk6 zhD; exact goK2⟩

end Go.Dm
end
section
set_option linter.unusedVariables false
set_option maxRecDepth 10000
set_option maxHeartbeats 2000000
namespace Go.Dm
instance (s0 : Str) (n : Nat) (i3 : Int) : T (zd0 s0 n i3) (0 ≤ i3 ∧ i3 ≤ s0.length ∧ s0.length < i3 + n ∧ s0.length < 1000000000) (fun r => r = vls (dr s0 i3)) := by
 induction n generalizing i3 with
 | zero => exact ⟨fun h => goz⟩
 | succ n ih => exact ⟨fun h => by unfold zd0; exact goV⟩

instance (x_s : Str) : T (ziD x_s) (x_s.length < 1000000000) (fun r => r = vls x_s) := ⟨fun h => by unfold ziD; exact goV⟩

instance (b : UInt8) : T (zf9 b) True (fun r => r = zhh b) := bt (by decide +kernel) b

instance  (n : Nat) (s0 : Str) : T (zdb n s0) (s0.length < n ∧ s0.length < 1000000000) (fun r => r = ziR s0) := by
 induction n generalizing s0 with
 | zero => exact ⟨fun h => goz⟩
 | succ n ih => exact ⟨fun h => by unfold zdb zhE; exact goV⟩

instance  (n : Nat) (s0 : Str) : T (zdc n s0) (s0.length < n ∧ s0.length < 1000000000) (fun r => r = ziR (zid s0)) := by
 induction n generalizing s0 with
 | zero => exact ⟨fun h => goz⟩
 | succ n ih => exact ⟨fun h => by unfold zdc zhF; exact goV⟩

instance (x_s : Str) : T (zhg x_s) (x_s.length < 1000000000) (fun r => r = zqC x_s) := ⟨fun h => by unfold zhg; exact goV⟩

instance (x_f : api_Field) : T (zjt x_f) (x_f.Name.length < 1000000000 ∧ x_f.Value.length < 1000000000) (fun r => r = 0 → zx1 x_f) := ⟨fun h => by unfold zjt; exact goV⟩

instance (x_f : api_Field) (x_name : Str) : T (zoW x_f x_name) (x_f.Name.length < 1000000000 ∧ x_name.length < 1000000000) (fun r => r = (low x_f.Name == low x_name)) := ⟨fun h => by unfold zoW; exact goV⟩

instance (l0 : List api_Field) (s1 : Str) (n : Nat) (l5 : List Str) (i6 : Int) : T (zcR l0 s1 n l5 i6) (Fm l0 ∧ s1.length < 1000000000 ∧ 0 ≤ i6 ∧ i6 ≤ l0.length ∧ l0.length < i6 + n ∧ l5.length ≤ i6 ∧ ∀ s ∈ l5,s.length ≤ 20000000) (fun r => Ss r ∧ r = l5 ++ vals s1 (dr l0 i6)) := by
 induction n generalizing l5 i6 with
 | zero => exact ⟨fun h => goz⟩
 | succ n ih => exact ⟨fun h => by unfold zcR; exact goV⟩

instance (x_l : List api_Field) (x_name : Str) : T (zgK x_l x_name) (Fm x_l ∧ x_name.length < 1000000000) (fun r => Ss r ∧ r = vals x_name x_l) := ⟨fun h => by unfold zgK; exact goV⟩

instance (x_h : api_Head) : T (zju x_h) (Fm x_h.Fields) (fun r => r = 0 → whP x_h) := ⟨fun h => by unfold zju zeE zgL; exact goV⟩

instance (v1 : api_Head) (n : Nat) (i5 : Int) : T (zeF v1 n i5) (Fm v1.Fields ∧ 0 ≤ i5 ∧ i5 ≤ v1.Fields.length ∧ v1.Fields.length < i5 + n) (fun r => r = 0 → (∀ f ∈ dr v1.Fields i5,zx1 f) ∧ whP v1) := by
 induction n generalizing i5 with
 | zero => exact ⟨fun h => goz⟩
 | succ n ih => exact ⟨fun h => by unfold zeF; exact goV⟩

instance (x_h : api_Head) : T (zjv x_h) (Fm x_h.Fields ∧ x_h.Method.length ≤ 100000 ∧ x_h.Target.length ≤ 100000 ∧ x_h.Reason.length ≤ 100000 ∧ x_h.Code ≤ 9223372036854775807 ∧ x_h.Minor ≤ 9223372036854775807) (fun r => r = 0 → hokP x_h) := ⟨fun h => by unfold zjv; exact goV⟩

end Go.Dm
end
