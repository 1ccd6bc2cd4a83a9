/- Walks by evaluation: whole runs are right. Over any program. Walks by evaluation: what is checked of a translation's tab -/
import Derived.Test.YtlehfmpjckapdaaGreatDoorYZo
import Derived.Test.YtlehfmpjckapdaaGreatDoorP0
set_option linter.unusedVariables false
set_option linter.unusedSimpArgs false
section
namespace Go.Rk
open Go.RowKit Go.Dm Go.Dk
variable {τ:Nat→Type}
section
variable {ρ:Type} {X:Cx τ} {w0 w w':World} {h0 h h' H:Fz} {F:List Nat} {E:zad τ} {L L2:Hp τ} {ν ν':Vn τ} {φ φ':Nat→List Nat} {nid nid':Nat} {r:ρ}
theorem zzr {K:Nx τ ρ} {f:FuncId} {avs:List (XV τ)} {z:Option ρ}:∀{cs:zy7 τ},zwL X L nid K f avs z cs=some r→(∃q∈cs,zos X L nid K f avs [q]=some r)∨z=some r
 | [],e => .inr e
 | (g,k) :: cs,e=>by
  have b:zwL X L nid K f avs z cs=some r→(∃q∈(g,k)::cs,zos X L nid K f avs [q]=some r)∨z=some r:=fun e=>(zzr e).imp (fun ⟨q,h1,h2⟩=>⟨q,List.mem_cons_of_mem _ h1,h2⟩) id;unfold zwL at e
  cases c:Nat.beq g f with
  | false=>rw [c,bcF] at e; exact b e
  | true =>
   rw [c,bcT] at e
   cases i:zti X.G L k.ps avs with
   | none=>rw [i] at e; exact b e
   | some q =>
    obtain ⟨p,l,m⟩:=q;rw [i] at e;dsimp only at e
    cases hn:(nodF l&&zOs l m) with
    | false=>rw [hn,bcF] at e; exact b e
    | true =>
     rw [hn,bcT] at e;simp only [Bool.and_eq_true] at hn
     have h:(nod l&&zy8 l m)=true:=by rw [zOu hn.1,zOt hn.2]; rfl
     split at e
     ·rename_i Z n
      split at e
      ·rename_i rs d
       cases a:(nod (zwU rs)&&(zwU rs).all (mem l)) with
       | false=>rw [a,bcF] at e; exact .inr e
       | true =>
        rw [a,bcT] at e
        split at e
        ·rename_i R j
         refine .inl ⟨(g,k),List.mem_cons_self ..,?_⟩;unfold zos;rw [c,bcT,i];dsimp only;rw [h,bcT,n];dsimp only;rw [d];dsimp only;rw [a,bcT,j];exact e
        ·exact b e
      ·exact .inr e
     ·exact .inr e
theorem zLR (h:TyOk X) (i:∀q∈X.cs,COk X.P X.G q.1 q.2) (hNm:∀(f:FuncId) (fn:Func),X.P.funcs[f]? = some fn→(fn.name == "runtime.NumGoroutine")=false) {Z:Zx X} (C:∀f, ∀q∈Z.ct f,COk X.P X.G q.1 q.2) {A:InF τ ρ} (l:InOk X w0 h0 F A):zv9 X w0 h0 F (opZ X Z A):=by
 intro r o E L nid K e;obtain ⟨dst,op,t,p,af,gd⟩:=o;dsimp only at e;unfold opZ at e
 split at e
 ·split at e
  ·rename_i z
   split at e
   ·rename_i u
    split at e
    ·rename_i b
     split at e
     ·rename_i J
      split at e
      ·rename_i c
       exact zzq u b z J c e
      ·cases e
     ·cases e
    ·cases e
   ·cases e
  ·exact zqu h i e
 ·rename_i f args ats
  split at e
  ·rename_i g b
   split at e
   ·rename_i avs a
    rcases zzr e with ⟨q,n,e⟩|e
    ·exact zFC b a (fun D j=>by rw [List.mem_singleton.1 j]; exact C g q n) e
    ·obtain ⟨v,U,T,H,h1,h2,w,_⟩:=zIb hNm l e;exact zLo b a h1 h2 w
   ·cases e
  ·rename_i id b
   split at e
   ·rename_i g bs cs d
    split at e
    ·rename_i avs a
     rcases zzr e with ⟨q,n,e⟩|e
     ·exact zsi [id] (zHy b d a) (fun D j=>by rw [List.mem_singleton.1 j]; exact C g q n) e
     ·obtain ⟨v,U,T,H,h1,h2,w,I⟩:=zIb hNm l e;exact zJm b d a h1 h2 w I
    ·cases e
   ·cases e
  ·exact zqu h i e
 ·split at e
  ·rename_i id b
   cases c:vwB (lk L id) with
   | true =>
    rw [c] at e
    replace e:=(bc_tt e)
    split at e
    ·rename_i B k
     split at e
     ·rename_i m z
      exact zOi k b z e
     ·cases e
    ·cases e
   | false=>rw [c] at e; exact zqu h i e
  ·exact zqu h i e
 ·split at e
  ·rename_i id b
   split at e
   ·rename_i d
    split at e
    ·rename_i B u
     exact zLq b d u e
    ·cases e
   ·exact zqu h i e
  ·exact zqu h i e
 ·split at e
  ·rename_i bs c
   split at e
   ·rename_i cs hc
    exact zLp c hc e
   ·cases e
  ·cases e
 ·split at e
  ·rename_i B k
   split at e
   ·exact zqu h i e
   ·obtain ⟨s,e⟩:=zg0 e
    split at e
    ·rename_i cs hc
     obtain ⟨c,e⟩:=zg0 e;simp only [Bool.and_eq_true,Nat.beq_eq,Nat.ble_eq] at c;exact zQg k s hc c.1 c.2 e
    ·cases e
  ·cases e
 ·exact zqu h i e
where
 bc_tt {α:Type} {x y:Option α} {r:α} (e:bc true x y=some r):x=some r:=e
theorem zv9.wn {op:OpF τ ρ} (n:Nat) (h:zv9 X w0 h0 F op):zv9 (X.wn n) w0 h0 F op:=h
theorem zH0 (hm:X.P.follows .mixedOrders=true) {Z:Zx X} (hZ:∀f, ∀q∈Z.ct f,COk X.P X.G q.1 q.2) (hT:TyOk X) (hC:∀q∈X.cs,COk X.P X.G q.1 q.2) (hNm:∀(f:FuncId) (fn:Func),X.P.funcs[f]? = some fn→(fn.name == "runtime.NumGoroutine")=false):∀(k:Nat),InOk (ρ:=ρ) X w0 h0 F (inZ X Z k)
 | 0=>by intro r n c E L T0 nid K _ e; cases e
 | k + 1=>by
  have B:=zH0 hm hZ hT hC hNm k;have S:zv9 (ρ:=ρ) X w0 h0 F (opZ X Z (inZ X Z k)):=zLR hT hC hNm hZ B;intro r n c E L T0 nid K hn e;unfold inZ at e
  split at e
  ·exact ⟨.no,E,[],[],nid,0,e,Nat.le_refl _,OkC.nil fun Q a w h=>wp_skip h⟩
  ·rename_i id l d
   cases d with
   | true =>
    obtain ⟨J,U,T,N,g,j,m⟩:=zL7 (X:=X.wn n) hm hn (S.wn n) (id:=id) e;exact ⟨.no,J,U,T,N,0,g,j,m⟩
   | false =>
    obtain ⟨J,U,T,N,g,j,m⟩:=zDO (X:=X.wn n) (S.wn n) hn e;exact ⟨.no,J,U,T,N,0,g,j,fun H ν h φ a w Q A a2 a3 a4 a5 D C=>wp_region_list (m H ν h φ a w Q A a2 a3 a4 a5 D C)⟩
  ·rename_i x y
   obtain ⟨ex,u,p,o,z,O,g,j,m⟩:=B _ _ _ _ _ _ _ _ hn e
   cases ex with
   | no =>
    obtain ⟨ex,J,U2,V,N,m2,W,R,Y⟩:=B _ _ _ _ _ _ _ _ hn g;refine ⟨ex,J,U2++p,V++o,N,0,by rw [List.append_assoc,List.append_assoc]; exact W,Nat.le_trans j R,OkC.seq m.wp Y.wp j R fun Q a w h=>wp_seq h⟩
   | ex i=>exact ⟨.ex i,u,p,o,z,0,g,j,m.wp.out fun Q a w h=>wp_seq (h _ fun _ _ q=>q)⟩
   | rt=>exact ⟨.rt,u,p,o,z,0,g,j,m.wp.out fun Q a w h=>wp_seq (h _ fun _ _ q=>q)⟩
  ·rename_i c x y
   split at e
   ·rename_i b hc
    cases b with
    | true =>
     obtain ⟨ex,u,p,o,z,O,g,j,m⟩:=B _ _ _ _ _ _ _ _ hn e;refine ⟨ex,u,p,o,z,0,g,j,fun H ν h φ a w Q A a2 a3 a4 a5 D C=>?_⟩;obtain ⟨Ea,I,M⟩:=zef a A;obtain ⟨v,h1,h2⟩:=zB M (zcr.on (zDP.1 a4) _) hc;obtain rfl:v=_:=h2;exact wp_cond_true (I.ev h1) (m.wp H ν h φ a w Q A a2 a3 a4 a5 D C)
    | false =>
     obtain ⟨ex,u,p,o,z,O,g,j,m⟩:=B _ _ _ _ _ _ _ _ hn e;refine ⟨ex,u,p,o,z,0,g,j,fun H ν h φ a w Q A a2 a3 a4 a5 D C=>?_⟩;obtain ⟨Ea,I,M⟩:=zef a A;obtain ⟨v,h1,h2⟩:=zB M (zcr.on (zDP.1 a4) _) hc;obtain rfl:v=_:=h2;exact wp_cond_false (I.ev h1) (m.wp H ν h φ a w Q A a2 a3 a4 a5 D C)
   ·rename_i b hc
    split at e
    ·rename_i s
     have ha:asc E s=some (.c (.b b)):=zKx hc
     cases b with
     | true =>
      rw [if_pos rfl] at e;obtain ⟨ex,u,p,o,z,O,g,j,m⟩:=B _ _ _ _ _ _ _ _ hn e;refine ⟨ex,u,p,o,z,0,g,j,fun H ν h φ a w Q A a2 a3 a4 a5 D C=>?_⟩;obtain ⟨Ea,I,M⟩:=zef a A;obtain ⟨v,h1,h2⟩:=zB M (zcr.on (zDP.1 a4) _) hc;obtain rfl:v=_:=h2;exact wp_cond_true (I.ev h1) (m.wp H ν h φ a w Q A a2 a3 (Ref.env ((Ref.refl E).known ha) a4) a5 D C)
     | false =>
      rw [if_neg (by simp)] at e;obtain ⟨ex,u,p,o,z,O,g,j,m⟩:=B _ _ _ _ _ _ _ _ hn e;refine ⟨ex,u,p,o,z,0,g,j,fun H ν h φ a w Q A a2 a3 a4 a5 D C=>?_⟩;obtain ⟨Ea,I,M⟩:=zef a A;obtain ⟨v,h1,h2⟩:=zB M (zcr.on (zDP.1 a4) _) hc;obtain rfl:v=_:=h2;exact wp_cond_false (I.ev h1) (m.wp H ν h φ a w Q A a2 a3 (Ref.env ((Ref.refl E).known ha) a4) a5 D C)
    ·cases e
   ·cases e
  ·rename_i id c
   obtain ⟨ex,u,p,o,z,O,g,j,m⟩:=B _ _ _ _ _ _ _ _ hn e
   cases ex with
   | no=>exact ⟨.no,u,p,o,z,0,g,j,m.wp.out fun Q a w h=>wp_block (h _ fun _ _ q=>q)⟩
   | rt=>exact ⟨.rt,u,p,o,z,0,g,j,m.wp.out fun Q a w h=>wp_block (h _ fun _ _ q=>q)⟩
   | ex i =>
    cases hb:Nat.beq i id with
    | true =>
     simp only [hb] at g
     have:i=id:=by simpa using hb
     subst this;exact ⟨.no,u,p,o,z,0,g,j,m.wp.out fun Q a w h=>wp_block (h _ fun _ _ q=>zC5 q)⟩
    | false =>
     simp only [hb] at g;exact ⟨.ex i,u,p,o,z,0,g,j,m.wp.out fun Q a w h=>wp_block (h _ fun _ _ q=>zC6 hb q)⟩
  ·rename_i c
   obtain ⟨ex,u,p,o,z,O,g,j,m⟩:=B _ _ _ _ _ _ _ _ hn e
   cases ex with
   | no =>
    obtain ⟨E1',e2,hE⟩:=zH9 g;obtain ⟨ex,J,U2,V,N,m2,W,R,Y⟩:=B _ _ _ _ _ _ _ _ hn e2;refine ⟨ex,J,U2++p,V++o,N,m2+1,by rw [List.append_assoc,List.append_assoc]; exact W,Nat.le_trans j R,OkC.seq m.wp (Y.ref (E:=u) fun t x h => .inl (hE t x h).1) j R fun Q a w h=>h⟩
   | ex i=>exact ⟨.ex i,u,p,o,z,1,g,j,m.wp.out fun Q a w h=>h _ fun _ _ q=>q⟩
   | rt=>exact ⟨.rt,u,p,o,z,1,g,j,m.wp.out fun Q a w h=>h _ fun _ _ q=>q⟩
  ·rename_i id
   exact ⟨.ex id,E,[],[],nid,0,e,Nat.le_refl _,OkC.nil fun Q a w h=>wp_exit h⟩
  ·exact ⟨.rt,E,[],[],nid,0,e,Nat.le_refl _,OkC.nil fun Q a w h=>wp_ret h⟩
  ·cases e
theorem zO5 (r:X.P.follows .mixedOrders=true) {Z:Zx X} (x:∀f, ∀q∈Z.ct f,COk X.P X.G q.1 q.2) (p:TyOk X) (t:∀q∈X.cs,COk X.P X.G q.1 q.2) (hNm:∀(f:FuncId) (fn:Func),X.P.funcs[f]? = some fn→(fn.name == "runtime.NumGoroutine")=false)
  {k:Nat} {f:FuncId} {avs:List (XV τ)} {b:Bool} (e:zrun X Z k f avs=some b) {h:Fz} {w:World} {vals:List Value} (d:zth X.P X.G h) (c:zFx X.P X.G) (j:h.on w) (a:vals.length=avs.length)
  (s:∀(i:Nat) (A:XV τ) (u:Value),avs[i]? = some A→vals[i]? = some u→XOk X.P X.G h (fun _=>none) A u):zfu X.P f∧Calls X.P f vals.toArray w fun e w'=>e = .returned (.bool b)∧∃h',Left h w [] h' w' []:=by
 unfold zrun at e;obtain ⟨v,U,T,y,h1,h2,m,_⟩:=zIb (w0:=w) (h0:=h) (F:=[]) hNm (zH0 r x p t hNm k) e
 have o:Mem X.P X.G w h [] [] w (fun _=>none) h (fun _=>[]) :=
  ⟨rfl,rfl,rfl,Nat.le_refl _,fun _ _ _=>rfl,Fz.le.refl _,j,fun b g => .inl g,fun _=>rfl,(fun _ _ _ h=>by cases h),(fun _ _ h=>by cases h),d,c⟩
 refine ⟨m.1,Calls.mono (m.2 [] _ h _ w vals o a s (fun i hi=>?_) fun _ _ _=>rfl) ?_⟩
 ·rfl
 rintro B w' ⟨u, ν',h', φ',rfl,M',_,z,_,l⟩
 have n:u = .bool b:=by
  split at h1
  ·cases h1; exact l
  ·cases h1; exact l
  ·cases h1
 subst n;exact ⟨rfl,h',M'.os,M'.tape,M'.output,M'.size,M'.frame,M'.le,M'.on,M'.new,fun b g=>by cases g⟩
end
end Go.Rk
end
section
namespace Go.Rk
open Go.RowKit Go.Dm Go.Dk
variable {τ:Nat→Type}
def eqV:(t:Ty)→t.den τ→t.den τ→Bool
 | .bool,(x:Bool),(y:Bool)=>x==y
 | .int,(x:Int),(y:Int)=>x==y
 | .u8,(x:UInt8),(y:UInt8)=>x==y
 | .u16,(x:UInt16),(y:UInt16)=>x==y
 | .str,(x:Str),(y:Str)=>x==y
 | _,_,_=>true
def eqD:(ts:List Ty)→DP τ ts→DP τ ts→Bool
 | [],_,_=>true
 | [t],x,y=>eqV t x y
 | t::u::ts,p,q=>eqV t p.1 q.1&&eqD (u::ts) p.2 q.2
def elB (P:Program) (G:Sig τ) (a:TypeId) (e:Ty):Bool:=match P.info? a with
 | some i=>match i.zero with
  | some z=>Nat.beq i.size (ets G e).length&&Nat.beq z.cells.size i.size&&Nat.blt 0 i.size
  | none=>false
 | none=>false
def scB (P:Program) (t:TypeId):Ty→Bool
 | .bool=>match P.underlying t with
  | some .bool=>true
  | _=>false
 | .str=>match P.underlying t with
  | some .string=>true
  | _=>false
 | .int=>match P.underlying t with
  | some (.int .i64)=>true
  | _=>false
 | .u8=>match P.underlying t with
  | some (.int .u8)=>true
  | _=>false
 | .u16=>match P.underlying t with
  | some (.int .u16)=>true
  | _=>false
 | _=>false
def zzG (inner:TypeId→List Ty→Option (List Ty)):List Field→List Ty→Nat→Option (List Ty)
 | [],ts,_=>some ts
 | f::fs,ts,i=>bif Nat.beq f.offset i&&decide (f.name ≠ "_") then (match inner f.type ts with
  | some rs=>zzG inner fs rs (i+(ts.length-rs.length))
  | none=>none) else none
def inn0 (P:Program) (t:TypeId):List Ty→Option (List Ty)
 | u::us=>bif scB P t u then some us else none
 | []=>none
def inn1 (P:Program) (t:TypeId) (ts:List Ty):Option (List Ty):=match P.underlying t with
 | some (.struct ⟨a⟩)=>match zzG (inn0 P) a ts 0 with
  | some rs=>match szO P t with
   | some s=>bif !(P.stoodInHeld t)&&Nat.beq (s+rs.length) ts.length then some rs else none
   | none=>none
  | none=>none
 | _=>inn0 P t ts
def zDH (P:Program) (fs:List Field) (ts:List Ty):Bool:=match zzG (inn1 P) fs ts 0 with
 | some []=>true
 | _=>false
def zLW (P:Program) (G:Sig τ) (t:TypeId) (n:Nat):Bool:=match P.underlying t with
 | some (.struct ⟨fs⟩) => !(P.stoodInHeld t) && !(P.eqGuardType P.depth t)&&zDH P fs (G.fs n)
 | _=>false
def tyB (P:Program) (G:Sig τ) (ty:List (TypeId × Ty)):Bool:=ty.all fun p=>elB P G p.1 p.2&&(match p.2 with
 | .st n=>bif (G.fs n).all zhI then zLW P G p.1 n else true
 | _=>true)
section
variable {P:Program} {G:Sig τ} {h:Fz} {w:World}
theorem u16_eq (b c:UInt16):((b.toNat:Int)==(c.toNat:Int))=(b==c):=by
 rw [Bool.eq_iff_iff]; simp only [beq_iff_eq,Int.natCast_inj,UInt16.toNat_inj]
theorem zO7 {ti:TypeId} {t:Ty} {x y:t.den τ} {v u:Value} (c:scB P ti t=true) (h1:Rp P G h t x v) (h2:Rp P G h t y u) (d:Nat):(Op.equalIn (d+1) ti v u).run P w = .ok (eqV t x y) w∧(isAgg ti).run P w = .ok false w:=by
 have g:∀{d:TypeDesc},P.underlying ti=some d→(∀f,d ≠ .struct f)→(∀n e,d ≠ .array n e)→(isAgg ti).run P w = .ok false w:=by
  intro d a h1 h2;unfold isAgg;simp only [Sem.run_bind,run_underlying a,Result.andThen_ok]
  cases d<;>first|rfl|exact (h1 _ rfl).elim|exact (h2 _ _ rfl).elim
 cases h1<;>first|(cases c; done)|skip
 all_goals
  cases h2;unfold scB at c;dsimp only at c
  split at c
  ·rename_i a
   refine ⟨?_,g a (fun _ h=>by cases h) (fun _ _ h=>by cases h)⟩
   first
    | exact run_equalIn_bool' w d ti _ _ a
    | exact run_equalIn_int w d ti .i64 .i64 _ _ a
    | exact (run_equalIn_int w d ti .u8 .u8 _ _ a).trans (congrArg (fun b=>Result.ok b w) (zFk _ _))
    | exact (run_equalIn_int w d ti .u16 .u16 _ _ a).trans (congrArg (fun b=>Result.ok b w) (u16_eq _ _))
    | exact (run_equalIn_string w d ti _ _ a).trans (by simp only [ByteArray.toList_eq]; rfl)
  ·cases c
theorem zLX {t:Ty} {ts:List Ty} {p q:DP τ (t::ts)}:eqD (t::ts) p q=(eqV t p.hd q.hd&&eqD ts p.tl q.tl):=by
 cases ts with
 | nil=>simp [eqD,DP.hd]
 | cons u ts=>rfl
theorem zO8 {p q:DP τ []}:eqD [] p q=true:=rfl
def EqOk (P:Program) (G:Sig τ) (h:Fz) (w:World) (e:Nat) (inner:TypeId→List Ty→Option (List Ty)):Prop:=∀(t:TypeId) (ts rs:List Ty) (p q:DP τ ts) (vs us xs ys:List Value) (i:Nat),inner t ts=some rs→RpL P G h ts p vs→RpL P G h ts q us →
 (∀(k:Nat) (v:Value),k+rs.length<ts.length→vs[k]? = some v→xs[i+k]? = some v)→(∀(k:Nat) (v:Value),k+rs.length<ts.length→us[k]? = some v→ys[i+k]? = some v) →
 rs.length≤ts.length∧∃(a c:DP τ rs) (b:Bool) (av d:Value),RpL P G h rs a (vs.drop (ts.length-rs.length))∧RpL P G h rs c (us.drop (ts.length-rs.length))∧eqD ts p q=(b&&eqD rs a c)∧(part t ⟨xs⟩ i).run P w = .ok av w∧(part t ⟨ys⟩ i).run P w = .ok d w∧(Op.equalIn e t av d).run P w = .ok b w
theorem zw3 {inner:TypeId→List Ty→Option (List Ty)} (hi:∀t ts rs,inner t ts=some rs→rs.length≤ts.length):∀{fs:List Field} {ts rs:List Ty} {i:Nat},zzG inner fs ts i=some rs→rs.length≤ts.length
 | [],ts,rs,i,e=>by cases e; exact Nat.le_refl _
 | f::fs,ts,rs,i,e=>by
  unfold zzG at e
  cases a:(Nat.beq f.offset i&&decide (f.name ≠ "_")) with
  | false=>rw [a] at e; cases e
  | true =>
   rw [a] at e;dsimp only [cond_true] at e
   split at e
   ·rename_i b h1
    exact Nat.le_trans (zw3 hi e) (hi _ _ _ h1)
   ·cases e
theorem zzH {P:Program} (t:TypeId) (ts rs:List Ty) (e:inn0 P t ts=some rs):rs.length≤ts.length:=by
 unfold inn0 at e
 split at e
 ·rename_i u us
  cases a:scB P t u with
  | false=>rw [a] at e; cases e
  | true=>rw [a] at e; cases e; simp
 ·cases e
theorem zLY {P:Program} (t:TypeId) (ts rs:List Ty) (e:inn1 P t ts=some rs):rs.length≤ts.length:=by
 unfold inn1 at e
 split at e
 ·split at e
  ·rename_i h1
   split at e
   ·rename_i s _
    cases a:(!(P.stoodInHeld t)&&Nat.beq (s+_) ts.length) with
    | false=>rw [a] at e; cases e
    | true=>rw [a] at e; cases e; exact zw3 zzH h1
   ·cases e
  ·cases e
 ·exact zzH _ _ _ e
theorem zw4 {e:Nat} {inner:TypeId→List Ty→Option (List Ty)} (c:∀t ts rs,inner t ts=some rs→rs.length≤ts.length) (hi:EqOk P G h w e inner):∀{fs:List Field} {ts rs:List Ty} {i:Nat} {p q:DP τ ts} {xs ys vs us:List Value},zzG inner fs ts i=some rs→RpL P G h ts p vs→RpL P G h ts q us →
  (∀(k:Nat) (v:Value),k+rs.length<ts.length→vs[k]? = some v→xs[i+k]? = some v)→(∀(k:Nat) (v:Value),k+rs.length<ts.length→us[k]? = some v→ys[i+k]? = some v) →
  ∃(l n:DP τ rs) (b:Bool),RpL P G h rs l (vs.drop (ts.length-rs.length))∧RpL P G h rs n (us.drop (ts.length-rs.length))∧eqD ts p q=(b&&eqD rs l n)∧(Op.eqFields e ⟨xs⟩ ⟨ys⟩ fs).run P w = .ok b w
 | [],ts,rs,i,p,q,xs,ys,vs,us,a,h1,h2,_,_=>by
  cases a;rw [Nat.sub_self,List.drop_zero,List.drop_zero];exact ⟨p,q,true,h1,h2,by simp,by simp [Op.eqFields]⟩
 | f :: fs,ts,rs,i,p,q,xs,ys,vs,us,a,h1,h2,m,x=>by
  unfold zzG at a
  cases hc:(Nat.beq f.offset i&&decide (f.name ≠ "_")) with
  | false=>rw [hc] at a; cases a
  | true =>
   rw [hc] at a;dsimp only [cond_true] at a;simp only [Bool.and_eq_true,Nat.beq_eq,decide_eq_true_eq] at hc;obtain ⟨I,hn⟩:=hc
   split at a
   ·rename_i u j
    have B:=zw3 c a;obtain ⟨M,O,N,o,av,Q,C,D,L,z,r,F⟩:=hi _ _ _ p q vs us xs ys i j h1 h2 (fun k v g=>m k v (by omega)) (fun k v g=>x k v (by omega));obtain ⟨J,H,K,s,y,E,A⟩:=zw4 c hi (xs:=xs) (ys:=ys) a C D
     (fun k v g d=>by rw [List.getElem?_drop] at d; rw [Nat.add_assoc]; exact m _ v (by omega) d) (fun k v g d=>by rw [List.getElem?_drop] at d; rw [Nat.add_assoc]; exact x _ v (by omega) d)
    rw [List.drop_drop,show ts.length-u.length+(u.length-rs.length)=ts.length-rs.length by omega] at s y;refine ⟨J,H,o&&K,s,y,by rw [L,E,Bool.and_assoc],?_⟩;rw [← I] at z r;simp only [Op.eqFields,hn,ne_eq,not_false_iff,if_true,Sem.run_bind,z,r,F,Result.andThen_ok]
    cases o with
    | true=>simpa using A
    | false=>simp
   ·cases a
theorem zJG (e:Nat):EqOk P G h w (e+1) (inn0 P):=by
 intro t ts rs p q vs us xs ys i a h1 h2 j m;unfold inn0 at a
 split at a
 ·rename_i u l
  cases b:scB P t u with
  | false=>rw [b] at a; cases a
  | true =>
   rw [b] at a;cases a
   cases h1 with
   | cons _ _ _ v vs n a2 =>
    cases h2 with
    | cons _ _ _ c us k r =>
     obtain ⟨o,g⟩:=zO7 (w:=w) b n k e;have d:xs[i]? = some v:=j 0 v (by simp) rfl;have f:ys[i]? = some c:=m 0 c (by simp) rfl;refine ⟨by simp,p.tl,q.tl,eqV u p.hd q.hd,v,c,?_,?_,zLX,by simp [part,g,d,Result.andThen],by simp [part,g,f,Result.andThen],o⟩
     ·simpa using a2
     ·simpa using r
 ·cases a
theorem zO9 (e:Nat):EqOk P G h w (e+2) (inn1 P):=by
 intro t ts rs p q vs us xs ys i a h1 h2 x y;unfold inn1 at a
 split at a
 ·rename_i C o
  split at a
  ·rename_i F A
   split at a
   ·rename_i s r
    cases hc:(!(P.stoodInHeld t)&&Nat.beq (s+F.length) ts.length) with
    | false=>rw [hc] at a; cases a
    | true =>
     rw [hc] at a;cases a;simp only [Bool.and_eq_true,Bool.not_eq_true',Nat.beq_eq] at hc;obtain ⟨B,N⟩:=hc
     have c:∀{l d:List Value},(∀(k:Nat) (v:Value),k+rs.length<ts.length→l[k]? = some v→d[i+k]? = some v)→∀(k:Nat) (v:Value),k+rs.length<ts.length→l[k]? = some v→((d.drop i).take s)[0+k]? = some v:=by
      intro l d I k v z H;rw [Nat.zero_add,List.getElem?_take,if_pos (by omega),List.getElem?_drop];exact I k v z H
     obtain ⟨m,n,b,D,E,M,L⟩:=zw4 zzH (zJG e) A h1 h2 (c x) (c y)
     have f:P.fieldsOf t=⟨C⟩:=by unfold Program.fieldsOf; rw [o]
     have u:(isAgg t).run P w = .ok true w:=by simp [isAgg,run_underlying o,Result.andThen]
     have j:∀d:List Value,(part t ⟨d⟩ i).run P w = .ok (.agg ⟨(d.drop i).take s⟩) w:=by
      intro d;simp [part,u,zeo (zgp r),Result.andThen,List.extract_eq_take_drop]
     refine ⟨by omega,m,n,b,_,_,D,E,M,j xs,j ys,?_⟩;rw [run_equalIn_struct w (e+1) t _ _ (by rw [f]; exact o) B,f];exact L
   ·cases a
  ·cases a
 ·obtain ⟨J,m,n,b,av,K,g⟩:=zJG (P:=P) (G:=G) (h:=h) (w:=w) (e+1) t ts rs p q vs us xs ys i a h1 h2 x y;exact ⟨J,m,n,b,av,K,g⟩
theorem zH6 {fs:List Field} {ts:List Ty} {p q:DP τ ts} {xs ys vs us:List Value} (d:Nat) (c:zDH P fs ts=true) (h1:RpL P G h ts p vs) (h2:RpL P G h ts q us) (e:∀(k:Nat) (v:Value),vs[k]? = some v→xs[k]? = some v) (i:∀(k:Nat) (v:Value),us[k]? = some v→ys[k]? = some v) :
  (Op.eqFields (d+2) ⟨xs⟩ ⟨ys⟩ fs).run P w = .ok (eqD ts p q) w:=by
 unfold zDH at c
 split at c
 ·rename_i g
  obtain ⟨l,m,b,_,_,j,f⟩:=zw4 zLY (zO9 d) g h1 h2 (fun k v _ a=>by rw [Nat.zero_add]; exact e k v a) (fun k v _ a=>by rw [Nat.zero_add]; exact i k v a);rw [j,f,zO8,Bool.and_true]
 ·cases c
theorem zPa {X:Cx τ} (h1:tyB X.P X.G X.ty=true) (h2:∀n x y,(X.G.fs n).all zhI=true→(∃t,asc X.ty t=some (.st n))→X.G.eq n x y=eqD (X.G.fs n) (X.G.dtor n x) (X.G.dtor n y)):TyOk X:=by
 refine ⟨fun p hp=>?_,fun t n hn d p q h xs ys g l=>?_⟩
 ·have:=List.all_eq_true.1 h1 p hp;simp only [Bool.and_eq_true] at this;have a:=this.1;unfold elB at a
  split at a
  ·rename_i i hi
   split at a
   ·rename_i z o
    simp only [Bool.and_eq_true,Nat.beq_eq,Nat.blt_eq] at a;exact ⟨i,z,hi,o,a.1.1,a.1.2,a.2⟩
   ·cases a
  ·cases a
 ·have:=List.all_eq_true.1 h1 (t,.st n) (znE hn);simp only [Bool.and_eq_true] at this;have a:=this.2;rw [d] at a;have a:zLW X.P X.G t n=true:=a;unfold zLW at a
  split at a
  ·rename_i fs e
   simp only [Bool.and_eq_true,Bool.not_eq_true'] at a;obtain ⟨⟨m,f⟩,j⟩:=a;refine ⟨f,fun w=>?_⟩
   have b:X.P.fieldsOf t=⟨fs⟩:=by unfold Program.fieldsOf; rw [e]
   rw [run_equalIn_struct w 9999 t ⟨xs⟩ ⟨ys⟩ (by rw [b]; exact e) m,b];rw [h2 n _ _ d ⟨t,hn⟩,X.G.dc,X.G.dc];exact zH6 9997 j g l (fun k v c=>c) (fun k v c=>c)
  ·cases a
end
end Go.Rk
end
section
namespace Go.Rk
open Go.RowKit Go.Dm Go.Dk
variable {τ:Nat→Type}
variable {P:Program} {f:FuncId} {ty:List (TypeId × Ty)} {e:Ty} {v:Value} {t:Ty}
def encV:(t:Ty)→t.den τ→Value
 | .bool,x => .bool x
 | .int,x => .int .i64 x
 | .u8,(x:UInt8) => .int .u8 x.toNat
 | .u16,(x:UInt16) => .int .u16 x.toNat
 | .str,x=>str x
 | _,_=>undef
def zrq:(ts:List Ty)→DP τ ts→List Value
 | [],_=>[]
 | t::ts,p=>encV t p.hd::zrq ts p.tl
def zs5 (G:Sig τ) (e:Ty) (xs:List (e.den τ)):List Value:=xs.flatMap fun x=>zrq (ets G e) (edt G e x)
section
variable {P:Program} {G:Sig τ} {h h':Fz} {w w':World}
theorem zNo {x:t.den τ} (b:zhI t=true) (a:Rp P G h t x v):v=encV t x:=by
 cases a<;>first|(cases b; done)|rfl
theorem zNp (x:t.den τ) (a:zhI t=true):Rp P G h t x (encV t x):=by
 cases t<;>first|(cases a; done)|constructor
theorem zKa:∀{ts:List Ty} {p:DP τ ts} {vs:List Value},RpL P G h ts p vs→ts.all zhI=true→vs=zrq ts p
 | _,_,_,.nil,_=>rfl
 | _,_,_,.cons t ts p v vs h1 h2,a=>by
  simp only [List.all_cons,Bool.and_eq_true] at a;rw [zNo a.1 h1,zKa h2 a.2]; rfl
theorem zKb:∀{ts:List Ty} (p:DP τ ts),ts.all zhI=true→RpL P G h ts p (zrq ts p)
 | [],_,_ => .nil
 | t::ts,p,a=>by
  simp only [List.all_cons,Bool.and_eq_true] at a;exact .cons t ts p _ _ (zNp _ a.1) (zKb _ a.2)
theorem zFe:∀{e:Ty} {xs:List (e.den τ)} {vs:List Value},RpR P G h e xs vs→(ets G e).all zhI=true→vs=zs5 G e xs
 | _,_,_,.nil e,_=>rfl
 | _,_,_,.cons e x xs vs b h1 h2,a=>by
  rw [zKa h1 a,zFe h2 a]; rfl
theorem zJb {e:Ty} (a:(ets G e).all zhI=true):∀(xs:List (e.den τ)),RpR P G h e xs (zs5 G e xs)
 | [] => .nil e
 | x::xs => .cons e x xs _ _ (zKb _ a) (zJb a xs)
theorem zJc {x:t.den τ} {fp:List Nat} (b:frz t=true) (a:Tr P G h w t x v fp):fp=[]∧Rp P G h t x v:=by
 cases a<;>first|(cases b; done)|exact ⟨rfl, ‹_›⟩
theorem zNq {x:t.den τ} {fp:List Nat} (a:zhI t=true) (b:TrX P G h w t x v fp):v=encV t x∧fp=[]:=by
 cases t<;>first|(cases a; done)|skip
 all_goals
  obtain ⟨h1,h2⟩:=zJc rfl (show Tr P G h w _ x v fp from b);exact ⟨zNo rfl h2,h1⟩
theorem zrr:∀{ts:List Ty} {p:DP τ ts} {vs:List Value} {fp:List Nat},TrXs P G h w ts p vs fp→ts.all zhI=true→vs=zrq ts p∧fp=[]
 | _,_,_,_,.nil,_=>⟨rfl,rfl⟩
 | _,_,_,_,.cons t ts p v vs f f' h1 h2 hd,a=>by
  simp only [List.all_cons,Bool.and_eq_true] at a;obtain ⟨c,e⟩:=zNq a.1 h1;obtain ⟨d,b⟩:=zrr h2 a.2;exact ⟨by rw [c,d]; rfl,by rw [e,b]; rfl⟩
theorem zPW (x:t.den τ) (a:zhI t=true):TrX P G h w t x (encV t x) []:=by
 cases t<;>first|(cases a; done)|exact .fz _ _ _ rfl (zNp _ rfl)
theorem zs6:∀{ts:List Ty} (p:DP τ ts),ts.all zhI=true→TrXs P G h w ts p (zrq ts p) []
 | [],_,_ => .nil
 | t::ts,p,a=>by
  simp only [List.all_cons,Bool.and_eq_true] at a;exact .cons t ts p _ _ [] [] (zPW _ a.1) (zs6 _ a.2) (fun b c=>by cases c)
theorem zrs (c:h.on w) (a:Below w.heap.size w w'):Left h w [] h w' [] :=
 ⟨a.os,a.tape,a.output,a.size,fun b h1 _=>a.block b h1,Fz.le.refl _,fun b o e=>(a.block b (Array.getElem?_eq_some_iff.1 (c b o e)).1).trans (c b o e),fun b a => .inl a,fun b a=>by cases a⟩
theorem zgo {k:Con τ} (g:k.ps.all zhI=true) (n:k.rs.all zhI=true) (l:k.bk=[]) (hn:k.nr=k.rs.length) (hc:zfu P f)
  (H:∀(w:World) (h:Fz) (p:DP τ k.ps) (r:DP τ k.rs),h.on w→zth P G h→k.m p=some r→Calls P f (zrq k.ps p).toArray w fun e w'=>e = .returned (zzQ (zrq k.rs r))∧Below w.heap.size w w'):COk P G f k:=by
 refine ⟨hc,fun h w p r vs fp c _ a b _ j=>?_⟩;obtain ⟨rfl,rfl⟩:=zrr b g;refine Calls.mono (H w h p r a c j) ?_;rintro e w' ⟨rfl,d⟩
 have o:(zrq k.rs r).length=k.rs.length:=by
  have:∀(ts:List Ty) (p:DP τ ts),(zrq ts p).length=ts.length:=by
   intro ts
   induction ts with
   | nil=>intro p; rfl
   | cons t ts i=>intro p; simp [zrq,i]
  exact this _ _
 refine ⟨h,zrq k.rs r,[],by rw [List.take_of_length_le (by omega)],zrs a d,zs6 r n,?_⟩;rw [l,List.drop_eq_nil_of_le (by omega)]; rfl
theorem zHq {g:Nat} {R:List (e.den τ)} {ad:Option Addr} {n c:Nat} (m:(ets G e).all zhI=true) (d:h.on w) (k:Own w [] w' [.row (.slice ad n c) g (ets G e).length R.length (zs5 G e R)]) :
  Left h w [] h w' (Value.slice ad n c).ownBlock.toList∧TrXs P G h w' [.so g e] R [.slice ad n c] (Value.slice ad n c).ownBlock.toList:=by
 obtain ⟨h1,_,q,s,p,r,_⟩:=zrs d k.below;have j:w'.ownsRow 0 g (ets G e).length (.slice ad n c) R.length (zs5 G e R):=k.get (i:=0) rfl
 have f:∀b∈(Value.slice ad n c).ownBlock.toList,w.heap.size≤b:=fun b a=>by
  rcases k.fresh _ (List.mem_singleton.2 rfl) rfl b a with h|h
  ·cases h
  ·exact h
 have a:=zrs d k.below;refine ⟨⟨a.os,a.tape,a.output,a.size,a.frame,a.le,a.on,a.new,fun b l=>⟨?_,.inr (f b l)⟩⟩,?_⟩
 ·cases e1:h b with
  | none=>rfl
  | some o =>
   have:=(Array.getElem?_eq_some_iff.1 (d b o e1)).1;have:=f b l;omega
 ·have:=TrXs.cons (P:=P) (G:=G) (h:=h) (w:=w') (.so g e) [] R (.slice ad n c) [] _ [] (Tr.so g e R _ _ (zhj.of_row j) (zJb m R)) .nil (fun b _ h=>by cases h);rw [List.append_nil] at this;exact this
theorem zLe {j:Nat} {R:List (e.den τ)} {ad:Option Addr} {n c:Nat} {F:List Nat} (p:(ets G e).all zhI=true) (l:h.on w) (a:∀b∈F,h b=none) (d:Own w F w' [.row (.slice ad n c) j (ets G e).length R.length (zs5 G e R)]) :
  Left h w F h w' (Value.slice ad n c).ownBlock.toList∧TrXs P G h w' [.so j e] R [.slice ad n c] (Value.slice ad n c).ownBlock.toList:=by
 have m:w'.ownsRow 0 j (ets G e).length (.slice ad n c) R.length (zs5 G e R):=d.get (i:=0) rfl;have g:∀b∈(Value.slice ad n c).ownBlock.toList,b∈F∨w.heap.size≤b:=fun b f=>d.fresh _ (List.mem_singleton.2 rfl) rfl b f;have k:∀b o,h b=some o→b<w.heap.size:=fun b o e=>(Array.getElem?_eq_some_iff.1 (l b o e)).1;refine ⟨⟨d.os,d.tape,d.output,d.size,d.frame,Fz.le.refl _,fun b o e=>(d.frame b (k b o e) fun q=>by rw [a b q] at e; cases e).trans (l b o e),fun b f => .inl f,fun b f=>⟨?_,g b f⟩⟩,?_⟩
 ·rcases g b f with h1|h1
  ·exact a b h1
  ·cases e1:h b with
   | none=>rfl
   | some o=>have:=k b o e1; omega
 ·have:=TrXs.cons (P:=P) (G:=G) (h:=h) (w:=w') (.so j e) [] R (.slice ad n c) [] _ [] (Tr.so j e R _ _ (zhj.of_row m) (zJb p R)) .nil (fun b _ h=>by cases h);rw [List.append_nil] at this;exact this
theorem so_fp {a:Nat} {x:List (e.den τ)} {f:List Nat} (b:Tr P G h w (.so a e) x v f):f=v.ownBlock.toList:=by
 cases b with
 | fz _ _ _ c _=>cases c
 | so _ _ _ _ vs g d=>rfl
theorem zNr {d:Nat} {x:List (e.den τ)} {f:List Nat} (hd:G.dr d=false) (l:(ets G e).all zhI=true) (k:Tr P G h w (.so d e) x v f):∃ad c,v = .slice ad x.length c∧w.ownsRow 0 d (ets G e).length v x.length (zs5 G e x):=by
 cases k with
 | fz _ _ _ i _=>cases i
 | so _ _ _ _ vs b m =>
  rw [zFe m l] at b
  replace b:=b.row hd
  have a:=b;obtain ⟨_,⟨j,i⟩|⟨g,cap,cur,j,_⟩⟩:=b
  ·exact ⟨none,0,by rw [i]; exact j,a⟩
  ·exact ⟨_,_,j,a⟩
theorem zNs {ts:List Ty} {b:Nat} {m:DP τ ts→Option (DP τ [.so b e])} (j:ts.all zhI=true) (n:(ets G e).all zhI=true) (hc:zfu P f)
  (H:∀(w:World) (h:Fz) (p:DP τ ts) (R:List (e.den τ)),h.on w→zth P G h→m p=some R→Calls P f (zrq ts p).toArray w fun o w'=>∃d i,o = .returned (.slice d R.length i)∧Own w [] w' [.row (.slice d R.length i) b (ets G e).length R.length (zs5 G e R)]):COk P G f ⟨ts,[.so b e],1,[],m⟩:=by
 refine ⟨hc,fun h w p r vs fp g _ a c _ l=>?_⟩;obtain ⟨rfl,rfl⟩:=zrr c j;refine Calls.mono (H w h p r a g l) ?_;rintro q w' ⟨d,i,rfl,k⟩;obtain ⟨h1,h2⟩:=zHq (P:=P) n a k;exact ⟨h,_,_,rfl,h1,h2,rfl⟩
theorem zwI {n:Nat} {m:List (e.den τ)→Option (List (e.den τ))} (o:(ets G e).all zhI=true) (hc:zfu P f)
  (H:∀(w:World) (h:Fz) (xs R:List (e.den τ)) (ad:Option Addr) (c:Nat),h.on w→zth P G h→m xs=some R→ze1 w ad (zs5 G e xs)→xs.length≤c→Calls P f #[.slice ad xs.length c] w fun x w'=>∃g l,x = .returned (.slice g R.length l)∧Own w [] w' [.row (.slice g R.length l) n (ets G e).length R.length (zs5 G e R)]):COk P G f ⟨[.sl e],[.so n e],1,[],m⟩:=by
 refine ⟨hc,fun h w p r vs fp k _ a d _ u=>?_⟩
 cases d with
 | cons _ _ _ v vs f f' h1 h2 hd =>
  cases h2;obtain ⟨rfl,y⟩:=zJc rfl (show Tr P G h w (.sl e) p v f from h1)
  cases y with
  | sl _ _ ad c us j b i =>
   rw [zFe i o] at b;refine Calls.mono (H w h p r ad c a k u (b.sees a) j) ?_;rintro z w' ⟨g,l,rfl,q⟩;obtain ⟨s,t⟩:=zHq (P:=P) o a q;exact ⟨h,_,_,rfl,s,t,rfl⟩
theorem zPX {a:Nat} {m:DP τ [.so a e,.int,.so a e]→Option (List (e.den τ))} (q:G.dr a=false) (I:(ets G e).all zhI=true) (hc:zfu P f)
  (H:∀(w:World) (h:Fz) (xs:List (e.den τ)) (i:Int) (ys R:List (e.den τ)) (ad g:Option Addr) (c n:Nat) (F:List Nat),h.on w→zth P G h→(∀b∈F,h b=none)→m (xs,i,ys)=some R→Own w F w [.row (.slice ad xs.length c) a (ets G e).length xs.length (zs5 G e xs),.row (.slice g ys.length n) a (ets G e).length ys.length (zs5 G e ys)] →
   Calls P f #[.slice ad xs.length c,.int .i64 i,.slice g ys.length n] w fun e' w'=>∃A J,e' = .returned (.slice A R.length J)∧Own w F w' [.row (.slice A R.length J) a (ets G e).length R.length (zs5 G e R)]):COk P G f ⟨[.so a e,.int,.so a e],[.so a e],1,[],m⟩:=by
 refine ⟨hc,fun h w p r vs fp E _ x z d X=>?_⟩
 cases z with
 | cons _ _ _ v vs f f' h1 h2 hd =>
  cases h2 with
  | cons _ _ _ v2 L f2 Z Q h4 S =>
   cases h4 with
   | cons _ _ _ v3 M y Y K V O =>
    cases V;obtain ⟨rfl,rfl⟩:=zNq (t := .int) rfl Q;obtain ⟨ad,c,rfl,B⟩:=zNr q I (show Tr P G h w (.so a e) p.1 v f from h1);obtain ⟨g,n,rfl,C⟩:=zNr q I (show Tr P G h w (.so a e) p.2.2 v3 y from K);have l:=so_fp (show Tr P G h w (.so a e) p.1 _ f from h1);have o:=so_fp (show Tr P G h w (.so a e) p.2.2 _ y from K)
    have T:Own w (f++([]++(y++[]))) w [.row (.slice ad p.1.length c) a (ets G e).length p.1.length (zs5 G e p.1),.row (.slice g p.2.2.length n) a (ets G e).length p.2.2.length (zs5 G e p.2.2)]:=by
     refine ⟨rfl,rfl,rfl,Nat.le_refl _,fun _ _ _=>rfl,?_,?_,?_⟩
     ·intro r j
      rcases List.mem_cons.1 j with rfl|j
      ·exact B
      ·rw [List.mem_singleton.1 j]; exact C
     ·intro r j _ b u
      left
      rcases List.mem_cons.1 j with rfl|j
      ·exact List.mem_append_left _ (by rw [l]; exact u)
      ·rw [List.mem_singleton.1 j] at u;exact List.mem_append_right _ (by rw [o,List.append_nil]; exact u)
     ·refine .cons (fun s N => .inr fun b u k=>?_) (.cons (fun _ h=>by cases h) .nil);rw [List.mem_singleton.1 N] at k;exact hd b (by rw [l]; exact u) (by rw [o,List.append_nil]; exact k)
    refine Calls.mono (H w h p.1 p.2.1 p.2.2 r ad g c n _ x E d X T) ?_;rintro e1 w' ⟨A,J,rfl,D⟩;obtain ⟨U,W⟩:=zLe (P:=P) I x d D;exact ⟨h,_,_,rfl,U,W,rfl⟩
theorem zNt {m:List Str × Str→Option Str} (hc:zfu P f)
  (H:∀(w:World) (h:Fz) (xs:List Str) (s R:Str) (ad:Option Addr) (c:Nat),h.on w→zth P G h→m (xs,s)=some R→ze1 w ad (xs.map str)→xs.length≤c→Calls P f #[.slice ad xs.length c,str s] w fun q w'=>q = .returned (str R)∧Below w.heap.size w w'):COk P G f ⟨[.sl .str,.str],[.str],1,[],m⟩:=by
 refine ⟨hc,fun h w p r vs fp i _ b d _ n=>?_⟩
 cases d with
 | cons _ _ _ v vs f f' h1 h2 hd =>
  obtain ⟨rfl,rfl⟩:=zrr h2 rfl;obtain ⟨rfl,t⟩:=zJc rfl (show Tr P G h w (.sl .str) p.1 v f from h1)
  cases t with
  | sl _ _ ad c us g a e =>
   rw [zFe e rfl] at a
   have o:zs5 G .str p.1=p.1.map str:=by
    show List.flatMap _ _=_;generalize p.1=l
    induction l with
    | nil=>rfl
    | cons x l k=>rw [List.flatMap_cons,k]; rfl
   rw [o] at a;refine Calls.mono (H w h p.1 p.2 r ad c b i n (a.sees b) g) ?_;rintro u w' ⟨rfl,j⟩;exact ⟨h,[str r],[],rfl,zrs b j,zs6 (ts:=[.str]) r rfl,rfl⟩
end
structure CLs (P:Program) (G:Sig τ) where
 cs:zy7 τ
 ok:∀q∈cs,COk P G q.1 q.2
def CLs.nil {P:Program} {G:Sig τ}:CLs P G:=⟨[],fun q h=>by cases h⟩
def CLs.add {P:Program} {G:Sig τ} (C:CLs P G) {f:FuncId} {k:Con τ} (h:COk P G f k):CLs P G:=⟨(f,k)::C.cs,fun q a=>by
 rcases List.mem_cons.1 a with rfl|a
 ·exact h
 ·exact C.ok q a⟩
def fnB (fn:Func) (n:Nat) (k:Con τ):Bool:=(match fn.body with
 | some _=>true
 | none=>false)&&Nat.beq fn.ntmps n&&Nat.ble n gh&&Nat.ble k.ps.length n&&k.rs.all noPr
def bdyF (fn:Func):Code:=match fn.body with
 | some c=>c
 | none => .skip
theorem zNu {G:Sig τ} (g:P.follows .mixedOrders=true) (hNm:∀(f:FuncId) (fn:Func),P.funcs[f]? = some fn→(fn.name == "runtime.NumGoroutine")=false) {cs:zy7 τ} {f:FuncId} {fn:Func} {k:Con τ} (n:Nat)
  (h1:P.funcs[f]? = some fn) (h2:fnB fn n k=true) {hn:Hn τ (DP τ k.rs)} {op:(Nat→Value)→OpF τ (DP τ k.rs)} (d:∀fx w0 h0 F,zv9 (Cx.w (⟨P,G,ty,cs,n,fun _ => .bool false⟩:Cx τ) fx) w0 h0 F (op fx)) (h:zui (⟨P,G,ty,cs,n,fun _ => .bool false⟩:Cx τ) k (bdyF fn) fn.results.toList hn op):COk P G f k:=by
 simp only [fnB,Bool.and_eq_true,Nat.beq_eq,Nat.ble_eq] at h2;obtain ⟨⟨⟨⟨e,b⟩,a⟩,hp⟩,i⟩:=h2;refine zPr (X:=⟨P,G,ty,cs,n,fun _ => .bool false⟩) g d ⟨h1,?_,hNm f fn h1,b,a,hp,rfl,i⟩ h;unfold bdyF
 split at e
 ·rename_i c hc; rw [hc]
 ·cases e
theorem zFf {G:Sig τ} (b:P.follows .mixedOrders=true) (hNm:∀(f:FuncId) (fn:Func),P.funcs[f]? = some fn→(fn.name == "runtime.NumGoroutine")=false) (a:∀cs n,TyOk (⟨P,G,ty,cs,n,fun _ => .bool false⟩:Cx τ)) (C:CLs P G) {f:FuncId} {fn:Func} {k:Con τ} (n:Nat)
  (h1:P.funcs[f]? = some fn) (h2:fnB fn n k=true) {hn:Hn τ (DP τ k.rs)} (c:zui (⟨P,G,ty,C.cs,n,fun _ => .bool false⟩:Cx τ) k (bdyF fn) fn.results.toList hn):COk P G f k :=
 zNu b hNm n h1 h2 (fun fx _ _ _ _ _ _ _ _ _ e=>zqu (X:=Cx.w (⟨P,G,ty,C.cs,n,fun _ => .bool false⟩:Cx τ) fx) ⟨(a C.cs n).el,(a C.cs n).eq⟩ C.ok e) c
def zxI {P:Program} {G:Sig τ} (ty:List (TypeId × Ty)) (C:CLs P G) (B:Bt (FnS P)) (n:Nat) (fx:Nat→Value):Zx (Cx.w (⟨P,G,ty,C.cs,n,fun _ => .bool false⟩:Cx τ) fx):=⟨fun _=>C.cs,B⟩
noncomputable def opJ {ρ:Type} {P:Program} {G:Sig τ} (ty:List (TypeId × Ty)) (C:CLs P G) (B:Bt (FnS P)) (n m:Nat) (fx:Nat→Value):OpF τ ρ:=opZ _ (zxI ty C B n fx) (inZ _ (zxI ty C B n fx) m)
theorem ztO {G:Sig τ} (b:P.follows .mixedOrders=true) (hNm:∀(f:FuncId) (fn:Func),P.funcs[f]? = some fn→(fn.name == "runtime.NumGoroutine")=false) (a:∀cs n,TyOk (⟨P,G,ty,cs,n,fun _ => .bool false⟩:Cx τ)) (C:CLs P G) (B:Bt (FnS P)) {f:FuncId} {fn:Func} {k:Con τ} (n m:Nat)
  (h1:P.funcs[f]? = some fn) (h2:fnB fn n k=true) {hn:Hn τ (DP τ k.rs)} (c:zui (⟨P,G,ty,C.cs,n,fun _ => .bool false⟩:Cx τ) k (bdyF fn) fn.results.toList hn (opJ ty C B n m)):COk P G f k :=
 zNu b hNm n h1 h2 (fun fx _ _ _=>zLR (X:=Cx.w (⟨P,G,ty,C.cs,n,fun _ => .bool false⟩:Cx τ) fx) (Z:=zxI ty C B n fx) ⟨(a C.cs n).el,(a C.cs n).eq⟩ C.ok hNm (fun _=>C.ok) (zH0 (X:=Cx.w (⟨P,G,ty,C.cs,n,fun _ => .bool false⟩:Cx τ) fx) (Z:=zxI ty C B n fx) b (fun _=>C.ok) ⟨(a C.cs n).el,(a C.cs n).eq⟩ C.ok hNm m)) c
theorem zHr {G:Sig τ} {k:Con τ} (hc:zfu P f) (h:∀p,k.m p=none):COk P G f k:=⟨hc,fun _ _ p r _ _ _ _ _ _ _ a=>by rw [h p] at a; cases a⟩
theorem zNv (h:(P.funcs.toList.all fun fn => !(fn.name == "runtime.NumGoroutine"))=true):∀(f:FuncId) (fn:Func),P.funcs[f]? = some fn→(fn.name == "runtime.NumGoroutine")=false:=by
 intro f fn a;have:=List.all_eq_true.1 h fn (by rw [← Array.getElem?_toList] at a; exact List.mem_of_getElem? a);simpa using this
noncomputable def eqsB (G:Sig τ) (ty:List (TypeId × Ty)) (eqs:List Nat):Bool:=ty.all fun p=>match p.2 with
 | .st n=>bif (G.fs n).all zhI then mem eqs n else true
 | _=>true
theorem zNw {G:Sig τ} (eqs:List Nat) (h1:tyB P G ty=true) (h2:eqsB G ty eqs=true) (d:∀n∈eqs, ∀x y,G.eq n x y=eqD (G.fs n) (G.dtor n x) (G.dtor n y)):∀cs n,TyOk (⟨P,G,ty,cs,n,fun _ => .bool false⟩:Cx τ):=fun cs n=>zPa h1 fun n x y b ⟨t,c⟩=>by
 have a:=List.all_eq_true.1 h2 (t,.st n) (znE c);have b:(G.fs n).all zhI=true:=b;have a:(bif (G.fs n).all zhI then mem eqs n else true)=true:=a;rw [b] at a;exact d n (zeP.1 a) x y
theorem fp_nil:∀p∈([]:List (FuncId × (UInt8→Option Bool))),zJt P p.2 p.1:=fun p h=>by cases h
theorem zb1 {m:UInt8→Option Bool} {l:List (FuncId × (UInt8→Option Bool))} (h:zJt P m f) (t:∀p∈l,zJt P p.2 p.1):∀p∈(f,m)::l,zJt P p.2 p.1:=fun p hp=>by
 rcases List.mem_cons.1 hp with rfl|hp
 ·exact h
 ·exact t p hp
theorem zrt {h h':Fz} {w w':World} {fp':List Nat} (a:Left h w [] h' w' fp'):Below w.heap.size w w':=⟨a.os,a.tape,a.output,a.size,fun b c=>a.frame b c (by simp)⟩
theorem zgu {G:Sig τ} {m:UInt8→Option Bool} (h1:∀h,zth P G h) (h2:zFx P G) (h:COk P G f ⟨[.u8],[.bool],1,[],m⟩):zJt P m f:=⟨h.1,fun c r w g=>by
 refine Calls.mono (h.2 (fun _=>none) w c r [zcs c] [] (h1 _) h2 (fun b o e=>by cases e) (zs6 (ts:=[.u8]) c rfl) (fun b i=>by cases i) g) ?_;rintro e w' ⟨h',rs,fp',rfl,d,a,_⟩;obtain ⟨rfl,_⟩:=zrr a rfl
 exact ⟨rfl,zrt d⟩⟩
theorem zA0 {G:Sig τ} {k:Con τ} (j:k.ps.all zhI=true) (u:k.rs.all zhI=true) (i:k.bk=[]) (hn:k.nr=k.rs.length) (l:COk P G f k) (a:zFx P G) {p:DP τ k.ps} {r:DP τ k.rs} (q:k.m p=some r) {h:Fz} {w:World} (g:h.on w) (d:zth P G h) :
  Calls P f (zrq k.ps p).toArray w fun e w'=>e = .returned (zzQ (zrq k.rs r))∧Below w.heap.size w w':=by
 refine Calls.mono (l.2 h w p r (zrq k.ps p) [] d a g (zs6 p j) (fun b i=>by cases i) q) ?_;rintro e w' ⟨h',rs,fp',rfl,o,c,_⟩;obtain ⟨rfl,_⟩:=zrr c u
 have s:(zrq k.rs r).length=k.rs.length:=by
  have:∀(ts:List Ty) (p:DP τ ts),(zrq ts p).length=ts.length:=by
   intro ts
   induction ts with
   | nil=>intro p; rfl
   | cons t ts n=>intro p; simp [zrq,n]
  exact this _ _
 exact ⟨by rw [List.take_of_length_le (by omega)],zrt o⟩
def ctOf {P:Program} {G:Sig τ} (T:Bt (CLs P G)) (f:FuncId):zy7 τ:=match T.get f with
 | some C=>C.cs
 | none=>[]
theorem zPY {G:Sig τ} {T:Bt (CLs P G)}:∀f, ∀q∈ctOf T f,COk P G q.1 q.2:=by
 intro f q a;unfold ctOf at a
 split at a
 ·rename_i C _; exact C.ok q a
 ·cases a
theorem zPZ {X:Cx τ} (j:X.P.follows .mixedOrders=true) (hNm:∀(f:FuncId) (fn:Func),X.P.funcs[f]? = some fn→(fn.name == "runtime.NumGoroutine")=false) (d:TyOk X) (a:zFx X.P X.G) (l:X.cs=[]) {Z:Zx X} (m:∀f, ∀q∈Z.ct f,COk X.P X.G q.1 q.2) {f:FuncId} (hc:zfu X.P f) {k:Nat} (e:zrun X Z k f []=some true) :
  COk X.P X.G f ⟨[],[.bool],1,[],fun _=>some true⟩:=zgo rfl rfl rfl rfl hc fun w h p r on gl b=>by
 have b:some true=some r:=b;cases b;refine Calls.mono (zO5 j m d (fun q c=>by rw [l] at c; cases c) hNm e (h:=h) (w:=w) (vals:=[]) gl a on rfl (fun i A u h1=>by simp at h1)).2 ?_;rintro n w' ⟨rfl,h',g⟩;exact ⟨rfl,zrt g⟩
theorem zP0 {w w':World} (h:Fz.on (fun b=>w.heap[b]?) w'):w.heap.size≤w'.heap.size:=by
 cases hs:w.heap.size with
 | zero=>omega
 | succ n =>
  have:=h n w.heap[n] (Array.getElem?_eq_getElem (by omega));have:=(Array.getElem?_eq_some_iff.1 this).1;omega
theorem zLg (l:List Str):cells (fun x:Str=>[str x]) l=l.map str:=by
 unfold cells
 induction l with
 | nil=>rfl
 | cons x l a=>rw [List.flatMap_cons,a]; rfl
end Go.Rk
end
section
namespace Go.Rk
open Go.RowKit Go.Dm Go.Dk Go.ChangeShapes Go.WideShapes Go.Deep
variable {τ:Nat→Type}
section
variable {H:Type} {enc:TypeId × Value→H} {P:Program} {G:Sig τ} {w:World} {base:Nat} {spare:Nat→Bool} {held:Bool}
def mF (P:Program) (m:List Ty→TypeId→Option (List Ty)):List Field→Nat→List Ty→Option (List Ty × Nat)
 | [],o,ts=>some (ts,o)
 | f::fs,o,ts=>bif Nat.beq f.offset o then (match m ts f.type with
  | some r=>mF P m fs (o+P.cellsOf f.type) r
  | none=>none) else none
def mT (P:Program) (G:Sig τ):Nat→List Ty→TypeId→Option (List Ty)
 | 0,_,_=>none
 | d+1,ts,t=>match P.underlying t with
  | some (.struct ⟨fs⟩)=>match mF P (mT P G d) fs 0 ts with
   | some (r,o)=>bif Nat.beq o (P.cellsOf t) then some r else none
   | none=>none
  | some .string=>match ts with
   | .str::r=>some r
   | _=>none
  | some .bool=>match ts with
   | .bool::r=>some r
   | _=>none
  | some (.int .i64)=>match ts with
   | .int::r=>some r
   | _=>none
  | some (.int .u8)=>match ts with
   | .u8::r=>some r
   | _=>none
  | some (.int .u16)=>match ts with
   | .u16::r=>some r
   | _=>none
  | some (.slice a)=>match ts with
   | .sl e::r=>match mT P G d (ets G e) a with
    | some []=>bif Nat.beq (P.cellsOf a) (ets G e).length&&Nat.blt 0 (ets G e).length then some r else none
    | _=>none
   | _=>none
  | _=>none
theorem zxO {h:Fz} {t:Ty} {ts:List Ty} {x:t.den τ} {q:DP τ ts} {v:Value} {vs:List Value} (h1:Rp P G h t x v) (h2:RpL P G h ts q vs):RpL P G h (t::ts) (.mk x q) (v::vs) := .cons t ts (.mk x q) v vs (by rw [DP.hd_mk]; exact h1) (by rw [DP.tl_mk]; exact h2)
def rgT:(t:Ty)→t.den τ→Prop
 | .int,x => -9223372036854775808≤(show Int from x)∧(show Int from x)≤9223372036854775807
 | _,_=>True
def rgL:(ts:List Ty)→DP τ ts→Prop
 | [],_=>True
 | t::ts,p=>rgT t p.hd∧rgL ts p.tl
theorem zxP {t:Ty} {ts:List Ty} {x:t.den τ} {q:DP τ ts} (h:rgT t x) (h2:rgL ts q):rgL (t::ts) (.mk x q):=⟨by rw [DP.hd_mk]; exact h,by rw [DP.tl_mk]; exact h2⟩
def rgX (G:Sig τ):(t:Ty)→t.den τ→Prop
 | .st n,z=>rgL (G.fs n) (G.dtor n z)
 | t,z=>rgT t z
def rgXs (G:Sig τ):(ts:List Ty)→DP τ ts→Prop
 | [],_=>True
 | t::ts,p=>rgX G t p.hd∧rgXs G ts p.tl
theorem i64_of {n:Int} (h:(Lit.int .i64 n).wf=true) : -9223372036854775808≤n∧n≤9223372036854775807:=by
 have b:IntKind.i64.min = -9223372036854775808:=rfl;have a:IntKind.i64.max=9223372036854775807:=rfl;simpa [Lit.wf,b,a] using h
abbrev hp (w:World):Fz:=fun b=>w.heap[b]?
theorem zKq {h:Fz}:∀{ts:List Ty} {p:DP τ ts} {vs:List Value},RpL P G h ts p vs→vs.length=ts.length
 | [],_,_,h=>by cases h; rfl
 | t::ts,_,_,h=>by cases h with|cons _ _ _ v vs h1 h2=>simp [zKq h2]
theorem zHG {h:Fz} {e:Ty} {z:e.den τ} {a:List Value} (b:RpL P G h (ets G e) (edt G e z) a):∀{xs:List (e.den τ)} {vs:List Value},RpR P G h e xs vs→RpR P G h e (xs++[z]) (vs++a)
 | [],vs,h=>by
  cases h;have:=RpR.cons (P:=P) (G:=G) e z [] a [] b (.nil e);simpa using this
 | x::xs,_,h=>by
  cases h with
  | cons _ _ _ c v2 h1 h2 =>
   have:=RpR.cons e x (xs++[z]) c (v2++a) h1 (zHG b h2);simpa [List.append_assoc] using this
theorem zKr {h:Fz} {e:Ty}:∀{xs:List (e.den τ)} {vs:List Value},RpR P G h e xs vs→vs.length=xs.length*(ets G e).length
 | [],_,h=>by cases h; simp
 | x::xs,_,h=>by
  cases h with
  | cons _ _ _ a v2 h1 h2 =>
   rw [List.length_append,zKq h1,zKr h2,List.length_cons,Nat.add_mul,Nat.one_mul,Nat.add_comm]
theorem zQw {fuel:Nat} {t I:TypeId} {v:Value} {x:DataW H × List MemPlace} {e:Ty} (ht:P.underlying t=some (.slice I)) (hC:P.cellsOf I=(ets G e).length) (U:0<(ets G e).length)
  (Z:∀fuel cs x,DataW.trod enc P w base spare held fuel I cs=some x→∃z:e.den τ,RpL P G (hp w) (ets G e) (edt G e z) cs) (V:DataW.trod enc P w base spare held fuel t [v]=some x) :
  ∃xs:List (e.den τ),Rp P G (hp w) (.sl e) xs v:=by
 rcases open_slice ht V with ⟨f,_⟩|⟨a,len,cap,m,n,D,Pl,f,S,hl,hm,R,hx,A⟩
 ·simp at f;subst f;exact ⟨[],Rp.sl e [] none 0 [] (Nat.le_refl _) (.inl rfl) (.nil e)⟩
 ·simp at f;subst f
  have T:len≤m:=by rw [R]; split<;>omega
  rw [hC] at A
  generalize J:(ets G e).length=sz at *
  have hex:∀i,i<len→∃(z:e.den τ) (E:List Value),RpL P G (hp w) (ets G e) (edt G e z) E∧(∀(j:Nat) v,E[j]? = some v→w.cell? ((a.add (i*sz)).add j)=some v):=by
   intro i hi;obtain ⟨O,hc,L⟩:=A i (by omega);obtain ⟨z,Y⟩:=Z _ _ _ L;exact ⟨z,O,Y,fun j v W=>zLj hc W⟩
  have y:∀k,k≤len→∃(xs:List (e.den τ)) (vs:List Value),xs.length=k∧RpR P G (hp w) e xs vs∧∀(i:Nat) v,vs[i]? = some v→∃q j,i=q*sz+j∧w.cell? ((a.add (q*sz)).add j)=some v:=by
   intro k
   induction k with
   | zero=>intro _; exact ⟨[],[],rfl,.nil e,by simp⟩
   | succ k ih =>
    intro hk;obtain ⟨xs,vs,l,C,o⟩:=ih (by omega);obtain ⟨z,E,K,N⟩:=hex k (by omega);have g:=zKr C;rw [J] at g;refine ⟨xs++[z],vs++E,by simp [l],zHG K C,fun i v p=>?_⟩
    by_cases hi:i<vs.length
    ·rw [List.getElem?_append_left hi] at p; exact o i v p
    ·rw [List.getElem?_append_right (by omega)] at p;refine ⟨k,i-k*sz,?_,N _ v (by rw [g,l] at p; exact p)⟩;rw [g,l] at hi; omega
  obtain ⟨xs,vs,l,C,o⟩:=y len (Nat.le_refl _);refine ⟨xs,?_⟩;rw [← l];refine Rp.sl e xs (some a) cap vs (by omega) ?_ C
  cases vs with
  | nil=>exact .inl rfl
  | cons v0 vr =>
   obtain ⟨q,j,s,d⟩:=o 0 v0 rfl
   have M:q=0:=by
    rcases Nat.eq_zero_or_pos q with h|h
    ·exact h
    ·have:1*sz≤q*sz:=Nat.mul_le_mul_right _ h;omega
   subst M
   have Q:j=0:=by omega
   subst Q
   have ea:(a.add (0*sz)).add 0=a:=by rw [Nat.zero_mul]; unfold Addr.add; simp
   rw [ea] at d;obtain ⟨B,X⟩:=zJf d;obtain ⟨b,off,spot⟩:=a;simp only at B; subst B
   have r:∃c F z2,w.heap[b]? = some (.cells c F z2):=by
    unfold World.cell? at d
    split at d
    ·rename_i c F z2 S; exact ⟨_,_,_,S⟩
    ·cases d
   obtain ⟨c,F,z2,u⟩:=r;refine .inr ⟨b,off,c,F,z2,rfl,u,fun k v p=>?_⟩;obtain ⟨q,j,s,hc⟩:=o k v p;rw [zHv,zHv,Nat.add_assoc, ← s] at hc;unfold World.cell? at hc;dsimp only at hc;rw [u] at hc;simpa using hc
theorem mF_ok {n:Nat} {m:List Ty→TypeId→Option (List Ty)} (u:∀ts t r,m ts t=some r→∀fuel cs x,DataW.trod enc P w base spare held fuel t cs=some x→∀a (q:DP τ r),RpL P G (hp w) r q a→∃p:DP τ ts,RpL P G (hp w) ts p (cs++a)∧(rgL r q→rgL ts p))
  {cs:List Value}:∀(fs:List Field) (o:Nat) (ts r:List Ty) (o':Nat),mF P m fs o ts=some (r,o')→o'=cs.length→(∀f∈fs, ∃y,DataW.trod enc P w base spare held n f.type ((cs.drop f.offset).take (P.cellsOf f.type))=some y) →
   ∀a (q:DP τ r),RpL P G (hp w) r q a→∃p:DP τ ts,RpL P G (hp w) ts p (cs.drop o++a)∧(rgL r q→rgL ts p)
 | [],o,ts,r,o',e,j,_,a,q,b=>by
  unfold mF at e;cases e;rw [j,List.drop_length];exact ⟨q,b,id⟩
 | f :: fs,o,ts,r,o',e,j,s,a,q,b=>by
  unfold mF at e
  cases k:Nat.beq f.offset o with
  | false=>rw [k] at e; cases e
  | true =>
   rw [k] at e
   have d:f.offset=o:=by simpa using k
   replace e:(match m ts f.type with
    | some r=>mF P m fs (o+P.cellsOf f.type) r
    | none=>none)=some (r,o'):=e
   split at e
   ·rename_i A h1
    obtain ⟨p,c,i⟩:=mF_ok u fs _ _ _ _ e j (fun g i=>s g (List.mem_cons_of_mem _ i)) a q b;obtain ⟨y,v⟩:=s f (List.mem_cons_self ..);rw [d] at v;obtain ⟨z,h2,l⟩:=u _ _ _ h1 _ _ _ v _ p c;refine ⟨z,?_,fun h=>l (i h)⟩
    have:cs.drop o=(cs.drop o).take (P.cellsOf f.type)++cs.drop (o+P.cellsOf f.type):=by
     rw [← List.drop_drop,List.take_append_drop]
    rw [this,List.append_assoc];exact h2
   ·cases e
theorem zKs:∀(d:Nat) (ts:List Ty) (t:TypeId) (r:List Ty),mT P G d ts t=some r→∀fuel cs x,DataW.trod enc P w base spare held fuel t cs=some x→∀g (q:DP τ r),RpL P G (hp w) r q g→∃p:DP τ ts,RpL P G (hp w) ts p (cs++g)∧(rgL r q→rgL ts p)
 | 0,_,_,_,e,_,_,_,_,_,_,_=>by cases e
 | d + 1,ts,t,r,e,fuel,cs,x,h,g,q,k=>by
  unfold mT at e
  split at e
  ·rename_i fs c
   split at e
   ·rename_i z o h1
    cases j:Nat.beq o (P.cellsOf t) with
    | false=>rw [j] at e; cases e
    | true =>
     rw [j] at e;cases e;obtain ⟨xs,n,_,rfl,K,A,I⟩:=DataW.trod_struct c h
     have:=mF_ok (cs:=cs) (n:=n) (fun ts t r=>zKs d ts t r) fs 0 ts _ o h1 (by rw [K]; simpa using j) (fun f H=>by
      obtain ⟨i,hi,rfl⟩:=List.mem_iff_getElem.1 H;have B:=I i fs[i] (by simp [hi])
      have F:xs.length=fs.length:=by simpa using A
      rw [List.getElem?_eq_getElem (by omega)] at B
      exact ⟨_,B⟩) g q k
     simpa using this
   ·cases e
  ·rename_i c
   split at e
   ·rename_i z
    cases e;obtain ⟨s,rfl,_,_⟩:=DataW.trod_string c h;obtain ⟨⟨l⟩⟩:=s;exact ⟨.mk (t := .str) l q,zxO (t := .str) (x:=l) (.str l) k,zxP (t := .str) trivial⟩
   ·cases e
  ·rename_i c
   split at e
   ·rename_i z
    cases e;obtain ⟨b,rfl,_⟩:=DataW.trod_bool c h;exact ⟨.mk (t := .bool) b q,zxO (t := .bool) (x:=b) (.bool b) k,zxP (t := .bool) trivial⟩
   ·cases e
  ·rename_i c
   split at e
   ·rename_i z
    cases e;obtain ⟨n,rfl,_,E⟩:=DataW.trod_int c h;exact ⟨.mk (t := .int) n q,zxO (t := .int) (x:=n) (.int n) k,zxP (t := .int) (i64_of E)⟩
   ·cases e
  ·rename_i c
   split at e
   ·rename_i z
    cases e;obtain ⟨n,rfl,_,E⟩:=DataW.trod_int c h;obtain ⟨b,rfl⟩:=zQa E;exact ⟨.mk (t := .u8) b q,zxO (t := .u8) (x:=b) (.u8 b) k,zxP (t := .u8) trivial⟩
   ·cases e
  ·rename_i c
   split at e
   ·rename_i z
    cases e;obtain ⟨n,rfl,_,E⟩:=DataW.trod_int c h;obtain ⟨b,rfl⟩:=zP9 E;exact ⟨.mk (t := .u16) b q,zxO (t := .u16) (x:=b) (.u16 b) k,zxP (t := .u16) trivial⟩
   ·cases e
  ·rename_i J c
   split at e
   ·rename_i u z
    split at e
    ·rename_i h1
     cases j:(Nat.beq (P.cellsOf J) (ets G u).length&&Nat.blt 0 (ets G u).length) with
     | false=>rw [j] at e; cases e
     | true =>
      rw [j] at e;cases e;simp only [Bool.and_eq_true,Nat.beq_eq,Nat.blt_eq] at j
      have M:∃v,cs=[v]:=by
       rcases open_slice c h with ⟨y,_⟩|⟨a,len,cap,m,n,D,Pl,y,_⟩
       ·exact ⟨_,y⟩
       ·exact ⟨_,y⟩
      obtain ⟨v,rfl⟩:=M
      obtain ⟨xs,hxs⟩:=zQw (G:=G) (e:=u) c j.1 j.2 (fun fuel cs x L=>by
       obtain ⟨p,C,_⟩:=zKs d _ _ _ h1 fuel cs x L [] () .nil;rw [List.append_nil] at C
       exact ⟨ect G u p,by rw [zFw]; exact C⟩) h
      exact ⟨.mk (t := .sl u) xs q,zxO (t := .sl u) (x:=xs) hxs k,zxP (t := .sl u) trivial⟩
    ·cases e
   ·cases e
  ·cases e
theorem zOw {h:Fz}:∀{ts:List Ty} {p:DP τ ts} {vs:List Value},ts.all frz=true→RpL P G h ts p vs→TrL P G h w ts p vs []
 | [],_,_,_,h=>by cases h; exact .nil
 | t::ts,_,_,a,h=>by
  cases h with
  | cons _ _ _ v vs h1 h2 =>
   simp only [List.all_cons,Bool.and_eq_true] at a;exact .cons t ts _ v vs [] [] (.fz t _ v a.1 h1) (zOw a.2 h2) (fun b c=>by cases c)
def mX (P:Program) (G:Sig τ) (d:Nat) (ty:Ty) (t:TypeId):Bool:=match ty with
 | .st n=>(match P.underlying t with
  | some (.struct _)=>true
  | _=>false)&&(match mT P G d (G.fs n) t with
  | some []=>(G.fs n).all frz
  | _=>false)
 | .pr _ _=>false
 | ty=>frz ty&&(match P.underlying t with
  | some .string=>true
  | some .bool=>true
  | some (.int _)=>true
  | some (.slice _)=>true
  | _=>false)&&(match mT P G d [ty] t with
  | some []=>true
  | _=>false)
def mXs (P:Program) (G:Sig τ) (d:Nat):List Ty→List TypeId→Bool
 | [],[]=>true
 | ty::a,t::ts=>mX P G d ty t&&mXs P G d a ts
 | _,_=>false
theorem mX_ok {d:Nat} {ty:Ty} {t:TypeId} (e:mX P G d ty t=true) {r:Reach} {A:Nat} {v:Value} {D:DataW H} {ps:List MemPlace} (a:Value.okWide P w r A t v) (hd:DataW.Trod enc P w base spare held t v D ps) :
  ∃z:ty.den τ,TrX P G (hp w) w ty z v []∧rgX G ty z:=by
 obtain ⟨fuel,q⟩:=hd;unfold mX at e
 split at e
 ·rename_i n
  simp only [Bool.and_eq_true] at e;obtain ⟨f,j⟩:=e
  split at f
  ·rename_i fs c
   split at j
   ·rename_i h1
    simp only [Value.okWide,c] at a;obtain ⟨cs,rfl,_⟩:=a;obtain ⟨p,b,i⟩:=zKs d _ _ _ h1 fuel _ _ q [] () .nil;rw [List.append_nil] at b;obtain ⟨cs⟩:=cs;refine ⟨G.ctor n p,⟨cs,rfl,?_⟩,?_⟩
    ·rw [G.dc];exact zOw j b
    ·show rgL (G.fs n) (G.dtor n (G.ctor n p));rw [G.dc];exact i trivial
   ·cases j
  ·cases f
 ·cases e
 ·rename_i h1 h2
  simp only [Bool.and_eq_true] at e;obtain ⟨⟨f,o⟩,m⟩:=e
  split at m
  ·rename_i s
   obtain ⟨p,b,i⟩:=zKs d _ _ _ s fuel _ _ q [] () .nil;rw [List.append_nil] at b;refine ⟨DP.hd p,?_,?_⟩
   rotate_left
   ·have:=(i trivial).1
    cases ty with
    | st n=>exact absurd rfl (h1 n)
    | _=>exact this
   generalize k:v.cells.toList=cs at b
   cases b with
   | cons _ _ _ u us x y =>
    cases y
    have g:∀l,v ≠ .agg l:=by
     intro l h;subst h;unfold Value.okWide at a
     split at o
     ·rename_i c; simp [c,Cell.okWide,Cell.ok] at a
     ·rename_i c; simp [c,Cell.okWide,Cell.ok] at a
     ·rename_i c; simp [c,Cell.okWide,Cell.ok] at a
     ·rename_i c; simp [c,Cell.okWide,Cell.ok] at a
     ·cases o
    have B:v=u:=by
     cases v with
     | agg l=>exact (g l rfl).elim
     | _=>simpa [Value.cells] using k
    subst B;exact TrX.plain (.fz _ _ _ f x) h1
  ·cases m
theorem zOx {d:Nat}:∀{a:List Ty} {ts:List TypeId} {vs:List Value} {n:List (DataW H)} {ps:List MemPlace},mXs P G d a ts=true→(∀(j:Nat) t v,ts[j]? = some t→vs[j]? = some v→∃r l,Value.okWide P w r l t v)→DataW.TrodAll enc P w base spare held ts vs n ps →
  ∃p:DP τ a,TrXs P G (hp w) w a p vs []∧rgXs G a p
 | [],[],_,_,_,_,_,h=>by
  obtain ⟨rfl,_,_⟩:=trodAll_nil h;exact ⟨(),.nil,trivial⟩
 | ty::a,t::ts,_,_,_,e,m,h=>by
  simp only [mXs,Bool.and_eq_true] at e;obtain ⟨v,vs,u,n,p,q,rfl,rfl,rfl,h0,h1⟩:=trodAll_cons h;obtain ⟨r,l,i⟩:=m 0 t v rfl rfl;obtain ⟨z,o,c⟩:=mX_ok e.1 i h0;obtain ⟨k,g,f⟩:=zOx e.2 (fun j t v h1 h2=>m (j+1) t v (by simpa using h1) (by simpa using h2)) h1
  exact ⟨.mk z k,by
   have:=TrXs.cons (P:=P) (G:=G) (h:=hp w) (w:=w) ty a (.mk z k) v vs [] [] (by rw [DP.hd_mk]; exact o) (by rw [DP.tl_mk]; exact g) (fun b s=>by cases s)
   simpa using this,by rw [DP.hd_mk]; exact c,by rw [DP.tl_mk]; exact f⟩
 | [],_::_,_,_,_,e,_,_=>by simp [mXs] at e
 | _::_,[],_,_,_,e,_,_=>by simp [mXs] at e
theorem law_ok {f:FuncId} {ps:List Ty} {m:DP τ ps→Option Bool} {d:Nat} {ts:List TypeId} (hc:COk P G f ⟨ps,[.bool],1,[],m⟩) (s:∀p,rgXs G ps p→m p=some true) (n:mXs P G d ps ts=true) (i:zth P G (hp w)) (a:zFx P G)
  {r:Reach} {k:Nat} {args:Array Value} {z:List (DataW H)} {l:List MemPlace} (u:∀(j:Nat) t v,ts[j]? = some t→args[j]? = some v→Value.okWide P w r k t v) (h:DataW.TrodAll enc P w base spare held ts args.toList z l) :
  Calls P f args w fun e w'=>e = .returned (.bool true)∧Below w.heap.size w w':=by
 obtain ⟨p,c,x⟩:=zOx (G:=G) n (fun j t v h1 h2=>⟨r,k,u j t v h1 (by simpa using h2)⟩) h;have:=hc.2 (hp w) w p true args.toList [] i a (fun b o e=>e) c (fun b y=>by cases y) (s p x);rw [Array.toArray_toList] at this;refine Calls.mono this ?_;rintro e w' ⟨h',rs,fp',rfl,q,g,_⟩;obtain ⟨rfl,rfl⟩:=zrr g rfl;exact ⟨rfl,zrt q⟩
end
end Go.Rk
end
